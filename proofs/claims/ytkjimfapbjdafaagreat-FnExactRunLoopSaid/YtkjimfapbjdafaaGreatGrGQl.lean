/-
 How fractions are compared: of the program (products of 128 bits) and of the reference (continued remainders); the lesser and the greater one; spans.
 Conditions: the numbers are ints of the machine.
-/
import Derived.Shelf.Bits.Mul64
import Derived.Maps.AppendAt
import Derived.Test.YtkjimfapbjdafaaGreatGrOQt
import Derived.Test.YtkjimfapbjdafaaGreatGrXgQi
set_option maxHeartbeats 3000000
set_option maxRecDepth 100000
namespace Go.Proofs.YtkjimfapbjdafaaGreat
open Go.RowKit
theorem floorDiv_c (n d:Int) (w:World) (h1 : -9223372036854775807<=n) (h2:n<=9223372036854775807) (hd:0<d) (hd2:d<=9223372036854775807) :
 Calls Tryz.prog 225 #[.int .i64 n,.int .i64 d] w λ e w'=>e=.returned (.int .i64 (n / d))/\∃ k,w'=w.drewN k:=by
 have d0:((d:Int) == 0)=false:=by simp;omega
 have d1:((d:Int) != 0)=true:=by simp;omega
 have d2:((d:Int) == -1)=false:=by simp;omega
 by_cases hn:n<0
 ·have hf:=Lib.hid (floor_neg hn hd);obtain ⟨t1,t2⟩:=tdiv_bd hn hd;go_enter Tryz.func225,Tryz.ntmps225
  go_wp2
  all_goals
   go_ret
   refine ⟨Zo ?_,0,rfl⟩;rw [hf.out];first|rw [if_pos (by assumption)]|rw [if_neg (by omega)]
 ·have hf:=Lib.hid (floor_pos (n:=n) (d:=d) (by omega));have m0:=Int.emod_nonneg n (show d≠0 by omega);have q0:0<=n / d:=Int.ediv_nonneg (by omega) (by omega);have q1:=(floor_le (n:=n) hd 9223372036854775807 (by omega) (by omega) (by omega)).2;go_enter Tryz.func225,Tryz.ntmps225
  go_wp2
  go_ret
  exact ⟨rfl,0,rfl⟩
theorem ratioMax_in {r s:YA} (hr:r.In) (hs:s.In):(Yp r s).In:=by
 unfold Yp;split
 ·split<;>assumption
 ·exact ⟨⟨by decide,by decide⟩,⟨by decide,by decide⟩⟩
theorem YL {g:Nat} {L M:List Nat} (h:g ∉ L) (h2:g ∉ M):g ∉ L++M:=λ hm=>(List.mem_append.1 hm).elim h h2
theorem rok_bd {r:YA} (h:Xr r=true) : -9223372036854775807<=r.n/\r.n<=9223372036854775807/\0<r.d/\r.d<=9223372036854775807:=by
 obtain ⟨⟨a,b⟩,⟨c,d⟩,_⟩:=ZJ.1 h;exact ⟨by omega,by omega,by omega,by omega⟩
theorem div_bd {n d:Int} (h1 : -9223372036854775807<=n) (h2:n<=9223372036854775807) (hd:0<d) : -9223372036854775807<=n / d/\n / d<=9223372036854775807:=floor_le hd 9223372036854775807 (by omega) (by omega) (by omega)
section
variable {v:ZP} {wish:Int} (h:Yg v=true)
include h
end
theorem wp_rem {P:Program} {o:Oper} {a:Act} {w:World} {N:Act->World->Prop} {Q:Exit->Act->World->Prop} {T T':TypeId} {x y:Operand} {m n:Int} (h:o.op=.binOp .rem T x y T') (ex:a.eval x=.int .i64 m) (ey:a.eval y=.int .i64 n) (h0:n≠0) (_ : -9223372036854775808<=m.tmod n/\m.tmod n<=9223372036854775807) (hn:N (a.put o.dst (.int .i64 (m.tmod n))) w):o.wp P a w N Q:=by
 refine Ye (v:=.int .i64 (m.tmod n)) h ex ey rfl ?_ hn;show Op.intDiv .rem .i64 m n=_;simp [Op.intDiv,h0]
theorem ceilDiv_c (n d:Int) (w:World) (h1 : -9223372036854775807<=n) (h2:n<=9223372036854775807) (hd:0<d) (hd2:d<=9223372036854775807) :
 Calls Tryz.prog 226 #[.int .i64 n,.int .i64 d] w λ x w'=>x=.returned (.int .i64 (-(-n / d)))/\Below w.heap.size w w':=by
 have hdv:=div_bd (n:=-n) (d:=d) (by omega) (by omega) hd;refine YF Tryz.func226 rfl (n:=10) Tryz.ntmps226 (by simp) ?_;intro a0 F A ha;have s0:a0.tmps[0]?.getD undef=.int .i64 n:=ha 0 _ rfl;have s1:a0.tmps[1]?.getD undef=.int .i64 d:=ha 1 _ rfl;clear ha;have M:=Below.refl w.heap.size w;have O:=Nat.le_refl w.heap.size;refine wp_seq ?_;refine Xe (by kernel_rfl) [4] [some (.int .i64 0)] (XR 1) [4] [0] [] (λ _ _ _=>True) (by kernel_rfl) (by rw [F];decide) ?_ (en rfl ?_ .nil) ?_
 ·exact λ _ _=>trivial
 ·exact Kh rfl rfl
 intro L a1 w2 R B D J S;replace F:=B.Z F;replace A:=B.E A;replace s0:=B.G s0;replace s1:=B.G s1;replace O:=Nat.le_trans O D.size;replace M:=D.below0 M;clear B D J R S;refine Xg (wp_seq ?_);refine Xe (by kernel_rfl) [5,6,7,8,9,4] [some (.int .i64 n),some (.int .i64 (-n)),some (.int .i64 d),some (.int .i64 ((-n) / d)),some (.int .i64 (-((-n) / d))),some (.int .i64 (-((-n) / d)))] (XR 6) [5,6,7,8,9,4] [0,1,2,3,4,5] [] (λ _ _ _=>True) (by kernel_rfl) (by rw [F];decide) ?_ (en rfl ?_ (en rfl ?_ (en rfl ?_ (en rfl ?_ (en rfl ?_ (en rfl ?_ .nil)))))) ?_
 ·exact λ _ _=>trivial
 ·exact YJ s0 rfl rfl rfl
 ·exact λ P I K H _ _ C=>JY rfl (ev (H.d 0 rfl rfl)) (by omega) (C _ _ H.k rfl trivial)
 ·exact YJ s1 rfl rfl rfl
 ·intro P I K H _ _ C;simp [go_sem,(gS I 6 (H.d 1 rfl rfl)),(gS I 7 (H.d 2 rfl rfl))];refine (floorDiv_c (-n) d K (by omega) (by omega) hd hd2).mono ?_;rintro x wx ⟨rfl,n,rfl⟩;have hb:Below K.heap.size K (K.drewN n):=Zn bR n;exact (C _ _ (H.k.call hb) rfl trivial)
 ·exact λ P I K H _ _ C=>JY rfl (ev (H.d 3 rfl rfl)) (by omega) (C _ _ H.k rfl trivial)
 ·exact Kb 4 rfl rfl rfl rfl
 intro L a3 w4 R B D J S;replace F:=B.Z F;replace A:=B.E A;have s4:=gS a3 4 (J 5 _ rfl);replace O:=Nat.le_trans O D.size;replace M:=D.below0 M;clear B D J R S s0 s1;refine Xg (wp_ret ?_);refine bodyPost_ret (v:=.int .i64 (-((-n) / d))) (by simp [results,Tryz.results226,go_sem,s4]) A ?_;exact ⟨rfl,M⟩
theorem iRatFloor_c (r:YA) (w:World) (hr:r.In) :
 Calls Tryz.prog 170 #[X7 r] w λ x w'=>x=.returned (.int .i64 (Yd r))/\Below w.heap.size w w':=by
 refine YF Tryz.func170 rfl (n:=11) Tryz.ntmps170 (by simp) ?_;intro a0 F A ha;have s0:a0.tmps[0]?.getD undef=X7 r:=ha 0 _ rfl;clear ha;have M:=Below.refl w.heap.size w;have O:=Nat.le_refl w.heap.size;refine wp_seq ?_;refine Ys [1,2] [.pointer (some ⟨w.heap.size,0,none⟩),.int .i64 0] [some (.cells [.int .i64 r.n,.int .i64 r.d].toArray 70),none] [0,1] [1,2] [0,1] (by kernel_rfl) (by rw [F];decide) (ec ?_ (ec ?_ .nil)) ?_
 ·intro a w' B hs N Q C;simp [go_sem,B.g rfl s0];rw [hs];exact C
 ·intro a w' B hs N Q C;simp [go_sem];exact C
 intro a1 w2 B J hb hO;replace F:=B.size.trans F;replace A:=B.defers.trans A;have s1:a1.tmps[1]?.getD undef=.pointer (some ⟨w.heap.size,0,none⟩):=J 0 (by decide);have b3:Xy w2 w.heap.size 70 [.int .i64 r.n,.int .i64 r.d]:=hO 0 _ rfl;have hG:=b3.lt;replace M:=Xn M hb;have zw2:=Nat.le_trans O hb.size;replace O:=Nat.le_refl w2.heap.size;clear B J hb hO s0;refine Xg (wp_seq (wp_seq ?_));refine Xe (by kernel_rfl) [3,4,5] [some (X7 r),some (.bool (Xr r)),some (.bool (!(Xr r)))] (XR 3) [3,4,5] [0,1,2] [] (λ _ _ _=>True) (by kernel_rfl) (by rw [F];decide) ?_ (en rfl ?_ (en rfl ?_ (en rfl ?_ .nil))) ?_
 ·exact λ _ _=>trivial
 ·intro P I K H _ _ C;simp [go_sem,H.f.g rfl s1,(b3.k0 H.k).cell];exact (C _ _ H.k rfl trivial)
 ·intro P I K H _ _ C;simp [go_sem,(gS I 3 (H.d 0 rfl rfl))];refine (KT r K hr).mono ?_;rintro x wx ⟨rfl,hb⟩;exact (C _ _ (H.k.call hb) rfl trivial)
 ·exact Z4 1 rfl rfl rfl rfl
 intro L a4 w5 R B D J S;replace F:=B.Z F;replace A:=B.E A;replace s1:=B.G s1;have s5:=gS a4 5 (J 2 _ rfl);replace b3:=b3.k0 D;replace O:=Nat.le_trans O D.size;replace M:=D.below0 M;clear B D J R S;refine Xg ?_;rcases Bool.eq_false_or_eq_true (!(Xr r)) with q6|q6
 ·refine wp_cond_true (ev (vb s5 q6)) ?_;refine wp_seq ?_;refine Xe (by kernel_rfl) [2] [some (.int .i64 0)] (XR 1) [2] [0] [] (λ _ _ _=>True) (by kernel_rfl) (by rw [F];decide) ?_ (en rfl ?_ .nil) ?_
  ·exact λ _ _=>trivial
  ·exact Kh rfl rfl
  intro L a7 w8 R B D J S;replace F:=B.Z F;replace A:=B.E A;have s2:=gS a7 2 (J 0 _ rfl);replace O:=Nat.le_trans O D.size;replace M:=D.below0 M;clear B D J R S s1 s5 b3;refine Xg (wp_ret (Yz ?_));refine bodyPost_ret (v:=.int .i64 0) (by simp [results,Tryz.results170,go_sem,s2]) A ?_;exact ⟨by rw [show Yd r=0 by unfold Yd;rw [Kv q6,if_neg (by simp)]],M⟩
 ·obtain ⟨k1,k2,k3,k4⟩:=rok_bd (Yn q6);refine wp_cond_false (ev (vb s5 q6)) ?_;refine wp_skip (Xg (wp_seq ?_));refine Xe (by kernel_rfl) [6,7,8,9,10,2] [some (.pointer (some ⟨w.heap.size,0,none⟩)),some (.int .i64 r.n),some (.pointer (some ⟨w.heap.size,1,none⟩)),some (.int .i64 r.d),some (.int .i64 (r.n / r.d)),some (.int .i64 (r.n / r.d))] (XR 6) [6,7,8,9,10,2] [0,1,2,3,4,5] [] (λ _ _ _=>True) (by kernel_rfl) (by rw [F];decide) ?_ (en rfl ?_ (en rfl ?_ (en rfl ?_ (en rfl ?_ (en rfl ?_ (en rfl ?_ .nil)))))) ?_
  ·exact λ _ _=>trivial
  ·intro P I K H _ _ C;simp [go_sem,H.f.g rfl s1];exact (C _ _ H.k rfl trivial)
  ·intro P I K H _ _ C;simp [go_sem,(gS I 6 (H.d 0 rfl rfl)),(b3.k0 H.k).cell];exact (C _ _ H.k rfl trivial)
  ·intro P I K H _ _ C;simp [go_sem,H.f.g rfl s1];exact (C _ _ H.k rfl trivial)
  ·intro P I K H _ _ C;simp [go_sem,(gS I 8 (H.d 2 rfl rfl)),(b3.k0 H.k).cell];exact (C _ _ H.k rfl trivial)
  ·intro P I K H _ _ C;simp [go_sem,(gS I 7 (H.d 1 rfl rfl)),(gS I 9 (H.d 3 rfl rfl))];refine (floorDiv_c r.n r.d K k1 k2 k3 k4).mono ?_;rintro x wx ⟨rfl,n,rfl⟩;have hb:Below K.heap.size K (K.drewN n):=Zn bR n;exact (C _ _ (H.k.call hb) rfl trivial)
  ·exact Kb 4 rfl rfl rfl rfl
  intro L a9 w10 R B D J S;replace F:=B.Z F;replace A:=B.E A;have s2:=gS a9 2 (J 5 _ rfl);replace O:=Nat.le_trans O D.size;replace M:=D.below0 M;clear B D J R S s1 s5 b3;refine Xg (wp_ret ?_);refine bodyPost_ret (v:=.int .i64 (r.n / r.d)) (by simp [results,Tryz.results170,go_sem,s2]) A ?_;exact ⟨by rw [show Yd r=r.n / r.d by unfold Yd;rw [Yn q6,if_pos (by simp)]],M⟩
theorem iRatCeil_c (r:YA) (w:World) (hr:r.In) :
 Calls Tryz.prog 171 #[X7 r] w λ x w'=>x=.returned (.int .i64 (Ym r))/\Below w.heap.size w w':=by
 refine YF Tryz.func171 rfl (n:=11) Tryz.ntmps171 (by simp) ?_;intro a0 F A ha;have s0:a0.tmps[0]?.getD undef=X7 r:=ha 0 _ rfl;clear ha;have M:=Below.refl w.heap.size w;have O:=Nat.le_refl w.heap.size;refine wp_seq ?_;refine Ys [1,2] [.pointer (some ⟨w.heap.size,0,none⟩),.int .i64 0] [some (.cells [.int .i64 r.n,.int .i64 r.d].toArray 70),none] [0,1] [1,2] [0,1] (by kernel_rfl) (by rw [F];decide) (ec ?_ (ec ?_ .nil)) ?_
 ·intro a w' B hs N Q C;simp [go_sem,B.g rfl s0];rw [hs];exact C
 ·intro a w' B hs N Q C;simp [go_sem];exact C
 intro a1 w2 B J hb hO;replace F:=B.size.trans F;replace A:=B.defers.trans A;have s1:a1.tmps[1]?.getD undef=.pointer (some ⟨w.heap.size,0,none⟩):=J 0 (by decide);have b3:Xy w2 w.heap.size 70 [.int .i64 r.n,.int .i64 r.d]:=hO 0 _ rfl;have hG:=b3.lt;replace M:=Xn M hb;have zw2:=Nat.le_trans O hb.size;replace O:=Nat.le_refl w2.heap.size;clear B J hb hO s0;refine Xg (wp_seq (wp_seq ?_));refine Xe (by kernel_rfl) [3,4,5] [some (X7 r),some (.bool (Xr r)),some (.bool (!(Xr r)))] (XR 3) [3,4,5] [0,1,2] [] (λ _ _ _=>True) (by kernel_rfl) (by rw [F];decide) ?_ (en rfl ?_ (en rfl ?_ (en rfl ?_ .nil))) ?_
 ·exact λ _ _=>trivial
 ·intro P I K H _ _ C;simp [go_sem,H.f.g rfl s1,(b3.k0 H.k).cell];exact (C _ _ H.k rfl trivial)
 ·intro P I K H _ _ C;simp [go_sem,(gS I 3 (H.d 0 rfl rfl))];refine (KT r K hr).mono ?_;rintro x wx ⟨rfl,hb⟩;exact (C _ _ (H.k.call hb) rfl trivial)
 ·exact Z4 1 rfl rfl rfl rfl
 intro L a4 w5 R B D J S;replace F:=B.Z F;replace A:=B.E A;replace s1:=B.G s1;have s5:=gS a4 5 (J 2 _ rfl);replace b3:=b3.k0 D;replace O:=Nat.le_trans O D.size;replace M:=D.below0 M;clear B D J R S;refine Xg ?_;rcases Bool.eq_false_or_eq_true (!(Xr r)) with q6|q6
 ·refine wp_cond_true (ev (vb s5 q6)) ?_;refine wp_seq ?_;refine Xe (by kernel_rfl) [2] [some (.int .i64 0)] (XR 1) [2] [0] [] (λ _ _ _=>True) (by kernel_rfl) (by rw [F];decide) ?_ (en rfl ?_ .nil) ?_
  ·exact λ _ _=>trivial
  ·exact Kh rfl rfl
  intro L a7 w8 R B D J S;replace F:=B.Z F;replace A:=B.E A;have s2:=gS a7 2 (J 0 _ rfl);replace O:=Nat.le_trans O D.size;replace M:=D.below0 M;clear B D J R S s1 s5 b3;refine Xg (wp_ret (Yz ?_));refine bodyPost_ret (v:=.int .i64 0) (by simp [results,Tryz.results171,go_sem,s2]) A ?_;exact ⟨by rw [show Ym r=0 by unfold Ym;rw [Kv q6,if_neg (by simp)]],M⟩
 ·obtain ⟨k1,k2,k3,k4⟩:=rok_bd (Yn q6);have hdv:=div_bd (n:=-r.n) (d:=r.d) (by omega) (by omega) k3;refine wp_cond_false (ev (vb s5 q6)) ?_;refine wp_skip (Xg (wp_seq ?_));refine Xe (by kernel_rfl) [6,7,8,9,10,2] [some (.pointer (some ⟨w.heap.size,0,none⟩)),some (.int .i64 r.n),some (.pointer (some ⟨w.heap.size,1,none⟩)),some (.int .i64 r.d),some (.int .i64 (-(-r.n / r.d))),some (.int .i64 (-(-r.n / r.d)))] (XR 6) [6,7,8,9,10,2] [0,1,2,3,4,5] [] (λ _ _ _=>True) (by kernel_rfl) (by rw [F];decide) ?_ (en rfl ?_ (en rfl ?_ (en rfl ?_ (en rfl ?_ (en rfl ?_ (en rfl ?_ .nil)))))) ?_
  ·exact λ _ _=>trivial
  ·intro P I K H _ _ C;simp [go_sem,H.f.g rfl s1];exact (C _ _ H.k rfl trivial)
  ·intro P I K H _ _ C;simp [go_sem,(gS I 6 (H.d 0 rfl rfl)),(b3.k0 H.k).cell];exact (C _ _ H.k rfl trivial)
  ·intro P I K H _ _ C;simp [go_sem,H.f.g rfl s1];exact (C _ _ H.k rfl trivial)
  ·intro P I K H _ _ C;simp [go_sem,(gS I 8 (H.d 2 rfl rfl)),(b3.k0 H.k).cell];exact (C _ _ H.k rfl trivial)
  ·intro P I K H _ _ C;simp [go_sem,(gS I 7 (H.d 1 rfl rfl)),(gS I 9 (H.d 3 rfl rfl))];refine (ceilDiv_c r.n r.d K k1 k2 k3 k4).mono ?_;rintro x wx ⟨rfl,hb⟩;exact (C _ _ (H.k.call hb) rfl trivial)
  ·exact Kb 4 rfl rfl rfl rfl
  intro L a9 w10 R B D J S;replace F:=B.Z F;replace A:=B.E A;have s2:=gS a9 2 (J 5 _ rfl);replace O:=Nat.le_trans O D.size;replace M:=D.below0 M;clear B D J R S s1 s5 b3;refine Xg (wp_ret ?_);refine bodyPost_ret (v:=.int .i64 (-(-r.n / r.d))) (by simp [results,Tryz.results171,go_sem,s2]) A ?_;exact ⟨by rw [show Ym r = -(-r.n / r.d) by unfold Ym;rw [Yn q6,if_pos (by simp)]],M⟩
theorem sRatFloor_c (r:YA) (w:World) (hr:r.In) :
 Calls Tryz.prog 166 #[X7 r] w λ x w'=>x=.returned (.int .i64 (Yd r))/\Below w.heap.size w w':=by
 refine YF Tryz.func166 rfl (n:=11) Tryz.ntmps166 (by simp) ?_;intro a0 F A ha;have s0:a0.tmps[0]?.getD undef=X7 r:=ha 0 _ rfl;clear ha;have M:=Below.refl w.heap.size w;have O:=Nat.le_refl w.heap.size;refine wp_seq ?_;refine Ys [1,2] [.pointer (some ⟨w.heap.size,0,none⟩),.int .i64 0] [some (.cells [.int .i64 r.n,.int .i64 r.d].toArray 70),none] [0,1] [1,2] [0,1] (by kernel_rfl) (by rw [F];decide) (ec ?_ (ec ?_ .nil)) ?_
 ·intro a w' B hs N Q C;simp [go_sem,B.g rfl s0];rw [hs];exact C
 ·intro a w' B hs N Q C;simp [go_sem];exact C
 intro a1 w2 B J hb hO;replace F:=B.size.trans F;replace A:=B.defers.trans A;have s1:a1.tmps[1]?.getD undef=.pointer (some ⟨w.heap.size,0,none⟩):=J 0 (by decide);have b3:Xy w2 w.heap.size 70 [.int .i64 r.n,.int .i64 r.d]:=hO 0 _ rfl;have hG:=b3.lt;replace M:=Xn M hb;have zw2:=Nat.le_trans O hb.size;replace O:=Nat.le_refl w2.heap.size;clear B J hb hO s0;refine Xg (wp_seq (wp_seq ?_));refine Xe (by kernel_rfl) [3,4,5] [some (X7 r),some (.bool (Xr r)),some (.bool (!(Xr r)))] (XR 3) [3,4,5] [0,1,2] [] (λ _ _ _=>True) (by kernel_rfl) (by rw [F];decide) ?_ (en rfl ?_ (en rfl ?_ (en rfl ?_ .nil))) ?_
 ·exact λ _ _=>trivial
 ·intro P I K H _ _ C;simp [go_sem,H.f.g rfl s1,(b3.k0 H.k).cell];exact (C _ _ H.k rfl trivial)
 ·intro P I K H _ _ C;simp [go_sem,(gS I 3 (H.d 0 rfl rfl))];refine (Z6 r K hr).mono ?_;rintro x wx ⟨rfl,hb⟩;exact (C _ _ (H.k.call hb) rfl trivial)
 ·exact Z4 1 rfl rfl rfl rfl
 intro L a4 w5 R B D J S;replace F:=B.Z F;replace A:=B.E A;replace s1:=B.G s1;have s5:=gS a4 5 (J 2 _ rfl);replace b3:=b3.k0 D;replace O:=Nat.le_trans O D.size;replace M:=D.below0 M;clear B D J R S;refine Xg ?_;rcases Bool.eq_false_or_eq_true (!(Xr r)) with q6|q6
 ·refine wp_cond_true (ev (vb s5 q6)) ?_;refine wp_seq ?_;refine Xe (by kernel_rfl) [2] [some (.int .i64 0)] (XR 1) [2] [0] [] (λ _ _ _=>True) (by kernel_rfl) (by rw [F];decide) ?_ (en rfl ?_ .nil) ?_
  ·exact λ _ _=>trivial
  ·exact Kh rfl rfl
  intro L a7 w8 R B D J S;replace F:=B.Z F;replace A:=B.E A;have s2:=gS a7 2 (J 0 _ rfl);replace O:=Nat.le_trans O D.size;replace M:=D.below0 M;clear B D J R S s1 s5 b3;refine Xg (wp_ret (Yz ?_));refine bodyPost_ret (v:=.int .i64 0) (by simp [results,Tryz.results166,go_sem,s2]) A ?_;exact ⟨by rw [show Yd r=0 by unfold Yd;rw [Kv q6,if_neg (by simp)]],M⟩
 ·obtain ⟨k1,k2,k3,k4⟩:=rok_bd (Yn q6);refine wp_cond_false (ev (vb s5 q6)) ?_;refine wp_skip (Xg (wp_seq ?_));refine Xe (by kernel_rfl) [6,7,8,9,10,2] [some (.pointer (some ⟨w.heap.size,0,none⟩)),some (.int .i64 r.n),some (.pointer (some ⟨w.heap.size,1,none⟩)),some (.int .i64 r.d),some (.int .i64 (r.n / r.d)),some (.int .i64 (r.n / r.d))] (XR 6) [6,7,8,9,10,2] [0,1,2,3,4,5] [] (λ _ _ _=>True) (by kernel_rfl) (by rw [F];decide) ?_ (en rfl ?_ (en rfl ?_ (en rfl ?_ (en rfl ?_ (en rfl ?_ (en rfl ?_ .nil)))))) ?_
  ·exact λ _ _=>trivial
  ·intro P I K H _ _ C;simp [go_sem,H.f.g rfl s1];exact (C _ _ H.k rfl trivial)
  ·intro P I K H _ _ C;simp [go_sem,(gS I 6 (H.d 0 rfl rfl)),(b3.k0 H.k).cell];exact (C _ _ H.k rfl trivial)
  ·intro P I K H _ _ C;simp [go_sem,H.f.g rfl s1];exact (C _ _ H.k rfl trivial)
  ·intro P I K H _ _ C;simp [go_sem,(gS I 8 (H.d 2 rfl rfl)),(b3.k0 H.k).cell];exact (C _ _ H.k rfl trivial)
  ·intro P I K H _ _ C;simp [go_sem,(gS I 7 (H.d 1 rfl rfl)),(gS I 9 (H.d 3 rfl rfl))];refine (l02Floor_c r.n r.d K k1 k2 k3 k4).mono ?_;rintro x wx ⟨rfl,n,rfl⟩;have hb:Below K.heap.size K (K.drewN n):=Zn bR n;exact (C _ _ (H.k.call hb) rfl trivial)
  ·exact Kb 4 rfl rfl rfl rfl
  intro L a9 w10 R B D J S;replace F:=B.Z F;replace A:=B.E A;have s2:=gS a9 2 (J 5 _ rfl);replace O:=Nat.le_trans O D.size;replace M:=D.below0 M;clear B D J R S s1 s5 b3;refine Xg (wp_ret ?_);refine bodyPost_ret (v:=.int .i64 (r.n / r.d)) (by simp [results,Tryz.results166,go_sem,s2]) A ?_;exact ⟨by rw [show Yd r=r.n / r.d by unfold Yd;rw [Yn q6,if_pos (by simp)]],M⟩
theorem sRatCeil_c (r:YA) (w:World) (hr:r.In) :
 Calls Tryz.prog 167 #[X7 r] w λ x w'=>x=.returned (.int .i64 (Ym r))/\Below w.heap.size w w':=by
 refine YF Tryz.func167 rfl (n:=13) Tryz.ntmps167 (by simp) ?_;intro a0 F A ha;have s0:a0.tmps[0]?.getD undef=X7 r:=ha 0 _ rfl;clear ha;have M:=Below.refl w.heap.size w;have O:=Nat.le_refl w.heap.size;refine wp_seq ?_;refine Ys [1,2] [.pointer (some ⟨w.heap.size,0,none⟩),.int .i64 0] [some (.cells [.int .i64 r.n,.int .i64 r.d].toArray 70),none] [0,1] [1,2] [0,1] (by kernel_rfl) (by rw [F];decide) (ec ?_ (ec ?_ .nil)) ?_
 ·intro a w' B hs N Q C;simp [go_sem,B.g rfl s0];rw [hs];exact C
 ·intro a w' B hs N Q C;simp [go_sem];exact C
 intro a1 w2 B J hb hO;replace F:=B.size.trans F;replace A:=B.defers.trans A;have s1:a1.tmps[1]?.getD undef=.pointer (some ⟨w.heap.size,0,none⟩):=J 0 (by decide);have b3:Xy w2 w.heap.size 70 [.int .i64 r.n,.int .i64 r.d]:=hO 0 _ rfl;have hG:=b3.lt;replace M:=Xn M hb;have zw2:=Nat.le_trans O hb.size;replace O:=Nat.le_refl w2.heap.size;clear B J hb hO s0;refine Xg (wp_seq (wp_seq ?_));refine Xe (by kernel_rfl) [3,4,5] [some (X7 r),some (.bool (Xr r)),some (.bool (!(Xr r)))] (XR 3) [3,4,5] [0,1,2] [] (λ _ _ _=>True) (by kernel_rfl) (by rw [F];decide) ?_ (en rfl ?_ (en rfl ?_ (en rfl ?_ .nil))) ?_
 ·exact λ _ _=>trivial
 ·intro P I K H _ _ C;simp [go_sem,H.f.g rfl s1,(b3.k0 H.k).cell];exact (C _ _ H.k rfl trivial)
 ·intro P I K H _ _ C;simp [go_sem,(gS I 3 (H.d 0 rfl rfl))];refine (Z6 r K hr).mono ?_;rintro x wx ⟨rfl,hb⟩;exact (C _ _ (H.k.call hb) rfl trivial)
 ·exact Z4 1 rfl rfl rfl rfl
 intro L a4 w5 R B D J S;replace F:=B.Z F;replace A:=B.E A;replace s1:=B.G s1;have s5:=gS a4 5 (J 2 _ rfl);replace b3:=b3.k0 D;replace O:=Nat.le_trans O D.size;replace M:=D.below0 M;clear B D J R S;refine Xg ?_;rcases Bool.eq_false_or_eq_true (!(Xr r)) with q6|q6
 ·refine wp_cond_true (ev (vb s5 q6)) ?_;refine wp_seq ?_;refine Xe (by kernel_rfl) [2] [some (.int .i64 0)] (XR 1) [2] [0] [] (λ _ _ _=>True) (by kernel_rfl) (by rw [F];decide) ?_ (en rfl ?_ .nil) ?_
  ·exact λ _ _=>trivial
  ·exact Kh rfl rfl
  intro L a7 w8 R B D J S;replace F:=B.Z F;replace A:=B.E A;have s2:=gS a7 2 (J 0 _ rfl);replace O:=Nat.le_trans O D.size;replace M:=D.below0 M;clear B D J R S s1 s5 b3;refine Xg (wp_ret (Yz ?_));refine bodyPost_ret (v:=.int .i64 0) (by simp [results,Tryz.results167,go_sem,s2]) A ?_;exact ⟨by rw [show Ym r=0 by unfold Ym;rw [Kv q6,if_neg (by simp)]],M⟩
 ·obtain ⟨k1,k2,k3,k4⟩:=rok_bd (Yn q6);have hdv:=div_bd (n:=-r.n) (d:=r.d) (by omega) (by omega) k3;refine wp_cond_false (ev (vb s5 q6)) ?_;refine wp_skip (Xg (wp_seq ?_));refine Xe (by kernel_rfl) [6,7,8,9,10,11,12,2] [some (.pointer (some ⟨w.heap.size,0,none⟩)),some (.int .i64 r.n),some (.int .i64 (-r.n)),some (.pointer (some ⟨w.heap.size,1,none⟩)),some (.int .i64 r.d),some (.int .i64 ((-r.n) / r.d)),some (.int .i64 (-((-r.n) / r.d))),some (.int .i64 (-((-r.n) / r.d)))] (XR 8) [6,7,8,9,10,11,12,2] [0,1,2,3,4,5,6,7] [] (λ _ _ _=>True) (by kernel_rfl) (by rw [F];decide) ?_ (en rfl ?_ (en rfl ?_ (en rfl ?_ (en rfl ?_ (en rfl ?_ (en rfl ?_ (en rfl ?_ (en rfl ?_ .nil)))))))) ?_
  ·exact λ _ _=>trivial
  ·intro P I K H _ _ C;simp [go_sem,H.f.g rfl s1];exact (C _ _ H.k rfl trivial)
  ·intro P I K H _ _ C;simp [go_sem,(gS I 6 (H.d 0 rfl rfl)),(b3.k0 H.k).cell];exact (C _ _ H.k rfl trivial)
  ·exact λ P I K H _ _ C=>JY rfl (ev (H.d 1 rfl rfl)) (by omega) (C _ _ H.k rfl trivial)
  ·intro P I K H _ _ C;simp [go_sem,H.f.g rfl s1];exact (C _ _ H.k rfl trivial)
  ·intro P I K H _ _ C;simp [go_sem,(gS I 9 (H.d 3 rfl rfl)),(b3.k0 H.k).cell];exact (C _ _ H.k rfl trivial)
  ·intro P I K H _ _ C;simp [go_sem,(gS I 8 (H.d 2 rfl rfl)),(gS I 10 (H.d 4 rfl rfl))];refine (l02Floor_c (-r.n) r.d K (by omega) (by omega) k3 k4).mono ?_;rintro x wx ⟨rfl,n,rfl⟩;have hb:Below K.heap.size K (K.drewN n):=Zn bR n;exact (C _ _ (H.k.call hb) rfl trivial)
  ·exact λ P I K H _ _ C=>JY rfl (ev (H.d 5 rfl rfl)) (by omega) (C _ _ H.k rfl trivial)
  ·exact Kb 6 rfl rfl rfl rfl
  intro L a9 w10 R B D J S;replace F:=B.Z F;replace A:=B.E A;have s2:=gS a9 2 (J 7 _ rfl);replace O:=Nat.le_trans O D.size;replace M:=D.below0 M;clear B D J R S s1 s5 b3;refine Xg (wp_ret ?_);refine bodyPost_ret (v:=.int .i64 (-((-r.n) / r.d))) (by simp [results,Tryz.results167,go_sem,s2]) A ?_;exact ⟨by rw [show Ym r = -((-r.n) / r.d) by unfold Ym;rw [Yn q6,if_pos (by simp)]],M⟩
theorem sClamp_c (n lo hi:Int) (w:World) :
 Calls Tryz.prog 196 #[.int .i64 n,.int .i64 lo,.int .i64 hi] w λ x w'=>x=.returned (.int .i64 (max lo (min n hi)))/\Below w.heap.size w w':=by
 refine YF Tryz.func196 rfl (n:=12) Tryz.ntmps196 (by simp) ?_;intro a0 F A ha;have s0:a0.tmps[0]?.getD undef=.int .i64 n:=ha 0 _ rfl;have s1:a0.tmps[1]?.getD undef=.int .i64 lo:=ha 1 _ rfl;have s2:a0.tmps[2]?.getD undef=.int .i64 hi:=ha 2 _ rfl;clear ha;have M:=Below.refl w.heap.size w;have O:=Nat.le_refl w.heap.size;refine wp_seq ?_;refine Xe (by kernel_rfl) [6] [some (.int .i64 0)] (XR 1) [6] [0] [] (λ _ _ _=>True) (by kernel_rfl) (by rw [F];decide) ?_ (en rfl ?_ .nil) ?_
 ·exact λ _ _=>trivial
 ·exact Kh rfl rfl
 intro L a1 w2 R B D J S;replace F:=B.Z F;replace A:=B.E A;replace s0:=B.G s0;replace s1:=B.G s1;replace s2:=B.G s2;replace O:=Nat.le_trans O D.size;replace M:=D.below0 M;clear B D J R S;refine Xg (wp_seq ?_);refine Xe (by kernel_rfl) [7,8,9,10,11,6] [some (.int .i64 lo),some (.int .i64 n),some (.int .i64 hi),some (.int .i64 (min n hi)),some (.int .i64 (max lo (min n hi))),some (.int .i64 (max lo (min n hi)))] (XR 6) [7,8,9,10,11,6] [0,1,2,3,4,5] [] (λ _ _ _=>True) (by kernel_rfl) (by rw [F];decide) ?_ (en rfl ?_ (en rfl ?_ (en rfl ?_ (en rfl ?_ (en rfl ?_ (en rfl ?_ .nil)))))) ?_
 ·exact λ _ _=>trivial
 ·exact YJ s1 rfl rfl rfl
 ·exact YJ s0 rfl rfl rfl
 ·exact YJ s2 rfl rfl rfl
 ·intro P I K H _ _ C;simp [go_sem,(gS I 8 (H.d 1 rfl rfl)),(gS I 9 (H.d 2 rfl rfl))];exact (C _ _ H.k rfl trivial)
 ·intro P I K H _ _ C;simp [go_sem,(gS I 7 (H.d 0 rfl rfl)),(gS I 10 (H.d 3 rfl rfl))];exact (C _ _ H.k rfl trivial)
 ·exact Kb 4 rfl rfl rfl rfl
 intro L a3 w4 R B D J S;replace F:=B.Z F;replace A:=B.E A;have s6:=gS a3 6 (J 5 _ rfl);replace O:=Nat.le_trans O D.size;replace M:=D.below0 M;clear B D J R S s0 s1 s2;refine Xg (wp_ret ?_);refine bodyPost_ret (v:=.int .i64 (max lo (min n hi))) (by simp [results,Tryz.results196,go_sem,s6]) A ?_;exact ⟨rfl,M⟩
end Go.Proofs.YtkjimfapbjdafaaGreat
