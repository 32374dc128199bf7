/-
 The region from which an input leads into a region, whether a region is kept, whether a watch is valid: of the reference.
 Conditions: the slices hold at most 2^20 elements.
-/
import Derived.Test.YtkjimfapbjdafaaGreatGrXbQd
import Derived.Test.YtkjimfapbjdafaaGreatWatSQc
namespace Go.Proofs.YtkjimfapbjdafaaGreat
open Go.RowKit
theorem watch_no {r:X3} {p:List Half} {l:List Int} (h:(decide (p.length=0) || !(Kx r p)||decide ((l.length:Int) > 40))=true):JZ r p l=false:=by
 unfold JZ;rcases Bool.eq_false_or_eq_true (decide (p.length=0)) with h1|h1
 ·rw [h1];simp
 ·rcases Bool.eq_false_or_eq_true (Kx r p) with h2|h2
  ·rw [h1,h2] at h;have:decide ((l.length:Int) > 40)=true:=by simpa using h
   rw [this];rfl
  ·rw [h2];simp
theorem watch_yes {r:X3} {p:List Half} {l:List Int} (h:(decide (p.length=0) || !(Kx r p)||decide ((l.length:Int) > 40))=false):JZ r p l=logB l:=by
 unfold JZ;rw [Jy h,Z9 (Z9 h),Yn (Jy (Z9 h))];cases logB l<;>rfl
set_option maxRecDepth 100000 in
set_option maxHeartbeats 3000000 in
theorem sWatchOk_c (r:X3) (p:List Half) (l:List Int) (ra:YO) (b:ZY) (w:World) (hn:Xs r<=1048576) (hin:Zu r) (hs:YH w r ra) (hnl:Zk ra) (hlp:p.length<=1048576) (hpi:∀ h∈p,h.In) (hsp:Sl 3 Xk w b.A p) (hnb:b.A=none->b.c=0) (e:ZY) (hll:l.length<=1048576) (hsl:Sl 1 Y6 w e.A l) :
 Calls Tryz.prog 132 #[.agg #[.slice ra.map.A r.map.length ra.map.c,.int .i64 r.div,.int .i64 r.bx,.int .i64 r.by_,.int .i64 r.low,.int .i64 r.high,.slice ra.noise.A r.noise.length ra.noise.c,.slice ra.limits.A r.limits.length ra.limits.c,.slice b.A p.length b.c,.slice e.A l.length e.c]] w λ x w'=>x=.returned (.bool (JZ r p l))/\Below w.heap.size w w':=by
 refine YF Tryz.func132 rfl (n:=33) Tryz.ntmps132 (by simp) ?_;intro a0 I C ha;have s0:a0.tmps[0]?.getD undef=.agg #[.slice ra.map.A r.map.length ra.map.c,.int .i64 r.div,.int .i64 r.bx,.int .i64 r.by_,.int .i64 r.low,.int .i64 r.high,.slice ra.noise.A r.noise.length ra.noise.c,.slice ra.limits.A r.limits.length ra.limits.c,.slice b.A p.length b.c,.slice e.A l.length e.c]:=ha 0 _ rfl;clear ha;have M:=Below.refl w.heap.size w;have P:=Nat.le_refl w.heap.size;refine wp_seq ?_;refine Ys [1,2] [.pointer (some ⟨w.heap.size,0,none⟩),.bool false] [some (.cells [.slice ra.map.A r.map.length ra.map.c,.int .i64 r.div,.int .i64 r.bx,.int .i64 r.by_,.int .i64 r.low,.int .i64 r.high,.slice ra.noise.A r.noise.length ra.noise.c,.slice ra.limits.A r.limits.length ra.limits.c,.slice b.A p.length b.c,.slice e.A l.length e.c].toArray 57),none] [0,1] [1,2] [0,1] (by kernel_rfl) (by rw [I];decide) (ec ?_ (ec ?_ .nil)) ?_
 ·intro a w' D hs N Q B;simp [go_sem,D.g rfl s0];rw [hs];exact B
 ·intro a w' D hs N Q B;simp [go_sem];exact B
 intro a1 w2 D K hb hO;replace I:=D.size.trans I;replace C:=D.defers.trans C;have s1:a1.tmps[1]?.getD undef=.pointer (some ⟨w.heap.size,0,none⟩):=K 0 (by decide);have b3:Xy w2 w.heap.size 57 [.slice ra.map.A r.map.length ra.map.c,.int .i64 r.div,.int .i64 r.bx,.int .i64 r.by_,.int .i64 r.low,.int .i64 r.high,.slice ra.noise.A r.noise.length ra.noise.c,.slice ra.limits.A r.limits.length ra.limits.c,.slice b.A p.length b.c,.slice e.A l.length e.c]:=hO 0 _ rfl;have hG:=b3.lt;replace M:=Xn M hb;have zw2:=Nat.le_trans P hb.size;replace P:=Nat.le_refl w2.heap.size;clear D K hb hO s0;refine Xg (wp_seq (wp_seq ?_));refine Xe (by kernel_rfl) [5,6,7,8,9,10,11,12,13,14,15,16,17,18,19,20,21] [some (.pointer (some ⟨w.heap.size,8,none⟩)),some (.agg #[.slice b.A p.length b.c]),some (.bool (decide (p.length=0))),some (.bool (decide (p.length=0))),some ((bif decide (p.length=0) then undef else (.pointer (some ⟨w.heap.size,0,none⟩):Value))),some ((bif decide (p.length=0) then undef else (XN r ra:Value))),some ((bif decide (p.length=0) then undef else (.pointer (some ⟨w.heap.size,8,none⟩):Value))),some ((bif decide (p.length=0) then undef else (.agg #[.slice b.A p.length b.c]:Value))),some ((bif decide (p.length=0) then undef else (.bool (Kx r p):Value))),some ((bif decide (p.length=0) then undef else (.bool (!(Kx r p)):Value))),some (.bool (decide (p.length=0) || !(Kx r p))),some (.bool (decide (p.length=0) || !(Kx r p))),some ((bif (decide (p.length=0) || !(Kx r p)) then undef else (.pointer (some ⟨w.heap.size,9,none⟩):Value))),some ((bif (decide (p.length=0) || !(Kx r p)) then undef else (.slice e.A l.length e.c:Value))),some ((bif (decide (p.length=0) || !(Kx r p)) then undef else (.int .i64 (l.length:Int):Value))),some ((bif (decide (p.length=0) || !(Kx r p)) then undef else (.bool (decide ((l.length:Int) > 40)):Value))),some (.bool ((decide (p.length=0) || !(Kx r p))||decide ((l.length:Int) > 40)))] (XR 17) [5,6,7,8,9,10,11,12,13,14,15,16,17,18,19,20,21] [0,1,2,3,4,5,6,7,8,9,10,11,12,13,14,15,16] [] (λ _ _ _=>True) (by kernel_rfl) (by rw [I];decide) ?_ (en rfl ?_ (en rfl ?_ (en rfl ?_ (en rfl ?_ (eg ?_ (eg ?_ (eg ?_ (eg ?_ (eg ?_ (eg ?_ (en rfl ?_ (en rfl ?_ (eg ?_ (eg ?_ (eg ?_ (eg ?_ (en rfl ?_ .nil))))))))))))))))) ?_
 ·exact λ _ _=>trivial
 ·intro R J O H _ _ B;simp [go_sem,H.f.g rfl s1];exact (B _ _ H.k rfl trivial)
 ·intro R J O H _ _ B;simp [go_sem,(gS J 5 (H.d 0 rfl rfl)),(b3.k0 H.k).cell];exact (B _ _ H.k rfl trivial)
 ·intro R J O H _ _ B;simp [go_sem,(gS J 6 (H.d 1 rfl rfl))];refine (Y7 p b O).mono ?_;rintro x wx ⟨rfl,hb⟩;exact (B _ _ (H.k.call hb) rfl trivial)
 ·exact Zy 2 rfl rfl rfl rfl
 ·intro R J O H _ _ B;refine ZE rfl rfl rfl (H.d 3 rfl rfl) (λ qg=>B _ _ H.k (Xt qg).symm trivial) λ qg=>?_;simp [go_sem,H.f.g rfl s1];exact (B _ _ H.k (Xp qg).symm trivial)
 ·intro R J O H _ _ B;refine ZE rfl rfl rfl (H.d 3 rfl rfl) (λ qg=>B _ _ H.k (Xt qg).symm trivial) λ qg=>?_;simp [go_sem,(show J.tmps[9]?.getD undef=_ from (H.d 4 rfl rfl).trans (Xp qg)),(b3.k0 H.k).cell];exact (B _ _ H.k (Xp qg).symm trivial)
 ·intro R J O H _ _ B;refine ZE rfl rfl rfl (H.d 3 rfl rfl) (λ qg=>B _ _ H.k (Xt qg).symm trivial) λ qg=>?_;simp [go_sem,H.f.g rfl s1];exact (B _ _ H.k (Xp qg).symm trivial)
 ·intro R J O H _ _ B;refine ZE rfl rfl rfl (H.d 3 rfl rfl) (λ qg=>B _ _ H.k (Xt qg).symm trivial) λ qg=>?_;simp [go_sem,(show J.tmps[11]?.getD undef=_ from (H.d 6 rfl rfl).trans (Xp qg)),(b3.k0 H.k).cell];exact (B _ _ H.k (Xp qg).symm trivial)
 ·intro R J O H _ _ B;refine ZE rfl rfl rfl (H.d 3 rfl rfl) (λ qg=>B _ _ H.k (Xt qg).symm trivial) λ qg=>?_;simp [go_sem,(show J.tmps[10]?.getD undef=_ from (H.d 5 rfl rfl).trans (Xp qg)),(show J.tmps[12]?.getD undef=_ from (H.d 7 rfl rfl).trans (Xp qg))];have hBi:=H.k.below0 M;refine (sKept_c r p ra b O hn hin (hs.below hBi) hnl hlp hpi (hsp.below hBi) hnb).mono ?_;rintro x wx ⟨rfl,hb⟩;exact (B _ _ (H.k.call hb) (Xp qg).symm trivial)
 ·intro R J O H _ _ B;refine ZE rfl rfl rfl (H.d 3 rfl rfl) (λ qg=>B _ _ H.k (Xt qg).symm trivial) λ qg=>?_;exact ZT rfl (ev ((H.d 8 rfl rfl).trans (Xp qg))) (B _ _ H.k (Xp qg).symm trivial)
 ·exact Js 3 9 rfl rfl rfl rfl rfl rfl
 ·exact Zy 10 rfl rfl rfl rfl
 ·intro R J O H _ _ B;refine ZE rfl rfl rfl (H.d 11 rfl rfl) (λ qg=>B _ _ H.k (Xt qg).symm trivial) λ qg=>?_;simp [go_sem,H.f.g rfl s1];exact (B _ _ H.k (Xp qg).symm trivial)
 ·intro R J O H _ _ B;refine ZE rfl rfl rfl (H.d 11 rfl rfl) (λ qg=>B _ _ H.k (Xt qg).symm trivial) λ qg=>?_;simp [go_sem,(show J.tmps[17]?.getD undef=_ from (H.d 12 rfl rfl).trans (Xp qg)),(b3.k0 H.k).cell];exact (B _ _ H.k (Xp qg).symm trivial)
 ·intro R J O H _ _ B;refine ZE rfl rfl rfl (H.d 11 rfl rfl) (λ qg=>B _ _ H.k (Xt qg).symm trivial) λ qg=>?_;simp [go_sem,(show J.tmps[18]?.getD undef=_ from (H.d 13 rfl rfl).trans (Xp qg))];exact (B _ _ H.k (Xp qg).symm trivial)
 ·intro R J O H _ _ B;refine ZE rfl rfl rfl (H.d 11 rfl rfl) (λ qg=>B _ _ H.k (Xt qg).symm trivial) λ qg=>?_;exact Ye rfl (ev ((H.d 14 rfl rfl).trans (Xp qg))) rfl rfl rfl (B _ _ H.k (Xp qg).symm trivial)
 ·exact Js 11 15 rfl rfl rfl rfl rfl rfl
 intro L a4 w5 S D F K T;replace I:=D.Z I;replace C:=D.E C;replace s1:=D.G s1;have s21:=gS a4 21 (K 16 _ rfl);replace b3:=b3.k0 F;replace P:=Nat.le_trans P F.size;replace M:=F.below0 M;clear D F K S T;refine Xg ?_;rcases Bool.eq_false_or_eq_true ((decide (p.length=0) || !(Kx r p))||decide ((l.length:Int) > 40)) with q6|q6
 ·refine wp_cond_true (ev (vb s21 q6)) ?_;refine wp_seq ?_;refine Xe (by kernel_rfl) [2] [some (.bool false)] (XR 1) [2] [0] [] (λ _ _ _=>True) (by kernel_rfl) (by rw [I];decide) ?_ (en rfl ?_ .nil) ?_
  ·exact λ _ _=>trivial
  ·exact Kh rfl rfl
  intro L a7 w8 S D F K T;replace I:=D.Z I;replace C:=D.E C;have s2:=gS a7 2 (K 0 _ rfl);replace P:=Nat.le_trans P F.size;replace M:=F.below0 M;clear D F K S T s1 s21 b3;refine Xg (wp_ret (Yz ?_));refine bodyPost_ret (v:=.bool false) (by simp [results,Tryz.results132,go_sem,s2]) C ?_;exact ⟨by rw [watch_no q6],M⟩
 ·refine wp_cond_false (ev (vb s21 q6)) ?_;refine wp_skip (Xg (wp_seq (wp_seq ?_)));refine Xe (by kernel_rfl) [22,23,24,25] [some (.pointer (some ⟨w.heap.size,9,none⟩)),some (.slice e.A l.length e.c),some (.int .i64 (l.length:Int)),some (.int .i64 0)] (XR 4) [22,23,24,25] [0,1,2,3] [] (λ _ _ _=>True) (by kernel_rfl) (by rw [I];decide) ?_ (en rfl ?_ (en rfl ?_ (en rfl ?_ (en rfl ?_ .nil)))) ?_
  ·exact λ _ _=>trivial
  ·intro R J O H _ _ B;simp [go_sem,H.f.g rfl s1];exact (B _ _ H.k rfl trivial)
  ·intro R J O H _ _ B;simp [go_sem,(gS J 22 (H.d 0 rfl rfl)),(b3.k0 H.k).cell];exact (B _ _ H.k rfl trivial)
  ·intro R J O H _ _ B;simp [go_sem,(gS J 23 (H.d 1 rfl rfl))];exact (B _ _ H.k rfl trivial)
  ·exact oMCT rfl rfl
  intro L a9 w10 S D F K T;replace I:=D.Z I;replace C:=D.E C;have s23:=gS a9 23 (K 1 _ rfl);have s24:=gS a9 24 (K 2 _ rfl);have s25:=gS a9 25 (K 3 _ rfl);replace P:=Nat.le_trans P F.size;replace M:=F.below0 M;clear D F K S T s1 s21 b3;refine Xg (wp_block ?_);refine wp_loop (λ al wl=>al.tmps.size=33/\al.defers=[]/\∃ (k:Nat),(k<=l.length)/\(logB (l.take k)=true)/\al.tmps[23]?.getD undef=.slice e.A l.length e.c/\al.tmps[24]?.getD undef=.int .i64 (l.length:Int)/\al.tmps[25]?.getD undef=.int .i64 (k:Int)/\Below w.heap.size w wl/\w2.heap.size<=wl.heap.size) (λ al _=>(l.length-(intOf (al.tmps[25]?.getD undef)).toNat)) ?_ ?_
  ·exact ⟨I,C,(0),(Nat.zero_le _),(rfl),s23,s24,s25,M,(by omega)⟩
  clear I C M P s23 s24 s25;rintro a11 w12 ⟨I,C,k,hk,hall,s23,s24,s25,M,P⟩;have zw12:=P;replace P:=Nat.le_refl w12.heap.size;have hmu:(l.length-(intOf (a11.tmps[25]?.getD undef)).toNat)=(l.length-(intOf ((.int .i64 (k:Int)))).toNat):=by rw [s25]
  refine wp_seq ?_;refine Xe (by kernel_rfl) [26] [some (.bool (decide ((k:Int)<(l.length:Int))))] (XR 1) [26] [0] [] (λ _ _ _=>True) (by kernel_rfl) (by rw [I];decide) ?_ (en rfl ?_ .nil) ?_
  ·exact λ _ _=>trivial
  ·exact λ R J O H _ _ B=>Ye rfl (ev (H.f.g rfl s25)) (ev (H.f.g rfl s24)) rfl rfl (B _ _ H.k rfl trivial)
  intro L a13 w14 S D F K T;replace I:=D.Z I;replace C:=D.E C;replace s23:=D.G s23;replace s24:=D.G s24;replace s25:=D.G s25;have s26:=gS a13 26 (K 0 _ rfl);replace P:=Nat.le_trans P F.size;replace M:=F.below0 M;clear D F K S T;refine Xg (wp_seq ?_);rcases Bool.eq_false_or_eq_true (decide ((k:Int)<(l.length:Int))) with q15|q15
  ·have hkl:k<l.length:=by have:=Z1 q15;omega
   obtain ⟨bl,ol,el,fe⟩:=ElS.open_ (hsl.below M) (by omega);refine wp_cond_true (ev (vb s26 q15)) ?_;refine wp_skip (Xg (wp_seq (wp_block (wp_seq ?_))));refine Xe (by kernel_rfl) [27,28,4] [some (.pointer (some ⟨bl,ol+k,none⟩)),some (.int .i64 (l.getD k 0)),some (.int .i64 (l.getD k 0))] (XR 3) [27,28,4] [0,1,2] [] (λ _ _ _=>True) (by kernel_rfl) (by rw [I];decide) ?_ (en rfl ?_ (en rfl ?_ (en rfl ?_ .nil))) ?_
   ·exact λ _ _=>trivial
   ·intro R J O H _ _ B;simp [go_sem,H.f.g rfl s23,H.f.g rfl s25,hkl,el];exact (B _ _ H.k rfl trivial)
   ·intro R J O H _ _ B;have hE:=fe.kp H.k (by simp);simp [go_sem,(gS J 27 (H.d 0 rfl rfl)),(hE.at_ 0 (i:=k) (by omega) 0 (p:=ol+k) (by omega) rfl)];exact (B _ _ H.k rfl trivial)
   ·exact Kb 1 rfl rfl rfl rfl
   intro L a16 w17 S D F K T;replace I:=D.Z I;replace C:=D.E C;replace s23:=D.G s23;replace s24:=D.G s24;replace s25:=D.G s25;have s4:=gS a16 4 (K 2 _ rfl);replace P:=Nat.le_trans P F.size;replace M:=F.below0 M;clear D F K S T s26 fe;refine Xg (wp_seq ?_);refine Xe (by kernel_rfl) [29,30,31] [some (.int .i64 (l.getD k 0)),some (.bool (ZD (l.getD k 0) 1 3)),some (.bool (!(ZD (l.getD k 0) 1 3)))] (XR 3) [29,30,31] [0,1,2] [] (λ _ _ _=>True) (by kernel_rfl) (by rw [I];decide) ?_ (en rfl ?_ (en rfl ?_ (en rfl ?_ .nil))) ?_
   ·exact λ _ _=>trivial
   ·exact YJ s4 rfl rfl rfl
   ·intro R J O H _ _ B;simp [go_sem,(gS J 29 (H.d 0 rfl rfl))];refine (Yo (l.getD k 0) 1 3 O).mono ?_;rintro x wx ⟨rfl,rfl⟩;exact (B _ _ H.k rfl trivial)
   ·exact Z4 1 rfl rfl rfl rfl
   intro L a18 w19 S D F K T;replace I:=D.Z I;replace C:=D.E C;replace s23:=D.G s23;replace s24:=D.G s24;replace s25:=D.G s25;have s31:=gS a18 31 (K 2 _ rfl);replace P:=Nat.le_trans P F.size;replace M:=F.below0 M;clear D F K S T s4;refine Xg ?_;rcases Bool.eq_false_or_eq_true (!(ZD (l.getD k 0) 1 3)) with q20|q20
   ·refine wp_cond_true (ev (vb s31 q20)) ?_;refine wp_seq ?_;refine Xe (by kernel_rfl) [2] [some (.bool false)] (XR 1) [2] [0] [] (λ _ _ _=>True) (by kernel_rfl) (by rw [I];decide) ?_ (en rfl ?_ .nil) ?_
    ·exact λ _ _=>trivial
    ·exact Kh rfl rfl
    intro L a21 w22 S D F K T;replace I:=D.Z I;replace C:=D.E C;have s2:=gS a21 2 (K 0 _ rfl);replace P:=Nat.le_trans P F.size;replace M:=F.below0 M;clear D F K S T s23 s24 s25 s31;refine Xg (wp_ret ?_);refine KQ (Yz (Yz (KQ (Yz ?_))));refine bodyPost_ret (v:=.bool false) (by simp [results,Tryz.results132,go_sem,s2]) C ?_;exact ⟨by rw [watch_yes q6,log_stop hkl (Kv q20)],M⟩
   ·refine wp_cond_false (ev (vb s31 q20)) ?_;refine wp_skip ?_;refine ib_n (Xg ?_);refine Xe (by kernel_rfl) [32,25] [some (.int .i64 ((k:Int)+1)),some (.int .i64 ((k:Int)+1))] (XR 2) [32,25] [0,1] [] (λ L aa O=>(L 1=false->aa.tmps[25]?.getD undef=.int .i64 (k:Int))) (by kernel_rfl) (by rw [I];decide) ?_ (en rfl ?_ (en rfl ?_ .nil)) ?_
    ·exact λ _ h=>(λ _=>s25)
    ·intro R J O H _ _ B;have x0:=H.x;exact Zh rfl (ev (x0 (H.t 1 rfl))) rfl (by omega) (B _ _ H.k rfl (λ h=>(Xa (by decide) _).trans (x0 h)))
    ·intro R J O H _ _ B;have x0:=H.x;exact Xv rfl (ev (H.d 0 rfl rfl)) (B _ _ H.k rfl (λ h=>by simp [Y5] at h))
    intro L a23 w24 S D F K T;have x0:=T;replace I:=D.Z I;replace C:=D.E C;replace s23:=D.G s23;replace s24:=D.G s24;have s25:=gS a23 25 (K 1 _ rfl);replace P:=Nat.le_trans P F.size;replace M:=F.below0 M;clear D F K S x0 s31;refine Xg ?_;refine ⟨?_, ?_⟩
    ·exact ⟨I,C,(k+1),(by omega),(log_next hkl hall (Yn q20)),s23,s24,s25,M,(by omega)⟩
    ·show (l.length-(intOf (a23.tmps[25]?.getD undef)).toNat)<_;rw [s25,hmu];simp only [intOf];omega
  ·have ek:k=l.length:=by have:=Xo q15;omega
   rw [ek,List.take_length] at hall;refine wp_cond_false (ev (vb s26 q15)) ?_;refine wp_exit ?_;refine JL (JL (ib_x (Xg (wp_seq ?_))));refine Xe (by kernel_rfl) [2] [some (.bool true)] (XR 1) [2] [0] [] (λ _ _ _=>True) (by kernel_rfl) (by rw [I];decide) ?_ (en rfl ?_ .nil) ?_
   ·exact λ _ _=>trivial
   ·exact Kh rfl rfl
   intro L a25 w26 S D F K T;replace I:=D.Z I;replace C:=D.E C;have s2:=gS a25 2 (K 0 _ rfl);replace P:=Nat.le_trans P F.size;replace M:=F.below0 M;clear D F K S T s23 s24 s25 s26;refine Xg (wp_ret ?_);refine bodyPost_ret (v:=.bool true) (by simp [results,Tryz.results132,go_sem,s2]) C ?_;exact ⟨by rw [watch_yes q6,hall],M⟩
end Go.Proofs.YtkjimfapbjdafaaGreat
