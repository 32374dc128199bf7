/-
 Whether a region is kept in one step: of the program.
 Conditions: the slices hold at most 2^20 elements.
-/
import Derived.Test.YtkjimfapbjdafaaGreatGrAQd
import Derived.Test.YtkjimfapbjdafaaGreatGrXbQc
namespace Go.Proofs.YtkjimfapbjdafaaGreat
open Go.RowKit
def logB (l:List Int):Bool:=l.all λ x=>ZD x 1 3
def JZ (r:X3) (p:List Half) (l:List Int):Bool:=!decide ((l.length:Int) > 40)&&logB l&&(!decide (p.length=0)&&Kx r p)
theorem log_next {l:List Int} {k:Nat} (h:k<l.length) (h1:logB (l.take k)=true) (hb:ZD (l.getD k 0) 1 3=true):logB (l.take (k+1))=true:=by
 rw [getD_el h] at hb;unfold logB at h1 ⊢;rw [List.take_add_one,List.getElem?_eq_getElem h,List.all_append,h1];simp [hb]
theorem log_stop {l:List Int} {k:Nat} (h:k<l.length) (hb:ZD (l.getD k 0) 1 3=false):logB l=false:=by
 rw [getD_el h] at hb;unfold logB;rw [List.all_eq_false];exact ⟨_,List.getElem_mem h,by rw [hb];decide⟩
set_option maxRecDepth 100000 in
set_option maxHeartbeats 3000000 in
theorem iWatchOk_c (r:X3) (p:List Half) (l:List Int) (ra:YO) (b:ZY) (w:World) (hn:Xs r<=1048576) (hin:Zu r) (hs:YH w r ra) (hnl:Zk ra) (hlp:p.length<=1048576) (hpi:∀ h∈p,h.In) (hsp:Sl 3 Xk w b.A p) (hnb:b.A=none->b.c=0) (e:ZY) (hll:l.length<=1048576) (hsl:Sl 1 Y6 w e.A l) :
 Calls Tryz.prog 135 #[.agg #[.slice ra.map.A r.map.length ra.map.c,.int .i64 r.div,.int .i64 r.bx,.int .i64 r.by_,.int .i64 r.low,.int .i64 r.high,.slice ra.noise.A r.noise.length ra.noise.c,.slice ra.limits.A r.limits.length ra.limits.c,.slice b.A p.length b.c,.slice e.A l.length e.c]] w λ x w'=>x=.returned (.bool (JZ r p l))/\Below w.heap.size w w':=by
 refine YF Tryz.func135 rfl (n:=31) Tryz.ntmps135 (by simp) ?_;intro a0 I C ha;have s0:a0.tmps[0]?.getD undef=.agg #[.slice ra.map.A r.map.length ra.map.c,.int .i64 r.div,.int .i64 r.bx,.int .i64 r.by_,.int .i64 r.low,.int .i64 r.high,.slice ra.noise.A r.noise.length ra.noise.c,.slice ra.limits.A r.limits.length ra.limits.c,.slice b.A p.length b.c,.slice e.A l.length e.c]:=ha 0 _ rfl;clear ha;have M:=Below.refl w.heap.size w;have P:=Nat.le_refl w.heap.size;refine wp_seq ?_;refine Ys [1,2] [.pointer (some ⟨w.heap.size,0,none⟩),.bool false] [some (.cells [.slice ra.map.A r.map.length ra.map.c,.int .i64 r.div,.int .i64 r.bx,.int .i64 r.by_,.int .i64 r.low,.int .i64 r.high,.slice ra.noise.A r.noise.length ra.noise.c,.slice ra.limits.A r.limits.length ra.limits.c,.slice b.A p.length b.c,.slice e.A l.length e.c].toArray 57),none] [0,1] [1,2] [0,1] (by kernel_rfl) (by rw [I];decide) (ec ?_ (ec ?_ .nil)) ?_
 ·intro a w' B hs N Q D;simp [go_sem,B.g rfl s0];rw [hs];exact D
 ·intro a w' B hs N Q D;simp [go_sem];exact D
 intro a1 w2 B K hb hO;replace I:=B.size.trans I;replace C:=B.defers.trans C;have s1:a1.tmps[1]?.getD undef=.pointer (some ⟨w.heap.size,0,none⟩):=K 0 (by decide);have b3:Xy w2 w.heap.size 57 [.slice ra.map.A r.map.length ra.map.c,.int .i64 r.div,.int .i64 r.bx,.int .i64 r.by_,.int .i64 r.low,.int .i64 r.high,.slice ra.noise.A r.noise.length ra.noise.c,.slice ra.limits.A r.limits.length ra.limits.c,.slice b.A p.length b.c,.slice e.A l.length e.c]:=hO 0 _ rfl;have hG:=b3.lt;replace M:=Xn M hb;have zw2:=Nat.le_trans P hb.size;replace P:=Nat.le_refl w2.heap.size;clear B K hb hO s0;refine Xg (wp_seq (wp_seq ?_));refine Xe (by kernel_rfl) [5,6,7,8] [some (.pointer (some ⟨w.heap.size,9,none⟩)),some (.slice e.A l.length e.c),some (.int .i64 (l.length:Int)),some (.bool (decide ((l.length:Int) > 40)))] (XR 4) [5,6,7,8] [0,1,2,3] [] (λ _ _ _=>True) (by kernel_rfl) (by rw [I];decide) ?_ (en rfl ?_ (en rfl ?_ (en rfl ?_ (en rfl ?_ .nil)))) ?_
 ·exact λ _ _=>trivial
 ·intro R J O H _ _ D;simp [go_sem,H.f.g rfl s1];exact (D _ _ H.k rfl trivial)
 ·intro R J O H _ _ D;simp [go_sem,(gS J 5 (H.d 0 rfl rfl)),(b3.k0 H.k).cell];exact (D _ _ H.k rfl trivial)
 ·intro R J O H _ _ D;simp [go_sem,(gS J 6 (H.d 1 rfl rfl))];exact (D _ _ H.k rfl trivial)
 ·exact λ R J O H _ _ D=>Ye rfl (ev (H.d 2 rfl rfl)) rfl rfl rfl (D _ _ H.k rfl trivial)
 intro L a4 w5 S B F K T;replace I:=B.Z I;replace C:=B.E C;replace s1:=B.G s1;have s8:=gS a4 8 (K 3 _ rfl);replace b3:=b3.k0 F;replace P:=Nat.le_trans P F.size;replace M:=F.below0 M;clear B F K S T;refine Xg ?_;rcases Bool.eq_false_or_eq_true (decide ((l.length:Int) > 40)) with q6|q6
 ·refine wp_cond_true (ev (vb s8 q6)) ?_;refine wp_seq ?_;refine Xe (by kernel_rfl) [2] [some (.bool false)] (XR 1) [2] [0] [] (λ _ _ _=>True) (by kernel_rfl) (by rw [I];decide) ?_ (en rfl ?_ .nil) ?_
  ·exact λ _ _=>trivial
  ·exact Kh rfl rfl
  intro L a7 w8 S B F K T;replace I:=B.Z I;replace C:=B.E C;have s2:=gS a7 2 (K 0 _ rfl);replace P:=Nat.le_trans P F.size;replace M:=F.below0 M;clear B F K S T s1 s8 b3;refine Xg (wp_ret (Yz ?_));refine bodyPost_ret (v:=.bool false) (by simp [results,Tryz.results135,go_sem,s2]) C ?_;exact ⟨by unfold JZ;rw [q6];rfl,M⟩
 ·refine wp_cond_false (ev (vb s8 q6)) ?_;refine wp_skip (Xg (wp_seq (wp_seq ?_)));refine Xe (by kernel_rfl) [9,10,11,12] [some (.pointer (some ⟨w.heap.size,9,none⟩)),some (.slice e.A l.length e.c),some (.int .i64 (l.length:Int)),some (.int .i64 0)] (XR 4) [9,10,11,12] [0,1,2,3] [] (λ _ _ _=>True) (by kernel_rfl) (by rw [I];decide) ?_ (en rfl ?_ (en rfl ?_ (en rfl ?_ (en rfl ?_ .nil)))) ?_
  ·exact λ _ _=>trivial
  ·intro R J O H _ _ D;simp [go_sem,H.f.g rfl s1];exact (D _ _ H.k rfl trivial)
  ·intro R J O H _ _ D;simp [go_sem,(gS J 9 (H.d 0 rfl rfl)),(b3.k0 H.k).cell];exact (D _ _ H.k rfl trivial)
  ·intro R J O H _ _ D;simp [go_sem,(gS J 10 (H.d 1 rfl rfl))];exact (D _ _ H.k rfl trivial)
  ·exact oMCT rfl rfl
  intro L a9 w10 S B F K T;replace I:=B.Z I;replace C:=B.E C;replace s1:=B.G s1;have s10:=gS a9 10 (K 1 _ rfl);have s11:=gS a9 11 (K 2 _ rfl);have s12:=gS a9 12 (K 3 _ rfl);replace b3:=b3.k0 F;replace P:=Nat.le_trans P F.size;replace M:=F.below0 M;clear B F K S T s8;refine Xg (wp_block ?_);refine wp_loop (λ al wl=>al.tmps.size=31/\al.defers=[]/\∃ (k:Nat),(k<=l.length)/\(logB (l.take k)=true)/\al.tmps[1]?.getD undef=.pointer (some ⟨w.heap.size,0,none⟩)/\al.tmps[10]?.getD undef=.slice e.A l.length e.c/\al.tmps[11]?.getD undef=.int .i64 (l.length:Int)/\al.tmps[12]?.getD undef=.int .i64 (k:Int)/\Xy wl w.heap.size 57 [.slice ra.map.A r.map.length ra.map.c,.int .i64 r.div,.int .i64 r.bx,.int .i64 r.by_,.int .i64 r.low,.int .i64 r.high,.slice ra.noise.A r.noise.length ra.noise.c,.slice ra.limits.A r.limits.length ra.limits.c,.slice b.A p.length b.c,.slice e.A l.length e.c]/\Below w.heap.size w wl/\w2.heap.size<=wl.heap.size) (λ al _=>(l.length-(intOf (al.tmps[12]?.getD undef)).toNat)) ?_ ?_
  ·exact ⟨I,C,(0),(Nat.zero_le _),(rfl),s1,s10,s11,s12,b3,M,(by omega)⟩
  clear I C M P s1 s10 s11 s12 b3;rintro a11 w12 ⟨I,C,k,hk,hall,s1,s10,s11,s12,b3,M,P⟩;have zw12:=P;replace P:=Nat.le_refl w12.heap.size;have hmu:(l.length-(intOf (a11.tmps[12]?.getD undef)).toNat)=(l.length-(intOf ((.int .i64 (k:Int)))).toNat):=by rw [s12]
  refine wp_seq ?_;refine Xe (by kernel_rfl) [13] [some (.bool (decide ((k:Int)<(l.length:Int))))] (XR 1) [13] [0] [] (λ _ _ _=>True) (by kernel_rfl) (by rw [I];decide) ?_ (en rfl ?_ .nil) ?_
  ·exact λ _ _=>trivial
  ·exact λ R J O H _ _ D=>Ye rfl (ev (H.f.g rfl s12)) (ev (H.f.g rfl s11)) rfl rfl (D _ _ H.k rfl trivial)
  intro L a13 w14 S B F K T;replace I:=B.Z I;replace C:=B.E C;replace s1:=B.G s1;replace s10:=B.G s10;replace s11:=B.G s11;replace s12:=B.G s12;have s13:=gS a13 13 (K 0 _ rfl);replace b3:=b3.k0 F;replace P:=Nat.le_trans P F.size;replace M:=F.below0 M;clear B F K S T;refine Xg (wp_seq ?_);rcases Bool.eq_false_or_eq_true (decide ((k:Int)<(l.length:Int))) with q15|q15
  ·have hkl:k<l.length:=by have:=Z1 q15;omega
   obtain ⟨bl,ol,el,fe⟩:=ElS.open_ (hsl.below M) (by omega);refine wp_cond_true (ev (vb s13 q15)) ?_;refine wp_skip (Xg (wp_seq (wp_block (wp_seq ?_))));refine Xe (by kernel_rfl) [14,15,4] [some (.pointer (some ⟨bl,ol+k,none⟩)),some (.int .i64 (l.getD k 0)),some (.int .i64 (l.getD k 0))] (XR 3) [14,15,4] [0,1,2] [] (λ _ _ _=>True) (by kernel_rfl) (by rw [I];decide) ?_ (en rfl ?_ (en rfl ?_ (en rfl ?_ .nil))) ?_
   ·exact λ _ _=>trivial
   ·intro R J O H _ _ D;simp [go_sem,H.f.g rfl s10,H.f.g rfl s12,hkl,el];exact (D _ _ H.k rfl trivial)
   ·intro R J O H _ _ D;have hE:=fe.kp H.k (by simp);simp [go_sem,(gS J 14 (H.d 0 rfl rfl)),(hE.at_ 0 (i:=k) (by omega) 0 (p:=ol+k) (by omega) rfl)];exact (D _ _ H.k rfl trivial)
   ·exact Kb 1 rfl rfl rfl rfl
   intro L a16 w17 S B F K T;replace I:=B.Z I;replace C:=B.E C;replace s1:=B.G s1;replace s10:=B.G s10;replace s11:=B.G s11;replace s12:=B.G s12;have s4:=gS a16 4 (K 2 _ rfl);replace b3:=b3.k0 F;replace P:=Nat.le_trans P F.size;replace M:=F.below0 M;clear B F K S T s13 fe;refine Xg (wp_seq ?_);refine Xe (by kernel_rfl) [16,17,18] [some (.int .i64 (l.getD k 0)),some (.bool (ZD (l.getD k 0) 1 3)),some (.bool (!(ZD (l.getD k 0) 1 3)))] (XR 3) [16,17,18] [0,1,2] [] (λ _ _ _=>True) (by kernel_rfl) (by rw [I];decide) ?_ (en rfl ?_ (en rfl ?_ (en rfl ?_ .nil))) ?_
   ·exact λ _ _=>trivial
   ·exact YJ s4 rfl rfl rfl
   ·intro R J O H _ _ D;simp [go_sem,(gS J 16 (H.d 0 rfl rfl))];refine (Zj (l.getD k 0) 1 3 O).mono ?_;rintro x wx ⟨rfl,rfl⟩;exact (D _ _ H.k rfl trivial)
   ·exact Z4 1 rfl rfl rfl rfl
   intro L a18 w19 S B F K T;replace I:=B.Z I;replace C:=B.E C;replace s1:=B.G s1;replace s10:=B.G s10;replace s11:=B.G s11;replace s12:=B.G s12;have s18:=gS a18 18 (K 2 _ rfl);replace b3:=b3.k0 F;replace P:=Nat.le_trans P F.size;replace M:=F.below0 M;clear B F K S T s4;refine Xg ?_;rcases Bool.eq_false_or_eq_true (!(ZD (l.getD k 0) 1 3)) with q20|q20
   ·refine wp_cond_true (ev (vb s18 q20)) ?_;refine wp_seq ?_;refine Xe (by kernel_rfl) [2] [some (.bool false)] (XR 1) [2] [0] [] (λ _ _ _=>True) (by kernel_rfl) (by rw [I];decide) ?_ (en rfl ?_ .nil) ?_
    ·exact λ _ _=>trivial
    ·exact Kh rfl rfl
    intro L a21 w22 S B F K T;replace I:=B.Z I;replace C:=B.E C;have s2:=gS a21 2 (K 0 _ rfl);replace P:=Nat.le_trans P F.size;replace M:=F.below0 M;clear B F K S T s1 s10 s11 s12 s18 b3;refine Xg (wp_ret ?_);refine KQ (Yz (Yz (KQ (Yz ?_))));refine bodyPost_ret (v:=.bool false) (by simp [results,Tryz.results135,go_sem,s2]) C ?_;exact ⟨by unfold JZ;rw [log_stop hkl (Kv q20),Bool.and_false];rfl,M⟩
   ·refine wp_cond_false (ev (vb s18 q20)) ?_;refine wp_skip ?_;refine ib_n (Xg ?_);refine Xe (by kernel_rfl) [19,12] [some (.int .i64 ((k:Int)+1)),some (.int .i64 ((k:Int)+1))] (XR 2) [19,12] [0,1] [] (λ L aa O=>(L 1=false->aa.tmps[12]?.getD undef=.int .i64 (k:Int))) (by kernel_rfl) (by rw [I];decide) ?_ (en rfl ?_ (en rfl ?_ .nil)) ?_
    ·exact λ _ h=>(λ _=>s12)
    ·intro R J O H _ _ D;have x0:=H.x;exact Zh rfl (ev (x0 (H.t 1 rfl))) rfl (by omega) (D _ _ H.k rfl (λ h=>(Xa (by decide) _).trans (x0 h)))
    ·intro R J O H _ _ D;have x0:=H.x;exact Xv rfl (ev (H.d 0 rfl rfl)) (D _ _ H.k rfl (λ h=>by simp [Y5] at h))
    intro L a23 w24 S B F K T;have x0:=T;replace I:=B.Z I;replace C:=B.E C;replace s1:=B.G s1;replace s10:=B.G s10;replace s11:=B.G s11;have s12:=gS a23 12 (K 1 _ rfl);replace b3:=b3.k0 F;replace P:=Nat.le_trans P F.size;replace M:=F.below0 M;clear B F K S x0 s18;refine Xg ?_;refine ⟨?_, ?_⟩
    ·exact ⟨I,C,(k+1),(by omega),(log_next hkl hall (Yn q20)),s1,s10,s11,s12,b3,M,(by omega)⟩
    ·show (l.length-(intOf (a23.tmps[12]?.getD undef)).toNat)<_;rw [s12,hmu];simp only [intOf];omega
  ·have ek:k=l.length:=by have:=Xo q15;omega
   rw [ek,List.take_length] at hall;refine wp_cond_false (ev (vb s13 q15)) ?_;refine wp_exit ?_;refine JL (JL (ib_x (Xg (wp_seq ?_))));refine Xe (by kernel_rfl) [20,21,22,23,24,25,26,27,28,29,30,2] [some (.pointer (some ⟨w.heap.size,8,none⟩)),some (.agg #[.slice b.A p.length b.c]),some (.bool (decide (p.length=0))),some (.bool (!(decide (p.length=0)))),some (.bool (!(decide (p.length=0)))),some ((bif !(decide (p.length=0)) then (.pointer (some ⟨w.heap.size,0,none⟩):Value) else undef)),some ((bif !(decide (p.length=0)) then (XN r ra:Value) else undef)),some ((bif !(decide (p.length=0)) then (.pointer (some ⟨w.heap.size,8,none⟩):Value) else undef)),some ((bif !(decide (p.length=0)) then (.agg #[.slice b.A p.length b.c]:Value) else undef)),some ((bif !(decide (p.length=0)) then (.bool (Kx r p):Value) else undef)),some (.bool (!(decide (p.length=0))&&Kx r p)),some (.bool (!(decide (p.length=0))&&Kx r p))] (XR 12) [20,21,22,23,24,25,26,27,28,29,30,2] [0,1,2,3,4,5,6,7,8,9,10,11] [] (λ _ _ _=>True) (by kernel_rfl) (by rw [I];decide) ?_ (en rfl ?_ (en rfl ?_ (en rfl ?_ (en rfl ?_ (en rfl ?_ (eg ?_ (eg ?_ (eg ?_ (eg ?_ (eg ?_ (en rfl ?_ (en rfl ?_ .nil)))))))))))) ?_
   ·exact λ _ _=>trivial
   ·intro R J O H _ _ D;simp [go_sem,H.f.g rfl s1];exact (D _ _ H.k rfl trivial)
   ·intro R J O H _ _ D;simp [go_sem,(gS J 20 (H.d 0 rfl rfl)),(b3.k0 H.k).cell];exact (D _ _ H.k rfl trivial)
   ·intro R J O H _ _ D;simp [go_sem,(gS J 21 (H.d 1 rfl rfl))];refine (Je p b O).mono ?_;rintro x wx ⟨rfl,hb⟩;exact (D _ _ (H.k.call hb) rfl trivial)
   ·exact Z4 2 rfl rfl rfl rfl
   ·exact Zy 3 rfl rfl rfl rfl
   ·intro R J O H _ _ D;refine wgt rfl rfl rfl (H.d 4 rfl rfl) (λ qg=>D _ _ H.k (Xp qg).symm trivial) λ qg=>?_;simp [go_sem,H.f.g rfl s1];exact (D _ _ H.k (Xt qg).symm trivial)
   ·intro R J O H _ _ D;refine wgt rfl rfl rfl (H.d 4 rfl rfl) (λ qg=>D _ _ H.k (Xp qg).symm trivial) λ qg=>?_;simp [go_sem,(show J.tmps[25]?.getD undef=_ from (H.d 5 rfl rfl).trans (Xt qg)),(b3.k0 H.k).cell];exact (D _ _ H.k (Xt qg).symm trivial)
   ·intro R J O H _ _ D;refine wgt rfl rfl rfl (H.d 4 rfl rfl) (λ qg=>D _ _ H.k (Xp qg).symm trivial) λ qg=>?_;simp [go_sem,H.f.g rfl s1];exact (D _ _ H.k (Xt qg).symm trivial)
   ·intro R J O H _ _ D;refine wgt rfl rfl rfl (H.d 4 rfl rfl) (λ qg=>D _ _ H.k (Xp qg).symm trivial) λ qg=>?_;simp [go_sem,(show J.tmps[27]?.getD undef=_ from (H.d 7 rfl rfl).trans (Xt qg)),(b3.k0 H.k).cell];exact (D _ _ H.k (Xt qg).symm trivial)
   ·intro R J O H _ _ D;refine wgt rfl rfl rfl (H.d 4 rfl rfl) (λ qg=>D _ _ H.k (Xp qg).symm trivial) λ qg=>?_;simp [go_sem,(show J.tmps[26]?.getD undef=_ from (H.d 6 rfl rfl).trans (Xt qg)),(show J.tmps[28]?.getD undef=_ from (H.d 8 rfl rfl).trans (Xt qg))];have hBi:=H.k.below0 M;refine (iKept_c r p ra b O hn hin (hs.below hBi) hnl hlp hpi (hsp.below hBi) hnb).mono ?_;rintro x wx ⟨rfl,hb⟩;exact (D _ _ (H.k.call hb) (Xt qg).symm trivial)
   ·exact λ R J O H _ _ D=>YY rfl (ev (H.d 4 rfl rfl)) (λ h=>(ev ((H.d 9 rfl rfl).trans (Xt h))).trans (JJ h)) (λ h=>JK h) (D _ _ H.k rfl trivial)
   ·exact Kb 10 rfl rfl rfl rfl
   intro L a25 w26 S B F K T;replace I:=B.Z I;replace C:=B.E C;have s2:=gS a25 2 (K 11 _ rfl);replace P:=Nat.le_trans P F.size;replace M:=F.below0 M;clear B F K S T s1 s10 s11 s12 s13 b3;refine Xg (wp_ret ?_);refine bodyPost_ret (v:=.bool (!(decide (p.length=0))&&Kx r p)) (by simp [results,Tryz.results135,go_sem,s2]) C ?_;exact ⟨by unfold JZ;rw [q6,hall];rfl,M⟩
end Go.Proofs.YtkjimfapbjdafaaGreat
