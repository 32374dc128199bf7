/-
 Whether a span has an input, and the inputs that are admitted at a state: of the program.
 Conditions: the slices hold at most 2^20 elements.
-/
import Derived.Test.YtkjimfapbjdafaaGreatV4Qg
namespace Go.Proofs.YtkjimfapbjdafaaGreat
open Go.RowKit
set_option maxRecDepth 100000 in
set_option maxHeartbeats 3000000 in
theorem iInSpan_c (v:YY) (u:YO) (w:World) (hv:v.In) (hu:u.In) :
 Calls Tryz.prog 124 #[Ye v,X9 u] w λ x w'=>x=.returned (.bool (Jv v u))/\Below w.heap.size w w':=by
 refine Y0 Tryz.func124 rfl (n:=25) Tryz.ntmps124 (by simp) ?_;intro a0 I G ha;have s0:a0.tmps[0]?.getD undef=Ye v:=ha 0 _ rfl;have s1:a0.tmps[1]?.getD undef=X9 u:=ha 1 _ rfl;clear ha;have K:=Below.refl w.heap.size w;have M:=Nat.le_refl w.heap.size;refine wp_seq ?_;refine YI [2,3,4] [.pointer (some ⟨w.heap.size,0,none⟩),.pointer (some ⟨(w.heap.size+1),0,none⟩),.bool false] [some (.cells [.int .i64 v.low.n,.int .i64 v.low.d,.int .i64 v.high.n,.int .i64 v.high.d].toArray 72),some (.cells [.int .i64 u.n,.int .i64 u.d].toArray 70),none] [0,1,2] [2,3,4] [0,1,2] (by kernel_rfl) (by rw [I];decide) (ec ?_ (ec ?_ (ec ?_ .nil))) ?_
 ·intro a w' F hs N Q A;simp [go_sem,F.g rfl s0];rw [hs];exact A
 ·intro a w' F hs N Q A;simp [go_sem,F.g rfl s1];rw [hs];exact A
 ·intro a w' F hs N Q A;simp [go_sem];exact A
 intro a1 w2 F J hb hO;replace I:=F.size.trans I;replace G:=F.defers.trans G;have s2:a1.tmps[2]?.getD undef=.pointer (some ⟨w.heap.size,0,none⟩):=J 0 (by decide);have s3:a1.tmps[3]?.getD undef=.pointer (some ⟨(w.heap.size+1),0,none⟩):=J 1 (by decide);have b3:Xz w2 w.heap.size 72 [.int .i64 v.low.n,.int .i64 v.low.d,.int .i64 v.high.n,.int .i64 v.high.d]:=hO 0 _ rfl;have b4:Xz w2 (w.heap.size+1) 70 [.int .i64 u.n,.int .i64 u.d]:=hO 1 _ rfl;have hG:=b4.lt;replace K:=Xh K hb;have zw2:=Nat.le_trans M hb.size;replace M:=Nat.le_refl w2.heap.size;clear F J hb hO s0 s1;refine Xj (wp_seq ?_);refine Xe (by kernel_rfl) [5,6,7,8,9,10,11,12,13,14,15,16,17,18,19,20,21,22,23,24,4] [some (Ye v),some (.bool (Xu v)),some (.bool (Xu v)),some ((bif Xu v then (X9 u:Value) else undef)),some ((bif Xu v then (.bool (Xq u):Value) else undef)),some (.bool (Xu v&&Xq u)),some (.bool (Xu v&&Xq u)),some ((bif (Xu v&&Xq u) then (.pointer (some ⟨w.heap.size,0,none⟩):Value) else undef)),some ((bif (Xu v&&Xq u) then (.agg #[.int .i64 v.low.n,.int .i64 v.low.d]:Value) else undef)),some ((bif (Xu v&&Xq u) then (X9 u:Value) else undef)),some ((bif (Xu v&&Xq u) then (.int .i64 (Xp v.low u):Value) else undef)),some ((bif (Xu v&&Xq u) then (.bool (decide (Xp v.low u<=0)):Value) else undef)),some (.bool ((Xu v&&Xq u)&&decide (Xp v.low u<=0))),some (.bool ((Xu v&&Xq u)&&decide (Xp v.low u<=0))),some ((bif ((Xu v&&Xq u)&&decide (Xp v.low u<=0)) then (X9 u:Value) else undef)),some ((bif ((Xu v&&Xq u)&&decide (Xp v.low u<=0)) then (.pointer (some ⟨w.heap.size,2,none⟩):Value) else undef)),some ((bif ((Xu v&&Xq u)&&decide (Xp v.low u<=0)) then (.agg #[.int .i64 v.high.n,.int .i64 v.high.d]:Value) else undef)),some ((bif ((Xu v&&Xq u)&&decide (Xp v.low u<=0)) then (.int .i64 (Xp u v.high):Value) else undef)),some ((bif ((Xu v&&Xq u)&&decide (Xp v.low u<=0)) then (.bool (decide (Xp u v.high<=0)):Value) else undef)),some (.bool (((Xu v&&Xq u)&&decide (Xp v.low u<=0))&&decide (Xp u v.high<=0))),some (.bool (((Xu v&&Xq u)&&decide (Xp v.low u<=0))&&decide (Xp u v.high<=0)))] (X6 21) [5,6,7,8,9,10,11,12,13,14,15,16,17,18,19,20,21,22,23,24,4] [0,1,2,3,4,5,6,7,8,9,10,11,12,13,14,15,16,17,18,19,20] [] (λ _ _ _=>True) (by kernel_rfl) (by rw [I];decide) ?_ (en rfl ?_ (en rfl ?_ (en rfl ?_ (eg ?_ (eg ?_ (en rfl ?_ (en rfl ?_ (eg ?_ (eg ?_ (eg ?_ (eg ?_ (eg ?_ (en rfl ?_ (en rfl ?_ (eg ?_ (eg ?_ (eg ?_ (eg ?_ (eg ?_ (en rfl ?_ (en rfl ?_ .nil))))))))))))))))))))) ?_
 ·exact λ _ _=>trivial
 ·intro D B C H _ _ A;simp [go_sem,H.f.g rfl s2,(b3.k0 H.k).cell];exact (A _ _ H.k rfl trivial)
 ·intro D B C H _ _ A;simp [go_sem,(gS B 5 (H.d 0 rfl rfl))];refine (iSpanOk_c v C hv).mono ?_;rintro x wx ⟨rfl,hb⟩;exact (A _ _ (H.k.call hb) rfl trivial)
 ·exact Jj 1 rfl rfl rfl rfl
 ·intro D B C H _ _ A;refine wgt rfl rfl rfl (H.d 2 rfl rfl) (λ qg=>A _ _ H.k (XD qg).symm trivial) λ qg=>?_;simp [go_sem,H.f.g rfl s3,(b4.k0 H.k).cell];exact (A _ _ H.k (XM qg).symm trivial)
 ·intro D B C H _ _ A;refine wgt rfl rfl rfl (H.d 2 rfl rfl) (λ qg=>A _ _ H.k (XD qg).symm trivial) λ qg=>?_;simp [go_sem,(show B.tmps[8]?.getD undef=_ from (H.d 3 rfl rfl).trans (XM qg))];refine (Ka u C hu).mono ?_;rintro x wx ⟨rfl,hb⟩;exact (A _ _ (H.k.call hb) (XM qg).symm trivial)
 ·exact λ D B C H _ _ A=>Jd rfl (ev (H.d 2 rfl rfl)) (λ h=>(ev ((H.d 4 rfl rfl).trans (XM h))).trans (vand_t h)) (λ h=>vand_f h) (A _ _ H.k rfl trivial)
 ·exact Jj 5 rfl rfl rfl rfl
 ·intro D B C H _ _ A;refine wgt rfl rfl rfl (H.d 6 rfl rfl) (λ qg=>A _ _ H.k (XD qg).symm trivial) λ qg=>?_;simp [go_sem,H.f.g rfl s2];exact (A _ _ H.k (XM qg).symm trivial)
 ·intro D B C H _ _ A;refine wgt rfl rfl rfl (H.d 6 rfl rfl) (λ qg=>A _ _ H.k (XD qg).symm trivial) λ qg=>?_;simp [go_sem,(show B.tmps[12]?.getD undef=_ from (H.d 7 rfl rfl).trans (XM qg)),(b3.k0 H.k).cell];exact (A _ _ H.k (XM qg).symm trivial)
 ·intro D B C H _ _ A;refine wgt rfl rfl rfl (H.d 6 rfl rfl) (λ qg=>A _ _ H.k (XD qg).symm trivial) λ qg=>?_;simp [go_sem,H.f.g rfl s3,(b4.k0 H.k).cell];exact (A _ _ H.k (XM qg).symm trivial)
 ·intro D B C H _ _ A;refine wgt rfl rfl rfl (H.d 6 rfl rfl) (λ qg=>A _ _ H.k (XD qg).symm trivial) λ qg=>?_;simp [go_sem,(show B.tmps[13]?.getD undef=_ from (H.d 8 rfl rfl).trans (XM qg)),(show B.tmps[14]?.getD undef=_ from (H.d 9 rfl rfl).trans (XM qg))];refine (JW v.low u C hv.1 hu).mono ?_;rintro x wx ⟨rfl,hb⟩;exact (A _ _ (H.k.call hb) (XM qg).symm trivial)
 ·intro D B C H _ _ A;refine wgt rfl rfl rfl (H.d 6 rfl rfl) (λ qg=>A _ _ H.k (XD qg).symm trivial) λ qg=>?_;exact Yc rfl (ev ((H.d 10 rfl rfl).trans (XM qg))) rfl rfl rfl (A _ _ H.k (XM qg).symm trivial)
 ·exact λ D B C H _ _ A=>Jd rfl (ev (H.d 6 rfl rfl)) (λ h=>(ev ((H.d 11 rfl rfl).trans (XM h))).trans (vand_t h)) (λ h=>vand_f h) (A _ _ H.k rfl trivial)
 ·exact Jj 12 rfl rfl rfl rfl
 ·intro D B C H _ _ A;refine wgt rfl rfl rfl (H.d 13 rfl rfl) (λ qg=>A _ _ H.k (XD qg).symm trivial) λ qg=>?_;simp [go_sem,H.f.g rfl s3,(b4.k0 H.k).cell];exact (A _ _ H.k (XM qg).symm trivial)
 ·intro D B C H _ _ A;refine wgt rfl rfl rfl (H.d 13 rfl rfl) (λ qg=>A _ _ H.k (XD qg).symm trivial) λ qg=>?_;simp [go_sem,H.f.g rfl s2];exact (A _ _ H.k (XM qg).symm trivial)
 ·intro D B C H _ _ A;refine wgt rfl rfl rfl (H.d 13 rfl rfl) (λ qg=>A _ _ H.k (XD qg).symm trivial) λ qg=>?_;simp [go_sem,(show B.tmps[20]?.getD undef=_ from (H.d 15 rfl rfl).trans (XM qg)),(b3.k0 H.k).cell];exact (A _ _ H.k (XM qg).symm trivial)
 ·intro D B C H _ _ A;refine wgt rfl rfl rfl (H.d 13 rfl rfl) (λ qg=>A _ _ H.k (XD qg).symm trivial) λ qg=>?_;simp [go_sem,(show B.tmps[19]?.getD undef=_ from (H.d 14 rfl rfl).trans (XM qg)),(show B.tmps[21]?.getD undef=_ from (H.d 16 rfl rfl).trans (XM qg))];refine (JW u v.high C hu hv.2).mono ?_;rintro x wx ⟨rfl,hb⟩;exact (A _ _ (H.k.call hb) (XM qg).symm trivial)
 ·intro D B C H _ _ A;refine wgt rfl rfl rfl (H.d 13 rfl rfl) (λ qg=>A _ _ H.k (XD qg).symm trivial) λ qg=>?_;exact Yc rfl (ev ((H.d 17 rfl rfl).trans (XM qg))) rfl rfl rfl (A _ _ H.k (XM qg).symm trivial)
 ·exact λ D B C H _ _ A=>Jd rfl (ev (H.d 13 rfl rfl)) (λ h=>(ev ((H.d 18 rfl rfl).trans (XM h))).trans (vand_t h)) (λ h=>vand_f h) (A _ _ H.k rfl trivial)
 ·exact Kd 19 rfl rfl rfl rfl
 intro L a5 w6 P F O J R;replace I:=F.Z I;replace G:=F.E G;have s4:=gS a5 4 (J 20 _ rfl);replace M:=Nat.le_trans M O.size;replace K:=O.below0 K;clear F O J P R s2 s3 b3 b4;refine Xj (wp_ret ?_);refine bodyPost_ret (v:=.bool (((Xu v&&Xq u)&&decide (Xp v.low u<=0))&&decide (Xp u v.high<=0))) (by simp [results,Tryz.results124,go_sem,s4]) G ?_;exact ⟨by unfold Jv;rfl,K⟩
end Go.Proofs.YtkjimfapbjdafaaGreat
