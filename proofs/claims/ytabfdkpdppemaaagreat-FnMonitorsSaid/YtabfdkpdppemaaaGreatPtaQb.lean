/-
 The inputs that are admitted at a state, as fractions; whole boxes of states; the region before a step.
 Conditions: valid rooms, regions and states.
-/
import Derived.Test.YtabfdkpdppemaaaGreatGrXbQb
namespace Go.Proofs.YtabfdkpdppemaaaGreat
open Go.RowKit
theorem inSpan_iff {w:Zg} {u:X5} (hw:X6 w=true) (hu:Xe u=true):Ja w u=true ↔ Btw w u.n u.d:=by
 have h2:=spanOk_r hw;unfold Ja Btw;rw [hw,hu];simp only [Bool.true_and,Bool.and_eq_true,decide_eq_true_eq];rw [cmp_le h2.1 hu,cmp_le hu h2.2]
theorem admAt_span {r:XK} {p:List Half}:∀ t v,XH r p t=some v->X6 v=true:=λ _ _ h=>JV (admAt_parts h).2.2
set_option maxRecDepth 100000 in
set_option maxHeartbeats 3000000 in
theorem iInSpan_c (v:Zg) (u:X5) (w:World) (hv:v.In) (hu:u.In) :
 Calls Tryz.prog 26 #[Zm v,XO u] w λ x w'=>x=.returned (.bool (Ja v u))/\Below w.heap.size w w':=by
 refine Yw Tryz.func26 rfl (n:=25) Tryz.ntmps26 (by simp) ?_;intro a0 K G ha;have s0:a0.tmps[0]?.getD undef=Zm v:=ha 0 _ rfl;have s1:a0.tmps[1]?.getD undef=XO u:=ha 1 _ rfl;clear ha;have J:=Below.refl w.heap.size w;have M:=Nat.le_refl w.heap.size;refine wp_seq ?_;refine Yp [2,3,4] [.pointer (some ⟨w.heap.size,0,none⟩),.pointer (some ⟨(w.heap.size+1),0,none⟩),.bool false] [some (.cells [.int .i64 v.low.n,.int .i64 v.low.d,.int .i64 v.high.n,.int .i64 v.high.d].toArray 49),some (.cells [.int .i64 u.n,.int .i64 u.d].toArray 36),none] [0,1,2] [2,3,4] [0,1,2] (by kernel_rfl) (by rw [K];decide) (ec ?_ (ec ?_ (ec ?_ .nil))) ?_
 ·intro a w' F hs N Q A;simp [go_sem,F.g rfl s0];rw [hs];exact A
 ·intro a w' F hs N Q A;simp [go_sem,F.g rfl s1];rw [hs];exact A
 ·intro a w' F hs N Q A;simp [go_sem];exact A
 intro a1 w2 F I hb hO;replace K:=F.size.trans K;replace G:=F.defers.trans G;have s2:a1.tmps[2]?.getD undef=.pointer (some ⟨w.heap.size,0,none⟩):=I 0 (by decide);have s3:a1.tmps[3]?.getD undef=.pointer (some ⟨(w.heap.size+1),0,none⟩):=I 1 (by decide);have b3:Xx w2 w.heap.size 49 [.int .i64 v.low.n,.int .i64 v.low.d,.int .i64 v.high.n,.int .i64 v.high.d]:=hO 0 _ rfl;have b4:Xx w2 (w.heap.size+1) 36 [.int .i64 u.n,.int .i64 u.d]:=hO 1 _ rfl;have hG:=b4.lt;replace J:=Xf J hb;have zw2:=Nat.le_trans M hb.size;replace M:=Nat.le_refl w2.heap.size;clear F I hb hO s0 s1;refine Xk (wp_seq ?_);refine Xj [5,6,7,8,9,10,11,12,13,14,15,16,17,18,19,20,21,22,23,24,4] [some (Zm v),some (.bool (X6 v)),some (.bool (X6 v)),some ((bif X6 v then (XO u:Value) else undef)),some ((bif X6 v then (.bool (Xe u):Value) else undef)),some (.bool (X6 v&&Xe u)),some (.bool (X6 v&&Xe u)),some ((bif (X6 v&&Xe u) then (.pointer (some ⟨w.heap.size,0,none⟩):Value) else undef)),some ((bif (X6 v&&Xe u) then (.agg #[.int .i64 v.low.n,.int .i64 v.low.d]:Value) else undef)),some ((bif (X6 v&&Xe u) then (XO u:Value) else undef)),some ((bif (X6 v&&Xe u) then (.int .i64 (Xu v.low u):Value) else undef)),some ((bif (X6 v&&Xe u) then (.bool (decide (Xu v.low u<=0)):Value) else undef)),some (.bool ((X6 v&&Xe u)&&decide (Xu v.low u<=0))),some (.bool ((X6 v&&Xe u)&&decide (Xu v.low u<=0))),some ((bif ((X6 v&&Xe u)&&decide (Xu v.low u<=0)) then (XO u:Value) else undef)),some ((bif ((X6 v&&Xe u)&&decide (Xu v.low u<=0)) then (.pointer (some ⟨w.heap.size,2,none⟩):Value) else undef)),some ((bif ((X6 v&&Xe u)&&decide (Xu v.low u<=0)) then (.agg #[.int .i64 v.high.n,.int .i64 v.high.d]:Value) else undef)),some ((bif ((X6 v&&Xe u)&&decide (Xu v.low u<=0)) then (.int .i64 (Xu u v.high):Value) else undef)),some ((bif ((X6 v&&Xe u)&&decide (Xu v.low u<=0)) then (.bool (decide (Xu u v.high<=0)):Value) else undef)),some (.bool (((X6 v&&Xe u)&&decide (Xu v.low u<=0))&&decide (Xu u v.high<=0))),some (.bool (((X6 v&&Xe u)&&decide (Xu v.low u<=0))&&decide (Xu u v.high<=0)))] (Yb 21) [5,6,7,8,9,10,11,12,13,14,15,16,17,18,19,20,21,22,23,24,4] [] (λ _ _ _=>True) ?_ (e2 ?_ ?_ (en rfl ?_ (eg ?_ (eg ?_ (e2 ?_ ?_ (eg ?_ (eg ?_ (eg ?_ (eg ?_ (eg ?_ (e2 ?_ ?_ (eg ?_ (eg ?_ (eg ?_ (eg ?_ (eg ?_ (e2 ?_ ?_ .nil))))))))))))))))) ?_
 ·exact λ _ _=>trivial
 ·intro D B C H _ _ A;simp [go_sem,H.f.g rfl s2,(b3.k0 H.k).cell];exact (A _ _ H.k rfl trivial)
 ·intro D B C H _ _ A;simp [go_sem,(gS B 5 (H.d 0 rfl rfl))];refine (iSpanOk_c v C hv).mono ?_;rintro x wx ⟨rfl,hb⟩;exact (A _ _ (H.k.call hb) rfl trivial)
 ·exact YA 1 rfl rfl rfl rfl
 ·intro D B C H _ _ A;refine Ji rfl rfl rfl (H.d 2 rfl rfl) (λ qg=>A _ _ H.k (XC qg).symm trivial) λ qg=>?_;simp [go_sem,H.f.g rfl s3,(b4.k0 H.k).cell];exact (A _ _ H.k (Xr qg).symm trivial)
 ·intro D B C H _ _ A;refine Ji rfl rfl rfl (H.d 2 rfl rfl) (λ qg=>A _ _ H.k (XC qg).symm trivial) λ qg=>?_;simp [go_sem,(show B.tmps[8]?.getD undef=_ from (H.d 3 rfl rfl).trans (Xr qg))];refine (Z3 u C hu).mono ?_;rintro x wx ⟨rfl,hb⟩;exact (A _ _ (H.k.call hb) (Xr qg).symm trivial)
 ·exact λ D B C H _ _ A=>XN rfl (ev (H.d 2 rfl rfl)) (λ h=>(ev ((H.d 4 rfl rfl).trans (Xr h))).trans (Jr h)) (λ h=>Js h) (A _ _ H.k rfl trivial)
 ·exact YA 5 rfl rfl rfl rfl
 ·intro D B C H _ _ A;refine Ji rfl rfl rfl (H.d 6 rfl rfl) (λ qg=>A _ _ H.k (XC qg).symm trivial) λ qg=>?_;simp [go_sem,H.f.g rfl s2];exact (A _ _ H.k (Xr qg).symm trivial)
 ·intro D B C H _ _ A;refine Ji rfl rfl rfl (H.d 6 rfl rfl) (λ qg=>A _ _ H.k (XC qg).symm trivial) λ qg=>?_;simp [go_sem,(show B.tmps[12]?.getD undef=_ from (H.d 7 rfl rfl).trans (Xr qg)),(b3.k0 H.k).cell];exact (A _ _ H.k (Xr qg).symm trivial)
 ·intro D B C H _ _ A;refine Ji rfl rfl rfl (H.d 6 rfl rfl) (λ qg=>A _ _ H.k (XC qg).symm trivial) λ qg=>?_;simp [go_sem,H.f.g rfl s3,(b4.k0 H.k).cell];exact (A _ _ H.k (Xr qg).symm trivial)
 ·intro D B C H _ _ A;refine Ji rfl rfl rfl (H.d 6 rfl rfl) (λ qg=>A _ _ H.k (XC qg).symm trivial) λ qg=>?_;simp [go_sem,(show B.tmps[13]?.getD undef=_ from (H.d 8 rfl rfl).trans (Xr qg)),(show B.tmps[14]?.getD undef=_ from (H.d 9 rfl rfl).trans (Xr qg))];refine (Z8 v.low u C hv.1 hu).mono ?_;rintro x wx ⟨rfl,hb⟩;exact (A _ _ (H.k.call hb) (Xr qg).symm trivial)
 ·intro D B C H _ _ A;refine Ji rfl rfl rfl (H.d 6 rfl rfl) (λ qg=>A _ _ H.k (XC qg).symm trivial) λ qg=>?_;exact X8 rfl (ev ((H.d 10 rfl rfl).trans (Xr qg))) rfl rfl rfl (A _ _ H.k (Xr qg).symm trivial)
 ·exact λ D B C H _ _ A=>XN rfl (ev (H.d 6 rfl rfl)) (λ h=>(ev ((H.d 11 rfl rfl).trans (Xr h))).trans (Jr h)) (λ h=>Js h) (A _ _ H.k rfl trivial)
 ·exact YA 12 rfl rfl rfl rfl
 ·intro D B C H _ _ A;refine Ji rfl rfl rfl (H.d 13 rfl rfl) (λ qg=>A _ _ H.k (XC qg).symm trivial) λ qg=>?_;simp [go_sem,H.f.g rfl s3,(b4.k0 H.k).cell];exact (A _ _ H.k (Xr qg).symm trivial)
 ·intro D B C H _ _ A;refine Ji rfl rfl rfl (H.d 13 rfl rfl) (λ qg=>A _ _ H.k (XC qg).symm trivial) λ qg=>?_;simp [go_sem,H.f.g rfl s2];exact (A _ _ H.k (Xr qg).symm trivial)
 ·intro D B C H _ _ A;refine Ji rfl rfl rfl (H.d 13 rfl rfl) (λ qg=>A _ _ H.k (XC qg).symm trivial) λ qg=>?_;simp [go_sem,(show B.tmps[20]?.getD undef=_ from (H.d 15 rfl rfl).trans (Xr qg)),(b3.k0 H.k).cell];exact (A _ _ H.k (Xr qg).symm trivial)
 ·intro D B C H _ _ A;refine Ji rfl rfl rfl (H.d 13 rfl rfl) (λ qg=>A _ _ H.k (XC qg).symm trivial) λ qg=>?_;simp [go_sem,(show B.tmps[19]?.getD undef=_ from (H.d 14 rfl rfl).trans (Xr qg)),(show B.tmps[21]?.getD undef=_ from (H.d 16 rfl rfl).trans (Xr qg))];refine (Z8 u v.high C hu hv.2).mono ?_;rintro x wx ⟨rfl,hb⟩;exact (A _ _ (H.k.call hb) (Xr qg).symm trivial)
 ·intro D B C H _ _ A;refine Ji rfl rfl rfl (H.d 13 rfl rfl) (λ qg=>A _ _ H.k (XC qg).symm trivial) λ qg=>?_;exact X8 rfl (ev ((H.d 17 rfl rfl).trans (Xr qg))) rfl rfl rfl (A _ _ H.k (Xr qg).symm trivial)
 ·exact λ D B C H _ _ A=>XN rfl (ev (H.d 13 rfl rfl)) (λ h=>(ev ((H.d 18 rfl rfl).trans (Xr h))).trans (Jr h)) (λ h=>Js h) (A _ _ H.k rfl trivial)
 ·exact ZT 19 rfl rfl rfl rfl
 intro L a5 w6 P F O I R;replace K:=F.Z K;replace G:=F.E G;have s4:=gS a5 4 (I 20 _ rfl);replace M:=Nat.le_trans M O.size;replace J:=O.below0 J;clear F O I P R s2 s3 b3 b4;refine Xk (wp_ret ?_);refine bodyPost_ret (v:=.bool (((X6 v&&Xe u)&&decide (Xu v.low u<=0))&&decide (Xu u v.high<=0))) (by simp [results,Tryz.results26,go_sem,s4]) G ?_;exact ⟨by unfold Ja;rfl,J⟩
end Go.Proofs.YtabfdkpdppemaaaGreat
