/-
 How the law's arguments read: structs of ints, slices of them; and the frame of a law that changes nothing that was there.
 Conditions: none.
-/
import Derived.ProofKit
import Derived.OpenShut
import Derived.ChangeOld
import Derived.Below
import Derived.Test.YtkjimfapbjdafaaGreatGrAQb
set_option maxRecDepth 100000
namespace Go.Proofs.YtkjimfapbjdafaaGreat
open Go.RowKit Go.ChangeShapes Go.WideShapes Go.ChangeAt Go.Deep
section
variable {H:Type} {enc:TypeId × Value->H} {P:Program} {w:World} {base:Nat} {spare:Nat->Bool} {held:Bool}
theorem open_agg_ints {r:Reach} {b0:Nat} {t:TypeId} {fs:Array Field} {v:Value} {d:DataW H} {p:List MemPlace} (he:P.underlying t=some (.struct fs)) (hone:oneCellFields P fs=true) (hC:P.cellsOf t=fs.size)
 (hint:allInts P fs=true) (hv:Value.okWide P w r b0 t v) (h:DataW.Trod enc P w base spare held t v d p) :
 ∃ ns:List Int,ns.length=fs.size/\(∀ n∈ns,Zv n)/\v=.agg (intsC ns).toArray:=by
 obtain ⟨cs,rfl,YT⟩:=okWide_struct he hv;obtain ⟨fuel,hf⟩:=h;obtain ⟨ns,h1,h2,h3⟩:=open_ints_cells he hone hC hint hf;exact ⟨ns,h1,h2,by rw [<- h3];simp [Value.cells]⟩
end
theorem openSpot {H:Type} {enc:TypeId × Value->H} {W:World} {base b0:Nat} {spare:Nat->Bool} {held:Bool} {r:Reach} {v:Value} {d:DataW H} {p:List MemPlace}
 (hv:Value.okWide Tryz.prog W r b0 30 v) (h:DataW.Trod enc Tryz.prog W base spare held 30 v d p):∃ x:Ya,x.In/\v=Yj x:=by
 obtain ⟨ns,hl,hin,rfl⟩:=open_agg_ints Tryz.underlying30 (by kernel_rfl) (by kernel_rfl) (by kernel_rfl) hv h;refine ⟨mkSpot ns,mkSpot_In hl hin, ?_⟩;match ns,hl with
 | [a,b,c],_=>rfl
end Go.Proofs.YtkjimfapbjdafaaGreat
namespace Go.Proofs.YtkjimfapbjdafaaGreat
open Go.RowKit
theorem admAt_ok {r:X3} {p:List Half} {s:Ya} {v:ZP} (h:XL r p s=some v):Yg v=true:=by
 unfold XL at h;split at h
 ·exact admit_spanOk h
 ·cases h
def JE (w:ZP) (u:YA):Bool:=Yg w&&Xr u&&decide (XC w.low u<=0)&&decide (XC u w.high<=0)
section
variable {v:ZP} {wish:Int} (h:Yg v=true)
include h
end
set_option maxHeartbeats 3000000 in
theorem sInSpan_c (v:ZP) (u:YA) (w:World) (hv:v.In) (hu:u.In) :
 Calls Tryz.prog 120 #[Y9 v,X7 u] w λ x w'=>x=.returned (.bool (JE v u))/\Below w.heap.size w w':=by
 refine YF Tryz.func120 rfl (n:=25) Tryz.ntmps120 (by simp) ?_;intro a0 I G ha;have s0:a0.tmps[0]?.getD undef=Y9 v:=ha 0 _ rfl;have s1:a0.tmps[1]?.getD undef=X7 u:=ha 1 _ rfl;clear ha;have K:=Below.refl w.heap.size w;have M:=Nat.le_refl w.heap.size;refine wp_seq ?_;refine Ys [2,3,4] [.pointer (some ⟨w.heap.size,0,none⟩),.pointer (some ⟨(w.heap.size+1),0,none⟩),.bool false] [some (.cells [.int .i64 v.low.n,.int .i64 v.low.d,.int .i64 v.high.n,.int .i64 v.high.d].toArray 72),some (.cells [.int .i64 u.n,.int .i64 u.d].toArray 70),none] [0,1,2] [2,3,4] [0,1,2] (by kernel_rfl) (by rw [I];decide) (ec ?_ (ec ?_ (ec ?_ .nil))) ?_
 ·intro a w' F hs N Q A;simp [go_sem,F.g rfl s0];rw [hs];exact A
 ·intro a w' F hs N Q A;simp [go_sem,F.g rfl s1];rw [hs];exact A
 ·intro a w' F hs N Q A;simp [go_sem];exact A
 intro a1 w2 F J hb hO;replace I:=F.size.trans I;replace G:=F.defers.trans G;have s2:a1.tmps[2]?.getD undef=.pointer (some ⟨w.heap.size,0,none⟩):=J 0 (by decide);have s3:a1.tmps[3]?.getD undef=.pointer (some ⟨(w.heap.size+1),0,none⟩):=J 1 (by decide);have b3:Xy w2 w.heap.size 72 [.int .i64 v.low.n,.int .i64 v.low.d,.int .i64 v.high.n,.int .i64 v.high.d]:=hO 0 _ rfl;have b4:Xy w2 (w.heap.size+1) 70 [.int .i64 u.n,.int .i64 u.d]:=hO 1 _ rfl;have hG:=b4.lt;replace K:=Xn K hb;have zw2:=Nat.le_trans M hb.size;replace M:=Nat.le_refl w2.heap.size;clear F J hb hO s0 s1;refine Xg (wp_seq ?_);refine Xe (by kernel_rfl) [5,6,7,8,9,10,11,12,13,14,15,16,17,18,19,20,21,22,23,24,4] [some (Y9 v),some (.bool (Yg v)),some (.bool (Yg v)),some ((bif Yg v then (X7 u:Value) else undef)),some ((bif Yg v then (.bool (Xr u):Value) else undef)),some (.bool (Yg v&&Xr u)),some (.bool (Yg v&&Xr u)),some ((bif (Yg v&&Xr u) then (.pointer (some ⟨w.heap.size,0,none⟩):Value) else undef)),some ((bif (Yg v&&Xr u) then (.agg #[.int .i64 v.low.n,.int .i64 v.low.d]:Value) else undef)),some ((bif (Yg v&&Xr u) then (X7 u:Value) else undef)),some ((bif (Yg v&&Xr u) then (.int .i64 (XC v.low u):Value) else undef)),some ((bif (Yg v&&Xr u) then (.bool (decide (XC v.low u<=0)):Value) else undef)),some (.bool ((Yg v&&Xr u)&&decide (XC v.low u<=0))),some (.bool ((Yg v&&Xr u)&&decide (XC v.low u<=0))),some ((bif ((Yg v&&Xr u)&&decide (XC v.low u<=0)) then (X7 u:Value) else undef)),some ((bif ((Yg v&&Xr u)&&decide (XC v.low u<=0)) then (.pointer (some ⟨w.heap.size,2,none⟩):Value) else undef)),some ((bif ((Yg v&&Xr u)&&decide (XC v.low u<=0)) then (.agg #[.int .i64 v.high.n,.int .i64 v.high.d]:Value) else undef)),some ((bif ((Yg v&&Xr u)&&decide (XC v.low u<=0)) then (.int .i64 (XC u v.high):Value) else undef)),some ((bif ((Yg v&&Xr u)&&decide (XC v.low u<=0)) then (.bool (decide (XC u v.high<=0)):Value) else undef)),some (.bool (((Yg v&&Xr u)&&decide (XC v.low u<=0))&&decide (XC u v.high<=0))),some (.bool (((Yg v&&Xr u)&&decide (XC v.low u<=0))&&decide (XC u v.high<=0)))] (XR 21) [5,6,7,8,9,10,11,12,13,14,15,16,17,18,19,20,21,22,23,24,4] [0,1,2,3,4,5,6,7,8,9,10,11,12,13,14,15,16,17,18,19,20] [] (λ _ _ _=>True) (by kernel_rfl) (by rw [I];decide) ?_ (en rfl ?_ (en rfl ?_ (en rfl ?_ (eg ?_ (eg ?_ (en rfl ?_ (en rfl ?_ (eg ?_ (eg ?_ (eg ?_ (eg ?_ (eg ?_ (en rfl ?_ (en rfl ?_ (eg ?_ (eg ?_ (eg ?_ (eg ?_ (eg ?_ (en rfl ?_ (en rfl ?_ .nil))))))))))))))))))))) ?_
 ·exact λ _ _=>trivial
 ·intro D B C H _ _ A;simp [go_sem,H.f.g rfl s2,(b3.k0 H.k).cell];exact (A _ _ H.k rfl trivial)
 ·intro D B C H _ _ A;simp [go_sem,(gS B 5 (H.d 0 rfl rfl))];refine (sSpanOk_c v C hv).mono ?_;rintro x wx ⟨rfl,hb⟩;exact (A _ _ (H.k.call hb) rfl trivial)
 ·exact Zy 1 rfl rfl rfl rfl
 ·intro D B C H _ _ A;refine wgt rfl rfl rfl (H.d 2 rfl rfl) (λ qg=>A _ _ H.k (Xp qg).symm trivial) λ qg=>?_;simp [go_sem,H.f.g rfl s3,(b4.k0 H.k).cell];exact (A _ _ H.k (Xt qg).symm trivial)
 ·intro D B C H _ _ A;refine wgt rfl rfl rfl (H.d 2 rfl rfl) (λ qg=>A _ _ H.k (Xp qg).symm trivial) λ qg=>?_;simp [go_sem,(show B.tmps[8]?.getD undef=_ from (H.d 3 rfl rfl).trans (Xt qg))];refine (Z6 u C hu).mono ?_;rintro x wx ⟨rfl,hb⟩;exact (A _ _ (H.k.call hb) (Xt qg).symm trivial)
 ·exact λ D B C H _ _ A=>YY rfl (ev (H.d 2 rfl rfl)) (λ h=>(ev ((H.d 4 rfl rfl).trans (Xt h))).trans (JJ h)) (λ h=>JK h) (A _ _ H.k rfl trivial)
 ·exact Zy 5 rfl rfl rfl rfl
 ·intro D B C H _ _ A;refine wgt rfl rfl rfl (H.d 6 rfl rfl) (λ qg=>A _ _ H.k (Xp qg).symm trivial) λ qg=>?_;simp [go_sem,H.f.g rfl s2];exact (A _ _ H.k (Xt qg).symm trivial)
 ·intro D B C H _ _ A;refine wgt rfl rfl rfl (H.d 6 rfl rfl) (λ qg=>A _ _ H.k (Xp qg).symm trivial) λ qg=>?_;simp [go_sem,(show B.tmps[12]?.getD undef=_ from (H.d 7 rfl rfl).trans (Xt qg)),(b3.k0 H.k).cell];exact (A _ _ H.k (Xt qg).symm trivial)
 ·intro D B C H _ _ A;refine wgt rfl rfl rfl (H.d 6 rfl rfl) (λ qg=>A _ _ H.k (Xp qg).symm trivial) λ qg=>?_;simp [go_sem,H.f.g rfl s3,(b4.k0 H.k).cell];exact (A _ _ H.k (Xt qg).symm trivial)
 ·intro D B C H _ _ A;refine wgt rfl rfl rfl (H.d 6 rfl rfl) (λ qg=>A _ _ H.k (Xp qg).symm trivial) λ qg=>?_;simp [go_sem,(show B.tmps[13]?.getD undef=_ from (H.d 8 rfl rfl).trans (Xt qg)),(show B.tmps[14]?.getD undef=_ from (H.d 9 rfl rfl).trans (Xt qg))];refine (sRatioCmp_c v.low u C hv.1 hu).mono ?_;rintro x wx ⟨rfl,hb⟩;exact (A _ _ (H.k.call hb) (Xt qg).symm trivial)
 ·intro D B C H _ _ A;refine wgt rfl rfl rfl (H.d 6 rfl rfl) (λ qg=>A _ _ H.k (Xp qg).symm trivial) λ qg=>?_;exact Ye rfl (ev ((H.d 10 rfl rfl).trans (Xt qg))) rfl rfl rfl (A _ _ H.k (Xt qg).symm trivial)
 ·exact λ D B C H _ _ A=>YY rfl (ev (H.d 6 rfl rfl)) (λ h=>(ev ((H.d 11 rfl rfl).trans (Xt h))).trans (JJ h)) (λ h=>JK h) (A _ _ H.k rfl trivial)
 ·exact Zy 12 rfl rfl rfl rfl
 ·intro D B C H _ _ A;refine wgt rfl rfl rfl (H.d 13 rfl rfl) (λ qg=>A _ _ H.k (Xp qg).symm trivial) λ qg=>?_;simp [go_sem,H.f.g rfl s3,(b4.k0 H.k).cell];exact (A _ _ H.k (Xt qg).symm trivial)
 ·intro D B C H _ _ A;refine wgt rfl rfl rfl (H.d 13 rfl rfl) (λ qg=>A _ _ H.k (Xp qg).symm trivial) λ qg=>?_;simp [go_sem,H.f.g rfl s2];exact (A _ _ H.k (Xt qg).symm trivial)
 ·intro D B C H _ _ A;refine wgt rfl rfl rfl (H.d 13 rfl rfl) (λ qg=>A _ _ H.k (Xp qg).symm trivial) λ qg=>?_;simp [go_sem,(show B.tmps[20]?.getD undef=_ from (H.d 15 rfl rfl).trans (Xt qg)),(b3.k0 H.k).cell];exact (A _ _ H.k (Xt qg).symm trivial)
 ·intro D B C H _ _ A;refine wgt rfl rfl rfl (H.d 13 rfl rfl) (λ qg=>A _ _ H.k (Xp qg).symm trivial) λ qg=>?_;simp [go_sem,(show B.tmps[19]?.getD undef=_ from (H.d 14 rfl rfl).trans (Xt qg)),(show B.tmps[21]?.getD undef=_ from (H.d 16 rfl rfl).trans (Xt qg))];refine (sRatioCmp_c u v.high C hu hv.2).mono ?_;rintro x wx ⟨rfl,hb⟩;exact (A _ _ (H.k.call hb) (Xt qg).symm trivial)
 ·intro D B C H _ _ A;refine wgt rfl rfl rfl (H.d 13 rfl rfl) (λ qg=>A _ _ H.k (Xp qg).symm trivial) λ qg=>?_;exact Ye rfl (ev ((H.d 17 rfl rfl).trans (Xt qg))) rfl rfl rfl (A _ _ H.k (Xt qg).symm trivial)
 ·exact λ D B C H _ _ A=>YY rfl (ev (H.d 13 rfl rfl)) (λ h=>(ev ((H.d 18 rfl rfl).trans (Xt h))).trans (JJ h)) (λ h=>JK h) (A _ _ H.k rfl trivial)
 ·exact Kb 19 rfl rfl rfl rfl
 intro L a5 w6 P F O J R;replace I:=F.Z I;replace G:=F.E G;have s4:=gS a5 4 (J 20 _ rfl);replace M:=Nat.le_trans M O.size;replace K:=O.below0 K;clear F O J P R s2 s3 b3 b4;refine Xg (wp_ret ?_);refine bodyPost_ret (v:=.bool (((Yg v&&Xr u)&&decide (XC v.low u<=0))&&decide (XC u v.high<=0))) (by simp [results,Tryz.results120,go_sem,s4]) G ?_;exact ⟨by unfold JE;rfl,K⟩
end Go.Proofs.YtkjimfapbjdafaaGreat
