/-
 How the law's arguments read: structs of ints, slices of them; and the frame of a law that changes nothing that was there.
 Conditions: none.
-/
import Derived.ProofKit
import Derived.OpenShut
import Derived.ChangeOld
import Derived.Below
import Derived.Test.YtkjimfapbjdafaaGreatGrAQa
import Derived.Test.YtkjimfapbjdafaaGreatV1
set_option maxRecDepth 100000
namespace Go.Proofs.YtkjimfapbjdafaaGreat
open Go.RowKit Go.ChangeShapes Go.WideShapes Go.ChangeAt Go.Deep
section
variable {H:Type} {enc:TypeId × Value->H} {P:Program} {w:World} {base:Nat} {spare:Nat->Bool} {held:Bool}
theorem open_agg_ints {r:Reach} {b0:Nat} {t:TypeId} {fs:Array Field} {v:Value} {d:DataW H} {p:List MemPlace} (he:P.underlying t=some (.struct fs)) (hone:oneCellFields P fs=true) (hC:P.cellsOf t=fs.size)
 (hint:allInts P fs=true) (hv:Value.okWide P w r b0 t v) (h:DataW.Trod enc P w base spare held t v d p) :
 ∃ ns:List Int,ns.length=fs.size/\(∀ n∈ns,YC n)/\v=.agg (intsC ns).toArray:=by
 obtain ⟨cs,rfl,Ym⟩:=okWide_struct he hv;obtain ⟨fuel,hf⟩:=h;obtain ⟨ns,h1,h2,h3⟩:=J6 he hone hC hint hf;exact ⟨ns,h1,h2,by rw [<- h3];simp [Value.cells]⟩
end
theorem openSpot {H:Type} {enc:TypeId × Value->H} {W:World} {base b0:Nat} {spare:Nat->Bool} {held:Bool} {r:Reach} {v:Value} {d:DataW H} {p:List MemPlace}
 (hv:Value.okWide Tryz.prog W r b0 30 v) (h:DataW.Trod enc Tryz.prog W base spare held 30 v d p):∃ x:X0,x.In/\v=YD x:=by
 obtain ⟨ns,hl,hin,rfl⟩:=open_agg_ints Tryz.underlying30 (by kernel_rfl) (by kernel_rfl) (by kernel_rfl) hv h;refine ⟨mkSpot ns,mkSpot_In hl hin, ?_⟩;match ns,hl with
 | [a,b,c],_=>rfl
theorem openModeS {H:Type} {enc:TypeId × Value->H} {W:World} {base:Nat} {spare:Nat->Bool} {held:Bool} {fuel:Nat} {cs:List Value} {x:DataW H × List MemPlace}
 (h:DataW.trod enc Tryz.prog W base spare held fuel 28 cs=some x) :
 ∃ A cap xs,cs=[.slice A (List.length xs) cap]/\xs.length<=9223372036854775807/\(∀ x∈xs,ZP.In x)/\Sl 2 ZD W A xs:=by
 obtain ⟨A,n,cap,hcs,hn,rows,hl,hr,hs⟩:=J5 (k:=2) Tryz.underlying28 (by kernel_rfl)
  (λ n cs' x' h'=>J6 Tryz.underlying136 (by kernel_rfl) (by kernel_rfl) (by kernel_rfl) h') (by omega) h
 refine ⟨A,cap,rows.map mkMode, ?_,by simp;omega, ?_,hs.map mkMode λ x hx=>mkMode_C (hr x hx).1⟩
 ·simp [hcs,hl]
 ·intro x hx;simp only [List.mem_map] at hx;obtain ⟨r,hr',rfl⟩:=hx;exact mkMode_In (hr r hr').1 (hr r hr').2
theorem openModeSV {H:Type} {enc:TypeId × Value->H} {W:World} {base b0:Nat} {spare:Nat->Bool} {held:Bool} {r:Reach} {v:Value} {d:DataW H} {p:List MemPlace}
 (hv:Value.okWide Tryz.prog W r b0 28 v) (h:DataW.Trod enc Tryz.prog W base spare held 28 v d p) :
 ∃ A cap,∃ xs:List ZP,v=.slice A xs.length cap/\xs.length<=9223372036854775807/\(∀ y∈xs,ZP.In y)/\Sl 2 ZD W A xs:=by
 obtain ⟨a0,len,cap,rfl⟩:=okWide_slice Tryz.underlying28 hv;obtain ⟨fuel,hf⟩:=h;obtain ⟨A,cap',xs,e1,h1,h2,h3⟩:=openModeS hf;simp only [Value.cells,List.cons.injEq,and_true] at e1;exact ⟨A,cap',xs,e1,h1,h2,h3⟩
end Go.Proofs.YtkjimfapbjdafaaGreat
