/-
 How the law's arguments read: structs of ints, slices of them; and the frame of a law that changes nothing that was there.
 Conditions: none.
-/
import Derived.ProofKit
import Derived.OpenShut
import Derived.ChangeOld
import Derived.Below
import Derived.Test.YtkjimfapbjdafaaGreatGrNQc
import Derived.Test.YtkjimfapbjdafaaGreatV1
namespace Go.Proofs.YtkjimfapbjdafaaGreat
open Go.RowKit Go.ChangeShapes Go.WideShapes Go.ChangeAt Go.Deep
section
variable {H:Type} {enc:TypeId × Value->H} {P:Program} {w:World} {base:Nat} {spare:Nat->Bool} {held:Bool}
end
theorem open_cells1 {H:Type} {enc:TypeId × Value->H} {P:Program} {w:World} {base:Nat} {spare:Nat->Bool} {held:Bool} {r:Reach} {b0:Nat} {t:TypeId} {fs:Array Field} {v:Value} {d:DataW H} {p:List MemPlace}
 (he:P.underlying t=some (.struct fs)) (hone:oneCellFields P fs=true) (hC:P.cellsOf t=fs.size) (hv:Value.okWide P w r b0 t v) (h:DataW.Trod enc P w base spare held t v d p) :
 ∃ cs:List Value,cs.length=fs.size/\v=.agg cs.toArray/\∀ (j:Nat) (f:Field),fs[j]? = some f->∃ c y n,cs[j]? = some c/\DataW.trod enc P w base spare held n f.type [c]=some y:=by
 obtain ⟨cs,rfl,Ym⟩:=okWide_struct he hv;obtain ⟨fuel,hf⟩:=h;obtain ⟨ys,n',_,_,hlen,hyl,hf⟩:=DataW.trod_struct he hf;rw [hC] at hlen;refine ⟨cs.toList,by simpa [Value.cells] using hlen,by simp,λ j f hj=>?_⟩;have hjl:j<fs.size:=(Array.getElem?_eq_some_iff.1 hj).1;obtain ⟨ho,hk⟩:=hone_of hone j f hj;have h1:=hf j f hj;simp only [Value.cells] at h1 hlen;rw [ho,hk] at h1;have e1:(cs.toList.drop j).take 1=[cs.toList[j]'(by omega)]:=by
  rw [List.drop_eq_getElem_cons (by omega)];rfl
 rw [e1,List.getElem?_eq_getElem (by omega)] at h1;exact ⟨_,_,_,List.getElem?_eq_getElem (by omega),h1⟩
set_option maxRecDepth 100000 in
theorem openTab {H:Type} {enc:TypeId × Value->H} {W:World} {base b0:Nat} {spare:Nat->Bool} {held:Bool} {r:Reach} {v:Value} {d:DataW H} {p:List MemPlace}
 (hv:Value.okWide Tryz.prog W r b0 67 v) (h:DataW.Trod enc Tryz.prog W base spare held 67 v d p) :
 ∃ (t:Jp) (A:Option Addr) (cap:Nat),t.In/\v=tabV t A cap/\t.cells.length<=9223372036854775807/\(∀ n∈t.cells,YC n)/\Sl 1 YQ W A t.cells:=by
 obtain ⟨cs,hl,rfl,hf⟩:=open_cells1 Tryz.underlying67 (by kernel_rfl) (by kernel_rfl) hv h;match cs,hl with
 | [c0,c1,c2,c3,c4,c5],_ =>
  have hI:∀ (j:Nat) (f:Field) (c:Value),[c0,c1,c2,c3,c4,c5][j]? = some c->(∃ c' y n,[c0,c1,c2,c3,c4,c5][j]? = some c'/\DataW.trod enc Tryz.prog W base spare held n f.type [c']=some y)->∃ y n,DataW.trod enc Tryz.prog W base spare held n f.type [c]=some y:=by
   intro j f c hc ⟨c',y,n,h1,h2⟩;rw [hc] at h1;injection h1 with h1
   subst h1;exact ⟨y,n,h2⟩
  obtain ⟨y0,n0,t0⟩:=hI 0 _ c0 rfl (hf 0 _ rfl);obtain ⟨y1,n1,t1⟩:=hI 1 _ c1 rfl (hf 1 _ rfl);obtain ⟨y2,n2,t2⟩:=hI 2 _ c2 rfl (hf 2 _ rfl);obtain ⟨y3,n3,t3⟩:=hI 3 _ c3 rfl (hf 3 _ rfl);obtain ⟨y4,n4,t4⟩:=hI 4 _ c4 rfl (hf 4 _ rfl);obtain ⟨y5,n5,t5⟩:=hI 5 _ c5 rfl (hf 5 _ rfl);obtain ⟨a0,e0,_,w0⟩:=DataW.trod_int Tryz.underlying3 t0;obtain ⟨a1,e1,_,w1⟩:=DataW.trod_int Tryz.underlying3 t1;obtain ⟨a2,e2,_,w2⟩:=DataW.trod_int Tryz.underlying3 t2;obtain ⟨a3,e3,_,w3⟩:=DataW.trod_int Tryz.underlying3 t3;obtain ⟨a4,e4,_,w4⟩:=DataW.trod_int Tryz.underlying3 t4;obtain ⟨A,cap,xs,e5,hx,hin,hs⟩:=open_intS Tryz.underlying22 Tryz.underlying3 (by kernel_rfl) t5;simp only [List.cons.injEq,and_true] at e0 e1 e2 e3 e4 e5;subst e0 e1 e2 e3 e4 e5;exact ⟨⟨a0,a1,a2,a3,a4,xs⟩,A,cap,⟨ZU w0,ZU w1,ZU w2,ZU w3,ZU w4⟩,rfl,hx,hin,hs⟩
end Go.Proofs.YtkjimfapbjdafaaGreat
