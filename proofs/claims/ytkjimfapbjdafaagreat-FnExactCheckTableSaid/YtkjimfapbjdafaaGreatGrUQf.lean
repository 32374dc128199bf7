/-
 One rule for regions, in the text's order or in an order that is drawn: one obligation for each operation.
 Conditions: none.
-/
import Derived.Test.YtkjimfapbjdafaaGreatGrXgQh
namespace Go.Proofs.YtkjimfapbjdafaaGreat
open Go.RowKit
section
variable {W w w':World} {a:Act} {s T g g':Nat} {z:List Value} {b:Bool} {C:World->List Value->Prop} {k:Option Nat} {v:Value}
end
section
variable {P:Program} {o:Oper} {a:Act} {w:World} {N:Act->World->Prop} {Q:Exit->Act->World->Prop}
end
theorem vand_f {x y:Bool} (h:x=false):Value.bool false=.bool (x&&y):=by rw [h];rfl
theorem vand_t {x y:Bool} (h:x=true):Value.bool y=.bool (x&&y):=by rw [h];rfl
section
variable {K:Act->World->Prop} {Q:Exit->Act->World->Prop} {a:Act} {w:World} {i k:Nat}
end
theorem wgt {P:Program} {o oj:Oper} {ops:Array Oper} {a:Act} {w:World} {N:Act->World->Prop} {Q:Exit->Act->World->Prop} {R:Prop} {j s:Nat} {x:Bool} (hg:o.guard=some (j,true)) (hj:ops[j]? = some oj) (hd:oj.dst=some s) (hv:a.tmps[s]?.getD undef=.bool x) (hs:x=false->R) (h:x=true->o.wp P a w N Q):if Region.wanted o (yielded ops a.tmps)=true then o.wp P a w N Q else R:=by
 cases x
 ·exact wnt_n hg hj hd hv (by decide) (hs rfl)
 ·exact JR hg hj hd hv (h rfl)
theorem ratio_whole {n:Int} (h : -1000000000000000000<=n/\n<=1000000000000000000):XL n 1=⟨n,1⟩:=by
 obtain ⟨_,k,hk,e1,e2⟩:=YM (n:=n) (d:=1) h ⟨by omega,by omega⟩;have h1:k ∣ 1:=⟨_,e2⟩;have h2:k<=1:=Int.le_of_dvd (by omega) h1;have h3:k=1:=by omega
 subst h3;rw [Int.one_mul] at e1 e2;cases hq:XL n 1 with
 | mk a b=>rw [hq] at e1 e2;simp only at e1 e2;rw [e1,<- e2]
section
variable {v:YY} {wish:Int} (h:Xu v=true)
include h
end
theorem whIn {n:Int} (h : -1000000000000000000<=n/\n<=1000000000000000000):YO.In ⟨n,1⟩:=⟨⟨by simp only;omega,by simp only;omega⟩,⟨by simp,by simp⟩⟩
theorem sWhole_c (n:Int) (w:World) (h : -1000000000000000000<=n/\n<=1000000000000000000) :
 Calls Tryz.prog 121 #[.int .i64 n,.int .i64 1] w λ x w'=>x=.returned (X9 ⟨n,1⟩)/\Below w.heap.size w w':=by
 have:=JG n 1 w ⟨by omega,by omega⟩ ⟨by omega,by omega⟩;rw [ratio_whole h] at this;exact this
end Go.Proofs.YtkjimfapbjdafaaGreat
