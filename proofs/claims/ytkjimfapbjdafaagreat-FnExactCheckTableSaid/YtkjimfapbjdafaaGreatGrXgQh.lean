/-
 Parts of the inputs that a region admits: of the program and of the reference.
 Conditions: valid rooms, half planes and states.
-/
import Derived.Test.YtkjimfapbjdafaaGreatV1
namespace Go.Proofs.YtkjimfapbjdafaaGreat
open Go.RowKit
variable {r:XT} {s:X0} {e:List Half} {k:Nat} {v:YY} {h:Half}
end Go.Proofs.YtkjimfapbjdafaaGreat
namespace Go.Proofs.YtkjimfapbjdafaaGreat
open Go.RowKit
theorem spanOk_r {s:YY} (h:Xu s=true):Xq s.low=true/\Xq s.high=true:=by
 simp only [Xu,Bool.and_eq_true] at h;exact ⟨h.1.1,h.1.2⟩
theorem JA {r:XT} {e:List Half} {s:X0} {c:YY} (h:XC r e s=some c):Xu c=true:=by
 unfold XC at h;split at h
 ·cases h
 ·cases q:admL r s e with
  | none=>rw [q] at h;cases h
  | some w =>
   rw [q] at h;simp only [Option.bind_some] at h;split at h
   ·cases h;assumption
   ·cases h
theorem span_In {s:YY} (h:Xu s=true):s.In:=⟨Ku (spanOk_r h).1,Ku (spanOk_r h).2⟩
theorem span0_In:Xd.In:=by
 have h:YC 0:=⟨by decide,by decide⟩;exact ⟨⟨h,h⟩,⟨h,h⟩⟩
theorem optIn {x:Option YY} (h:∀ v,x=some v->Xu v=true):(x.getD Xd).In:=by
 cases x with
 | none=>exact span0_In
 | some v=>exact span_In (h v rfl)
end Go.Proofs.YtkjimfapbjdafaaGreat
