/-
 The inputs that are admitted at a state: of the reference.
 Conditions: the slices hold at most 2^20 elements.
-/
import Derived.Test.YtabfdkpdppemaaaGreatGrXg
import Derived.Test.YtabfdkpdppemaaaGreatPtr
namespace Go.Proofs.YtabfdkpdppemaaaGreat
open Go.RowKit
theorem Jc (x:Option YT):Kh x=.tuple #[Kg (x.getD XC),.bool x.isSome]:=by cases x<;>rfl
section
variable {W w w':World} {a:Act} {s T T' g g':Nat} {z vs':List Value} {b:Bool} {C:World->List Value->Prop}
end
section
variable {w w':World} {base:Nat} {x:XH} {a:Y7}
theorem Yi.kpT {M:List Nat} (h:Yi w base x a) (k:Kp M w w') (hM:∀ m∈M,m<base):Yi w' base x a :=
 ⟨h.map.kp k (hi:=w.heap.size) (λ p hp=>(h.map.blk p hp).2) Xt (λ m hm=>.inl (hM m hm)),h.noise.kp k (hi:=w.heap.size) (λ p hp=>(h.noise.blk p hp).2) Xt (λ m hm=>.inl (hM m hm)),h.limits.kp k (hi:=w.heap.size) (λ p hp=>(h.limits.blk p hp).2) Xt (λ m hm=>.inl (hM m hm))⟩
end
end Go.Proofs.YtabfdkpdppemaaaGreat
