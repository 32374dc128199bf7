/-
 Whether a region is kept in one step: of the program.
 Conditions: the slices hold at most 2^20 elements.
-/
import Derived.Test.YtdncnhcffbgjhaaGreatPre
import Derived.Test.YtdncnhcffbgjhaaGreatGrXa
section
namespace Go.Proofs.YtdncnhcffbgjhaaGreat
open Go.RowKit
structure RoomR (r:Room):Prop where
 noise:regionOk r.noise=true
 nne:r.noise≠[]
 limits:regionOk r.limits=true
 lne:r.limits≠[]
theorem roomR {r:Room} (h:roomOk r=true):RoomR r:=by
 simp only [roomOk,Bool.and_eq_true] at h
 obtain ⟨⟨⟨⟨_,h1⟩,h2⟩,h3⟩,h4⟩:=h
 refine ⟨h3,fun e=>?_,h4,fun e=>?_⟩
 ·rw [e] at h1;cases h1
 ·rw [e] at h2;cases h2
def keptB (r:Room) (p:List Half):Bool:=!(!(roomOk r) || !(regionOk p) || !(withinB p r.limits))&&(preOk r p&&withinB p (preR r p))
theorem preR_ok (r:Room) (p:List Half):regionOk (preR r p)=true:=by
 unfold preR
 split
 ·exact movR_ok (fun _ _ _ e=>pulH_ok e)
 ·rfl
end Go.Proofs.YtdncnhcffbgjhaaGreat
end
section
namespace Go.Proofs.YtdncnhcffbgjhaaGreat
open Go.RowKit
def logB (l:List Int):Bool:=l.all fun x=>inR x 1 3
def watchB (r:Room) (p:List Half) (l:List Int):Bool:=!decide ((l.length:Int) > 40)&&logB l&&(!decide (p.length=0)&&keptB r p)
end Go.Proofs.YtdncnhcffbgjhaaGreat
end
