/-
 LawAt: of the program and of the reference.
 Conditions: the slices hold at most 2^20 elements.
-/
import Derived.Test.YtdncnhcffbgjhaaGreatGrT
import Derived.Test.YtdncnhcffbgjhaaGreatGrN
import Derived.Deep.DeepCutAuto
namespace Go.Proofs.YtdncnhcffbgjhaaGreat
open Go.RowKit
def lawSpan (x : Law) (s : Spot) : Span := ⟨(actL x s).2, (actH x s).2⟩
def lawAtOk (x : Law) (s : Spot) : Bool := lawOk x && spanOk (lawSpan x s)
def lawAt (x : Law) (s : Spot) : Span := if lawAtOk x s = true then lawSpan x s else span0
set_option maxRecDepth 100000 in
theorem eqSpan_t (x : Span) (w : World) :
  Calls Tryz.prog 27 #[spanV x, spanV x] w fun e w' => e = .returned (.bool true) ∧ Below w.heap.size w w' := by
 go_enter Tryz.func27, Tryz.ntmps27
 go_wp2_with (fail)
 refine (eqRatio_t x.low _).mono ?_
 rintro e w1 ⟨rfl, hb1⟩
 have r1 := bcell1 hb1
 have l0 : w.heap.size < w1.heap.size := blt hb1 (by first | (simp; done) | (simp; omega) | omega)
 have l1 : w.heap.size + 1 < w1.heap.size := blt hb1 (by first | (simp; done) | (simp; omega) | omega)
 go_wp2_with (fail)
 refine (eqRatio_t x.high _).mono ?_
 rintro e w2 ⟨rfl, hb2⟩
 go_wp2
 go_ret
 refine ⟨rfl, ?_⟩
 exact belA
end Go.Proofs.YtdncnhcffbgjhaaGreat
