/-
  PredictRange: of the program and of the reference.
  Conditions: the slice holds at most 2^20 elements.
-/
import Derived.Test.YtbdihgcjopbnjaaGreatFar
import Derived.Test.YtbdihgcjopbnjaaGreatFarI
import Derived.Test.YtbdihgcjopbnjaaGreatGrL
import Derived.Test.YtbdihgcjopbnjaaGreatGeo9
import Derived.Test.YtbdihgcjopbnjaaGreatInvK
namespace Go.Proofs.YtbdihgcjopbnjaaGreat
open Go.RowKit

def predOkP (ok : Bool) (p : List Half) (b i : Int) : Bool := ok && !decide (p.length = 0) && inR b (-1000) 1000 && inR i (-1000) 1000
def predP (ok : Bool) (p : List Half) (b i : Int) : Ratio × Ratio := if predOkP ok p b i = true then (ratioOf (-(sup p (-b) (-i)).n) (100 * (sup p (-b) (-i)).d), ratioOf (sup p b i).n (100 * (sup p b i).d)) else (ratio0, ratio0)
def predOk (xs : List Record) (err b i : Int) : Bool := predOkP (fitOk xs err) (fitR xs err) b i
def predR (xs : List Record) (err b i : Int) : Ratio × Ratio := predP (fitOk xs err) (fitR xs err) b i
theorem predP_no {ok : Bool} {p : List Half} {b i : Int} (h : predOkP ok p b i = false) : predP ok p b i = (ratio0, ratio0) := by
  unfold predP; rw [h]; rfl
theorem predP_yes {ok : Bool} {p : List Half} {b i : Int} (h : predOkP ok p b i = true) : predP ok p b i = (ratioOf (-(sup p (-b) (-i)).n) (100 * (sup p (-b) (-i)).d), ratioOf (sup p b i).n (100 * (sup p b i).d)) := if_pos h
theorem fitR_ok (xs : List Record) (err : Int) : regionOk (fitR xs err) = true := by
  unfold fitR
  split
  · rename_i h
    have h1 := h.1
    simp only [fitOk, recordsOk, Bool.and_eq_true, decide_eq_true_eq] at h1
    have := meetI_len (meetL (fitHs xs err))
    have := meetL_len (fitHs xs err)
    have := fitHs_len xs err
    exact regionOk_meet fitHs_ok (by omega)
  · rfl
theorem HasT.alloc {w : World} {g T : Nat} {vs : List Value} (h : HasT w g T vs) (o : Obj) : HasT (w.alloc o) g T vs := h.below (below_al (Below.refl _ _) o)
theorem ratioOf_in5 {n d : Int} (h1 : -500000000000000000 ≤ n ∧ n ≤ 500000000000000000) (h2 : 1 ≤ d ∧ d ≤ 5000000000) : In64 n ∧ In64 (-n) ∧ In64 (100 * d) := ⟨⟨by omega, by omega⟩, ⟨by omega, by omega⟩, ⟨by omega, by omega⟩⟩
end Go.Proofs.YtbdihgcjopbnjaaGreat
