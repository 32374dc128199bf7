/-
  A prediction bounds the value at all consistent parameters, and more records never widen it. No program is named here.
  Conditions: none.
-/
import Derived.Test.YtbdihgcjopbnjaaFits
import Derived.Test.YtbdihgcjopbnjaaInner
import Derived.Test.YtbdihgcjopbnjaaPred
import Derived.Test.YtbdihgcjopbnjaaNewR
namespace Go.Proofs.Ytbdihgcjopbnjaa
open Go.RowKit

def withinB (p q : List Half) : Bool := (corners p).all (holdsB q)
theorem fit_fewer {xs ys : List Record} {err : Int} (hsub : ∀ x ∈ ys, x ∈ xs) (hl : ys.length ≤ xs.length) (hne : fitR xs err ≠ []) : fitOk ys err = true ∧ fitR ys err ≠ [] := by
  obtain ⟨h1, h2, h3⟩ := fitR_ne hne
  simp only [fitOk, Bool.and_eq_true] at h1
  have hr := h1.1
  simp only [recordsOk, Bool.and_eq_true, List.all_eq_true, decide_eq_true_eq] at hr
  have hok : fitOk ys err = true := by
    unfold fitOk recordsOk
    rw [h1.2, Bool.and_true, Bool.and_eq_true, List.all_eq_true, decide_eq_true_eq]
    exact ⟨fun x hx => hr.1 x (hsub x hx), by omega⟩
  have hbad : fitBad ys err = false := by
    unfold fitBad at h2 ⊢
    rw [List.any_eq_false] at h2 ⊢
    exact fun x hx => h2 x (hsub x hx)
  refine ⟨hok, ?_⟩
  have he : fitR ys err = meetI (meetL (fitHs ys err)) := by unfold fitR; rw [if_pos ⟨hok, hbad⟩]
  rw [he]
  rw [h3] at hne
  refine meet_fewer fitHs_ok (fun h hh => ?_) hne
  unfold fitHs at hh ⊢
  obtain ⟨x, hx, hf⟩ := List.mem_flatMap.1 hh
  exact List.mem_flatMap.2 ⟨x, hsub x hx, hf⟩
theorem within_fewer {xs ys : List Record} {err : Int} (hsub : ∀ x ∈ ys, x ∈ xs) (hl : ys.length ≤ xs.length) (hne : fitR xs err ≠ []) : withinB (fitR xs err) (fitR ys err) = true := by
  obtain ⟨_, hne2⟩ := fit_fewer hsub hl hne
  have hr := fitR_ok xs err
  unfold withinB
  rw [List.all_eq_true]
  intro s hs
  obtain ⟨i, hi, rfl⟩ := List.mem_iff_getElem.1 hs
  rw [corners_len] at hi
  rw [corners_at _ i hi]
  have C := reg_corner hr hi
  generalize crossS ((fitR xs err).getD i half0) (nxt (fitR xs err) i) = s at *
  have h1 := (fit_holds hne C.ok).1 C.ins
  have h2 := (fit_holds hne2 C.ok).2 (fun x hx => h1 x (hsub x hx))
  unfold holdsB
  have hl : ¬ (fitR ys err).length = 0 := fun e => hne2 (List.length_eq_zero_iff.1 e)
  rw [decide_eq_false hl]
  simp only [Bool.not_false, Bool.true_and, List.all_eq_true]
  exact fun f hf => holdsH_iff.2 (h2 f hf)
theorem new_none {err : Int} : newRec [] err ⟨0, 0, 0⟩ = false := by
  unfold newRec
  cases he : inR err 0 1000 with
  | false => simp [fitOk, he]
  | true =>
    have e1 : recordHalves ⟨0, 0, 0⟩ err = [] := by unfold recordHalves; rw [if_neg (by intro h; exact h.2.2 ⟨rfl, rfl⟩)]
    obtain ⟨a1, a2⟩ := inR_iff.1 he
    have e2 : badRec ⟨0, 0, 0⟩ err = false := by
      unfold badRec
      rw [inR_iff.2 ⟨by simp only; omega, by simp only; omega⟩]; rfl
    have e3 : fitR ([] ++ [⟨0, 0, 0⟩]) err = fitR [] err := by
      unfold fitR fitHs fitBad fitOk recordsOk
      simp [e1, e2, recOk, inR]
    rw [e3]
    simp [eqB]
theorem new_last {xs ys : List Record} {err : Int} {z : Record} (h : xs = ys ++ [z]) (h1 : fitOk xs err = true) (h2 : fitOk ys err = true) : newRec ys err z = !eqB (fitR xs err) (fitR ys err) := by
  unfold newRec
  rw [← h, h1, h2]
  simp only [Bool.true_and, eqB]
  congr 1
  rw [Bool.eq_iff_iff]
  simp only [decide_eq_true_eq]
  exact ⟨fun e => e.symm, fun e => e.symm⟩
theorem rec_two {err : Int} (he : inR err 0 1000 = true) : (recordHalves ⟨3, 1, 2⟩ err).length = 2 := by
  unfold recordHalves
  rw [if_pos ⟨by decide, he, by decide⟩]; rfl
/-- What a prediction says of the drawn parameters. -/
structure PredV (xs : List Record) (err b i V : Int) : Prop where
  low : ratioCmp (predR xs err b i).1 (ratioOf V 100) ≤ 0
  high : ratioCmp (ratioOf V 100) (predR xs err b i).2 ≤ 0
  inl : (predR xs err b i).1.In
  inh : (predR xs err b i).2.In
  inv : (ratioOf V 100).In
theorem pred_v {xs : List Record} {err p q b i : Int} (M : MakR xs err p q) (hb : -100 ≤ b ∧ b ≤ 99) (hi : -20 ≤ i ∧ i ≤ 19) (hok : predOk xs err b i = true) : PredV xs err b i (p * b + q * i) := by
  have he := predP_yes hok
  change predR xs err b i = _ at he
  have hl : fitR xs err ≠ [] := by
    intro h0
    unfold predOk predOkP at hok
    rw [h0] at hok
    simp at hok
  have hr := fitR_ok xs err
  have hold : ∀ f ∈ fitR xs err, HoldsP f p q 1 := (fit_holds hl (s := ⟨p, q, 1⟩) (spot1_ok (by have := M.a0; omega) (by have := M.b0; omega))).2 M.dist
  have g1 := sup_ge hr hl (a := b) (b := i) ⟨by omega, by omega⟩ ⟨by omega, by omega⟩ (show (0 : Int) < 1 by omega) hold
  have g2 := sup_ge hr hl (a := -b) (b := -i) ⟨by omega, by omega⟩ ⟨by omega, by omega⟩ (show (0 : Int) < 1 by omega) hold
  have R1 := supR hr hl (a := b) (b := i) ⟨by omega, by omega⟩ ⟨by omega, by omega⟩
  have R2 := supR hr hl (a := -b) (b := -i) ⟨by omega, by omega⟩ ⟨by omega, by omega⟩
  have n1 := R1.n
  have d1 := R1.d
  have n2 := R2.n
  have d2 := R2.d
  have ha := M.a0
  have hq := M.b0
  have m1 := mulB (a := p) (b := b) (A := 99) (B := 100) ⟨by omega, by omega⟩ ⟨by omega, by omega⟩
  have m2 := mulB (a := q) (b := i) (A := 39) (B := 20) ⟨by omega, by omega⟩ ⟨by omega, by omega⟩
  have eV : b * p + i * q = p * b + q * i := by rw [Int.mul_comm b, Int.mul_comm i]
  have eV2 : -b * p + -i * q = -(p * b + q * i) := by rw [Int.neg_mul, Int.neg_mul, Int.mul_comm b, Int.mul_comm i]; omega
  rw [eV, Int.mul_one] at g1
  rw [eV2, Int.mul_one, Int.neg_mul] at g2
  generalize sup (fitR xs err) b i = s1 at *
  generalize sup (fitR xs err) (-b) (-i) = s2 at *
  generalize hV : p * b + q * i = V at *
  have bV : -20000 ≤ V ∧ V ≤ 20000 := by omega
  have e1 : V * (100 * s2.d) = 100 * (V * s2.d) := by grind
  have e2 : V * (100 * s1.d) = 100 * (V * s1.d) := by grind
  have k1 : ratioCmp (ratioOf (-s2.n) (100 * s2.d)) (ratioOf V 100) ≤ 0 := by
    rw [ratioCmp_of ⟨by omega, by omega⟩ ⟨by omega, by omega⟩ ⟨by omega, by omega⟩ ⟨by omega, by omega⟩]
    unfold cmpF
    rw [sgn_le, e1]
    omega
  have k2 : ratioCmp (ratioOf V 100) (ratioOf s1.n (100 * s1.d)) ≤ 0 := by
    rw [ratioCmp_of ⟨by omega, by omega⟩ ⟨by omega, by omega⟩ ⟨by omega, by omega⟩ ⟨by omega, by omega⟩]
    unfold cmpF
    rw [sgn_le, e2]
    omega
  exact ⟨by rw [he]; exact k1, by rw [he]; exact k2, by rw [he]; exact ratioOf_in ⟨by omega, by omega⟩ ⟨by omega, by omega⟩, by rw [he]; exact ratioOf_in ⟨by omega, by omega⟩ ⟨by omega, by omega⟩, ratioOf_in ⟨by omega, by omega⟩ ⟨by omega, by omega⟩⟩
end Go.Proofs.Ytbdihgcjopbnjaa
