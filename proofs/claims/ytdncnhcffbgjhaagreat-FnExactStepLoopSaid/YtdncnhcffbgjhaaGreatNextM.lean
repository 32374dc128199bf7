/-
 The next spot of a room and a step of the loop: what both compute. No program is named here.
 Conditions: none.
-/
import Derived.Test.YtdncnhcffbgjhaaGreatV4
namespace Go.Proofs.YtdncnhcffbgjhaaGreat
open Go.RowKit
def drivenOk (u : Ratio) : Bool := ratioOk u && inR u.n (-1000 * u.d) (1000 * u.d)
def nxtX (r : Room) (s : Spot) (u : Ratio) (v : Spot) : Int := (mapX r s * u.d + r.bx * u.n * mapD r s) * v.d + v.x * (mapD r s * u.d)
def nxtY (r : Room) (s : Spot) (u : Ratio) (v : Spot) : Int := (mapY r s * u.d + r.by_ * u.n * mapD r s) * v.d + v.y * (mapD r s * u.d)
def nxtD (r : Room) (s : Spot) (u : Ratio) (v : Spot) : Int := mapD r s * u.d * v.d
def nxtS (r : Room) (s : Spot) (u : Ratio) (v : Spot) : Option Spot := spotOf (nxtX r s u v) (nxtY r s u v) (nxtD r s u v)
def nxtBad (r : Room) (s : Spot) (u : Ratio) (v : Spot) : Bool := !(roomOk r) || !(spotOk s) || !(ratioOk u) || !(spotOk v) || decide (s.d > 100000) || decide (v.d > 1000) || decide (u.d > 1000) || !(inR u.n (-1000 * u.d) (1000 * u.d))
def nxtO (r : Room) (s : Spot) (u : Ratio) (v : Spot) : Option Spot := if nxtBad r s u v = true then none else nxtS r s u v
def nxtBadI (s : Spot) (u : Ratio) (v : Spot) : Bool := !(spotOk s) || !(spotOk v) || decide (s.d > 100000) || decide (v.d > 1000) || decide (u.d > 1000) || !(drivenOk u)
theorem nxtBad_i {r : Room} {s : Spot} {u : Ratio} {v : Spot} (hr : roomOk r = true) : nxtBad r s u v = nxtBadI s u v := by
 unfold nxtBad nxtBadI drivenOk
 rw [hr]
 generalize spotOk s = a
 generalize spotOk v = b
 generalize ratioOk u = c
 generalize inR u.n (-1000 * u.d) (1000 * u.d) = d
 cases a <;> cases b <;> cases c <;> cases d <;> simp
theorem nxt_no {r : Room} {s : Spot} {u : Ratio} {v : Spot} (h : nxtBad r s u v = true) : nxtO r s u v = none := if_pos h
theorem nxt_yes {r : Room} {s : Spot} {u : Ratio} {v : Spot} (h : nxtBad r s u v = false) : nxtO r s u v = nxtS r s u v := if_neg (by rw [h]; simp)
structure NxtIn (r : Room) (s : Spot) (u : Ratio) (v : Spot) : Prop where
 room : roomOk r = true
 sok : spotOk s = true
 vok : spotOk v = true
 sd : s.d ≤ 100000
 vd : v.d ≤ 1000
 ud : 1 ≤ u.d ∧ u.d ≤ 1000
 un : -1000 * u.d ≤ u.n ∧ u.n ≤ 1000 * u.d
theorem nxt_in {r : Room} {s : Spot} {u : Ratio} {v : Spot} (h : nxtBad r s u v = false) : NxtIn r s u v := by
 have h1 := or_f1 h
 have h2 := or_f1 h1
 have h3 := or_f1 h2
 have h4 := or_f1 h3
 have h5 := or_f1 h4
 have h6 := or_f1 h5
 have hu := rok_bd (not_f (or_f2 h5))
 have e := inR_iff.1 (not_f (or_f2 h))
 have d1 := dec_f (or_f2 h1)
 have d2 := dec_f (or_f2 h2)
 have d3 := dec_f (or_f2 h3)
 exact ⟨not_f (or_f1 h6), not_f (or_f2 h6), not_f (or_f2 h4), by omega, by omega, ⟨by omega, by omega⟩, e⟩
/-- The bounds of all that is computed on the way. -/
theorem nxt_bd {M D b n d x e : Int} (hM : -4000000000 ≤ M ∧ M ≤ 4000000000) (hD : 1 ≤ D ∧ D ≤ 2000000) (hb : -100 ≤ b ∧ b ≤ 100) (hd : 1 ≤ d ∧ d ≤ 1000) (hn : -1000 * d ≤ n ∧ n ≤ 1000 * d) (he : 1 ≤ e ∧ e ≤ 1000) (hx : -1000 * e ≤ x ∧ x ≤ 1000 * e) :
  (-4000000000000 ≤ M * d ∧ M * d ≤ 4000000000000) ∧ (-100000000 ≤ b * n ∧ b * n ≤ 100000000) ∧ (-200000000000000 ≤ b * n * D ∧ b * n * D ≤ 200000000000000) ∧ (1 ≤ D * d ∧ D * d ≤ 2000000000)
   ∧ (-204000000000000000 ≤ (M * d + b * n * D) * e ∧ (M * d + b * n * D) * e ≤ 204000000000000000) ∧ (-2000000000000000 ≤ x * (D * d) ∧ x * (D * d) ≤ 2000000000000000) ∧ (1 ≤ D * d * e ∧ D * d * e ≤ 2000000000000) := by
 have a1 := mulB (a := M) (b := d) (A := 4000000000) (B := 1000) ⟨by omega, by omega⟩ ⟨by omega, by omega⟩
 have a2 := mulB (a := b) (b := n) (A := 100) (B := 1000000) ⟨by omega, by omega⟩ ⟨by omega, by omega⟩
 have a3 := mulB (a := b * n) (b := D) (A := 100000000) (B := 2000000) ⟨by omega, by omega⟩ ⟨by omega, by omega⟩
 have a4 := mulB (a := D) (b := d) (A := 2000000) (B := 1000) ⟨by omega, by omega⟩ ⟨by omega, by omega⟩
 have a5 := Int.mul_pos (show 0 < D by omega) (show 0 < d by omega)
 have a6 := mulB (a := M * d + b * n * D) (b := e) (A := 204000000000000) (B := 1000) ⟨by omega, by omega⟩ ⟨by omega, by omega⟩
 have a7 := mulB (a := x) (b := D * d) (A := 1000000) (B := 2000000000) ⟨by omega, by omega⟩ ⟨by omega, by omega⟩
 have a8 := mulB (a := D * d) (b := e) (A := 2000000000) (B := 1000) ⟨by omega, by omega⟩ ⟨by omega, by omega⟩
 have a9 := Int.mul_pos a5 (show 0 < e by omega)
 exact ⟨⟨by omega, by omega⟩, ⟨by omega, by omega⟩, ⟨by omega, by omega⟩, ⟨by omega, by omega⟩, ⟨by omega, by omega⟩, ⟨by omega, by omega⟩, ⟨by omega, by omega⟩⟩
/-- The bounds of the other order: the disturbance first, then reduced, then the input. -/
theorem nxt_bd2 {M D x e : Int} (hM : -4000000000 ≤ M ∧ M ≤ 4000000000) (hD : 1 ≤ D ∧ D ≤ 2000000) (he : 1 ≤ e ∧ e ≤ 1000) (hx : -1000 * e ≤ x ∧ x ≤ 1000 * e) :
  (-4000000000000 ≤ M * e ∧ M * e ≤ 4000000000000) ∧ (-2000000000000 ≤ x * D ∧ x * D ≤ 2000000000000) ∧ (1 ≤ D * e ∧ D * e ≤ 2000000000) := by
 have a1 := mulB (a := M) (b := e) (A := 4000000000) (B := 1000) ⟨by omega, by omega⟩ ⟨by omega, by omega⟩
 have a2 := mulB (a := x) (b := D) (A := 1000000) (B := 2000000) ⟨by omega, by omega⟩ ⟨by omega, by omega⟩
 have a4 := mulB (a := D) (b := e) (A := 2000000) (B := 1000) ⟨by omega, by omega⟩ ⟨by omega, by omega⟩
 have a5 := Int.mul_pos (show 0 < D by omega) (show 0 < e by omega)
 exact ⟨⟨by omega, by omega⟩, ⟨by omega, by omega⟩, ⟨by omega, by omega⟩⟩
theorem nxt_bd3 {X D b n d : Int} (hX : -6000000000000 ≤ X ∧ X ≤ 6000000000000) (hD : 1 ≤ D ∧ D ≤ 2000000000) (hb : -100 ≤ b ∧ b ≤ 100) (hd : 1 ≤ d ∧ d ≤ 1000) (hn : -1000 * d ≤ n ∧ n ≤ 1000 * d) :
  (-6000000000000000 ≤ X * d ∧ X * d ≤ 6000000000000000) ∧ (-100000000 ≤ b * n ∧ b * n ≤ 100000000) ∧ (-200000000000000000 ≤ b * n * D ∧ b * n * D ≤ 200000000000000000) ∧ (1 ≤ D * d ∧ D * d ≤ 2000000000000) := by
 have a1 := mulB (a := X) (b := d) (A := 6000000000000) (B := 1000) ⟨by omega, by omega⟩ ⟨by omega, by omega⟩
 have a2 := mulB (a := b) (b := n) (A := 100) (B := 1000000) ⟨by omega, by omega⟩ ⟨by omega, by omega⟩
 have a3 := mulB (a := b * n) (b := D) (A := 100000000) (B := 2000000000) ⟨by omega, by omega⟩ ⟨by omega, by omega⟩
 have a4 := mulB (a := D) (b := d) (A := 2000000000) (B := 1000) ⟨by omega, by omega⟩ ⟨by omega, by omega⟩
 have a5 := Int.mul_pos (show 0 < D by omega) (show 0 < d by omega)
 exact ⟨⟨by omega, by omega⟩, ⟨by omega, by omega⟩, ⟨by omega, by omega⟩, ⟨by omega, by omega⟩⟩
/-- A common factor changes nothing. -/
theorem spotOf_fac {g x y d X Y D : Int} (hg : 0 < g) (hX : X = g * x) (hY : Y = g * y) (hD : D = g * d) (hd : 0 < D) (hX2 : -9223372036854775807 ≤ X) (hY2 : -9223372036854775807 ≤ Y) (hx2 : -9223372036854775807 ≤ x) (hy2 : -9223372036854775807 ≤ y) : spotOf X Y D = spotOf x y d := by
 have hd' : 0 < d := gmp (a := g) (by omega) hg
 have e : redSpot X Y D = redSpot x y d := (red_eq hd hd').2 ⟨by rw [hX, hD]; grind, by rw [hY, hD]; grind⟩
 unfold spotOf
 rw [e, isMin_no hX2, isMin_no hY2, isMin_no hx2, isMin_no hy2]
 simp only [show ¬ D ≤ 0 by omega, show ¬ d ≤ 0 by omega]
theorem gcd3_div {X Y D : Int} (hD : 0 < D) (hX : -9223372036854775807 ≤ X) (hY : -9223372036854775807 ≤ Y) : ∃ g x y d, gcdOf (gcdOf X Y) D = g ∧ 0 < g ∧ g ≤ D ∧ X = g * x ∧ Y = g * y ∧ D = g * d ∧ X.tdiv g = x ∧ Y.tdiv g = y ∧ D.tdiv g = d := by
 have e1 : gcdOf X Y = ((Nat.gcd X.natAbs Y.natAbs : Nat) : Int) := gcdOf_no (isMin_no hX) (isMin_no hY)
 have e2 : gcdOf (gcdOf X Y) D = ((gcdAll [X, Y, D] : Nat) : Int) := by
  rw [gcdOf_no (by rw [e1]; exact isMin_no (by omega)) (isMin_no (by omega)), e1, gcd3]; rfl
 have r := red_scale (x := X) (y := Y) (d := D) (by omega)
 obtain ⟨p, f1, f2, f3⟩ := r
 refine ⟨_, _, _, _, e2, p, ?_, f1, f2, f3, ?_, ?_, ?_⟩
 ·have := gmp (a := ((gcdAll [X, Y, D] : Nat) : Int)) (b := (redSpot X Y D).d) (by omega) p
  have := Int.mul_le_mul_of_nonneg_left (show 1 ≤ (redSpot X Y D).d by omega) (Int.le_of_lt p)
  omega
 ·rfl
 ·rfl
 ·rfl
/-- What the other order computes is the same spot. -/
theorem nxt_same {M N D bx by_ n d x y e g X Y E : Int} (hM : -4000000000 ≤ M ∧ M ≤ 4000000000) (hN : -4000000000 ≤ N ∧ N ≤ 4000000000) (hD : 1 ≤ D ∧ D ≤ 2000000) (hb : -100 ≤ bx ∧ bx ≤ 100) (hc : -100 ≤ by_ ∧ by_ ≤ 100) (hd : 1 ≤ d ∧ d ≤ 1000) (hn : -1000 * d ≤ n ∧ n ≤ 1000 * d) (he : 1 ≤ e ∧ e ≤ 1000) (hx : -1000 * e ≤ x ∧ x ≤ 1000 * e) (hy : -1000 * e ≤ y ∧ y ≤ 1000 * e)
  (hg : 0 < g) (eX : M * e + x * D = g * X) (eY : N * e + y * D = g * Y) (eE : D * e = g * E) (hX : -6000000000000 ≤ X ∧ X ≤ 6000000000000) (hY : -6000000000000 ≤ Y ∧ Y ≤ 6000000000000) (hE : 1 ≤ E ∧ E ≤ 2000000000) :
  spotOf ((M * d + bx * n * D) * e + x * (D * d)) ((N * d + by_ * n * D) * e + y * (D * d)) (D * d * e) = spotOf (X * d + bx * n * E) (Y * d + by_ * n * E) (E * d) := by
 obtain ⟨_, _, _, _, a5, a6, a7⟩ := nxt_bd hM hD hb hd hn he hx
 obtain ⟨_, _, _, _, b5, b6, _⟩ := nxt_bd hN hD hc hd hn he hy
 obtain ⟨c1, _, c3, _⟩ := nxt_bd3 hX hE hb hd hn
 obtain ⟨d1, _, d3, _⟩ := nxt_bd3 hY hE hc hd hn
 refine spotOf_fac hg ?_ ?_ ?_ (by omega) (by omega) (by omega) (by omega) (by omega)
 ·grind
 ·grind
 ·grind
/-- One step of the loop, from the inputs that are admitted. -/
def stepG (o : Option Span) (r : Room) (s : Spot) (wish : Int) (v : Spot) : Option (Spot × Ratio) := o.bind fun a => (nxtO r s (pick a wish) v).map fun t => (t, pick a wish)
def stepL (r : Room) (p : List Half) (s : Spot) (wish : Int) (v : Spot) : Option (Spot × Ratio) := stepG (admAt r p s) r s wish v
def step0 : Spot × Ratio := (sp0, ⟨0, 0⟩)
def optStepV (o : Option (Spot × Ratio)) : Value := .tuple #[spotV (o.getD step0).1, ratioV (o.getD step0).2, .bool o.isSome]
theorem optSpot_eq (x : Option Spot) : optSpotV x = .tuple #[spotV (x.getD sp0), .bool x.isSome] := by cases x <;> rfl
theorem stepG_no {r : Room} {s : Spot} {wish : Int} {v : Spot} {o : Option Span} (h : o.isSome = false) : stepG o r s wish v = none := by
 cases o with
 | none => rfl
 | some _ => cases h
theorem stepG_no2 {r : Room} {s : Spot} {wish : Int} {v : Spot} {o : Option Span} (h : o.isSome = true) (h2 : (nxtO r s (pick (o.getD span0) wish) v).isSome = false) : stepG o r s wish v = none := by
 obtain ⟨a, rfl⟩ := Option.isSome_iff_exists.1 h
 unfold stepG
 rw [Option.bind_some]
 rw [Option.getD_some] at h2
 rw [isNone_f h2]; rfl
theorem stepG_yes {r : Room} {s : Spot} {wish : Int} {v : Spot} {o : Option Span} (h : o.isSome = true) (h2 : (nxtO r s (pick (o.getD span0) wish) v).isSome = true) : stepG o r s wish v = some ((nxtO r s (pick (o.getD span0) wish) v).getD sp0, pick (o.getD span0) wish) := by
 obtain ⟨a, rfl⟩ := Option.isSome_iff_exists.1 h
 rw [Option.getD_some] at h2 ⊢
 obtain ⟨t, ht⟩ := Option.isSome_iff_exists.1 h2
 unfold stepG
 rw [Option.bind_some, ht]; rfl
theorem pick_In {a : Span} {wish : Int} (ha : a.In) : (pick a wish).In := by
 unfold pick
 have w := clampW_bd wish
 split
 ·rename_i h
  have c := ceil_bd (spanOk_r h).1
  have f := floor_bd (spanOk_r h).2
  split
  ·split
   ·exact whIn (by omega)
   ·exact ha.1
  ·split
   ·split
    ·exact whIn (by omega)
    ·exact ha.2
   ·exact whIn (by omega)
 ·exact ⟨⟨by decide, by decide⟩, ⟨by decide, by decide⟩⟩
end Go.Proofs.YtdncnhcffbgjhaaGreat
