/-
 The meet of a valid region and half planes: its edges are edges of the one or among the others, so it is valid again; the order of the half planes doesn't matter. No program is named here.
 Conditions: none.
-/
import Derived.Test.YtdncnhcffbgjhaaGreatGrR
namespace Go.Proofs.YtdncnhcffbgjhaaGreat
open Go.RowKit
/-- A region within bounds that was made is valid. -/
theorem regionOk_meetR {hs : List Half} (hok : ∀ h ∈ hs, halfOk h = true) : regionOk (meetR (meetL hs)) = true := by
 unfold meetR
 split
 ·rename_i h
  exact regionOk_meet hok (by simpa [meetOk] using h)
 ·rfl
/-- Which half planes stand in a list decides, not their order. -/
theorem tight_sub {a b : List Half} (ha : ∀ h ∈ a, halfOk h = true) (hb : ∀ h ∈ b, halfOk h = true) (h : ∀ x, x ∈ a ↔ x ∈ b) : ∀ x ∈ gtight a, x ∈ gtight b := by
 intro x hx
 have c1 := tight_canon (hs := a) (fun f hf => (hOk (ha f hf)).n)
 have c2 := tight_canon (hs := b) (fun f hf => (hOk (hb f hf)).n)
 have xa := c1.mem x hx
 obtain ⟨y, hy, cy⟩ := c2.cov x ((h x).1 xa)
 have yb := c2.mem y hy
 obtain ⟨z, hz, cz⟩ := c1.cov y ((h y).2 yb)
 have za := c1.mem z hz
 have s := same_trans (hOk (ha z za)).n (hOk (hb y yb)).n cz.1 cy.1
 have e := c1.sorted.same (fun f hf => (hOk (ha f (c1.mem f hf))).n) hz hx s
 subst e
 have := half_eq (hb y yb) (ha z za) cy.1 (by have := cy.2; have := cz.2; omega)
 subst this
 exact hy
theorem meetL_ext {a b : List Half} (ha : ∀ h ∈ a, halfOk h = true) (hb : ∀ h ∈ b, halfOk h = true) (h : ∀ x, x ∈ a ↔ x ∈ b) : meetL a = meetL b := by
 have h1 : ∀ x, x ∈ gframe ++ a ↔ x ∈ gframe ++ b := fun x => by rw [List.mem_append, List.mem_append, h x]
 have n1 := fun f hf => (hOk (frame_all ha f hf)).n
 have n2 := fun f hf => (hOk (frame_all hb f hf)).n
 exact gsorted_ext (tight_canon n1).sorted (tight_canon n2).sorted (fun x => ⟨tight_sub (frame_all ha) (frame_all hb) h1 x, tight_sub (frame_all hb) (frame_all ha) (fun y => (h1 y).symm) x⟩)
