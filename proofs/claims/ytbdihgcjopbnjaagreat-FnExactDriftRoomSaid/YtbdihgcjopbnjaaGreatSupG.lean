/-
  The greatest value over a valid region bounds the values at all its points. No program is named here.
  Conditions: none.
-/
import Derived.Test.YtbdihgcjopbnjaaGreatSup
namespace Go.Proofs.YtbdihgcjopbnjaaGreat
open Go.RowKit

section
variable {α : Type} {X : α → α → Int} {D : α → α → α → Int} {L : List α}
/-- A direction that no edge has lies between two neighbouring edges. -/
theorem gfanA (o : GOM X D) (nv : GNV X D L) (ar : ∀ h ∈ L, (∃ g ∈ L, 0 < X h g) ∧ (∃ g ∈ L, X h g < 0)) {f : α}
    (hpar : ∀ e ∈ L, GEdge X D L e → X e f = 0 → ∀ k, 0 < X e k → X f k < 0) (ex : ∃ e ∈ L, GEdge X D L e) :
    ∃ h ∈ L, ∃ g ∈ L, GEdge X D L h ∧ GEdge X D L g ∧ 0 < X h g ∧ (∀ k ∈ L, 0 ≤ D h g k) ∧ 0 ≤ X h f ∧ 0 ≤ X f g := by
  have step1 : ∃ e ∈ L, GEdge X D L e ∧ 0 < X e f := by
    apply Classical.byContradiction
    intro hno
    have hle : ∀ e ∈ L, GEdge X D L e → X e f ≤ 0 := fun e he hg => by
      rcases glt_or 0 (X e f) with h | h
      · exact absurd ⟨e, he, hg, h⟩ hno
      · exact h
    by_cases hz : ∃ e ∈ L, GEdge X D L e ∧ X e f = 0
    · obtain ⟨e, he, hg, h0⟩ := hz
      obtain ⟨g, hgm, h1, _, _, h2⟩ := gnext o nv he hg (ar e he).1
      have h3 := hpar e he hg h0 g h1
      have h4 := hle g hgm h2
      have := o.xa g f
      omega
    · have hlt : ∀ e ∈ L, GEdge X D L e → X e f < 0 := fun e he hg => by
        have := hle e he hg
        rcases Classical.em (X e f = 0) with h | h
        · exact absurd ⟨e, he, hg, h⟩ hz
        · omega
      obtain ⟨e0, he0, hg0⟩ := ex
      obtain ⟨m, hm, ⟨hmg, hmf⟩, hmax⟩ := gexists_min (P := fun g => GEdge X D L g ∧ X g f < 0) (le := fun a b => 0 ≤ X b a)
        (by intro a b _ _; have := o.xa a b; omega)
        (by
          rintro a b c ⟨_, ha⟩ ⟨_, hb⟩ ⟨_, hc⟩ h1 h2
          have id := o.p2 c b a f
          have t1 := Int.mul_nonneg h2 (show 0 ≤ -X a f by omega)
          have t2 := Int.mul_nonneg (show 0 ≤ -X c f by omega) h1
          rcases glt_or (X c a) 0 with h | h
          · have t3 := Int.mul_pos (show 0 < -X c a by omega) (show 0 < -X b f by omega)
            rw [Int.neg_mul_neg] at t3
            rw [Int.mul_neg] at t1
            rw [Int.neg_mul] at t2
            omega
          · exact h) L ⟨e0, he0, hg0, hlt e0 he0 hg0⟩
      obtain ⟨g, hgm, h1, _, _, h2⟩ := gnext o nv hm hmg (ar m hm).1
      have := hmax g hgm ⟨h2, hlt g hgm h2⟩
      have := o.xa m g
      omega
  obtain ⟨e0, he0, hg0, hp0⟩ := step1
  obtain ⟨h, hm, ⟨hmg, hmf⟩, hmax⟩ := gexists_min (P := fun g => GEdge X D L g ∧ 0 < X g f) (le := fun a b => 0 ≤ X b a)
    (by intro a b _ _; have := o.xa a b; omega)
    (by
      rintro a b c ⟨_, ha⟩ ⟨_, hb⟩ ⟨_, hc⟩ h1 h2
      have id := o.p2 c b a f
      have t1 := Int.mul_nonneg h2 (show 0 ≤ X a f by omega)
      have t2 := Int.mul_nonneg (show 0 ≤ X c f by omega) h1
      exact gmn (a := X b f) (by rw [Int.mul_comm]; omega) hb) L ⟨e0, he0, hg0, hp0⟩
  obtain ⟨g, hgm, h1, hin, _, h2⟩ := gnext o nv hm hmg (ar h hm).1
  refine ⟨h, hm, g, hgm, hmg, h2, h1, hin, by omega, ?_⟩
  rcases glt_or 0 (X g f) with hq | hq
  · have := hmax g hgm ⟨h2, hq⟩
    have := o.xa h g
    omega
  · have := o.xa f g
    omega

end
theorem gsgn_pos {x : Int} : 0 < sgn x ↔ 0 < x := by unfold sgn; split <;> (try split) <;> omega
/-- The search over points keeps the greatest value. -/
theorem far_max {xs : List Spot} {a b : Int} (hok : ∀ j, j < xs.length → 1 ≤ (xs.getD j sp0).d) : ∀ k : Nat, k ≤ xs.length → (k = 0 ∨ 1 ≤ (farAt xs a b k).2.2 ∧ 0 ≤ (farAt xs a b k).1) ∧ ∀ j, j < k → farNum xs a b j * (farAt xs a b k).2.2 ≤ (farAt xs a b k).2.1 * farDen xs j
  | 0, _ => ⟨.inl rfl, fun j h => by omega⟩
  | k + 1, hk => by
    obtain ⟨h1, h2⟩ := far_max (a := a) (b := b) hok k (by omega)
    have hd : 1 ≤ farDen xs k := hok k (by omega)
    by_cases hc : (farAt xs a b k).1 < 0 ∨ 0 < cmpF (farNum xs a b k) (farDen xs k) (farAt xs a b k).2.1 (farAt xs a b k).2.2
    · rw [farAt_yes hc]
      refine ⟨.inr ⟨hd, by simp only; omega⟩, fun j hj => ?_⟩
      simp only
      by_cases hjk : j = k
      · subst hjk; exact Int.le_refl _
      · have h3 := h2 j (by omega)
        rcases h1 with h1 | ⟨h1, h0⟩
        · omega
        · have hp : 0 < cmpF (farNum xs a b k) (farDen xs k) (farAt xs a b k).2.1 (farAt xs a b k).2.2 := by
            rcases hc with hc | hc
            · omega
            · exact hc
          have hq : 0 < farNum xs a b k * (farAt xs a b k).2.2 - (farAt xs a b k).2.1 * farDen xs k := by
            unfold cmpF at hp
            exact gsgn_pos.1 hp
          have hj1 : 1 ≤ farDen xs j := hok j (by omega)
          exact gfrac_trans (c := (farAt xs a b k).2.1) (d := (farAt xs a b k).2.2) (by omega) (by omega) (by omega) h3 (by omega)
    · rw [farAt_no hc]
      have hk0 : k ≠ 0 := by
        rintro rfl
        apply hc; left; simp [farAt]
      refine ⟨.inr (by rcases h1 with h1 | h1; exact absurd h1 hk0; exact h1), fun j hj => ?_⟩
      by_cases hjk : j = k
      · subst hjk
        have hq : ¬ 0 < farNum xs a b j * (farAt xs a b j).2.2 - (farAt xs a b j).2.1 * farDen xs j := fun h => hc (.inr (by unfold cmpF; exact gsgn_pos.2 h))
        omega
      · exact h2 j (by omega)

/-- A corner of two neighbours, and the value of a direction between them. -/
theorem fan_val {h g f : Half} {sx sy sd x y d : Int} (hx : 0 < hcrs h g) (h1 : 0 ≤ hcrs h f) (h2 : 0 ≤ hcrs f g) (_ : 0 < d) (hsd : 0 < sd)
    (s1 : h.a * sx + h.b * sy = h.c * sd) (s2 : g.a * sx + g.b * sy = g.c * sd) (p1 : HoldsP h x y d) (p2 : HoldsP g x y d) :
    (f.a * x + f.b * y) * sd ≤ (f.a * sx + f.b * sy) * d := by
  unfold HoldsP at p1 p2
  have e1 : hcrs h g * (f.a * x + f.b * y) = hcrs f g * (h.a * x + h.b * y) + hcrs h f * (g.a * x + g.b * y) := by
    simp only [hcrs]; grind
  have e2 : hcrs h g * (f.a * sx + f.b * sy) = hcrs f g * (h.c * sd) + hcrs h f * (g.c * sd) := by
    rw [← s1, ← s2]; simp only [hcrs]; grind
  have m1 := Int.mul_le_mul_of_nonneg_left p1 h2
  have m2 := Int.mul_le_mul_of_nonneg_left p2 h1
  have m3 := Int.mul_le_mul_of_nonneg_right (Int.add_le_add m1 m2) (show 0 ≤ sd by omega)
  rw [← e1] at m3
  have e3 : (hcrs f g * (h.c * d) + hcrs h f * (g.c * d)) * sd = hcrs h g * ((f.a * sx + f.b * sy) * d) := by
    rw [← Int.mul_assoc (hcrs h g), e2]; grind
  rw [e3, Int.mul_assoc] at m3
  exact Int.le_of_mul_le_mul_left m3 hx
theorem det_at {h k g : Half} {sx sy sd : Int} (s1 : h.a * sx + h.b * sy = h.c * sd) (s2 : k.a * sx + k.b * sy = k.c * sd) : hdet h k g * sd = hcrs h k * (g.c * sd - (g.a * sx + g.b * sy)) := by
  have : hdet h k g * sd = g.c * sd * hcrs h k - g.a * ((h.c * sd) * k.b - (k.c * sd) * h.b) - g.b * (h.a * (k.c * sd) - k.a * (h.c * sd)) := by
    simp only [hdet, hcrs]; grind
  rw [this, ← s1, ← s2]
  simp only [hcrs]; grind
/-- The value at a point of a valid region is at most the greatest one. -/
theorem sup_ge {p : List Half} (hr : regionOk p = true) (hne : p ≠ []) {a b : Int} (ha : -50000 ≤ a ∧ a ≤ 50000) (hb : -50000 ≤ b ∧ b ≤ 50000) {x y d : Int} (hd : 0 < d) (hp : ∀ e ∈ p, HoldsP e x y d) :
    (a * x + b * y) * (sup p a b).d ≤ (sup p a b).n * d := by
  have hok := cor_ok hr
  have hd1 : ∀ j, j < (corners p).length → 1 ≤ ((corners p).getD j sp0).d := fun j hj => (spotOk_iff.1 (hok j hj)).1.1
  obtain ⟨_, hmax⟩ := far_max (a := a) (b := b) hd1 (corners p).length (Nat.le_refl _)
  have B := supB hr hne ha hb
  have hl := List.length_pos_iff.2 hne
  have key : ∃ i, i < p.length ∧ (a * x + b * y) * (crossS (p.getD i half0) (nxt p i)).d ≤ (a * (crossS (p.getD i half0) (nxt p i)).x + b * (crossS (p.getD i half0) (nxt p i)).y) * d := by
    by_cases h0 : a = 0 ∧ b = 0
    · refine ⟨0, hl, ?_⟩
      rw [h0.1, h0.2]; simp
    · obtain ⟨_, hpok, hm⟩ := (reg_iff hr).resolve_left hne
      have gd := meetL_good hpok
      have hne2 : meetI (meetL p) ≠ [] := by rw [hm]; exact hne
      have nv := gd.nv (meetI_nv gd hne2)
      have hedge : ∀ e, e ∈ meetL p → GEdge hcrs hdet (meetL p) e → e ∈ p := fun e h1 h2 => hm ▸ mem_meetI gd hne2 h1 h2
      have hsub : ∀ f ∈ p, f ∈ meetL p := fun f hf => (meetI_mem gd (by rw [hm]; exact hf)).1
      have hed : ∀ f ∈ p, GEdge hcrs hdet (meetL p) f := fun f hf => (meetI_mem gd (by rw [hm]; exact hf)).2
      have ar : ∀ h ∈ meetL p, (∃ g ∈ meetL p, 0 < hcrs h g) ∧ (∃ g ∈ meetL p, hcrs h g < 0) := fun h hh => gd.around (gd.nz h hh)
      have ex := meetI_ex gd hne2
      -- a neighbouring pair of edges with the direction between
      have fan : ∃ h ∈ p, ∃ g ∈ p, 0 < hcrs h g ∧ (∀ k ∈ meetL p, 0 ≤ hdet h g k) ∧ 0 ≤ hcrs h ⟨a, b, 0⟩ ∧ 0 ≤ hcrs ⟨a, b, 0⟩ g := by
        by_cases hs : ∃ e ∈ meetL p, GEdge hcrs hdet (meetL p) e ∧ hcrs e ⟨a, b, 0⟩ = 0 ∧ ∃ k, 0 < hcrs e k ∧ 0 ≤ hcrs ⟨a, b, 0⟩ k
        · obtain ⟨e, he, hg, h1, k, hk1, hk2⟩ := hs
          obtain ⟨g, hgm, g1, g2, _, g4⟩ := gnext gom nv he hg (ar e he).1
          refine ⟨e, hedge e he hg, g, hedge g hgm g4, g1, g2, by omega, ?_⟩
          have id := gom.p2 e k ⟨a, b, 0⟩ g
          rw [h1] at id
          simp only [Int.zero_mul, Int.sub_zero] at id
          have x1 := gom.xa k ⟨a, b, 0⟩
          have t1 := Int.mul_nonneg (show 0 ≤ hcrs e g by omega) hk2
          have t2 : hcrs e g * hcrs k ⟨a, b, 0⟩ = -(hcrs e g * hcrs ⟨a, b, 0⟩ k) := by rw [x1, Int.mul_neg]
          rcases glt_or (hcrs ⟨a, b, 0⟩ g) 0 with h | h
          · have t3 := Int.mul_pos hk1 (show 0 < -hcrs ⟨a, b, 0⟩ g by omega)
            rw [Int.mul_neg] at t3
            omega
          · exact h
        · obtain ⟨h, hm', g, hgm, e1, e2, e3, e4, e5, e6⟩ := gfanA gom nv ar (f := ⟨a, b, 0⟩) (fun e he hg h0 k hk => by
            rcases glt_or (hcrs ⟨a, b, 0⟩ k) 0 with h | h
            · exact h
            · exact absurd ⟨e, he, hg, h0, k, hk, h⟩ hs) ex
          exact ⟨h, hedge h hm' e1, g, hedge g hgm e2, e3, e4, e5, e6⟩
      obtain ⟨h, hh, g, hg, x1, x2, x3, x4⟩ := fan
      obtain ⟨i, hi, ei⟩ := gmem_get hh
      have C := reg_corner hr hi
      have nx := (nxt_edge gd hne2 (i := i) (by rw [hm]; exact hi)).2
      rw [hm] at nx
      refine ⟨i, hi, ?_⟩
      have hsd : 0 < (crossS (p.getD i half0) (nxt p i)).d := by have := (spotOk_iff.1 C.ok).1.1; omega
      rw [ei] at C nx hsd ⊢
      have q1 := x2 _ (hsub _ (nxt_mem (p := p) (i := i) hi))
      have q2 := nx g (hsub g hg)
      have q3 : hdet h (nxt p i) g = -hdet h g (nxt p i) := by
        have := gom.da h (nxt p i) g
        have := gom.dc h g (nxt p i)
        have := gom.dc g (nxt p i) h
        have := gom.dc (nxt p i) h g
        omega
      have q4 : hdet h (nxt p i) g = 0 := by omega
      have q5 := det_at (g := g) C.on1 C.on2
      rw [q4, Int.zero_mul] at q5
      have q6 := (Int.mul_eq_zero.1 q5.symm).resolve_left (by have := C.turn; omega)
      exact fan_val (f := ⟨a, b, 0⟩) x1 x3 x4 hd hsd C.on1 (by omega) (hp h hh) (hp g hg)
  obtain ⟨i, hi, hv⟩ := key
  have hm := hmax i (by rw [corners_len]; exact hi)
  have hdi := hd1 i (by rw [corners_len]; exact hi)
  have hget : (corners p).getD i sp0 = crossS (p.getD i half0) (nxt p i) := by
    rw [far_get (by rw [corners_len]; exact hi), corners_at p i hi]
  simp only [farNum, farDen] at hm
  change _ * (supF p a b).2.2 ≤ (supF p a b).2.1 * _ at hm
  rw [hget] at hm hdi
  have hn := B.n
  have hdd := B.d
  have tot := gfrac_trans (a := a * x + b * y) (b := d) (e := (supF p a b).2.1) (f := (supF p a b).2.2) (show 0 < (crossS (p.getD i half0) (nxt p i)).d by omega) (by omega) (by omega) hv hm
  obtain ⟨ok, k, hk, e1, e2⟩ := ratioOf_scale (n := (supF p a b).2.1) (d := (supF p a b).2.2) ⟨by omega, by omega⟩ ⟨by omega, by omega⟩
  change (supF p a b).2.1 = k * (sup p a b).n at e1
  change (supF p a b).2.2 = k * (sup p a b).d at e2
  rw [e1, e2] at tot
  have t2 : k * ((a * x + b * y) * (sup p a b).d) ≤ k * ((sup p a b).n * d) := by
    have r1 : (a * x + b * y) * (k * (sup p a b).d) = k * ((a * x + b * y) * (sup p a b).d) := by grind
    have r2 : k * (sup p a b).n * d = k * ((sup p a b).n * d) := by rw [Int.mul_assoc]
    omega
  exact Int.le_of_mul_le_mul_left t2 hk
end Go.Proofs.YtbdihgcjopbnjaaGreat
