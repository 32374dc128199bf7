/-
  A region with points has points inside; fewer half planes leave a region with points. No program is named here.
  Conditions: none.
-/
import Derived.Test.YtbdihgcjopbnjaaGreatSupG
namespace Go.Proofs.YtbdihgcjopbnjaaGreat
open Go.RowKit

/-- The determinant of three points. -/
def det3 (x0 y0 d0 x1 y1 d1 x2 y2 d2 : Int) : Int := x0 * (y1 * d2 - y2 * d1) - y0 * (x1 * d2 - x2 * d1) + d0 * (x1 * y2 - x2 * y1)
theorem det_cross (a1 a2 a3 b1 b2 b3 c1 c2 c3 e1 e2 e3 : Int) :
    det3 (a3 * b2 - b3 * a2) (a1 * b3 - b1 * a3) (a1 * b2 - a2 * b1) (b3 * c2 - c3 * b2) (b1 * c3 - c1 * b3) (b1 * c2 - b2 * c1) (c3 * e2 - e3 * c2) (c1 * e3 - e1 * c3) (c1 * e2 - c2 * e1) =
    (c3 * (a1 * b2 - a2 * b1) - c1 * (a3 * b2 - b3 * a2) - c2 * (a1 * b3 - b1 * a3)) * (e3 * (b1 * c2 - b2 * c1) - e1 * (b3 * c2 - c3 * b2) - e2 * (b1 * c3 - c1 * b3)) := by
  unfold det3; grind
theorem det3_a {f : Half} {x0 y0 d0 x1 y1 d1 x2 y2 d2 : Int} (h0 : f.a * x0 + f.b * y0 = f.c * d0) (h1 : f.a * x1 + f.b * y1 = f.c * d1) (h2 : f.a * x2 + f.b * y2 = f.c * d2) :
    det3 x0 y0 d0 x1 y1 d1 x2 y2 d2 * f.a = 0 ∧ det3 x0 y0 d0 x1 y1 d1 x2 y2 d2 * f.b = 0 := by
  unfold det3
  constructor <;> grind
/-- A point inside three corners. -/
theorem inner_of {f : Half} (n : HNz f) {x0 y0 d0 x1 y1 d1 x2 y2 d2 : Int} (hdet : det3 x0 y0 d0 x1 y1 d1 x2 y2 d2 ≠ 0) (h0 : HoldsP f x0 y0 d0) (h1 : HoldsP f x1 y1 d1) (h2 : HoldsP f x2 y2 d2) :
    f.a * (x0 + x1 + x2) + f.b * (y0 + y1 + y2) < f.c * (d0 + d1 + d2) := by
  unfold HoldsP at h0 h1 h2
  have e : f.a * (x0 + x1 + x2) + f.b * (y0 + y1 + y2) = (f.a * x0 + f.b * y0) + (f.a * x1 + f.b * y1) + (f.a * x2 + f.b * y2) := by grind
  have e' : f.c * (d0 + d1 + d2) = f.c * d0 + f.c * d1 + f.c * d2 := by grind
  rw [e, e']
  rcases glt_or ((f.a * x0 + f.b * y0) + (f.a * x1 + f.b * y1) + (f.a * x2 + f.b * y2)) (f.c * d0 + f.c * d1 + f.c * d2) with h | h
  · exact h
  · exfalso
    obtain ⟨p, q⟩ := det3_a (f := f) (x0 := x0) (y0 := y0) (d0 := d0) (x1 := x1) (y1 := y1) (d1 := d1) (x2 := x2) (y2 := y2) (d2 := d2) (by omega) (by omega) (by omega)
    have p2 := (Int.mul_eq_zero.1 p).resolve_left hdet
    have q2 := (Int.mul_eq_zero.1 q).resolve_left hdet
    unfold HNz at n
    omega
theorem cr_pos {h g : Half} (x : 0 < hcrs h g) : crX h g = h.c * g.b - g.c * h.b ∧ crY h g = h.a * g.c - g.a * h.c ∧ crD h g = h.a * g.b - h.b * g.a := by
  unfold crX crY crD
  rw [if_neg (by omega), if_neg (by omega), if_neg (by omega)]
  exact ⟨rfl, rfl, rfl⟩
/-- A point inside a region with points. -/
theorem meet_inner {hs : List Half} (hok : ∀ h ∈ hs, halfOk h = true) (hne : meetI (meetL hs) ≠ []) : ∃ x y d : Int, 0 < d ∧ ∀ f ∈ gframe ++ hs, f.a * x + f.b * y < f.c * d := by
  have gd := meetL_good hok
  have hn := meetI_nv gd hne
  have nv := gd.nv hn
  obtain ⟨h, hh, he⟩ := meetI_ex gd hne
  obtain ⟨g0, hg0, k0, hk0, eg0, ek0, x0, x1, dd, v1, v0⟩ := edge_corners gd hn hh he
  obtain ⟨k1, hk1, x2, v2, s2, ek1⟩ := gnext gom nv hk0 ek0 (gd.around (gd.nz k0 hk0)).1
  have hold : ∀ {p q : Half}, 0 < hcrs p q → (∀ f ∈ meetL hs, 0 ≤ hdet p q f) → ∀ f ∈ gframe ++ hs, HoldsP f (crX p q) (crY p q) (crD p q) := by
    intro p q hx hv
    refine (meet_holds hok hne (by have := crD_pos (show hcrs p q ≠ 0 by omega); omega)).1 (fun e he => ?_)
    exact (det_holds hx).1 (hv e (meetI_mem gd he).1)
  have c0 := hold x0 v0
  have c1 := hold x1 v1
  have c2 := hold x2 v2
  have p0 := crD_pos (show hcrs g0 h ≠ 0 by omega)
  have p1 := crD_pos (show hcrs h k0 ≠ 0 by omega)
  have p2 := crD_pos (show hcrs k0 k1 ≠ 0 by omega)
  have hd : det3 (crX g0 h) (crY g0 h) (crD g0 h) (crX h k0) (crY h k0) (crD h k0) (crX k0 k1) (crY k0 k1) (crD k0 k1) ≠ 0 := by
    obtain ⟨e1, e2, e3⟩ := cr_pos x0
    obtain ⟨e4, e5, e6⟩ := cr_pos x1
    obtain ⟨e7, e8, e9⟩ := cr_pos x2
    rw [e1, e2, e3, e4, e5, e6, e7, e8, e9, det_cross]
    change hdet g0 h k0 * hdet h k0 k1 ≠ 0
    have := ek0 h hh k1 hk1 x1 x2
    exact Int.mul_ne_zero (by omega) (by omega)
  exact ⟨_, _, _, by omega, fun f hf => inner_of (hOk (frame_all hok f hf)).n hd (c0 f hf) (c1 f hf) (c2 f hf)⟩
/-- The room that a point leaves under a half plane. -/
def slk (x y d : Int) (f : Half) : Int := f.c * d - (f.a * x + f.b * y)
theorem det_slk (x y d : Int) (g h k : Half) : hdet g h k * d = hcrs g h * slk x y d k - hcrs g k * slk x y d h + hcrs h k * slk x y d g := by
  simp only [hdet, hcrs, slk]; grind
/-- What a ray to the east meets first is an edge. -/
theorem edge_exists {L : List Half} (gd : GGood L) {x y d : Int} (hd : 0 < d) (hst : ∀ f ∈ L, 0 < slk x y d f) : ∃ e ∈ L, GEdge hcrs hdet L e := by
  have hex : ∃ e ∈ L, 0 < e.a := by
    obtain ⟨e, he, hx⟩ := (gd.around (h := ⟨0, 1, 0⟩) (by unfold HNz; simp)).2
    refine ⟨e, he, ?_⟩
    simp only [hcrs] at hx
    omega
  obtain ⟨h, hh, hp, hmin⟩ := gexists_min (P := fun f : Half => 0 < f.a ∧ 0 < slk x y d f) (le := fun a b => b.a * slk x y d a - a.a * slk x y d b < 0 ∨ (b.a * slk x y d a - a.a * slk x y d b = 0 ∧ 0 ≤ hcrs a b))
    (by
      intro a b _ _
      have := crs_anti a b
      omega)
    (by
      rintro a b c ⟨ha, sa⟩ ⟨hb, sb⟩ ⟨hc, sc⟩ h1 h2
      have id : b.a * (c.a * slk x y d a - a.a * slk x y d c) = c.a * (b.a * slk x y d a - a.a * slk x y d b) + a.a * (c.a * slk x y d b - b.a * slk x y d c) := by grind
      have idx : b.a * hcrs a c = c.a * hcrs a b + a.a * hcrs b c := by simp only [hcrs]; grind
      generalize slk x y d a = s1 at *
      generalize slk x y d b = s2 at *
      generalize slk x y d c = s3 at *
      generalize b.a * s1 - a.a * s2 = r1 at *
      generalize c.a * s2 - b.a * s3 = r2 at *
      generalize c.a * s1 - a.a * s3 = r3 at *
      rcases h1 with h1 | ⟨h1, k1⟩ <;> rcases h2 with h2 | ⟨h2, k2⟩
      · left
        have m1 := Int.mul_pos hc (show 0 < -r1 by omega)
        have m2 := Int.mul_pos ha (show 0 < -r2 by omega)
        rw [Int.mul_neg] at m1 m2
        rcases glt_or r3 0 with q | q
        · exact q
        · have := Int.mul_nonneg (show 0 ≤ b.a by omega) q
          omega
      · left
        have m1 := Int.mul_pos hc (show 0 < -r1 by omega)
        rw [Int.mul_neg] at m1
        rw [h2, Int.mul_zero] at id
        rcases glt_or r3 0 with q | q
        · exact q
        · have := Int.mul_nonneg (show 0 ≤ b.a by omega) q
          omega
      · left
        have m2 := Int.mul_pos ha (show 0 < -r2 by omega)
        rw [Int.mul_neg] at m2
        rw [h1, Int.mul_zero] at id
        rcases glt_or r3 0 with q | q
        · exact q
        · have := Int.mul_nonneg (show 0 ≤ b.a by omega) q
          omega
      · right
        rw [h1, h2, Int.mul_zero, Int.mul_zero] at id
        have e0 := (Int.mul_eq_zero.1 id).resolve_left (by omega)
        refine ⟨e0, ?_⟩
        have m1 := Int.mul_nonneg (show 0 ≤ c.a by omega) k1
        have m2 := Int.mul_nonneg (show 0 ≤ a.a by omega) k2
        exact gmn (a := b.a) (by omega) hb) L (by
      obtain ⟨e, he, ha⟩ := hex
      exact ⟨e, he, ha, hst e he⟩)
  obtain ⟨ha, hs⟩ := hp
  refine ⟨h, hh, fun g hg k hk x1 x2 => ?_⟩
  have sg : ∀ f ∈ L, 0 ≤ h.a * slk x y d f - f.a * slk x y d h ∧ (h.a * slk x y d f - f.a * slk x y d h = 0 → 0 ≤ hcrs h f) := by
    intro f hf
    have sf := hst f hf
    rcases glt_or 0 f.a with q | q
    · have := hmin f hf ⟨q, sf⟩
      constructor
      · omega
      · intro e; omega
    · have m1 := Int.mul_pos ha sf
      have m2 := Int.mul_nonneg (show 0 ≤ -f.a by omega) (show 0 ≤ slk x y d h by omega)
      rw [Int.neg_mul] at m2
      constructor
      · omega
      · intro e; omega
  have id : hdet g h k * (d * h.a) = hcrs g h * (h.a * slk x y d k - k.a * slk x y d h) + hcrs h k * (h.a * slk x y d g - g.a * slk x y d h) := by
    rw [← Int.mul_assoc, det_slk]
    have : hcrs g k * h.a = hcrs g h * k.a + hcrs h k * g.a := by simp only [hcrs]; grind
    generalize slk x y d g = s1 at *
    generalize slk x y d h = s2 at *
    generalize slk x y d k = s3 at *
    generalize hcrs g h = c1 at *
    generalize hcrs h k = c2 at *
    generalize hcrs g k = c3 at *
    grind
  obtain ⟨u1, u2⟩ := sg g hg
  obtain ⟨v1, _⟩ := sg k hk
  have hg0 : 0 < h.a * slk x y d g - g.a * slk x y d h := by
    rcases Classical.em (h.a * slk x y d g - g.a * slk x y d h = 0) with q | q
    · have := u2 q
      have := crs_anti g h
      omega
    · omega
  have m1 := Int.mul_nonneg (show 0 ≤ hcrs g h by omega) v1
  have m2 := Int.mul_pos x2 hg0
  have m3 : 0 < (d * h.a) * hdet g h k := by rw [Int.mul_comm]; omega
  exact gmp m3 (Int.mul_pos hd ha)
theorem nvoid_of {L : List Half} (gd : GGood L) {x y d : Int} (hst : ∀ f ∈ L, 0 < slk x y d f) (hd : 0 < d) : ¬ GVoid L := by
  rintro ⟨u, hu, v, hv, hne, hx, hno⟩
  obtain ⟨_, h1, h2⟩ := gd.opp hu hv hne hx
  have pu := hsz_pos (gd.nz u hu)
  have pv := hsz_pos (gd.nz v hv)
  have m1 := Int.mul_pos pv (hst u hu)
  have m2 := Int.mul_pos pu (hst v hv)
  have id : hsz v * slk x y d u + hsz u * slk x y d v = (u.c * hsz v + v.c * hsz u) * d := by
    unfold slk
    have e1 : hsz v * (u.c * d - (u.a * x + u.b * y)) = hsz v * u.c * d - (u.a * hsz v * x + u.b * hsz v * y) := by grind
    rw [e1, h1, h2]
    grind
  exact hno (gmp (a := d) (by rw [Int.mul_comm]; omega) hd)
/-- Fewer half planes leave a region with points. -/
theorem meet_fewer {hs hs' : List Half} (hok : ∀ h ∈ hs, halfOk h = true) (hsub : ∀ h ∈ hs', h ∈ hs) (hne : meetI (meetL hs) ≠ []) : meetI (meetL hs') ≠ [] := by
  obtain ⟨x, y, d, hd, hst⟩ := meet_inner hok hne
  have hok' : ∀ h ∈ hs', halfOk h = true := fun h hh => hok h (hsub h hh)
  have gd := meetL_good hok'
  have c := tight_canon (hs := gframe ++ hs') (fun f hf => (hOk (frame_all hok' f hf)).n)
  have hst' : ∀ f ∈ meetL hs', 0 < slk x y d f := by
    intro f hf
    have hm := c.mem f hf
    have : f ∈ gframe ++ hs := by
      rcases List.mem_append.1 hm with h | h
      · exact List.mem_append.2 (.inl h)
      · exact List.mem_append.2 (.inr (hsub f h))
    have := hst f this
    unfold slk; omega
  obtain ⟨e, he, hedge⟩ := edge_exists gd hd hst'
  have hv : ¬ voidB (meetL hs') = true := fun h => nvoid_of gd hst' hd ((voidB_iff gd).1 h)
  rw [meetI_nvoid hv]
  intro h0
  have : e ∈ (meetL hs').filter (gedge (meetL hs')) := List.mem_filter.2 ⟨he, (edge_iff gd (gd.nz e he)).2 hedge⟩
  rw [h0] at this
  cases this
end Go.Proofs.YtbdihgcjopbnjaaGreat
