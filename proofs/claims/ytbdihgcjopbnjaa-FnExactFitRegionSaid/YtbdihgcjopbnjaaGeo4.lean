/-
  The edges of a list of half planes with room, and without.
  Conditions: none.
-/
import Derived.Test.YtbdihgcjopbnjaaGeo3
namespace Go.Proofs.Ytbdihgcjopbnjaa
open Go.RowKit

/-- A sorted list with directions all around, and inside the gframe. -/
structure GGood (l : List Half) : Prop where
  sorted : GSorted l
  nz : ∀ h ∈ l, HNz h
  e : ∃ x ∈ l, GCov x ⟨1, 0, 1000⟩
  n : ∃ x ∈ l, GCov x ⟨0, 1, 1000⟩
  w : ∃ x ∈ l, GCov x ⟨-1, 0, 1000⟩
  s : ∃ x ∈ l, GCov x ⟨0, -1, 1000⟩
def gframe : List Half := [⟨1, 0, 1000⟩, ⟨0, 1, 1000⟩, ⟨-1, 0, 1000⟩, ⟨0, -1, 1000⟩]
theorem good_tight {hs : List Half} (n : ∀ h ∈ hs, HNz h) (f : ∀ h ∈ gframe, h ∈ hs) : GGood (gtight hs) := by
  have c := tight_canon n
  refine ⟨c.sorted, fun h hh => n h (c.mem h hh), c.cov _ (f _ ?_), c.cov _ (f _ ?_), c.cov _ (f _ ?_), c.cov _ (f _ ?_)⟩ <;> simp [gframe]
/-- What a cover of a direction of the gframe is. -/
theorem cov_e {x : Half} (_ : HNz x) (c : GCov x ⟨1, 0, 1000⟩) : x.b = 0 ∧ 0 < x.a ∧ x.c ≤ 1000 * x.a := by
  obtain ⟨c1, c2⟩ := c
  obtain ⟨c3, c4⟩ := same_iff.1 c1
  have hb : x.b = 0 := by simp [hcrs] at c3; omega
  have c4' : hup x = true := by rw [c4]; decide
  rw [upper_iff] at c4'
  have ha : 0 < x.a := by omega
  have e : hsz x = x.a := by unfold hsz; rw [if_neg (by omega)]; omega
  have e2 : hsz ⟨1, 0, 1000⟩ = 1 := by decide
  rw [e, e2] at c2
  simp only at c2
  exact ⟨hb, ha, by omega⟩
theorem cov_w {x : Half} (n : HNz x) (c : GCov x ⟨-1, 0, 1000⟩) : x.b = 0 ∧ x.a < 0 ∧ x.c ≤ 1000 * -x.a := by
  obtain ⟨c1, c2⟩ := c
  obtain ⟨c3, c4⟩ := same_iff.1 c1
  have hb : x.b = 0 := by simp [hcrs] at c3; omega
  have c4' : hup x = false := by rw [c4]; decide
  rw [lower_iff n] at c4'
  have ha : x.a < 0 := by omega
  have e : hsz x = -x.a := by unfold hsz; rw [if_neg (by omega)]; omega
  have e2 : hsz ⟨-1, 0, 1000⟩ = 1 := by decide
  rw [e, e2] at c2
  simp only at c2
  exact ⟨hb, ha, by omega⟩
theorem cov_n {x : Half} (_ : HNz x) (c : GCov x ⟨0, 1, 1000⟩) : x.a = 0 ∧ 0 < x.b ∧ x.c ≤ 1000 * x.b := by
  obtain ⟨c1, c2⟩ := c
  obtain ⟨c3, c4⟩ := same_iff.1 c1
  have hb : x.a = 0 := by simp [hcrs] at c3; omega
  have c4' : hup x = true := by rw [c4]; decide
  rw [upper_iff] at c4'
  have ha : 0 < x.b := by omega
  have e : hsz x = x.b := by unfold hsz; rw [if_pos hb]; omega
  have e2 : hsz ⟨0, 1, 1000⟩ = 1 := by decide
  rw [e, e2] at c2
  simp only at c2
  exact ⟨hb, ha, by omega⟩
theorem cov_s {x : Half} (n : HNz x) (c : GCov x ⟨0, -1, 1000⟩) : x.a = 0 ∧ x.b < 0 ∧ x.c ≤ 1000 * -x.b := by
  obtain ⟨c1, c2⟩ := c
  obtain ⟨c3, c4⟩ := same_iff.1 c1
  have hb : x.a = 0 := by simp [hcrs] at c3; omega
  have c4' : hup x = false := by rw [c4]; decide
  rw [lower_iff n] at c4'
  have ha : x.b < 0 := by omega
  have e : hsz x = -x.b := by unfold hsz; rw [if_pos hb]; omega
  have e2 : hsz ⟨0, -1, 1000⟩ = 1 := by decide
  rw [e, e2] at c2
  simp only at c2
  exact ⟨hb, ha, by omega⟩

theorem GGood.around {l : List Half} (g : GGood l) {h : Half} (n : HNz h) : (∃ x ∈ l, 0 < hcrs h x) ∧ (∃ x ∈ l, hcrs h x < 0) := by
  obtain ⟨e, he, ce⟩ := g.e
  obtain ⟨no, hn, cn⟩ := g.n
  obtain ⟨w, hw, cw⟩ := g.w
  obtain ⟨s, hs, cs⟩ := g.s
  obtain ⟨e1, e2, _⟩ := cov_e (g.nz e he) ce
  obtain ⟨n1, n2, _⟩ := cov_n (g.nz no hn) cn
  obtain ⟨w1, w2, _⟩ := cov_w (g.nz w hw) cw
  obtain ⟨s1, s2, _⟩ := cov_s (g.nz s hs) cs
  have xe : hcrs h e = -(h.b * e.a) := by simp only [hcrs, e1]; grind
  have xw : hcrs h w = -(h.b * w.a) := by simp only [hcrs, w1]; grind
  have xn : hcrs h no = h.a * no.b := by simp only [hcrs, n1]; grind
  have xs : hcrs h s = h.a * s.b := by simp only [hcrs, s1]; grind
  unfold HNz at n
  rcases Int.lt_trichotomy h.a 0 with ha | ha | ha
  · refine ⟨⟨s, hs, ?_⟩, ⟨no, hn, ?_⟩⟩
    · rw [xs]; exact Int.mul_pos_of_neg_of_neg ha s2
    · rw [xn]; exact Int.mul_neg_of_neg_of_pos ha n2
  · rcases Int.lt_or_gt_of_ne (show h.b ≠ 0 by omega) with hb | hb
    · refine ⟨⟨e, he, ?_⟩, ⟨w, hw, ?_⟩⟩
      · rw [xe]; have := Int.mul_neg_of_neg_of_pos hb e2; omega
      · rw [xw]; have := Int.mul_pos_of_neg_of_neg hb w2; omega
    · refine ⟨⟨w, hw, ?_⟩, ⟨e, he, ?_⟩⟩
      · rw [xw]; have := Int.mul_neg_of_pos_of_neg hb w2; omega
      · rw [xe]; have := Int.mul_pos hb e2; omega
  · refine ⟨⟨no, hn, ?_⟩, ⟨s, hs, ?_⟩⟩
    · rw [xn]; exact Int.mul_pos ha n2
    · rw [xs]; exact Int.mul_neg_of_pos_of_neg ha s2

/-- A point of all half planes of such a list is within the gframe. -/
theorem GGood.frame {l : List Half} (g : GGood l) {x y d : Int} (h : ∀ f ∈ l, f.a * x + f.b * y ≤ f.c * d) (hd : 0 ≤ d) : (-1000 * d ≤ x ∧ x ≤ 1000 * d) ∧ (-1000 * d ≤ y ∧ y ≤ 1000 * d) := by
  have key : ∀ {m c z : Int}, 0 < m → c ≤ 1000 * m → m * z ≤ c * d → z ≤ 1000 * d := by
    intro m c z hm hc half0
    have h1 := Int.mul_le_mul_of_nonneg_right hc hd
    have e : m * (1000 * d - z) = 1000 * m * d - m * z := by grind
    have := gmn (a := m) (b := 1000 * d - z) (by rw [e]; omega) hm
    omega
  obtain ⟨e, he, ce⟩ := g.e
  obtain ⟨no, hn, cn⟩ := g.n
  obtain ⟨w, hw, cw⟩ := g.w
  obtain ⟨s, hs, cs⟩ := g.s
  obtain ⟨e1, e2, e3⟩ := cov_e (g.nz e he) ce
  obtain ⟨n1, n2, n3⟩ := cov_n (g.nz no hn) cn
  obtain ⟨w1, w2, w3⟩ := cov_w (g.nz w hw) cw
  obtain ⟨s1, s2, s3⟩ := cov_s (g.nz s hs) cs
  have h1 := h e he
  have h2 := h no hn
  have h3 := h w hw
  have h4 := h s hs
  rw [e1, Int.zero_mul, Int.add_zero] at h1
  rw [n1, Int.zero_mul, Int.zero_add] at h2
  rw [w1, Int.zero_mul, Int.add_zero] at h3
  rw [s1, Int.zero_mul, Int.zero_add] at h4
  have k1 := key e2 e3 h1
  have k2 := key n2 n3 h2
  have k3 := key (m := -w.a) (z := -x) (by omega) w3 (by rw [Int.neg_mul_neg]; exact h3)
  have k4 := key (m := -s.b) (z := -y) (by omega) s3 (by rw [Int.neg_mul_neg]; exact h4)
  omega

/-- Two opposite ones that leave no room. -/
def GVoid (l : List Half) : Prop := ∃ u ∈ l, ∃ v ∈ l, u ≠ v ∧ hcrs u v = 0 ∧ ¬ 0 < u.c * hsz v + v.c * hsz u
theorem GGood.opp {l : List Half} (g : GGood l) {u v : Half} (hu : u ∈ l) (hv : v ∈ l) (hne : u ≠ v) (hx : hcrs u v = 0) : hup u ≠ hup v ∧ u.a * hsz v = -(v.a * hsz u) ∧ u.b * hsz v = -(v.b * hsz u) := by
  rcases hpar (g.nz u hu) (g.nz v hv) hx with h | h
  · exact absurd (g.sorted.same g.nz hu hv (same_iff.2 ⟨hx, h.1⟩)) hne
  · exact h
theorem opp_det {u v : Half} (h1 : u.a * hsz v = -(v.a * hsz u)) (h2 : u.b * hsz v = -(v.b * hsz u)) (h g : Half) :
    hsz v * hdet h g u + hsz u * hdet h g v = (u.c * hsz v + v.c * hsz u) * hcrs h g := by
  simp only [hdet, hcrs]; grind
theorem opp_crs {u v : Half} (h1 : u.a * hsz v = -(v.a * hsz u)) (h2 : u.b * hsz v = -(v.b * hsz u)) (h : Half) :
    hsz v * hcrs h u + hsz u * hcrs h v = 0 := by
  simp only [hcrs]; grind
theorem GGood.nv {l : List Half} (g : GGood l) (hn : ¬GVoid l) : GNV hcrs hdet l := by
  intro u hu v hv h0 hne k hk
  obtain ⟨_, h1, h2⟩ := g.opp hu hv hne h0
  have hs := hsz_pos (g.nz u hu)
  have hr : 0 < u.c * hsz v + v.c * hsz u := by
    rcases Classical.em (0 < u.c * hsz v + v.c * hsz u) with h | h
    · exact h
    · exact absurd ⟨u, hu, v, hv, hne, h0, h⟩ hn
  have id := opp_det h1 h2 u k
  rw [gom.d0 u k, Int.mul_zero, Int.zero_add] at id
  have sq : 0 < hcrs u k * hcrs u k := by
    rcases Int.lt_or_gt_of_ne hk with h | h
    · exact Int.mul_pos_of_neg_of_neg h h
    · exact Int.mul_pos h h
  have := Int.mul_pos hr sq
  have e : hsz u * (hcrs u k * hdet u k v) = (u.c * hsz v + v.c * hsz u) * (hcrs u k * hcrs u k) := by
    have := congrArg (fun z => z * hcrs u k) id
    grind
  exact gmp (by rw [e]; exact this) hs
theorem GGood.void {l : List Half} (g : GGood l) (hv : GVoid l) : ∃ u v : Half, ∀ h ∈ l, GES hcrs hdet l h → h = u ∨ h = v := by
  obtain ⟨u, hu, v, hv, hne, h0, hr⟩ := hv
  obtain ⟨hup, h1, h2⟩ := g.opp hu hv hne h0
  refine ⟨u, v, fun h hh es => ?_⟩
  have su := hsz_pos (g.nz u hu)
  have sv := hsz_pos (g.nz v hv)
  have hx := ES_void gom hu hv sv su (fun h k _ _ => by
    rw [opp_det h1 h2]
    have : 0 ≤ hcrs h k * hcrs h k := by
      rcases Int.le_total 0 (hcrs h k) with h | h
      · exact Int.mul_nonneg h h
      · exact Int.mul_nonneg_of_nonpos_of_nonpos h h
    have e : hcrs h k * ((u.c * hsz v + v.c * hsz u) * hcrs h k) = (hcrs h k * hcrs h k) * (u.c * hsz v + v.c * hsz u) := by grind
    rw [e]
    exact Int.mul_nonpos_of_nonneg_of_nonpos this (by omega)) es
  by_cases e : h = u
  · exact .inl e
  · right
    have hp := (g.opp hh hu e hx).1
    have hx2 : hcrs h v = 0 := by
      have := opp_crs h1 h2 h
      rw [hx, Int.mul_zero, Int.zero_add] at this
      exact gmz this (by omega)
    refine g.sorted.same g.nz hh hv (same_iff.2 ⟨hx2, ?_⟩)
    revert hp hup
    generalize hup h = a
    generalize hup u = b
    generalize hup v = c
    revert a b c; decide

theorem gtwo_len {α : Type} [DecidableEq α] {l : List α} (n : l.Nodup) {u v : α} (h : ∀ x ∈ l, x = u ∨ x = v) : l.length < 3 := by
  match l, n, h with
  | [], _, _ => simp
  | [_], _, _ => simp
  | [_, _], _, _ => simp
  | a :: b :: c :: r, n, h =>
    exfalso
    simp only [List.nodup_cons, List.mem_cons, not_or] at n
    have h1 := h a (by simp)
    have h2 := h b (by simp)
    have h3 := h c (by simp)
    obtain ⟨⟨n1, n2, _⟩, ⟨n3, _⟩, _⟩ := n
    rcases h1 with rfl | rfl <;> rcases h2 with rfl | rfl <;> rcases h3 with rfl | rfl <;> simp_all
theorem gthree_len {α : Type} {l : List α} {a b c : α} (ha : a ∈ l) (hb : b ∈ l) (hc : c ∈ l) (h1 : a ≠ b) (h2 : a ≠ c) (h3 : b ≠ c) : 3 ≤ l.length := by
  match l, ha, hb, hc with
  | [], ha, _, _ => cases ha
  | [x], ha, hb, _ => simp at ha hb; exact absurd (ha.trans hb.symm) h1
  | [x, y], ha, hb, hc =>
    exfalso
    simp at ha hb hc
    rcases ha with rfl | rfl <;> rcases hb with rfl | rfl <;> rcases hc with rfl | rfl <;> simp_all
  | _ :: _ :: _ :: _, _, _, _ => simp

theorem GSorted.nodup {l : List Half} (s : GSorted l) : l.Nodup := by
  refine List.Pairwise.imp ?_ s
  intro a b h e
  subst e
  rw [bef_irr] at h; cases h

/-- Where there is room, the edges are those of the reference, and there are none or at least three. -/
theorem GGood.edges {l : List Half} (g : GGood l) (hn : ¬GVoid l) : (∀ h ∈ l, GEdge hcrs hdet l h ↔ GES hcrs hdet l h) ∧ ∀ p : Half → Bool, (∀ h ∈ l, p h = true ↔ GEdge hcrs hdet l h) → (l.filter p = [] ∨ 3 ≤ (l.filter p).length) := by
  have nv := g.nv hn
  refine ⟨fun h hh => ⟨fun e => ?_, fun e => edge_of_ES gom e⟩, fun p hp => ?_⟩
  · have a := g.around (g.nz h hh)
    exact ES_of_edge gom nv hh e a.1 a.2
  · rcases hl : l.filter p with _ | ⟨h, r⟩
    · exact .inl rfl
    · right
      rw [← hl]
      have hm : h ∈ l.filter p := by rw [hl]; simp
      obtain ⟨hh, hph⟩ := List.mem_filter.1 hm
      have e := (hp h hh).1 hph
      have a := g.around (g.nz h hh)
      obtain ⟨x, hx, x1, _, _, x2⟩ := gnext gom nv hh e a.1
      obtain ⟨y, hy, y1, _, y2⟩ := gprev gom nv hh e a.2
      refine gthree_len hm (List.mem_filter.2 ⟨hx, (hp x hx).2 x2⟩) (List.mem_filter.2 ⟨hy, (hp y hy).2 y2⟩) ?_ ?_ ?_
      · rintro rfl; rw [gom.x0] at x1; omega
      · rintro rfl; rw [gom.x0] at y1; omega
      · rintro rfl; omega
theorem GGood.void_len {l : List Half} (g : GGood l) (hv : GVoid l) (p : Half → Bool) (hp : ∀ h ∈ l, p h = true → GES hcrs hdet l h) : (l.filter p).length < 3 := by
  obtain ⟨u, v, h⟩ := g.void hv
  refine gtwo_len (u := u) (v := v) (g.sorted.nodup.filter p) (fun x hx => ?_)
  obtain ⟨h1, h2⟩ := List.mem_filter.1 hx
  exact h x h1 (hp x h1 h2)
end Go.Proofs.Ytbdihgcjopbnjaa
