/-
  The tightest half plane of each direction, in the order of the directions.
  Conditions: none.
-/
import Derived.Test.YtbdihgcjopbnjaaGeo2
namespace Go.Proofs.Ytbdihgcjopbnjaa
open Go.RowKit

/-! ### the tightest one of each direction -/
def htighter (g h : Half) : Half := if h.c * hsz g < g.c * hsz h then h else g
def gins : List Half → Half → List Half
  | [], h => [h]
  | x :: r, h => if hbef x h = true then x :: gins r h else if sameDir x h = true then htighter x h :: r else h :: x :: r
def gtight (hs : List Half) : List Half := hs.foldl gins []
def GSorted (l : List Half) : Prop := l.Pairwise fun g h => hbef g h = true
def GCov (x h : Half) : Prop := sameDir x h = true ∧ x.c * hsz h ≤ h.c * hsz x

theorem same_iff {g h : Half} : sameDir g h = true ↔ hcrs g h = 0 ∧ hup g = hup h := by simp [sameDir]
theorem same_refl (h : Half) : sameDir h h = true := same_iff.2 ⟨gom.x0 h, rfl⟩
theorem same_symm {g h : Half} (s : sameDir g h = true) : sameDir h g = true := by
  rw [same_iff] at *
  have := crs_anti g h
  exact ⟨by omega, s.2.symm⟩
theorem same_scale {x h : Half} (nx : HNz x) (nh : HNz h) (s : sameDir x h = true) : x.a * hsz h = h.a * hsz x ∧ x.b * hsz h = h.b * hsz x := by
  obtain ⟨s1, s2⟩ := same_iff.1 s
  rcases hpar nx nh s1 with ⟨_, h1, h2⟩ | ⟨h0, _⟩
  · exact ⟨h1, h2⟩
  · exact absurd s2 h0
theorem same_crs {x h : Half} (nx : HNz x) (nh : HNz h) (s : sameDir x h = true) (k : Half) : hsz h * hcrs x k = hsz x * hcrs h k := by
  obtain ⟨h1, h2⟩ := same_scale nx nh s
  simp only [hcrs]
  grind
theorem gsign_eq {m n a b : Int} (hm : 0 < m) (hn : 0 < n) (h : m * a = n * b) : (0 < a ↔ 0 < b) ∧ (a = 0 ↔ b = 0) := by
  refine ⟨⟨fun h1 => ?_, fun h1 => ?_⟩, ⟨fun h1 => ?_, fun h1 => ?_⟩⟩
  · have := Int.mul_pos hm h1; exact gmp (a := n) (by omega) hn
  · have := Int.mul_pos hn h1; exact gmp (a := m) (by omega) hm
  · rw [h1, Int.mul_zero] at h; exact gmz h.symm (by omega)
  · rw [h1, Int.mul_zero] at h; exact gmz h (by omega)
theorem same_bef {x h : Half} (nx : HNz x) (nh : HNz h) (s : sameDir x h = true) (k : Half) : hbef x k = hbef h k ∧ hbef k x = hbef k h := by
  have hc := same_crs nx nh s k
  have hs := (gsign_eq (hsz_pos nh) (hsz_pos nx) hc).1
  have half0 := (gsign_eq (hsz_pos nh) (hsz_pos nx) hc).2
  have u := (same_iff.1 s).2
  have a1 := crs_anti x k
  have a2 := crs_anti h k
  unfold hbef
  rw [u]
  constructor
  · by_cases e : hup h = hup k
    · rw [if_pos e, if_pos e]; exact decide_eq_decide.2 hs
    · rw [if_neg e, if_neg e]
  · by_cases e : hup k = hup h
    · rw [if_pos e, if_pos e]; exact decide_eq_decide.2 (by omega)
    · rw [if_neg e, if_neg e]
theorem same_trans {x h k : Half} (nx : HNz x) (nh : HNz h) (s1 : sameDir x h = true) (s2 : sameDir h k = true) : sameDir x k = true := by
  have hc := (gsign_eq (hsz_pos nh) (hsz_pos nx) (same_crs nx nh s1 k)).2
  rw [same_iff] at *
  exact ⟨hc.2 s2.1, s1.2.trans s2.2⟩
theorem cov_refl (h : Half) : GCov h h := ⟨same_refl h, Int.le_refl _⟩
theorem cov_trans {x h k : Half} (nx : HNz x) (nh : HNz h) (nk : HNz k) (c1 : GCov x h) (c2 : GCov h k) : GCov x k := by
  refine ⟨same_trans nx nh c1.1 c2.1, ?_⟩
  have p1 := hsz_pos nx
  have p2 := hsz_pos nh
  have p3 := hsz_pos nk
  have q1 := Int.mul_le_mul_of_nonneg_right c1.2 (Int.le_of_lt p3)
  have q2 := Int.mul_le_mul_of_nonneg_right c2.2 (Int.le_of_lt p1)
  have e1 : hsz h * (k.c * hsz x - x.c * hsz k) = (k.c * hsz h * hsz x) - (x.c * hsz h * hsz k) := by grind
  have e2 : h.c * hsz x * hsz k = h.c * hsz k * hsz x := by grind
  have := gmn (a := hsz h) (b := k.c * hsz x - x.c * hsz k) (by rw [e1]; omega) p2
  omega
theorem tighter_or (x h : Half) : htighter x h = x ∨ htighter x h = h := by unfold htighter; split <;> simp
theorem tighter_cov {x h : Half} (s : sameDir x h = true) : GCov (htighter x h) x ∧ GCov (htighter x h) h := by
  unfold htighter
  split
  · exact ⟨⟨same_symm s, by omega⟩, cov_refl h⟩
  · exact ⟨cov_refl x, ⟨s, by omega⟩⟩

theorem ins_mem : ∀ {l : List Half} {h x : Half}, x ∈ gins l h → x ∈ l ∨ x = h
  | [], h, x, m => by simp [gins] at m; exact .inr m
  | y :: r, h, x, m => by
    unfold gins at m
    split at m
    · rcases List.mem_cons.1 m with rfl | m
      · simp
      · rcases ins_mem m with m | m
        · simp [m]
        · exact .inr m
    · split at m
      · rcases List.mem_cons.1 m with rfl | m
        · rcases tighter_or y h with e | e <;> rw [e] <;> simp
        · simp [m]
      · rcases List.mem_cons.1 m with rfl | m
        · simp
        · exact .inl m
theorem ins_sorted : ∀ {l : List Half} {h : Half}, (∀ x ∈ l, HNz x) → HNz h → GSorted l → GSorted (gins l h)
  | [], h, _, _, _ => by simp [gins, GSorted]
  | y :: r, h, nl, nh, hs => by
    have hs' := List.pairwise_cons.1 hs
    have ny := nl y (by simp)
    have nr : ∀ x ∈ r, HNz x := fun x hx => nl x (by simp [hx])
    unfold gins
    split
    · rename_i hb
      refine List.pairwise_cons.2 ⟨fun z half0 => ?_, ins_sorted nr nh hs'.2⟩
      rcases ins_mem half0 with half0 | rfl
      · exact hs'.1 z half0
      · exact hb
    · rename_i hb
      split
      · rename_i hd
        refine List.pairwise_cons.2 ⟨fun z half0 => ?_, hs'.2⟩
        rcases tighter_or y h with e | e <;> rw [e]
        · exact hs'.1 z half0
        · rw [← (same_bef ny nh hd z).1]; exact hs'.1 z half0
      · rename_i hd
        have hb2 := bef_tri (by simpa using hb) (by simpa using hd)
        refine List.pairwise_cons.2 ⟨fun z half0 => ?_, hs⟩
        rcases List.mem_cons.1 half0 with rfl | half0
        · exact hb2
        · exact bef_trans nh ny (nr z half0) hb2 (hs'.1 z half0)
theorem ins_cov : ∀ {l : List Half} {h : Half}, (∀ x ∈ l, HNz x) → HNz h → ∀ k, k ∈ l ∨ k = h → ∃ y ∈ gins l h, GCov y k
  | [], h, _, _, k, hk => by
    obtain rfl : k = h := by simpa using hk
    exact ⟨k, by simp [gins], cov_refl k⟩
  | y :: r, h, nl, nh, k, hk => by
    have ny := nl y (by simp)
    have nr : ∀ x ∈ r, HNz x := fun x hx => nl x (by simp [hx])
    unfold gins
    split
    · by_cases e : k = y
      · exact ⟨y, by simp, e ▸ cov_refl y⟩
      · obtain ⟨z, half0, hc⟩ := ins_cov nr nh k (by
          rcases hk with hk | hk
          · rcases List.mem_cons.1 hk with hk | hk
            · exact absurd hk e
            · exact .inl hk
          · exact .inr hk)
        exact ⟨z, by simp [half0], hc⟩
    · split
      · rename_i hd
        have := tighter_cov hd
        rcases hk with hk | rfl
        · rcases List.mem_cons.1 hk with rfl | hk
          · exact ⟨_, by simp, this.1⟩
          · exact ⟨k, by simp [hk], cov_refl k⟩
        · exact ⟨_, by simp, this.2⟩
      · rcases hk with hk | rfl
        · exact ⟨k, by simp [List.mem_cons.1 hk], cov_refl k⟩
        · exact ⟨k, by simp, cov_refl k⟩
theorem ins_len : ∀ (l : List Half) (h : Half), (gins l h).length ≤ l.length + 1
  | [], h => by simp [gins]
  | y :: r, h => by
    unfold gins
    have := ins_len r h
    split
    · simp only [List.length_cons]; omega
    · split <;> simp

structure GCanon (hs l : List Half) : Prop where
  sorted : GSorted l
  mem : ∀ x ∈ l, x ∈ hs
  cov : ∀ h ∈ hs, ∃ x ∈ l, GCov x h
theorem tight_go : ∀ (hs l : List Half) (pre : List Half), (∀ h ∈ hs, HNz h) → (∀ h ∈ pre, HNz h) → GCanon pre l → GCanon (pre ++ hs) (hs.foldl gins l)
  | [], l, pre, _, _, c => by simpa using c
  | h :: r, l, pre, n1, n2, c => by
    have nh := n1 h (by simp)
    have nl : ∀ x ∈ l, HNz x := fun x hx => n2 x (c.mem x hx)
    have c2 : GCanon (pre ++ [h]) (gins l h) := by
      refine ⟨ins_sorted nl nh c.sorted, fun x hx => ?_, fun k hk => ?_⟩
      · rcases ins_mem hx with hx | rfl
        · simp [c.mem x hx]
        · simp
      · rcases List.mem_append.1 hk with hk | hk
        · obtain ⟨x, hx, hc⟩ := c.cov k hk
          obtain ⟨y, hy, hc2⟩ := ins_cov nl nh x (.inl hx)
          exact ⟨y, hy, cov_trans (by rcases ins_mem hy with hy | rfl; exact nl y hy; exact nh) (nl x hx) (n2 k hk) hc2 hc⟩
        · obtain rfl : k = h := by simpa using hk
          exact ins_cov nl nh k (.inr rfl)
    have := tight_go r (gins l h) (pre ++ [h]) (fun x hx => n1 x (by simp [hx])) (by
      intro x hx
      rcases List.mem_append.1 hx with hx | hx
      · exact n2 x hx
      · obtain rfl : x = h := by simpa using hx
        exact nh) c2
    simpa using this
theorem tight_canon {hs : List Half} (n : ∀ h ∈ hs, HNz h) : GCanon hs (gtight hs) := by
  have := tight_go hs [] [] n (by simp) ⟨List.Pairwise.nil, by simp, by simp⟩
  simpa [gtight] using this
theorem tight_len (hs : List Half) : (gtight hs).length ≤ hs.length := by
  have : ∀ (hs l : List Half), (hs.foldl gins l).length ≤ l.length + hs.length := by
    intro hs
    induction hs with
    | nil => intro l; simp
    | cons h r ih =>
      intro l
      have := ih (gins l h)
      have := ins_len l h
      simp only [List.foldl_cons, List.length_cons]; omega
  simpa [gtight] using this hs []

theorem gpair_ne {α : Type} {R : α → α → Prop} : ∀ {l : List α}, l.Pairwise R → ∀ {u v}, u ∈ l → v ∈ l → u ≠ v → R u v ∨ R v u
  | [], _, _, _, h, _, _ => by cases h
  | x :: l, p, u, v, hu, hv, hne => by
    have p' := List.pairwise_cons.1 p
    rcases List.mem_cons.1 hu with e1 | hu
    · rcases List.mem_cons.1 hv with e2 | hv
      · exact absurd (e1.trans e2.symm) hne
      · rw [e1]; exact .inl (p'.1 v hv)
    · rcases List.mem_cons.1 hv with e2 | hv
      · rw [e2]; exact .inr (p'.1 u hu)
      · exact gpair_ne p'.2 hu hv hne
theorem bef_not_same {u v : Half} (nu : HNz u) (nv : HNz v) (h : hbef u v = true) : sameDir u v = false := by
  cases e : sameDir u v
  · rfl
  · rw [(same_bef nu nv e v).1, bef_irr] at h; cases h
theorem GSorted.same {l : List Half} (s : GSorted l) (n : ∀ h ∈ l, HNz h) {u v : Half} (hu : u ∈ l) (hv : v ∈ l) (h : sameDir u v = true) : u = v := by
  rcases Classical.em (u = v) with e | e
  · exact e
  · rcases gpair_ne s hu hv e with h1 | h1
    · have := bef_not_same (n u hu) (n v hv) h1
      rw [h] at this; cases this
    · have := bef_not_same (n v hv) (n u hu) h1
      rw [same_symm h] at this; cases this
theorem gsorted_ext : ∀ {l m : List Half}, GSorted l → GSorted m → (∀ x, x ∈ l ↔ x ∈ m) → l = m
  | [], [], _, _, _ => rfl
  | [], y :: m, _, _, h => by have := (h y).2 (by simp); cases this
  | x :: l, [], _, _, h => by have := (h x).1 (by simp); cases this
  | x :: l, y :: m, s, t, h => by
    have s' := List.pairwise_cons.1 s
    have t' := List.pairwise_cons.1 t
    have e : x = y := by
      rcases List.mem_cons.1 ((h x).1 (by simp)) with e | e
      · exact e
      · rcases List.mem_cons.1 ((h y).2 (by simp)) with e2 | e2
        · exact e2.symm
        · have h1 := t'.1 x e
          have h2 := s'.1 y e2
          rw [bef_asymm h1] at h2; cases h2
    subst e
    congr 1
    refine gsorted_ext s'.2 t'.2 fun z => ⟨fun half0 => ?_, fun half0 => ?_⟩
    · rcases List.mem_cons.1 ((h z).1 (by simp [half0])) with e | e
      · subst e; have := s'.1 z half0; rw [bef_irr] at this; cases this
      · exact e
    · rcases List.mem_cons.1 ((h z).2 (by simp [half0])) with e | e
      · subst e; have := t'.1 z half0; rw [bef_irr] at this; cases this
      · exact e
end Go.Proofs.Ytbdihgcjopbnjaa
