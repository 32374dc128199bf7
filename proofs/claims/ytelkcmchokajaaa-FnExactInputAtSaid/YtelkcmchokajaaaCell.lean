/-
  The strip of a table that contains a coordinate, and CellOf: of the program and of the reference.
-/
import Derived.Test.YtelkcmchokajaaaTab
import Derived.Test.YtelkcmchokajaaaNum2
namespace Go.Proofs.Ytelkcmchokajaaa
open Go.RowKit

def firstGo (p : Nat → Bool) : Nat → Nat → Int
  | 0, _ => -1
  | f + 1, k => if p k = true then (k : Int) else firstGo p f (k + 1)
theorem firstGo_hit {p : Nat → Bool} {c k : Nat} (hk : k < c) (h : p k = true) : firstGo p (c - k) k = k := by
  obtain ⟨m, hm⟩ : ∃ m, c - k = m + 1 := ⟨c - k - 1, by omega⟩
  rw [hm, firstGo, if_pos h]
theorem firstGo_miss {p : Nat → Bool} {c k : Nat} (hk : k < c) (h : p k = false) : firstGo p (c - k) k = firstGo p (c - (k + 1)) (k + 1) := by
  obtain ⟨m, hm⟩ : ∃ m, c - k = m + 1 := ⟨c - k - 1, by omega⟩
  have hm2 : c - (k + 1) = m := by omega
  rw [hm, hm2, firstGo, if_neg (by simp [h])]
theorem firstGo_end {p : Nat → Bool} {c : Nat} : firstGo p (c - c) c = -1 := by
  rw [Nat.sub_self, firstGo]
theorem firstGo_bd {p : Nat → Bool} : ∀ (f k : Nat), -1 ≤ firstGo p f k ∧ firstGo p f k < (k + f : Nat)
  | 0, k => by rw [firstGo]; omega
  | f + 1, k => by
    rw [firstGo]
    split
    · omega
    · have := firstGo_bd (p := p) f (k + 1); omega

def inStrip (n d start step : Int) (k : Nat) : Bool := decide ((start + k * step) * d ≤ n) && decide (n ≤ (start + k * step + step) * d)
def strip (n d start step : Int) (c : Nat) : Int := firstGo (inStrip n d start step) (c - 0) 0

theorem mulT {a d : Int} (ha : -1000 ≤ a ∧ a ≤ 1000) (hd : 1 ≤ d ∧ d ≤ 5000000000) : -5000000000000 ≤ a * d ∧ a * d ≤ 5000000000000 := by
  have h1 : (1000 - a) * d ≥ 0 := Int.mul_nonneg (by omega) (by omega)
  have h2 : (a + 1000) * d ≥ 0 := Int.mul_nonneg (by omega) (by omega)
  rw [Int.sub_mul] at h1
  rw [Int.add_mul] at h2
  omega

structure StB (d start step : Int) (k : Nat) : Prop where
  m : 0 ≤ (k : Int) * step ∧ (k : Int) * step ≤ 10000
  e : ((k : Int) + 1) * step = (k : Int) * step + step
  x : -1000 ≤ start + (k : Int) * step ∧ start + (k : Int) * step + step ≤ 1000
  p : -5000000000000 ≤ (start + (k : Int) * step) * d ∧ (start + (k : Int) * step) * d ≤ 5000000000000
  q : -5000000000000 ≤ (start + (k : Int) * step + step) * d ∧ (start + (k : Int) * step + step) * d ≤ 5000000000000

theorem stB {d start step : Int} {k c : Nat} (hd : 1 ≤ d ∧ d ≤ 5000000000) (hs : -1000 ≤ start) (hp : 1 ≤ step ∧ step ≤ 100) (hc : c ≤ 100) (he : start + c * step ≤ 1000) (hk : k < c) : StB d start step k := by
  have e : ((k : Int) + 1) * step = (k : Int) * step + step := by rw [Int.add_mul, Int.one_mul]
  have h0 : 0 ≤ (k : Int) * step := Int.mul_nonneg (by omega) (by omega)
  have h1 : ((k : Int) + 1) * step ≤ c * step := Int.mul_le_mul_of_nonneg_right (by omega) (by omega)
  have h2 : (k : Int) * step ≤ 100 * step := Int.mul_le_mul_of_nonneg_right (by omega) (by omega)
  exact ⟨⟨h0, by omega⟩, e, ⟨by omega, by omega⟩, mulT ⟨by omega, by omega⟩ hd, mulT ⟨by omega, by omega⟩ hd⟩

set_option maxHeartbeats 2000000 in
theorem stripOf_c (n d start step : Int) (c : Nat) (w : World) (hd : 1 ≤ d ∧ d ≤ 5000000000) (hs : -1000 ≤ start) (hp : 1 ≤ step ∧ step ≤ 100) (hc : c ≤ 100) (he : start + c * step ≤ 1000) :
    Calls Try.prog 71 #[.int .i64 n, .int .i64 d, .int .i64 start, .int .i64 step, .int .i64 c] w fun e w' => e = .returned (.int .i64 (strip n d start step c)) ∧ w = w' := by
  go_enter Try.func71, Try.ntmps71
  go_wp2
  go_loopw [11, 12, 14] (fun _ _ i wr => ∃ k : Nat, k ≤ c ∧ i = .int .i64 k ∧ Hid (strip n d start step c = firstGo (inStrip n d start step) (c - k) k) ∧ w = wr) (fun _ _ i _ => c - (intOf i).toNat)
  case atStart => exact ⟨0, Nat.zero_le _, rfl, rfl, rfl⟩
  case round =>
    obtain ⟨k, hk, rfl, hst, rfl⟩ := hrel
    by_cases hlt : k < c
    · obtain ⟨⟨m1, m2⟩, _, ⟨x1, x2⟩, ⟨p1, p2⟩, ⟨q1, q2⟩⟩ := stB hd hs hp hc he hlt
      by_cases h1 : (start + (k : Int) * step) * d ≤ n
      · by_cases h2 : n ≤ (start + (k : Int) * step + step) * d
        · have hfin : Hid (strip n d start step c = k) := hst.out.trans (firstGo_hit hlt (by simp [inStrip, h1, h2]))
          clear hst
          go_wp2
          refine bodyPost_ret (v := .int .i64 k) (by simp [results, Try.results71, go_sem]) rfl ?_
          exact ⟨by rw [hfin.out], rfl⟩
        · have hfin : Hid (strip n d start step c = firstGo (inStrip n d start step) (c - (k + 1)) (k + 1)) := hst.out.trans (firstGo_miss hlt (by simp [inStrip, h1]; omega))
          clear hst
          go_wp2
          go_roundw
          case rel => exact ⟨k + 1, by omega, by go_num, hfin, by first | rfl | trivial⟩
          case measure => simp [intOf]; omega
      · have hfin : Hid (strip n d start step c = firstGo (inStrip n d start step) (c - (k + 1)) (k + 1)) := hst.out.trans (firstGo_miss hlt (by simp [inStrip, h1]))
        clear hst
        go_wp2
        go_roundw
        case rel => exact ⟨k + 1, by omega, by go_num, hfin, by first | rfl | trivial⟩
        case measure => simp [intOf]; omega
    · obtain rfl : k = c := by omega
      have hfin : Hid (strip n d start step k = -1) := hst.out.trans firstGo_end
      clear hst
      go_wp2
      refine bodyPost_ret (v := .int .i64 (-1)) (by simp [results, Try.results71, go_sem]) rfl ?_
      exact ⟨by rw [hfin.out], rfl⟩
set_option maxHeartbeats 2000000 in
theorem l16Cell_c (n d start step : Int) (c : Nat) (w : World) (hd : 1 ≤ d ∧ d ≤ 5000000000) (hs : -1000 ≤ start) (hp : 1 ≤ step ∧ step ≤ 100) (hc : c ≤ 100) (he : start + c * step ≤ 1000) :
    Calls Try.prog 67 #[.int .i64 n, .int .i64 d, .int .i64 start, .int .i64 step, .int .i64 c] w fun e w' => e = .returned (.int .i64 (strip n d start step c)) ∧ w = w' := by
  go_enter Try.func67, Try.ntmps67
  go_wp2
  go_loopw [11] (fun i wr => ∃ k : Nat, k ≤ c ∧ i = .int .i64 k ∧ Hid (strip n d start step c = firstGo (inStrip n d start step) (c - k) k) ∧ w = wr) (fun i _ => c - (intOf i).toNat)
  case atStart => exact ⟨0, Nat.zero_le _, rfl, rfl, rfl⟩
  case round =>
    obtain ⟨k, hk, rfl, hst, rfl⟩ := hrel
    by_cases hlt : k < c
    · obtain ⟨⟨m1, m2⟩, me, ⟨x1, x2⟩, ⟨p1, p2⟩, ⟨q1, q2⟩⟩ := stB hd hs hp hc he hlt
      have hee : start + ((k : Int) + 1) * step = start + (k : Int) * step + step := by omega
      have n1 : 0 ≤ ((k : Int) + 1) * step ∧ ((k : Int) + 1) * step ≤ 20000 := by omega
      rw [← hee] at q1 q2
      by_cases h1 : (start + (k : Int) * step) * d ≤ n
      · by_cases h2 : n ≤ (start + ((k : Int) + 1) * step) * d
        · have hfin : Hid (strip n d start step c = k) := hst.out.trans (firstGo_hit hlt (by simp [inStrip, h1, ← hee, h2]))
          clear hst hee me
          go_wp2
          refine bodyPost_ret (v := .int .i64 k) (by simp [results, Try.results67, go_sem]) rfl ?_
          exact ⟨by rw [hfin.out], rfl⟩
        · have hfin : Hid (strip n d start step c = firstGo (inStrip n d start step) (c - (k + 1)) (k + 1)) := hst.out.trans (firstGo_miss hlt (by simp [inStrip, h1, ← hee]; omega))
          clear hst hee me
          go_wp2
          exact ⟨⟨k + 1, by omega, by go_num, hfin, by first | rfl | trivial⟩, by simp [intOf]; omega⟩
      · have hfin : Hid (strip n d start step c = firstGo (inStrip n d start step) (c - (k + 1)) (k + 1)) := hst.out.trans (firstGo_miss hlt (by simp [inStrip, h1]))
        clear hst hee me
        go_wp2
        exact ⟨⟨k + 1, by omega, by go_num, hfin, by first | rfl | trivial⟩, by simp [intOf]; omega⟩
    · obtain rfl : k = c := by omega
      have hfin : Hid (strip n d start step k = -1) := hst.out.trans firstGo_end
      clear hst
      go_wp2
      refine bodyPost_ret (v := .int .i64 (-1)) (by simp [results, Try.results67, go_sem]) rfl ?_
      exact ⟨by rw [hfin.out], rfl⟩

def cellOf (t : Tab) (s : Spot) : Int × Int :=
  if tableOk t = true ∧ spotOk s = true then
    if strip s.x s.d t.x0 t.step t.nx.toNat < 0 ∨ strip s.y s.d t.y0 t.step t.ny.toNat < 0 then (-1, -1)
    else (strip s.x s.d t.x0 t.step t.nx.toNat, strip s.y s.d t.y0 t.step t.ny.toNat)
  else (-1, -1)
theorem tableOk_grid {t : Tab} (h : tableOk t = true) : gridOk t = true := by
  simp only [tableOk, Bool.and_eq_true] at h; exact h.1.1
set_option maxRecDepth 100000 in
set_option maxHeartbeats 2000000 in
theorem iCellOf_c (t : Tab) (A : Option Addr) (cap : Nat) (s : Spot) (w : World) (ht : t.In) (hsi : s.In) (hn : t.cells.length ≤ 1048576) (hs : Sl 1 intC w A t.cells) :
    Calls Try.prog 20 #[tabV t A cap, spotV s] w fun e w' => e = .returned (.tuple #[.int .i64 (cellOf t s).1, .int .i64 (cellOf t s).2]) ∧ Below w.heap.size w w' := by
  have c1 := fun W h => iTableOk_c t A cap W ht hn h
  have c2 := fun W => iSpotOk_c s W hsi
  have HA := (Has.new w #[.int .i64 t.x0, .int .i64 t.y0, .int .i64 t.step, .int .i64 t.nx, .int .i64 t.ny, .slice A t.cells.length cap] 30).alloc (.cells #[.int .i64 s.x, .int .i64 s.y, .int .i64 s.d] 32)
  have HB := Has.new (w.alloc (.cells #[.int .i64 t.x0, .int .i64 t.y0, .int .i64 t.step, .int .i64 t.nx, .int .i64 t.ny, .slice A t.cells.length cap] 30)) #[.int .i64 s.x, .int .i64 s.y, .int .i64 s.d] 32
  simp only [World.size_alloc] at HB
  have hg := fun h => @tableOk_grid t h
  have hq := fun h => (@spotOk_iff s).1 h
  have hdef : Hid (cellOf t s = if tableOk t = true ∧ spotOk s = true then (if strip s.x s.d t.x0 t.step t.nx.toNat < 0 ∨ strip s.y s.d t.y0 t.step t.ny.toNat < 0 then (-1, -1) else (strip s.x s.d t.x0 t.step t.nx.toNat, strip s.y s.d t.y0 t.step t.ny.toNat)) else (-1, -1)) := rfl
  generalize tableOk t = b1 at *
  generalize spotOk s = b2 at *
  cases b1
  · have hfin : Hid (cellOf t s = (-1, -1)) := hdef.out
    clear hdef hg hq
    go_enter Try.func20, Try.ntmps20
    go_wp2_with (fail)
    refine (c1 _ ((hs.alloc _).alloc _)).mono ?_
    rintro e w1 ⟨rfl, hb1⟩
    go_wp2
    refine bodyPost_ret (v := .tuple #[.int .i64 (-1), .int .i64 (-1)]) (by simp [results, Try.results20, go_sem]) rfl ⟨by rw [hfin.out], ?_⟩
    repeat (first | (with_reducible exact Below.refl _ _) | (with_reducible assumption) | (with_reducible refine below_al ?_ _) | (with_reducible refine Below.drew ?_) | (with_reducible refine below_drewN ?_ _) | (with_reducible refine below_st ?_ ?_ _) | (with_reducible refine below_tr ?_ (by assumption)) | (with_reducible exact Nat.le_refl _) | (focus (simp; done)) | (focus (simp; omega)))
  · cases b2
    · have hfin : Hid (cellOf t s = (-1, -1)) := hdef.out
      clear hdef hg hq
      go_enter Try.func20, Try.ntmps20
      go_wp2_with (fail)
      refine (c1 _ ((hs.alloc _).alloc _)).mono ?_
      rintro e w1 ⟨rfl, hb1⟩
      have H2 := HB.below hb1
      have hbw := below_tr (below_al (below_al (Below.refl w.heap.size w) _) _) hb1
      obtain ⟨cH2_0, fH2_0⟩ := H2.2 0 _ rfl
      obtain ⟨cH2_1, fH2_1⟩ := H2.2 1 _ rfl
      obtain ⟨cH2_2, fH2_2⟩ := H2.2 2 _ rfl
      go_wp2_with (fail)
      refine (c2 _).mono ?_
      rintro e w2 ⟨rfl, hb2⟩
      have hbw2 := below_tr hbw hb2
      go_wp2
      refine bodyPost_ret (v := .tuple #[.int .i64 (-1), .int .i64 (-1)]) (by simp [results, Try.results20, go_sem]) rfl ⟨by rw [hfin.out], ?_⟩
      exact hbw2
    · obtain ⟨⟨g1, g2⟩, ⟨g3, g4⟩, ⟨g5, g6⟩, ⟨g7, g8⟩, ⟨g9, g10⟩, g11, g12, g13⟩ := gridOk_iff.1 (hg rfl)
      obtain ⟨⟨d1, d2⟩, _⟩ := hq rfl
      have hfin : Hid (cellOf t s = if strip s.x s.d t.x0 t.step t.nx.toNat < 0 ∨ strip s.y s.d t.y0 t.step t.ny.toNat < 0 then (-1, -1) else (strip s.x s.d t.x0 t.step t.nx.toNat, strip s.y s.d t.y0 t.step t.ny.toNat)) := hdef.out
      clear hdef hg hq
      have e3 : ((t.nx.toNat : Nat) : Int) = t.nx := Int.toNat_of_nonneg (by omega)
      have e4 : ((t.ny.toNat : Nat) : Int) = t.ny := Int.toNat_of_nonneg (by omega)
      have c3 := fun W => stripOf_c s.x s.d t.x0 t.step t.nx.toNat W ⟨d1, d2⟩ g1 ⟨g5, g6⟩ (by omega) (by rw [e3]; exact g12)
      have c4 := fun W => stripOf_c s.y s.d t.y0 t.step t.ny.toNat W ⟨d1, d2⟩ g3 ⟨g5, g6⟩ (by omega) (by rw [e4]; exact g13)
      rw [e3] at c3
      rw [e4] at c4
      generalize strip s.x s.d t.x0 t.step t.nx.toNat = i at *
      generalize strip s.y s.d t.y0 t.step t.ny.toNat = j at *
      clear e3 e4
      have hfin2 : Hid (cellOf t s = if i < 0 ∨ j < 0 then (-1, -1) else (i, j)) := hfin
      clear hfin
      by_cases hi : i < 0
      · have hfin : Hid (cellOf t s = (-1, -1)) := by have := hfin2.out; rw [if_pos (.inl hi)] at this; exact this
        clear hfin2
        go_enter Try.func20, Try.ntmps20
        go_wp2_with (fail)
        refine (c1 _ ((hs.alloc _).alloc _)).mono ?_
        rintro e w1 ⟨rfl, hb1⟩
        have H1 := HA.below hb1
        have H2 := HB.below hb1
        have hbw := below_tr (below_al (below_al (Below.refl w.heap.size w) _) _) hb1
        obtain ⟨cH2_0, fH2_0⟩ := H2.2 0 _ rfl
        obtain ⟨cH2_1, fH2_1⟩ := H2.2 1 _ rfl
        obtain ⟨cH2_2, fH2_2⟩ := H2.2 2 _ rfl
        go_wp2_with (fail)
        refine (c2 _).mono ?_
        rintro e w2 ⟨rfl, hb2⟩
        have H3 := H1.below hb2
        have H4 := H2.below hb2
        have hbw2 := below_tr hbw hb2
        clear cH2_0 cH2_1 cH2_2 fH2_0 fH2_1 fH2_2
        obtain ⟨cH3_0, fH3_0⟩ := H3.2 0 _ rfl
        obtain ⟨cH3_1, fH3_1⟩ := H3.2 1 _ rfl
        obtain ⟨cH3_2, fH3_2⟩ := H3.2 2 _ rfl
        obtain ⟨cH3_3, fH3_3⟩ := H3.2 3 _ rfl
        obtain ⟨cH3_4, fH3_4⟩ := H3.2 4 _ rfl
        obtain ⟨cH3_5, fH3_5⟩ := H3.2 5 _ rfl
        obtain ⟨cH4_0, fH4_0⟩ := H4.2 0 _ rfl
        obtain ⟨cH4_1, fH4_1⟩ := H4.2 1 _ rfl
        obtain ⟨cH4_2, fH4_2⟩ := H4.2 2 _ rfl
        go_wp2_with (fail)
        refine (c3 _).mono ?_
        rintro e w' ⟨rfl, rfl⟩
        go_wp2_with (fail)
        refine (c4 _).mono ?_
        rintro e w' ⟨rfl, rfl⟩
        go_wp2
        refine bodyPost_ret (v := .tuple #[.int .i64 (-1), .int .i64 (-1)]) (by simp [results, Try.results20, go_sem]) rfl ⟨by rw [hfin.out], ?_⟩
        exact hbw2
      · by_cases hj : j < 0
        · have hfin : Hid (cellOf t s = (-1, -1)) := by have := hfin2.out; rw [if_pos (.inr hj)] at this; exact this
          clear hfin2
          go_enter Try.func20, Try.ntmps20
          go_wp2_with (fail)
          refine (c1 _ ((hs.alloc _).alloc _)).mono ?_
          rintro e w1 ⟨rfl, hb1⟩
          have H1 := HA.below hb1
          have H2 := HB.below hb1
          have hbw := below_tr (below_al (below_al (Below.refl w.heap.size w) _) _) hb1
          obtain ⟨cH2_0, fH2_0⟩ := H2.2 0 _ rfl
          obtain ⟨cH2_1, fH2_1⟩ := H2.2 1 _ rfl
          obtain ⟨cH2_2, fH2_2⟩ := H2.2 2 _ rfl
          go_wp2_with (fail)
          refine (c2 _).mono ?_
          rintro e w2 ⟨rfl, hb2⟩
          have H3 := H1.below hb2
          have H4 := H2.below hb2
          have hbw2 := below_tr hbw hb2
          clear cH2_0 cH2_1 cH2_2 fH2_0 fH2_1 fH2_2
          obtain ⟨cH3_0, fH3_0⟩ := H3.2 0 _ rfl
          obtain ⟨cH3_1, fH3_1⟩ := H3.2 1 _ rfl
          obtain ⟨cH3_2, fH3_2⟩ := H3.2 2 _ rfl
          obtain ⟨cH3_3, fH3_3⟩ := H3.2 3 _ rfl
          obtain ⟨cH3_4, fH3_4⟩ := H3.2 4 _ rfl
          obtain ⟨cH3_5, fH3_5⟩ := H3.2 5 _ rfl
          obtain ⟨cH4_0, fH4_0⟩ := H4.2 0 _ rfl
          obtain ⟨cH4_1, fH4_1⟩ := H4.2 1 _ rfl
          obtain ⟨cH4_2, fH4_2⟩ := H4.2 2 _ rfl
          go_wp2_with (fail)
          refine (c3 _).mono ?_
          rintro e w' ⟨rfl, rfl⟩
          go_wp2_with (fail)
          refine (c4 _).mono ?_
          rintro e w' ⟨rfl, rfl⟩
          go_wp2
          refine bodyPost_ret (v := .tuple #[.int .i64 (-1), .int .i64 (-1)]) (by simp [results, Try.results20, go_sem]) rfl ⟨by rw [hfin.out], ?_⟩
          exact hbw2
        · have hfin : Hid (cellOf t s = (i, j)) := by have := hfin2.out; rw [if_neg (by omega)] at this; exact this
          clear hfin2
          go_enter Try.func20, Try.ntmps20
          go_wp2_with (fail)
          refine (c1 _ ((hs.alloc _).alloc _)).mono ?_
          rintro e w1 ⟨rfl, hb1⟩
          have H1 := HA.below hb1
          have H2 := HB.below hb1
          have hbw := below_tr (below_al (below_al (Below.refl w.heap.size w) _) _) hb1
          obtain ⟨cH2_0, fH2_0⟩ := H2.2 0 _ rfl
          obtain ⟨cH2_1, fH2_1⟩ := H2.2 1 _ rfl
          obtain ⟨cH2_2, fH2_2⟩ := H2.2 2 _ rfl
          go_wp2_with (fail)
          refine (c2 _).mono ?_
          rintro e w2 ⟨rfl, hb2⟩
          have H3 := H1.below hb2
          have H4 := H2.below hb2
          have hbw2 := below_tr hbw hb2
          clear cH2_0 cH2_1 cH2_2 fH2_0 fH2_1 fH2_2
          obtain ⟨cH3_0, fH3_0⟩ := H3.2 0 _ rfl
          obtain ⟨cH3_1, fH3_1⟩ := H3.2 1 _ rfl
          obtain ⟨cH3_2, fH3_2⟩ := H3.2 2 _ rfl
          obtain ⟨cH3_3, fH3_3⟩ := H3.2 3 _ rfl
          obtain ⟨cH3_4, fH3_4⟩ := H3.2 4 _ rfl
          obtain ⟨cH3_5, fH3_5⟩ := H3.2 5 _ rfl
          obtain ⟨cH4_0, fH4_0⟩ := H4.2 0 _ rfl
          obtain ⟨cH4_1, fH4_1⟩ := H4.2 1 _ rfl
          obtain ⟨cH4_2, fH4_2⟩ := H4.2 2 _ rfl
          go_wp2_with (fail)
          refine (c3 _).mono ?_
          rintro e w' ⟨rfl, rfl⟩
          go_wp2_with (fail)
          refine (c4 _).mono ?_
          rintro e w' ⟨rfl, rfl⟩
          go_wp2
          refine bodyPost_ret (v := .tuple #[.int .i64 i, .int .i64 j]) (by simp [results, Try.results20, go_sem]) rfl ⟨by rw [hfin.out], ?_⟩
          exact hbw2
set_option maxRecDepth 100000 in
set_option maxHeartbeats 2000000 in
theorem sCellOf_c (t : Tab) (A : Option Addr) (cap : Nat) (s : Spot) (w : World) (ht : t.In) (hsi : s.In) (hn : t.cells.length ≤ 1048576) (hs : Sl 1 intC w A t.cells) :
    Calls Try.prog 17 #[tabV t A cap, spotV s] w fun e w' => e = .returned (.tuple #[.int .i64 (cellOf t s).1, .int .i64 (cellOf t s).2]) ∧ Below w.heap.size w w' := by
  have c1 := fun W h => sTableOk_c t A cap W ht hn h
  have c2 := fun W => sSpotOk_c s W hsi
  have HA := (Has.new w #[.int .i64 t.x0, .int .i64 t.y0, .int .i64 t.step, .int .i64 t.nx, .int .i64 t.ny, .slice A t.cells.length cap] 30).alloc (.cells #[.int .i64 s.x, .int .i64 s.y, .int .i64 s.d] 32)
  have HB := Has.new (w.alloc (.cells #[.int .i64 t.x0, .int .i64 t.y0, .int .i64 t.step, .int .i64 t.nx, .int .i64 t.ny, .slice A t.cells.length cap] 30)) #[.int .i64 s.x, .int .i64 s.y, .int .i64 s.d] 32
  simp only [World.size_alloc] at HB
  have hg := fun h => @tableOk_grid t h
  have hq := fun h => (@spotOk_iff s).1 h
  have hdef : Hid (cellOf t s = if tableOk t = true ∧ spotOk s = true then (if strip s.x s.d t.x0 t.step t.nx.toNat < 0 ∨ strip s.y s.d t.y0 t.step t.ny.toNat < 0 then (-1, -1) else (strip s.x s.d t.x0 t.step t.nx.toNat, strip s.y s.d t.y0 t.step t.ny.toNat)) else (-1, -1)) := rfl
  generalize tableOk t = b1 at *
  generalize spotOk s = b2 at *
  cases b1
  · have hfin : Hid (cellOf t s = (-1, -1)) := hdef.out
    clear hdef hg hq
    go_enter Try.func17, Try.ntmps17
    go_wp2_with (fail)
    refine (c1 _ ((hs.alloc _).alloc _)).mono ?_
    rintro e w1 ⟨rfl, hb1⟩
    go_wp2
    refine bodyPost_ret (v := .tuple #[.int .i64 (-1), .int .i64 (-1)]) (by simp [results, Try.results17, go_sem]) rfl ⟨by rw [hfin.out], ?_⟩
    repeat (first | (with_reducible exact Below.refl _ _) | (with_reducible assumption) | (with_reducible refine below_al ?_ _) | (with_reducible refine Below.drew ?_) | (with_reducible refine below_drewN ?_ _) | (with_reducible refine below_st ?_ ?_ _) | (with_reducible refine below_tr ?_ (by assumption)) | (with_reducible exact Nat.le_refl _) | (focus (simp; done)) | (focus (simp; omega)))
  · cases b2
    · have hfin : Hid (cellOf t s = (-1, -1)) := hdef.out
      clear hdef hg hq
      go_enter Try.func17, Try.ntmps17
      go_wp2_with (fail)
      refine (c1 _ ((hs.alloc _).alloc _)).mono ?_
      rintro e w1 ⟨rfl, hb1⟩
      have H2 := HB.below hb1
      have hbw := below_tr (below_al (below_al (Below.refl w.heap.size w) _) _) hb1
      obtain ⟨cH2_0, fH2_0⟩ := H2.2 0 _ rfl
      obtain ⟨cH2_1, fH2_1⟩ := H2.2 1 _ rfl
      obtain ⟨cH2_2, fH2_2⟩ := H2.2 2 _ rfl
      go_wp2_with (fail)
      refine (c2 _).mono ?_
      rintro e w2 ⟨rfl, hb2⟩
      have hbw2 := below_tr hbw hb2
      go_wp2
      refine bodyPost_ret (v := .tuple #[.int .i64 (-1), .int .i64 (-1)]) (by simp [results, Try.results17, go_sem]) rfl ⟨by rw [hfin.out], ?_⟩
      exact hbw2
    · obtain ⟨⟨g1, g2⟩, ⟨g3, g4⟩, ⟨g5, g6⟩, ⟨g7, g8⟩, ⟨g9, g10⟩, g11, g12, g13⟩ := gridOk_iff.1 (hg rfl)
      obtain ⟨⟨d1, d2⟩, _⟩ := hq rfl
      have hfin : Hid (cellOf t s = if strip s.x s.d t.x0 t.step t.nx.toNat < 0 ∨ strip s.y s.d t.y0 t.step t.ny.toNat < 0 then (-1, -1) else (strip s.x s.d t.x0 t.step t.nx.toNat, strip s.y s.d t.y0 t.step t.ny.toNat)) := hdef.out
      clear hdef hg hq
      have e3 : ((t.nx.toNat : Nat) : Int) = t.nx := Int.toNat_of_nonneg (by omega)
      have e4 : ((t.ny.toNat : Nat) : Int) = t.ny := Int.toNat_of_nonneg (by omega)
      have c3 := fun W => l16Cell_c s.x s.d t.x0 t.step t.nx.toNat W ⟨d1, d2⟩ g1 ⟨g5, g6⟩ (by omega) (by rw [e3]; exact g12)
      have c4 := fun W => l16Cell_c s.y s.d t.y0 t.step t.ny.toNat W ⟨d1, d2⟩ g3 ⟨g5, g6⟩ (by omega) (by rw [e4]; exact g13)
      rw [e3] at c3
      rw [e4] at c4
      generalize strip s.x s.d t.x0 t.step t.nx.toNat = i at *
      generalize strip s.y s.d t.y0 t.step t.ny.toNat = j at *
      clear e3 e4
      have hfin2 : Hid (cellOf t s = if i < 0 ∨ j < 0 then (-1, -1) else (i, j)) := hfin
      clear hfin
      by_cases hi : i < 0
      · have hfin : Hid (cellOf t s = (-1, -1)) := by have := hfin2.out; rw [if_pos (.inl hi)] at this; exact this
        clear hfin2
        go_enter Try.func17, Try.ntmps17
        go_wp2_with (fail)
        refine (c1 _ ((hs.alloc _).alloc _)).mono ?_
        rintro e w1 ⟨rfl, hb1⟩
        have H1 := HA.below hb1
        have H2 := HB.below hb1
        have hbw := below_tr (below_al (below_al (Below.refl w.heap.size w) _) _) hb1
        obtain ⟨cH2_0, fH2_0⟩ := H2.2 0 _ rfl
        obtain ⟨cH2_1, fH2_1⟩ := H2.2 1 _ rfl
        obtain ⟨cH2_2, fH2_2⟩ := H2.2 2 _ rfl
        go_wp2_with (fail)
        refine (c2 _).mono ?_
        rintro e w2 ⟨rfl, hb2⟩
        have H3 := H1.below hb2
        have H4 := H2.below hb2
        have hbw2 := below_tr hbw hb2
        clear cH2_0 cH2_1 cH2_2 fH2_0 fH2_1 fH2_2
        obtain ⟨cH3_0, fH3_0⟩ := H3.2 0 _ rfl
        obtain ⟨cH3_1, fH3_1⟩ := H3.2 1 _ rfl
        obtain ⟨cH3_2, fH3_2⟩ := H3.2 2 _ rfl
        obtain ⟨cH3_3, fH3_3⟩ := H3.2 3 _ rfl
        obtain ⟨cH3_4, fH3_4⟩ := H3.2 4 _ rfl
        obtain ⟨cH3_5, fH3_5⟩ := H3.2 5 _ rfl
        obtain ⟨cH4_0, fH4_0⟩ := H4.2 0 _ rfl
        obtain ⟨cH4_1, fH4_1⟩ := H4.2 1 _ rfl
        obtain ⟨cH4_2, fH4_2⟩ := H4.2 2 _ rfl
        go_wp2_with (fail)
        refine (c3 _).mono ?_
        rintro e w' ⟨rfl, rfl⟩
        go_wp2_with (fail)
        refine (c4 _).mono ?_
        rintro e w' ⟨rfl, rfl⟩
        go_wp2
        refine bodyPost_ret (v := .tuple #[.int .i64 (-1), .int .i64 (-1)]) (by simp [results, Try.results17, go_sem]) rfl ⟨by rw [hfin.out], ?_⟩
        exact hbw2
      · by_cases hj : j < 0
        · have hfin : Hid (cellOf t s = (-1, -1)) := by have := hfin2.out; rw [if_pos (.inr hj)] at this; exact this
          clear hfin2
          go_enter Try.func17, Try.ntmps17
          go_wp2_with (fail)
          refine (c1 _ ((hs.alloc _).alloc _)).mono ?_
          rintro e w1 ⟨rfl, hb1⟩
          have H1 := HA.below hb1
          have H2 := HB.below hb1
          have hbw := below_tr (below_al (below_al (Below.refl w.heap.size w) _) _) hb1
          obtain ⟨cH2_0, fH2_0⟩ := H2.2 0 _ rfl
          obtain ⟨cH2_1, fH2_1⟩ := H2.2 1 _ rfl
          obtain ⟨cH2_2, fH2_2⟩ := H2.2 2 _ rfl
          go_wp2_with (fail)
          refine (c2 _).mono ?_
          rintro e w2 ⟨rfl, hb2⟩
          have H3 := H1.below hb2
          have H4 := H2.below hb2
          have hbw2 := below_tr hbw hb2
          clear cH2_0 cH2_1 cH2_2 fH2_0 fH2_1 fH2_2
          obtain ⟨cH3_0, fH3_0⟩ := H3.2 0 _ rfl
          obtain ⟨cH3_1, fH3_1⟩ := H3.2 1 _ rfl
          obtain ⟨cH3_2, fH3_2⟩ := H3.2 2 _ rfl
          obtain ⟨cH3_3, fH3_3⟩ := H3.2 3 _ rfl
          obtain ⟨cH3_4, fH3_4⟩ := H3.2 4 _ rfl
          obtain ⟨cH3_5, fH3_5⟩ := H3.2 5 _ rfl
          obtain ⟨cH4_0, fH4_0⟩ := H4.2 0 _ rfl
          obtain ⟨cH4_1, fH4_1⟩ := H4.2 1 _ rfl
          obtain ⟨cH4_2, fH4_2⟩ := H4.2 2 _ rfl
          go_wp2_with (fail)
          refine (c3 _).mono ?_
          rintro e w' ⟨rfl, rfl⟩
          go_wp2_with (fail)
          refine (c4 _).mono ?_
          rintro e w' ⟨rfl, rfl⟩
          go_wp2
          refine bodyPost_ret (v := .tuple #[.int .i64 (-1), .int .i64 (-1)]) (by simp [results, Try.results17, go_sem]) rfl ⟨by rw [hfin.out], ?_⟩
          exact hbw2
        · have hfin : Hid (cellOf t s = (i, j)) := by have := hfin2.out; rw [if_neg (by omega)] at this; exact this
          clear hfin2
          go_enter Try.func17, Try.ntmps17
          go_wp2_with (fail)
          refine (c1 _ ((hs.alloc _).alloc _)).mono ?_
          rintro e w1 ⟨rfl, hb1⟩
          have H1 := HA.below hb1
          have H2 := HB.below hb1
          have hbw := below_tr (below_al (below_al (Below.refl w.heap.size w) _) _) hb1
          obtain ⟨cH2_0, fH2_0⟩ := H2.2 0 _ rfl
          obtain ⟨cH2_1, fH2_1⟩ := H2.2 1 _ rfl
          obtain ⟨cH2_2, fH2_2⟩ := H2.2 2 _ rfl
          go_wp2_with (fail)
          refine (c2 _).mono ?_
          rintro e w2 ⟨rfl, hb2⟩
          have H3 := H1.below hb2
          have H4 := H2.below hb2
          have hbw2 := below_tr hbw hb2
          clear cH2_0 cH2_1 cH2_2 fH2_0 fH2_1 fH2_2
          obtain ⟨cH3_0, fH3_0⟩ := H3.2 0 _ rfl
          obtain ⟨cH3_1, fH3_1⟩ := H3.2 1 _ rfl
          obtain ⟨cH3_2, fH3_2⟩ := H3.2 2 _ rfl
          obtain ⟨cH3_3, fH3_3⟩ := H3.2 3 _ rfl
          obtain ⟨cH3_4, fH3_4⟩ := H3.2 4 _ rfl
          obtain ⟨cH3_5, fH3_5⟩ := H3.2 5 _ rfl
          obtain ⟨cH4_0, fH4_0⟩ := H4.2 0 _ rfl
          obtain ⟨cH4_1, fH4_1⟩ := H4.2 1 _ rfl
          obtain ⟨cH4_2, fH4_2⟩ := H4.2 2 _ rfl
          go_wp2_with (fail)
          refine (c3 _).mono ?_
          rintro e w' ⟨rfl, rfl⟩
          go_wp2_with (fail)
          refine (c4 _).mono ?_
          rintro e w' ⟨rfl, rfl⟩
          go_wp2
          refine bodyPost_ret (v := .tuple #[.int .i64 i, .int .i64 j]) (by simp [results, Try.results17, go_sem]) rfl ⟨by rw [hfin.out], ?_⟩
          exact hbw2
end Go.Proofs.Ytelkcmchokajaaa
