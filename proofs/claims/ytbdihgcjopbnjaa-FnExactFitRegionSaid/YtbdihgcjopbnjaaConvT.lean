/-
  What the conversions and comparisons of slices of ints and of tables return.
  Conditions: the slices hold at most 2^20 ints.
-/
import Derived.Test.YtbdihgcjopbnjaaTab
namespace Go.Proofs.Ytbdihgcjopbnjaa
open Go.RowKit

theorem New.low {α : Type} {T sz : Nat} {enc : α → List Value} {w : World} {base : Nat} {v : Value} {xs : List α} (h : New T sz enc w base v xs) {p : Addr} (hp : p.block < base) (u : Value) : New T sz enc (w.setCell p u) base v xs := by
  obtain ⟨A, cap, rfl, ho⟩ := h
  exact ⟨A, cap, rfl, ownsRow_setCell_below ho hp u⟩

theorem szIntS_c (A : Option Addr) (n cap : Nat) (left : Int) (w : World) (hn : n ≤ 9223372036854775807) (h0 : 0 ≤ left) (h1 : left ≤ 1048576) :
    Calls Try.prog 76 #[.slice A n cap, .int .i64 left] w fun e w' => e = .returned (.int .i64 (if left - n < 0 then -1 else left - n)) ∧ w = w' := by
  by_cases h : left - n < 0
  all_goals
    go_enter Try.func76, Try.ntmps76
    go_wp2
    go_ret
    exact ⟨ret_int (by simp), rfl⟩

theorem szTable_c (t : Tab) (A : Option Addr) (cap : Nat) (left : Int) (w : World) (hn : t.cells.length ≤ 9223372036854775807) (h0 : 0 ≤ left) (h1 : left ≤ 1048576) :
    Calls Try.prog 13 #[tabV t A cap, .int .i64 left] w fun e w' => e = .returned (.int .i64 (if left - t.cells.length < 0 then -1 else left - t.cells.length)) ∧ Below w.heap.size w w' := by
  have c1 := fun W => szIntS_c A t.cells.length cap left W hn h0 h1
  by_cases h : left - t.cells.length < 0
  · rw [if_pos h] at c1
    rw [if_pos h]
    go_enter Try.func13, Try.ntmps13
    go_wp2_with (fail)
    refine (c1 _).mono ?_
    rintro e w' ⟨rfl, rfl⟩
    go_wp2
    go_ret
    refine ⟨rfl, ?_⟩
    repeat (first | (with_reducible exact Below.refl _ _) | (with_reducible assumption) | (with_reducible refine below_al ?_ _) | (with_reducible refine Below.drew ?_) | (with_reducible refine below_drewN ?_ _) | (with_reducible refine below_st ?_ ?_ _) | (with_reducible refine below_tr ?_ (by assumption)) | (with_reducible exact Nat.le_refl _) | (focus (simp; done)) | (focus (simp; omega)))
  · rw [if_neg h] at c1
    rw [if_neg h]
    go_enter Try.func13, Try.ntmps13
    go_wp2_with (fail)
    refine (c1 _).mono ?_
    rintro e w' ⟨rfl, rfl⟩
    go_wp2
    go_ret
    refine ⟨rfl, ?_⟩
    repeat (first | (with_reducible exact Below.refl _ _) | (with_reducible assumption) | (with_reducible refine below_al ?_ _) | (with_reducible refine Below.drew ?_) | (with_reducible refine below_drewN ?_ _) | (with_reducible refine below_st ?_ ?_ _) | (with_reducible refine below_tr ?_ (by assumption)) | (with_reducible exact Nat.le_refl _) | (focus (simp; done)) | (focus (simp; omega)))

set_option maxRecDepth 100000 in
theorem toIntS_c (A : Option Addr) (xs : List Int) (cap : Nat) (w : World) (hn : xs.length ≤ 1048576) (hs : Sl 1 intC w A xs) :
    Calls Try.prog 80 #[.slice A xs.length cap] w fun e w' => ∃ v, e = .returned v ∧ New 3 1 intC w' w.heap.size v xs ∧ Below w.heap.size w w' := by
  obtain ⟨i0, hi0, hz0, hz1, hz2⟩ := info_parts (show (Try.prog.info? 3).map (fun i => (i.zero, i.size, i.bytes)) = some (some (.int .i64 0), 1, 8) by kernel_rfl)
  have hmk : ∀ W : World, (Instr.makeSlice 22 (.int .i64 (xs.length : Int)) (.int .i64 (xs.length : Int))).run Try.prog W = .ok (.slice (some ⟨W.heap.size, 0, none⟩) xs.length xs.length) (W.alloc (.cells (madeCells #[.int .i64 0] xs.length) 3)) := by
    intro W
    have h := run_make (P := Try.prog) W 22 3 i0 _ Try.underlying22 hi0 hz0 .i64 .i64 (xs.length : Int) (xs.length : Int) (by omega) (by omega) (by rw [hz2]; omega) (by omega)
    rw [hz1] at h
    simpa [Value.cells] using h
  go_enter Try.func80, Try.ntmps80
  go_wp2
  go_loopw [4] (fun i wr => ∃ k : Nat, k ≤ xs.length ∧ i = .int .i64 k ∧ Filled 3 1 intC wr w.heap.size (xs.length * 1) xs k ∧ Below w.heap.size w wr) (fun i _ => xs.length - (intOf i).toNat)
  case atStart => exact ⟨0, Nat.zero_le _, rfl, Filled.start (by simp [madeCells]) (Nat.le_refl _), below_al (Below.refl _ _) _⟩
  case round =>
    obtain ⟨k, hk, rfl, hfill, hbw⟩ := hrel
    by_cases hlt : k < xs.length
    · obtain ⟨b, off, rfl, hblt, hc⟩ := (hs.below hbw).at_ hlt
      have g0 := hc 0 _ rfl
      clear hc
      simp only [Nat.mul_one, Nat.add_zero] at g0
      obtain ⟨u0, c0⟩ := hfill.cell (m := k) (by omega)
      have f0 := hfill.frozen k
      have hst := hfill.stored intC_len hlt (vs := intC xs[k]) rfl
      have hst2 := below_setCells (Nat.le_refl w.heap.size) (intC xs[k]) (k * 1) _ hbw
      rw [Nat.mul_one] at hst hst2
      generalize xs[k] = x at *
      go_wp2
      exact ⟨⟨k + 1, by omega, by go_num, hst, hst2⟩, by simp [intOf]; omega⟩
    · obtain rfl : k = xs.length := by omega
      go_wp2
      go_ret
      exact ⟨_, rfl, hfill.new intC_len (Nat.le_refl _) (by unfold maxLen; omega), hbw⟩

set_option maxRecDepth 100000 in
theorem eqIntS_t (A B : Option Addr) (xs : List Int) (c d : Nat) (w : World) (hn : xs.length ≤ 1048576) (ha : Sl 1 intC w A xs) (hb : Sl 1 intC w B xs) :
    Calls Try.prog 85 #[.slice A xs.length c, .slice B xs.length d] w fun e w' => e = .returned (.bool true) ∧ Below w.heap.size w w' := by
  go_enter Try.func85, Try.ntmps85
  go_wp2
  go_loopw [5] (fun i wr => ∃ k : Nat, k ≤ xs.length ∧ i = .int .i64 k ∧ Below w.heap.size w wr) (fun i _ => xs.length - (intOf i).toNat)
  case atStart => exact ⟨0, Nat.zero_le _, rfl, Below.refl _ _⟩
  case round =>
    obtain ⟨k, hk, rfl, hbw⟩ := hrel
    by_cases hlt : k < xs.length
    · obtain ⟨b, off, rfl, hblt, hc⟩ := (ha.below hbw).at_ hlt
      obtain ⟨b', off', rfl, hblt', hc'⟩ := (hb.below hbw).at_ hlt
      have g0 := hc 0 _ rfl
      have g1 := hc' 0 _ rfl
      clear hc hc'
      simp only [Nat.mul_one, Nat.add_zero] at g0 g1
      generalize xs[k] = x at *
      have i1 : (0 : Int) ≤ (k : Int) := by omega
      have i2 : (k : Int) < (xs.length : Int) := by omega
      go_wp2
      go_quiet (fail)
      go_wp2
      exact ⟨⟨k + 1, by omega, by go_num, below_drewN hbw _⟩, by simp [intOf]; omega⟩
    · go_wp2
      go_ret
      exact ⟨rfl, hbw⟩

set_option maxHeartbeats 400000 in
theorem toTable_c (t : Tab) (A : Option Addr) (cap : Nat) (w : World) (hn : t.cells.length ≤ 1048576) (hs : Sl 1 intC w A t.cells) :
    Calls Try.prog 15 #[tabV t A cap] w fun e w' => ∃ A' cap', e = .returned (tabV t A' cap') ∧ New 3 1 intC w' w.heap.size (.slice A' t.cells.length cap') t.cells ∧ Below w.heap.size w w' := by
  go_enter Try.func15, Try.ntmps15
  go_wp2_with (fail)
  refine (toIntS_c A t.cells cap _ hn ?hsl).mono ?_
  case hsl =>
    refine hs.below ?_
    repeat (first | (with_reducible exact Below.refl _ _) | (with_reducible assumption) | (with_reducible refine below_al ?_ _) | (with_reducible refine Below.drew ?_) | (with_reducible refine below_drewN ?_ _) | (with_reducible refine below_st ?_ ?_ _) | (with_reducible refine below_tr ?_ (by assumption)) | (with_reducible exact Nat.le_refl _) | (focus (simp; done)) | (focus (simp; omega)))
  rintro e w1 ⟨v1, rfl, N1, hb1⟩
  have hbw := below_tr (below_al (below_al (below_al (Below.refl w.heap.size w) _) _) _) hb1
  have H1 : Has w1 (w.heap.size + 1) [.int .i64 0, .int .i64 0, .int .i64 0, .int .i64 0, .int .i64 0, .slice none 0 0] := by
    refine Has.below ?_ hb1
    have := Has.new (w.alloc (.cells #[.int .i64 t.x0, .int .i64 t.y0, .int .i64 t.step, .int .i64 t.nx, .int .i64 t.ny, .slice A t.cells.length cap] 24)) #[.int .i64 0, .int .i64 0, .int .i64 0, .int .i64 0, .int .i64 0, .slice none 0 0] 28
    simp only [World.size_alloc] at this
    exact this.alloc _
  have H2 : Has w1 (w.heap.size + 1 + 1) [.int .i64 t.x0, .int .i64 t.y0, .int .i64 t.step, .int .i64 t.nx, .int .i64 t.ny, .slice none 0 0] := by
    refine Has.below ?_ hb1
    have := Has.new ((w.alloc (.cells #[.int .i64 t.x0, .int .i64 t.y0, .int .i64 t.step, .int .i64 t.nx, .int .i64 t.ny, .slice A t.cells.length cap] 24)).alloc (.cells #[.int .i64 0, .int .i64 0, .int .i64 0, .int .i64 0, .int .i64 0, .slice none 0 0] 28)) #[.int .i64 t.x0, .int .i64 t.y0, .int .i64 t.step, .int .i64 t.nx, .int .i64 t.ny, .slice none 0 0] 28
    simp only [World.size_alloc] at this
    exact this
  obtain ⟨A1, k1, rfl, hown⟩ := N1
  have N1' : New 3 1 intC w1 (w.heap.size + 1 + 1 + 1) (.slice A1 t.cells.length k1) t.cells := New.mono ⟨A1, k1, rfl, hown⟩ (by simp)
  have hz : w.heap.size + 1 + 1 < w1.heap.size := H2.1
  obtain ⟨cH1_0, fH1_0⟩ := H1.2 0 _ rfl
  obtain ⟨cH1_1, fH1_1⟩ := H1.2 1 _ rfl
  obtain ⟨cH1_2, fH1_2⟩ := H1.2 2 _ rfl
  obtain ⟨cH1_3, fH1_3⟩ := H1.2 3 _ rfl
  obtain ⟨cH1_4, fH1_4⟩ := H1.2 4 _ rfl
  obtain ⟨cH1_5, fH1_5⟩ := H1.2 5 _ rfl
  obtain ⟨cH2_0, fH2_0⟩ := H2.2 0 _ rfl
  obtain ⟨cH2_1, fH2_1⟩ := H2.2 1 _ rfl
  obtain ⟨cH2_2, fH2_2⟩ := H2.2 2 _ rfl
  obtain ⟨cH2_3, fH2_3⟩ := H2.2 3 _ rfl
  obtain ⟨cH2_4, fH2_4⟩ := H2.2 4 _ rfl
  obtain ⟨cH2_5, fH2_5⟩ := H2.2 5 _ rfl
  clear hown hs H1 H2 hb1
  go_wp2
  clear fH1_0 fH1_1 fH1_2 fH1_3 fH1_4 fH1_5 fH2_0 fH2_1 fH2_2 fH2_3 fH2_4 fH2_5 cH2_0 cH2_1 cH2_2 cH2_3 cH2_4 cH2_5
  refine bodyPost_ret (v := .agg #[.int .i64 t.x0, .int .i64 t.y0, .int .i64 t.step, .int .i64 t.nx, .int .i64 t.ny, .slice A1 t.cells.length k1]) (by simp [results, Try.results15, go_sem, cH1_0, cH1_1, cH1_2, cH1_3, cH1_4, cH1_5]) rfl ?_
  refine ⟨A1, k1, rfl, ?_, ?_⟩
  · refine New.mono (base := w.heap.size + 1 + 1 + 1) ?_ (by omega)
    repeat (first | (with_reducible exact N1') | (with_reducible refine New.low ?_ ?_ _) | (focus (simp; done)) | (focus (simp; omega)))
  · repeat (first | (with_reducible exact Below.refl _ _) | (with_reducible assumption) | (with_reducible refine below_al ?_ _) | (with_reducible refine Below.drew ?_) | (with_reducible refine below_drewN ?_ _) | (with_reducible refine below_st ?_ ?_ _) | (with_reducible refine below_tr ?_ (by assumption)) | (with_reducible exact Nat.le_refl _) | (focus (simp; done)) | (focus (simp; omega)))
theorem eqTable_t (t : Tab) (A B : Option Addr) (c d : Nat) (w : World) (hn : t.cells.length ≤ 1048576) (ha : Sl 1 intC w A t.cells) (hb : Sl 1 intC w B t.cells) :
    Calls Try.prog 18 #[tabV t A c, tabV t B d] w fun e w' => e = .returned (.bool true) ∧ Below w.heap.size w w' := by
  go_enter Try.func18, Try.ntmps18
  go_wp2_with (fail)
  refine (eqIntS_t A B t.cells c d _ hn ?ha ?hb).mono ?_
  case ha =>
    refine ha.below ?_
    repeat (first | (with_reducible exact Below.refl _ _) | (with_reducible assumption) | (with_reducible refine below_al ?_ _) | (with_reducible refine Below.drew ?_) | (with_reducible refine below_drewN ?_ _) | (with_reducible refine below_st ?_ ?_ _) | (with_reducible refine below_tr ?_ (by assumption)) | (with_reducible exact Nat.le_refl _) | (focus (simp; done)) | (focus (simp; omega)))
  case hb =>
    refine hb.below ?_
    repeat (first | (with_reducible exact Below.refl _ _) | (with_reducible assumption) | (with_reducible refine below_al ?_ _) | (with_reducible refine Below.drew ?_) | (with_reducible refine below_drewN ?_ _) | (with_reducible refine below_st ?_ ?_ _) | (with_reducible refine below_tr ?_ (by assumption)) | (with_reducible exact Nat.le_refl _) | (focus (simp; done)) | (focus (simp; omega)))
  rintro e w1 ⟨rfl, hb1⟩
  have hbw := below_tr (below_al (below_al (Below.refl w.heap.size w) _) _) hb1
  go_wp2
  go_ret
  exact ⟨rfl, hbw⟩
end Go.Proofs.Ytbdihgcjopbnjaa
