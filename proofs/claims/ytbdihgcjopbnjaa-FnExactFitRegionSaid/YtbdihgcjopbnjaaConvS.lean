/-
  What the conversions and comparisons of slices of package laws return.
  Conditions: the slices hold at most 2^20 elements.
-/
import Derived.Test.YtbdihgcjopbnjaaConv
import Derived.StillTailTactics
namespace Go.Proofs.Ytbdihgcjopbnjaa
open Go.RowKit

theorem szRatioS_c (A : Option Addr) (n cap : Nat) (left : Int) (w : World) (hn : n ≤ 9223372036854775807) (h0 : 0 ≤ left) (h1 : left ≤ 1048576) :
    Calls Try.prog 88 #[.slice A n cap, .int .i64 left] w fun e w' => e = .returned (.int .i64 (if left - n < 0 then -1 else left - n)) ∧ w = w' := by
  by_cases h : left - n < 0
  all_goals
    go_enter Try.func88, Try.ntmps88
    go_wp2
    go_ret
    exact ⟨ret_int (by simp), rfl⟩

set_option maxRecDepth 100000 in
theorem eqRatioS_t (A B : Option Addr) (xs : List Ratio) (c d : Nat) (w : World) (hn : xs.length ≤ 1048576) (ha : Sl 2 ratioC w A xs) (hb : Sl 2 ratioC w B xs) :
    Calls Try.prog 97 #[.slice A xs.length c, .slice B xs.length d] w fun e w' => e = .returned (.bool true) ∧ Below w.heap.size w w' := by
  go_enter Try.func97, Try.ntmps97
  go_wp2
  go_loopw [5] (fun i wr => ∃ k : Nat, k ≤ xs.length ∧ i = .int .i64 k ∧ Below w.heap.size w wr) (fun i _ => xs.length - (intOf i).toNat)
  case atStart => exact ⟨0, Nat.zero_le _, rfl, Below.refl _ _⟩
  case round =>
    obtain ⟨k, hk, rfl, hbw⟩ := hrel
    by_cases hlt : k < xs.length
    · obtain ⟨b, off, rfl, hblt, hc⟩ := (ha.below hbw).at_ hlt
      obtain ⟨b', off', rfl, hblt', hc'⟩ := (hb.below hbw).at_ hlt
      have g0 := hc 0 _ rfl
      have g1 := hc 1 _ rfl
      have g0' := hc' 0 _ rfl
      have g1' := hc' 1 _ rfl
      clear hc hc'
      simp only [Nat.add_zero] at g0 g0'
      generalize xs[k] = x at *
      go_wp2
      go_still_tail 8, (by kernel_rfl)
      change wpList _ _ _ _ _ wr.drew
      generalize hwr : wr.drew = w2
      have hb2 : Below w.heap.size w w2 := by rw [← hwr]; exact hbw.drew
      clear hwr
      go_wp2_with (fail)
      refine (eqRatio_t x _).mono ?_
      rintro e w1 ⟨rfl, hb1⟩
      go_wp2
      go_roundw
      case rel => exact ⟨k + 1, by omega, by go_num, hb2.trans (hb1.mono hb2.size)⟩
      case measure => simp [intOf]; omega
    · go_wp2
      go_ret
      exact ⟨rfl, hbw⟩

set_option maxRecDepth 100000 in
theorem toRatioS_c (A : Option Addr) (xs : List Ratio) (cap : Nat) (w : World) (hn : xs.length ≤ 1048576) (hs : Sl 2 ratioC w A xs) :
    Calls Try.prog 93 #[.slice A xs.length cap] w fun e w' => ∃ v, e = .returned v ∧ New 41 2 ratioC w' w.heap.size v xs ∧ Below w.heap.size w w' := by
  obtain ⟨i0, hi0, hz0, hz1, hz2⟩ := info_parts (show (Try.prog.info? 41).map (fun i => (i.zero, i.size, i.bytes)) = some (some (.agg #[.int .i64 0, .int .i64 0]), 2, 16) by kernel_rfl)
  have hmk : ∀ W : World, (Instr.makeSlice 44 (.int .i64 (xs.length : Int)) (.int .i64 (xs.length : Int))).run Try.prog W = .ok (.slice (some ⟨W.heap.size, 0, none⟩) xs.length xs.length) (W.alloc (.cells (madeCells #[.int .i64 0, .int .i64 0] (xs.length * 2)) 41)) := by
    intro W
    have h := run_make (P := Try.prog) W 44 41 i0 _ Try.underlying44 hi0 hz0 .i64 .i64 (xs.length : Int) (xs.length : Int) (by omega) (by omega) (by rw [hz2]; omega) (by omega)
    rw [hz1] at h
    simpa [Value.cells] using h
  go_enter Try.func93, Try.ntmps93
  go_wp2
  go_loopw [4] (fun i wr => ∃ k : Nat, k ≤ xs.length ∧ i = .int .i64 k ∧ Filled 41 2 ratioC wr w.heap.size (xs.length * 2) xs k ∧ Below w.heap.size w wr) (fun i _ => xs.length - (intOf i).toNat)
  case atStart => exact ⟨0, Nat.zero_le _, rfl, Filled.start (by simp [madeCells]) (Nat.le_refl _), below_al (Below.refl _ _) _⟩
  case round =>
    obtain ⟨k, hk, rfl, hfill, hbw⟩ := hrel
    by_cases hlt : k < xs.length
    · obtain ⟨b, off, rfl, hblt, hc⟩ := (hs.below hbw).at_ hlt
      have g0 := hc 0 _ rfl
      have g1 := hc 1 _ rfl
      clear hc
      simp only [Nat.add_zero] at g0
      have hx : xs[k] = xs[k] := rfl
      generalize hxx : xs[k] = x at *
      have HX := Lib.hid hxx
      clear hxx hx
      go_wp2_with (fail)
      refine (toRatio_c x _).mono ?_
      rintro e w1 ⟨rfl, hb1⟩
      have hfill1 := hfill.below hb1
      have hbw1 := below_tr hbw hb1
      have hm := Nat.mul_le_mul_right 2 hlt
      obtain ⟨u0, c0⟩ := hfill1.cell (m := k * 2) (by omega)
      have f0 := hfill1.frozen (k * 2)
      obtain ⟨u1, c1⟩ := hfill1.cell (m := k * 2 + 1) (by omega)
      have f1 := hfill1.frozen (k * 2 + 1)
      clear hm
      have hst := hfill1.stored ratioC_len hlt (vs := ratioC x) (by rw [HX.out])
      have hst2 := below_setCells (Nat.le_refl w.heap.size) (ratioC x) (k * 2) _ hbw1
      go_wp2
      exact ⟨⟨k + 1, by omega, by go_num, hst, hst2⟩, by simp [intOf]; omega⟩
    · obtain rfl : k = xs.length := by omega
      go_wp2
      go_ret
      exact ⟨_, rfl, hfill.new ratioC_len (Nat.le_refl _) (by unfold maxLen; omega), hbw⟩

theorem szSpotS_c (A : Option Addr) (n cap : Nat) (left : Int) (w : World) (hn : n ≤ 9223372036854775807) (h0 : 0 ≤ left) (h1 : left ≤ 1048576) :
    Calls Try.prog 87 #[.slice A n cap, .int .i64 left] w fun e w' => e = .returned (.int .i64 (if left - n < 0 then -1 else left - n)) ∧ w = w' := by
  by_cases h : left - n < 0
  all_goals
    go_enter Try.func87, Try.ntmps87
    go_wp2
    go_ret
    exact ⟨ret_int (by simp), rfl⟩

set_option maxRecDepth 100000 in
theorem eqSpotS_t (A B : Option Addr) (xs : List Spot) (c d : Nat) (w : World) (hn : xs.length ≤ 1048576) (ha : Sl 3 spotC w A xs) (hb : Sl 3 spotC w B xs) :
    Calls Try.prog 17 #[.slice A xs.length c, .slice B xs.length d] w fun e w' => e = .returned (.bool true) ∧ Below w.heap.size w w' := by
  go_enter Try.func17, Try.ntmps17
  go_wp2
  go_loopw [5] (fun i wr => ∃ k : Nat, k ≤ xs.length ∧ i = .int .i64 k ∧ Below w.heap.size w wr) (fun i _ => xs.length - (intOf i).toNat)
  case atStart => exact ⟨0, Nat.zero_le _, rfl, Below.refl _ _⟩
  case round =>
    obtain ⟨k, hk, rfl, hbw⟩ := hrel
    by_cases hlt : k < xs.length
    · obtain ⟨b, off, rfl, hblt, hc⟩ := (ha.below hbw).at_ hlt
      obtain ⟨b', off', rfl, hblt', hc'⟩ := (hb.below hbw).at_ hlt
      have g0 := hc 0 _ rfl
      have g1 := hc 1 _ rfl
      have g2 := hc 2 _ rfl
      have g0' := hc' 0 _ rfl
      have g1' := hc' 1 _ rfl
      have g2' := hc' 2 _ rfl
      clear hc hc'
      simp only [Nat.add_zero] at g0 g0'
      generalize xs[k] = x at *
      go_wp2
      go_still_tail 8, (by kernel_rfl)
      change wpList _ _ _ _ _ wr.drew
      generalize hwr : wr.drew = w2
      have hb2 : Below w.heap.size w w2 := by rw [← hwr]; exact hbw.drew
      clear hwr
      go_wp2_with (fail)
      refine (eqSpot_t x _).mono ?_
      rintro e w1 ⟨rfl, hb1⟩
      go_wp2
      go_roundw
      case rel => exact ⟨k + 1, by omega, by go_num, hb2.trans (hb1.mono hb2.size)⟩
      case measure => simp [intOf]; omega
    · go_wp2
      go_ret
      exact ⟨rfl, hbw⟩

set_option maxRecDepth 100000 in
theorem toSpotS_c (A : Option Addr) (xs : List Spot) (cap : Nat) (w : World) (hn : xs.length ≤ 1048576) (hs : Sl 3 spotC w A xs) :
    Calls Try.prog 92 #[.slice A xs.length cap] w fun e w' => ∃ v, e = .returned v ∧ New 65 3 spotC w' w.heap.size v xs ∧ Below w.heap.size w w' := by
  obtain ⟨i0, hi0, hz0, hz1, hz2⟩ := info_parts (show (Try.prog.info? 65).map (fun i => (i.zero, i.size, i.bytes)) = some (some (.agg #[.int .i64 0, .int .i64 0, .int .i64 0]), 3, 24) by kernel_rfl)
  have hmk : ∀ W : World, (Instr.makeSlice 26 (.int .i64 (xs.length : Int)) (.int .i64 (xs.length : Int))).run Try.prog W = .ok (.slice (some ⟨W.heap.size, 0, none⟩) xs.length xs.length) (W.alloc (.cells (madeCells #[.int .i64 0, .int .i64 0, .int .i64 0] (xs.length * 3)) 65)) := by
    intro W
    have h := run_make (P := Try.prog) W 26 65 i0 _ Try.underlying26 hi0 hz0 .i64 .i64 (xs.length : Int) (xs.length : Int) (by omega) (by omega) (by rw [hz2]; omega) (by omega)
    rw [hz1] at h
    simpa [Value.cells] using h
  go_enter Try.func92, Try.ntmps92
  go_wp2
  go_loopw [4] (fun i wr => ∃ k : Nat, k ≤ xs.length ∧ i = .int .i64 k ∧ Filled 65 3 spotC wr w.heap.size (xs.length * 3) xs k ∧ Below w.heap.size w wr) (fun i _ => xs.length - (intOf i).toNat)
  case atStart => exact ⟨0, Nat.zero_le _, rfl, Filled.start (by simp [madeCells]) (Nat.le_refl _), below_al (Below.refl _ _) _⟩
  case round =>
    obtain ⟨k, hk, rfl, hfill, hbw⟩ := hrel
    by_cases hlt : k < xs.length
    · obtain ⟨b, off, rfl, hblt, hc⟩ := (hs.below hbw).at_ hlt
      have g0 := hc 0 _ rfl
      have g1 := hc 1 _ rfl
      have g2 := hc 2 _ rfl
      clear hc
      simp only [Nat.add_zero] at g0
      have hx : xs[k] = xs[k] := rfl
      generalize hxx : xs[k] = x at *
      have HX := Lib.hid hxx
      clear hxx hx
      go_wp2_with (fail)
      refine (toSpot_c x _).mono ?_
      rintro e w1 ⟨rfl, hb1⟩
      have hfill1 := hfill.below hb1
      have hbw1 := below_tr hbw hb1
      have hm := Nat.mul_le_mul_right 3 hlt
      obtain ⟨u0, c0⟩ := hfill1.cell (m := k * 3) (by omega)
      have f0 := hfill1.frozen (k * 3)
      obtain ⟨u1, c1⟩ := hfill1.cell (m := k * 3 + 1) (by omega)
      have f1 := hfill1.frozen (k * 3 + 1)
      obtain ⟨u2, c2⟩ := hfill1.cell (m := k * 3 + 2) (by omega)
      have f2 := hfill1.frozen (k * 3 + 2)
      clear hm
      have hst := hfill1.stored spotC_len hlt (vs := spotC x) (by rw [HX.out])
      have hst2 := below_setCells (Nat.le_refl w.heap.size) (spotC x) (k * 3) _ hbw1
      go_wp2
      exact ⟨⟨k + 1, by omega, by go_num, hst, hst2⟩, by simp [intOf]; omega⟩
    · obtain rfl : k = xs.length := by omega
      go_wp2
      go_ret
      exact ⟨_, rfl, hfill.new spotC_len (Nat.le_refl _) (by unfold maxLen; omega), hbw⟩

theorem szHalfS_c (A : Option Addr) (n cap : Nat) (left : Int) (w : World) (hn : n ≤ 9223372036854775807) (h0 : 0 ≤ left) (h1 : left ≤ 1048576) :
    Calls Try.prog 181 #[.slice A n cap, .int .i64 left] w fun e w' => e = .returned (.int .i64 (if left - n < 0 then -1 else left - n)) ∧ w = w' := by
  by_cases h : left - n < 0
  all_goals
    go_enter Try.func181, Try.ntmps181
    go_wp2
    go_ret
    exact ⟨ret_int (by simp), rfl⟩

set_option maxRecDepth 100000 in
theorem eqHalfS_t (A B : Option Addr) (xs : List Half) (c d : Nat) (w : World) (hn : xs.length ≤ 1048576) (ha : Sl 3 halfC w A xs) (hb : Sl 3 halfC w B xs) :
    Calls Try.prog 138 #[.slice A xs.length c, .slice B xs.length d] w fun e w' => e = .returned (.bool true) ∧ Below w.heap.size w w' := by
  go_enter Try.func138, Try.ntmps138
  go_wp2
  go_loopw [5] (fun i wr => ∃ k : Nat, k ≤ xs.length ∧ i = .int .i64 k ∧ Below w.heap.size w wr) (fun i _ => xs.length - (intOf i).toNat)
  case atStart => exact ⟨0, Nat.zero_le _, rfl, Below.refl _ _⟩
  case round =>
    obtain ⟨k, hk, rfl, hbw⟩ := hrel
    by_cases hlt : k < xs.length
    · obtain ⟨b, off, rfl, hblt, hc⟩ := (ha.below hbw).at_ hlt
      obtain ⟨b', off', rfl, hblt', hc'⟩ := (hb.below hbw).at_ hlt
      have g0 := hc 0 _ rfl
      have g1 := hc 1 _ rfl
      have g2 := hc 2 _ rfl
      have g0' := hc' 0 _ rfl
      have g1' := hc' 1 _ rfl
      have g2' := hc' 2 _ rfl
      clear hc hc'
      simp only [Nat.add_zero] at g0 g0'
      generalize xs[k] = x at *
      go_wp2
      go_still_tail 8, (by kernel_rfl)
      change wpList _ _ _ _ _ wr.drew
      generalize hwr : wr.drew = w2
      have hb2 : Below w.heap.size w w2 := by rw [← hwr]; exact hbw.drew
      clear hwr
      go_wp2_with (fail)
      refine (eqHalf_t x _).mono ?_
      rintro e w1 ⟨rfl, hb1⟩
      go_wp2
      go_roundw
      case rel => exact ⟨k + 1, by omega, by go_num, hb2.trans (hb1.mono hb2.size)⟩
      case measure => simp [intOf]; omega
    · go_wp2
      go_ret
      exact ⟨rfl, hbw⟩

set_option maxRecDepth 100000 in
theorem toHalfS_c (A : Option Addr) (xs : List Half) (cap : Nat) (w : World) (hn : xs.length ≤ 1048576) (hs : Sl 3 halfC w A xs) :
    Calls Try.prog 184 #[.slice A xs.length cap] w fun e w' => ∃ v, e = .returned v ∧ New 177 3 halfC w' w.heap.size v xs ∧ Below w.heap.size w w' := by
  obtain ⟨i0, hi0, hz0, hz1, hz2⟩ := info_parts (show (Try.prog.info? 177).map (fun i => (i.zero, i.size, i.bytes)) = some (some (.agg #[.int .i64 0, .int .i64 0, .int .i64 0]), 3, 24) by kernel_rfl)
  have hmk : ∀ W : World, (Instr.makeSlice 74 (.int .i64 (xs.length : Int)) (.int .i64 (xs.length : Int))).run Try.prog W = .ok (.slice (some ⟨W.heap.size, 0, none⟩) xs.length xs.length) (W.alloc (.cells (madeCells #[.int .i64 0, .int .i64 0, .int .i64 0] (xs.length * 3)) 177)) := by
    intro W
    have h := run_make (P := Try.prog) W 74 177 i0 _ Try.underlying74 hi0 hz0 .i64 .i64 (xs.length : Int) (xs.length : Int) (by omega) (by omega) (by rw [hz2]; omega) (by omega)
    rw [hz1] at h
    simpa [Value.cells] using h
  go_enter Try.func184, Try.ntmps184
  go_wp2
  go_loopw [4] (fun i wr => ∃ k : Nat, k ≤ xs.length ∧ i = .int .i64 k ∧ Filled 177 3 halfC wr w.heap.size (xs.length * 3) xs k ∧ Below w.heap.size w wr) (fun i _ => xs.length - (intOf i).toNat)
  case atStart => exact ⟨0, Nat.zero_le _, rfl, Filled.start (by simp [madeCells]) (Nat.le_refl _), below_al (Below.refl _ _) _⟩
  case round =>
    obtain ⟨k, hk, rfl, hfill, hbw⟩ := hrel
    by_cases hlt : k < xs.length
    · obtain ⟨b, off, rfl, hblt, hc⟩ := (hs.below hbw).at_ hlt
      have g0 := hc 0 _ rfl
      have g1 := hc 1 _ rfl
      have g2 := hc 2 _ rfl
      clear hc
      simp only [Nat.add_zero] at g0
      have hx : xs[k] = xs[k] := rfl
      generalize hxx : xs[k] = x at *
      have HX := Lib.hid hxx
      clear hxx hx
      go_wp2_with (fail)
      refine (toHalf_c x _).mono ?_
      rintro e w1 ⟨rfl, hb1⟩
      have hfill1 := hfill.below hb1
      have hbw1 := below_tr hbw hb1
      have hm := Nat.mul_le_mul_right 3 hlt
      obtain ⟨u0, c0⟩ := hfill1.cell (m := k * 3) (by omega)
      have f0 := hfill1.frozen (k * 3)
      obtain ⟨u1, c1⟩ := hfill1.cell (m := k * 3 + 1) (by omega)
      have f1 := hfill1.frozen (k * 3 + 1)
      obtain ⟨u2, c2⟩ := hfill1.cell (m := k * 3 + 2) (by omega)
      have f2 := hfill1.frozen (k * 3 + 2)
      clear hm
      have hst := hfill1.stored halfC_len hlt (vs := halfC x) (by rw [HX.out])
      have hst2 := below_setCells (Nat.le_refl w.heap.size) (halfC x) (k * 3) _ hbw1
      go_wp2
      exact ⟨⟨k + 1, by omega, by go_num, hst, hst2⟩, by simp [intOf]; omega⟩
    · obtain rfl : k = xs.length := by omega
      go_wp2
      go_ret
      exact ⟨_, rfl, hfill.new halfC_len (Nat.le_refl _) (by unfold maxLen; omega), hbw⟩

theorem szPieceS_c (A : Option Addr) (n cap : Nat) (left : Int) (w : World) (hn : n ≤ 9223372036854775807) (h0 : 0 ≤ left) (h1 : left ≤ 1048576) :
    Calls Try.prog 98 #[.slice A n cap, .int .i64 left] w fun e w' => e = .returned (.int .i64 (if left - n < 0 then -1 else left - n)) ∧ w = w' := by
  by_cases h : left - n < 0
  all_goals
    go_enter Try.func98, Try.ntmps98
    go_wp2
    go_ret
    exact ⟨ret_int (by simp), rfl⟩

set_option maxRecDepth 100000 in
theorem eqPieceS_t (A B : Option Addr) (xs : List Piece) (c d : Nat) (w : World) (hn : xs.length ≤ 1048576) (ha : Sl 4 pieceC w A xs) (hb : Sl 4 pieceC w B xs) :
    Calls Try.prog 107 #[.slice A xs.length c, .slice B xs.length d] w fun e w' => e = .returned (.bool true) ∧ Below w.heap.size w w' := by
  go_enter Try.func107, Try.ntmps107
  go_wp2
  go_loopw [5] (fun i wr => ∃ k : Nat, k ≤ xs.length ∧ i = .int .i64 k ∧ Below w.heap.size w wr) (fun i _ => xs.length - (intOf i).toNat)
  case atStart => exact ⟨0, Nat.zero_le _, rfl, Below.refl _ _⟩
  case round =>
    obtain ⟨k, hk, rfl, hbw⟩ := hrel
    by_cases hlt : k < xs.length
    · obtain ⟨b, off, rfl, hblt, hc⟩ := (ha.below hbw).at_ hlt
      obtain ⟨b', off', rfl, hblt', hc'⟩ := (hb.below hbw).at_ hlt
      have g0 := hc 0 _ rfl
      have g1 := hc 1 _ rfl
      have g2 := hc 2 _ rfl
      have g3 := hc 3 _ rfl
      have g0' := hc' 0 _ rfl
      have g1' := hc' 1 _ rfl
      have g2' := hc' 2 _ rfl
      have g3' := hc' 3 _ rfl
      clear hc hc'
      simp only [Nat.add_zero] at g0 g0'
      generalize xs[k] = x at *
      go_wp2
      go_still_tail 8, (by kernel_rfl)
      change wpList _ _ _ _ _ wr.drew
      generalize hwr : wr.drew = w2
      have hb2 : Below w.heap.size w w2 := by rw [← hwr]; exact hbw.drew
      clear hwr
      go_wp2_with (fail)
      refine (eqPiece_t x _).mono ?_
      rintro e w1 ⟨rfl, hb1⟩
      go_wp2
      go_roundw
      case rel => exact ⟨k + 1, by omega, by go_num, hb2.trans (hb1.mono hb2.size)⟩
      case measure => simp [intOf]; omega
    · go_wp2
      go_ret
      exact ⟨rfl, hbw⟩

set_option maxRecDepth 100000 in
theorem toPieceS_c (A : Option Addr) (xs : List Piece) (cap : Nat) (w : World) (hn : xs.length ≤ 1048576) (hs : Sl 4 pieceC w A xs) :
    Calls Try.prog 102 #[.slice A xs.length cap] w fun e w' => ∃ v, e = .returned v ∧ New 193 4 pieceC w' w.heap.size v xs ∧ Below w.heap.size w w' := by
  obtain ⟨i0, hi0, hz0, hz1, hz2⟩ := info_parts (show (Try.prog.info? 193).map (fun i => (i.zero, i.size, i.bytes)) = some (some (.agg #[.int .i64 0, .int .i64 0, .int .i64 0, .int .i64 0]), 4, 32) by kernel_rfl)
  have hmk : ∀ W : World, (Instr.makeSlice 61 (.int .i64 (xs.length : Int)) (.int .i64 (xs.length : Int))).run Try.prog W = .ok (.slice (some ⟨W.heap.size, 0, none⟩) xs.length xs.length) (W.alloc (.cells (madeCells #[.int .i64 0, .int .i64 0, .int .i64 0, .int .i64 0] (xs.length * 4)) 193)) := by
    intro W
    have h := run_make (P := Try.prog) W 61 193 i0 _ Try.underlying61 hi0 hz0 .i64 .i64 (xs.length : Int) (xs.length : Int) (by omega) (by omega) (by rw [hz2]; omega) (by omega)
    rw [hz1] at h
    simpa [Value.cells] using h
  go_enter Try.func102, Try.ntmps102
  go_wp2
  go_loopw [4] (fun i wr => ∃ k : Nat, k ≤ xs.length ∧ i = .int .i64 k ∧ Filled 193 4 pieceC wr w.heap.size (xs.length * 4) xs k ∧ Below w.heap.size w wr) (fun i _ => xs.length - (intOf i).toNat)
  case atStart => exact ⟨0, Nat.zero_le _, rfl, Filled.start (by simp [madeCells]) (Nat.le_refl _), below_al (Below.refl _ _) _⟩
  case round =>
    obtain ⟨k, hk, rfl, hfill, hbw⟩ := hrel
    by_cases hlt : k < xs.length
    · obtain ⟨b, off, rfl, hblt, hc⟩ := (hs.below hbw).at_ hlt
      have g0 := hc 0 _ rfl
      have g1 := hc 1 _ rfl
      have g2 := hc 2 _ rfl
      have g3 := hc 3 _ rfl
      clear hc
      simp only [Nat.add_zero] at g0
      have hx : xs[k] = xs[k] := rfl
      generalize hxx : xs[k] = x at *
      have HX := Lib.hid hxx
      clear hxx hx
      go_wp2_with (fail)
      refine (toPiece_c x _).mono ?_
      rintro e w1 ⟨rfl, hb1⟩
      have hfill1 := hfill.below hb1
      have hbw1 := below_tr hbw hb1
      have hm := Nat.mul_le_mul_right 4 hlt
      obtain ⟨u0, c0⟩ := hfill1.cell (m := k * 4) (by omega)
      have f0 := hfill1.frozen (k * 4)
      obtain ⟨u1, c1⟩ := hfill1.cell (m := k * 4 + 1) (by omega)
      have f1 := hfill1.frozen (k * 4 + 1)
      obtain ⟨u2, c2⟩ := hfill1.cell (m := k * 4 + 2) (by omega)
      have f2 := hfill1.frozen (k * 4 + 2)
      obtain ⟨u3, c3⟩ := hfill1.cell (m := k * 4 + 3) (by omega)
      have f3 := hfill1.frozen (k * 4 + 3)
      clear hm
      have hst := hfill1.stored pieceC_len hlt (vs := pieceC x) (by rw [HX.out])
      have hst2 := below_setCells (Nat.le_refl w.heap.size) (pieceC x) (k * 4) _ hbw1
      go_wp2
      exact ⟨⟨k + 1, by omega, by go_num, hst, hst2⟩, by simp [intOf]; omega⟩
    · obtain rfl : k = xs.length := by omega
      go_wp2
      go_ret
      exact ⟨_, rfl, hfill.new pieceC_len (Nat.le_refl _) (by unfold maxLen; omega), hbw⟩

theorem szModeS_c (A : Option Addr) (n cap : Nat) (left : Int) (w : World) (hn : n ≤ 9223372036854775807) (h0 : 0 ≤ left) (h1 : left ≤ 1048576) :
    Calls Try.prog 63 #[.slice A n cap, .int .i64 left] w fun e w' => e = .returned (.int .i64 (if left - n < 0 then -1 else left - n)) ∧ w = w' := by
  by_cases h : left - n < 0
  all_goals
    go_enter Try.func63, Try.ntmps63
    go_wp2
    go_ret
    exact ⟨ret_int (by simp), rfl⟩

set_option maxRecDepth 100000 in
theorem eqModeS_t (A B : Option Addr) (xs : List Mode) (c d : Nat) (w : World) (hn : xs.length ≤ 1048576) (ha : Sl 2 modeC w A xs) (hb : Sl 2 modeC w B xs) :
    Calls Try.prog 69 #[.slice A xs.length c, .slice B xs.length d] w fun e w' => e = .returned (.bool true) ∧ Below w.heap.size w w' := by
  go_enter Try.func69, Try.ntmps69
  go_wp2
  go_loopw [5] (fun i wr => ∃ k : Nat, k ≤ xs.length ∧ i = .int .i64 k ∧ Below w.heap.size w wr) (fun i _ => xs.length - (intOf i).toNat)
  case atStart => exact ⟨0, Nat.zero_le _, rfl, Below.refl _ _⟩
  case round =>
    obtain ⟨k, hk, rfl, hbw⟩ := hrel
    by_cases hlt : k < xs.length
    · obtain ⟨b, off, rfl, hblt, hc⟩ := (ha.below hbw).at_ hlt
      obtain ⟨b', off', rfl, hblt', hc'⟩ := (hb.below hbw).at_ hlt
      have g0 := hc 0 _ rfl
      have g1 := hc 1 _ rfl
      have g0' := hc' 0 _ rfl
      have g1' := hc' 1 _ rfl
      clear hc hc'
      simp only [Nat.add_zero] at g0 g0'
      generalize xs[k] = x at *
      go_wp2
      go_still_tail 8, (by kernel_rfl)
      change wpList _ _ _ _ _ wr.drew
      generalize hwr : wr.drew = w2
      have hb2 : Below w.heap.size w w2 := by rw [← hwr]; exact hbw.drew
      clear hwr
      go_wp2_with (fail)
      refine (eqMode_t x _).mono ?_
      rintro e w1 ⟨rfl, hb1⟩
      go_wp2
      go_roundw
      case rel => exact ⟨k + 1, by omega, by go_num, hb2.trans (hb1.mono hb2.size)⟩
      case measure => simp [intOf]; omega
    · go_wp2
      go_ret
      exact ⟨rfl, hbw⟩

set_option maxRecDepth 100000 in
theorem toModeS_c (A : Option Addr) (xs : List Mode) (cap : Nat) (w : World) (hn : xs.length ≤ 1048576) (hs : Sl 2 modeC w A xs) :
    Calls Try.prog 66 #[.slice A xs.length cap] w fun e w' => ∃ v, e = .returned v ∧ New 130 2 modeC w' w.heap.size v xs ∧ Below w.heap.size w w' := by
  obtain ⟨i0, hi0, hz0, hz1, hz2⟩ := info_parts (show (Try.prog.info? 130).map (fun i => (i.zero, i.size, i.bytes)) = some (some (.agg #[.int .i64 0, .int .i64 0]), 2, 16) by kernel_rfl)
  have hmk : ∀ W : World, (Instr.makeSlice 120 (.int .i64 (xs.length : Int)) (.int .i64 (xs.length : Int))).run Try.prog W = .ok (.slice (some ⟨W.heap.size, 0, none⟩) xs.length xs.length) (W.alloc (.cells (madeCells #[.int .i64 0, .int .i64 0] (xs.length * 2)) 130)) := by
    intro W
    have h := run_make (P := Try.prog) W 120 130 i0 _ Try.underlying120 hi0 hz0 .i64 .i64 (xs.length : Int) (xs.length : Int) (by omega) (by omega) (by rw [hz2]; omega) (by omega)
    rw [hz1] at h
    simpa [Value.cells] using h
  go_enter Try.func66, Try.ntmps66
  go_wp2
  go_loopw [4] (fun i wr => ∃ k : Nat, k ≤ xs.length ∧ i = .int .i64 k ∧ Filled 130 2 modeC wr w.heap.size (xs.length * 2) xs k ∧ Below w.heap.size w wr) (fun i _ => xs.length - (intOf i).toNat)
  case atStart => exact ⟨0, Nat.zero_le _, rfl, Filled.start (by simp [madeCells]) (Nat.le_refl _), below_al (Below.refl _ _) _⟩
  case round =>
    obtain ⟨k, hk, rfl, hfill, hbw⟩ := hrel
    by_cases hlt : k < xs.length
    · obtain ⟨b, off, rfl, hblt, hc⟩ := (hs.below hbw).at_ hlt
      have g0 := hc 0 _ rfl
      have g1 := hc 1 _ rfl
      clear hc
      simp only [Nat.add_zero] at g0
      have hx : xs[k] = xs[k] := rfl
      generalize hxx : xs[k] = x at *
      have HX := Lib.hid hxx
      clear hxx hx
      go_wp2_with (fail)
      refine (toMode_c x _).mono ?_
      rintro e w1 ⟨rfl, hb1⟩
      have hfill1 := hfill.below hb1
      have hbw1 := below_tr hbw hb1
      have hm := Nat.mul_le_mul_right 2 hlt
      obtain ⟨u0, c0⟩ := hfill1.cell (m := k * 2) (by omega)
      have f0 := hfill1.frozen (k * 2)
      obtain ⟨u1, c1⟩ := hfill1.cell (m := k * 2 + 1) (by omega)
      have f1 := hfill1.frozen (k * 2 + 1)
      clear hm
      have hst := hfill1.stored modeC_len hlt (vs := modeC x) (by rw [HX.out])
      have hst2 := below_setCells (Nat.le_refl w.heap.size) (modeC x) (k * 2) _ hbw1
      go_wp2
      exact ⟨⟨k + 1, by omega, by go_num, hst, hst2⟩, by simp [intOf]; omega⟩
    · obtain rfl : k = xs.length := by omega
      go_wp2
      go_ret
      exact ⟨_, rfl, hfill.new modeC_len (Nat.le_refl _) (by unfold maxLen; omega), hbw⟩

theorem szRecordS_c (A : Option Addr) (n cap : Nat) (left : Int) (w : World) (hn : n ≤ 9223372036854775807) (h0 : 0 ≤ left) (h1 : left ≤ 1048576) :
    Calls Try.prog 52 #[.slice A n cap, .int .i64 left] w fun e w' => e = .returned (.int .i64 (if left - n < 0 then -1 else left - n)) ∧ w = w' := by
  by_cases h : left - n < 0
  all_goals
    go_enter Try.func52, Try.ntmps52
    go_wp2
    go_ret
    exact ⟨ret_int (by simp), rfl⟩

set_option maxRecDepth 100000 in
theorem eqRecordS_t (A B : Option Addr) (xs : List Record) (c d : Nat) (w : World) (hn : xs.length ≤ 1048576) (ha : Sl 3 recordC w A xs) (hb : Sl 3 recordC w B xs) :
    Calls Try.prog 56 #[.slice A xs.length c, .slice B xs.length d] w fun e w' => e = .returned (.bool true) ∧ Below w.heap.size w w' := by
  go_enter Try.func56, Try.ntmps56
  go_wp2
  go_loopw [5] (fun i wr => ∃ k : Nat, k ≤ xs.length ∧ i = .int .i64 k ∧ Below w.heap.size w wr) (fun i _ => xs.length - (intOf i).toNat)
  case atStart => exact ⟨0, Nat.zero_le _, rfl, Below.refl _ _⟩
  case round =>
    obtain ⟨k, hk, rfl, hbw⟩ := hrel
    by_cases hlt : k < xs.length
    · obtain ⟨b, off, rfl, hblt, hc⟩ := (ha.below hbw).at_ hlt
      obtain ⟨b', off', rfl, hblt', hc'⟩ := (hb.below hbw).at_ hlt
      have g0 := hc 0 _ rfl
      have g1 := hc 1 _ rfl
      have g2 := hc 2 _ rfl
      have g0' := hc' 0 _ rfl
      have g1' := hc' 1 _ rfl
      have g2' := hc' 2 _ rfl
      clear hc hc'
      simp only [Nat.add_zero] at g0 g0'
      generalize xs[k] = x at *
      go_wp2
      go_still_tail 8, (by kernel_rfl)
      change wpList _ _ _ _ _ wr.drew
      generalize hwr : wr.drew = w2
      have hb2 : Below w.heap.size w w2 := by rw [← hwr]; exact hbw.drew
      clear hwr
      go_wp2_with (fail)
      refine (eqRecord_t x _).mono ?_
      rintro e w1 ⟨rfl, hb1⟩
      go_wp2
      go_roundw
      case rel => exact ⟨k + 1, by omega, by go_num, hb2.trans (hb1.mono hb2.size)⟩
      case measure => simp [intOf]; omega
    · go_wp2
      go_ret
      exact ⟨rfl, hbw⟩

set_option maxRecDepth 100000 in
theorem toRecordS_c (A : Option Addr) (xs : List Record) (cap : Nat) (w : World) (hn : xs.length ≤ 1048576) (hs : Sl 3 recordC w A xs) :
    Calls Try.prog 54 #[.slice A xs.length cap] w fun e w' => ∃ v, e = .returned v ∧ New 95 3 recordC w' w.heap.size v xs ∧ Below w.heap.size w w' := by
  obtain ⟨i0, hi0, hz0, hz1, hz2⟩ := info_parts (show (Try.prog.info? 95).map (fun i => (i.zero, i.size, i.bytes)) = some (some (.agg #[.int .i64 0, .int .i64 0, .int .i64 0]), 3, 24) by kernel_rfl)
  have hmk : ∀ W : World, (Instr.makeSlice 71 (.int .i64 (xs.length : Int)) (.int .i64 (xs.length : Int))).run Try.prog W = .ok (.slice (some ⟨W.heap.size, 0, none⟩) xs.length xs.length) (W.alloc (.cells (madeCells #[.int .i64 0, .int .i64 0, .int .i64 0] (xs.length * 3)) 95)) := by
    intro W
    have h := run_make (P := Try.prog) W 71 95 i0 _ Try.underlying71 hi0 hz0 .i64 .i64 (xs.length : Int) (xs.length : Int) (by omega) (by omega) (by rw [hz2]; omega) (by omega)
    rw [hz1] at h
    simpa [Value.cells] using h
  go_enter Try.func54, Try.ntmps54
  go_wp2
  go_loopw [4] (fun i wr => ∃ k : Nat, k ≤ xs.length ∧ i = .int .i64 k ∧ Filled 95 3 recordC wr w.heap.size (xs.length * 3) xs k ∧ Below w.heap.size w wr) (fun i _ => xs.length - (intOf i).toNat)
  case atStart => exact ⟨0, Nat.zero_le _, rfl, Filled.start (by simp [madeCells]) (Nat.le_refl _), below_al (Below.refl _ _) _⟩
  case round =>
    obtain ⟨k, hk, rfl, hfill, hbw⟩ := hrel
    by_cases hlt : k < xs.length
    · obtain ⟨b, off, rfl, hblt, hc⟩ := (hs.below hbw).at_ hlt
      have g0 := hc 0 _ rfl
      have g1 := hc 1 _ rfl
      have g2 := hc 2 _ rfl
      clear hc
      simp only [Nat.add_zero] at g0
      have hx : xs[k] = xs[k] := rfl
      generalize hxx : xs[k] = x at *
      have HX := Lib.hid hxx
      clear hxx hx
      go_wp2_with (fail)
      refine (toRecord_c x _).mono ?_
      rintro e w1 ⟨rfl, hb1⟩
      have hfill1 := hfill.below hb1
      have hbw1 := below_tr hbw hb1
      have hm := Nat.mul_le_mul_right 3 hlt
      obtain ⟨u0, c0⟩ := hfill1.cell (m := k * 3) (by omega)
      have f0 := hfill1.frozen (k * 3)
      obtain ⟨u1, c1⟩ := hfill1.cell (m := k * 3 + 1) (by omega)
      have f1 := hfill1.frozen (k * 3 + 1)
      obtain ⟨u2, c2⟩ := hfill1.cell (m := k * 3 + 2) (by omega)
      have f2 := hfill1.frozen (k * 3 + 2)
      clear hm
      have hst := hfill1.stored recordC_len hlt (vs := recordC x) (by rw [HX.out])
      have hst2 := below_setCells (Nat.le_refl w.heap.size) (recordC x) (k * 3) _ hbw1
      go_wp2
      exact ⟨⟨k + 1, by omega, by go_num, hst, hst2⟩, by simp [intOf]; omega⟩
    · obtain rfl : k = xs.length := by omega
      go_wp2
      go_ret
      exact ⟨_, rfl, hfill.new recordC_len (Nat.le_refl _) (by unfold maxLen; omega), hbw⟩

end Go.Proofs.Ytbdihgcjopbnjaa
