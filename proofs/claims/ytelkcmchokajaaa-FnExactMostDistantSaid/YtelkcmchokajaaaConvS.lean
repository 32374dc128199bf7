/-
  What the conversions and comparisons of slices of package laws return.
  Conditions: the slices hold at most 2^20 elements.
-/
import Derived.Test.YtelkcmchokajaaaConv
import Derived.StillTailTactics
namespace Go.Proofs.Ytelkcmchokajaaa
open Go.RowKit

theorem szRatioS_c (A : Option Addr) (n cap : Nat) (left : Int) (w : World) (hn : n ≤ 9223372036854775807) (h0 : 0 ≤ left) (h1 : left ≤ 1048576) :
    Calls Try.prog 105 #[.slice A n cap, .int .i64 left] w fun e w' => e = .returned (.int .i64 (if left - n < 0 then -1 else left - n)) ∧ w = w' := by
  by_cases h : left - n < 0
  all_goals
    go_enter Try.func105, Try.ntmps105
    go_wp2
    go_ret
    exact ⟨ret_int (by simp), rfl⟩

set_option maxRecDepth 100000 in
theorem eqRatioS_t (A B : Option Addr) (xs : List Ratio) (c d : Nat) (w : World) (hn : xs.length ≤ 1048576) (ha : Sl 2 ratioC w A xs) (hb : Sl 2 ratioC w B xs) :
    Calls Try.prog 110 #[.slice A xs.length c, .slice B xs.length d] w fun e w' => e = .returned (.bool true) ∧ Below w.heap.size w w' := by
  go_enter Try.func110, Try.ntmps110
  go_wp2
  go_loopw [5] (fun i wr => ∃ k : Nat, k ≤ xs.length ∧ i = .int .i64 k ∧ Below w.heap.size w wr) (fun i _ => xs.length - (intOf i).toNat)
  case atStart => exact ⟨0, Nat.zero_le _, rfl, Below.refl _ _⟩
  case round =>
    obtain ⟨k, hk, rfl, hbw⟩ := hrel
    by_cases hlt : k < xs.length
    · obtain ⟨b, off, rfl, hblt, hc⟩ := (ha.below hbw).at_ hlt
      obtain ⟨b', off', rfl, hblt', hc'⟩ := (hb.below hbw).at_ hlt
      have g0 := hc 0 _ rfl
      have g1 := hc 1 _ rfl
      have g0' := hc' 0 _ rfl
      have g1' := hc' 1 _ rfl
      clear hc hc'
      simp only [Nat.add_zero] at g0 g0'
      generalize xs[k] = x at *
      go_wp2
      go_still_tail 8, (by kernel_rfl)
      change wpList _ _ _ _ _ wr.drew
      generalize hwr : wr.drew = w2
      have hb2 : Below w.heap.size w w2 := by rw [← hwr]; exact hbw.drew
      clear hwr
      go_wp2_with (fail)
      refine (eqRatio_t x _).mono ?_
      rintro e w1 ⟨rfl, hb1⟩
      go_wp2
      go_roundw
      case rel => exact ⟨k + 1, by omega, by go_num, hb2.trans (hb1.mono hb2.size)⟩
      case measure => simp [intOf]; omega
    · go_wp2
      go_ret
      exact ⟨rfl, hbw⟩

set_option maxRecDepth 100000 in
theorem toRatioS_c (A : Option Addr) (xs : List Ratio) (cap : Nat) (w : World) (hn : xs.length ≤ 1048576) (hs : Sl 2 ratioC w A xs) :
    Calls Try.prog 107 #[.slice A xs.length cap] w fun e w' => ∃ v, e = .returned v ∧ New 74 2 ratioC w' w.heap.size v xs ∧ Below w.heap.size w w' := by
  obtain ⟨i0, hi0, hz0, hz1, hz2⟩ := info_parts (show (Try.prog.info? 74).map (fun i => (i.zero, i.size, i.bytes)) = some (some (.agg #[.int .i64 0, .int .i64 0]), 2, 16) by kernel_rfl)
  have hmk : ∀ W : World, (Instr.makeSlice 85 (.int .i64 (xs.length : Int)) (.int .i64 (xs.length : Int))).run Try.prog W = .ok (.slice (some ⟨W.heap.size, 0, none⟩) xs.length xs.length) (W.alloc (.cells (madeCells #[.int .i64 0, .int .i64 0] (xs.length * 2)) 74)) := by
    intro W
    have h := run_make (P := Try.prog) W 85 74 i0 _ Try.underlying85 hi0 hz0 .i64 .i64 (xs.length : Int) (xs.length : Int) (by omega) (by omega) (by rw [hz2]; omega) (by omega)
    rw [hz1] at h
    simpa [Value.cells] using h
  go_enter Try.func107, Try.ntmps107
  go_wp2
  go_loopw [4] (fun i wr => ∃ k : Nat, k ≤ xs.length ∧ i = .int .i64 k ∧ Filled 74 2 ratioC wr w.heap.size (xs.length * 2) xs k ∧ Below w.heap.size w wr) (fun i _ => xs.length - (intOf i).toNat)
  case atStart => exact ⟨0, Nat.zero_le _, rfl, Filled.start (by simp [madeCells]) (Nat.le_refl _), below_al (Below.refl _ _) _⟩
  case round =>
    obtain ⟨k, hk, rfl, hfill, hbw⟩ := hrel
    by_cases hlt : k < xs.length
    · obtain ⟨b, off, rfl, hblt, hc⟩ := (hs.below hbw).at_ hlt
      have g0 := hc 0 _ rfl
      have g1 := hc 1 _ rfl
      clear hc
      simp only [Nat.add_zero] at g0
      have hx : xs[k] = xs[k] := rfl
      generalize hxx : xs[k] = x at *
      have HX := Lib.hid hxx
      clear hxx hx
      go_wp2_with (fail)
      refine (toRatio_c x _).mono ?_
      rintro e w1 ⟨rfl, hb1⟩
      have hfill1 := hfill.below hb1
      have hbw1 := below_tr hbw hb1
      have hm := Nat.mul_le_mul_right 2 hlt
      obtain ⟨u0, c0⟩ := hfill1.cell (m := k * 2) (by omega)
      have f0 := hfill1.frozen (k * 2)
      obtain ⟨u1, c1⟩ := hfill1.cell (m := k * 2 + 1) (by omega)
      have f1 := hfill1.frozen (k * 2 + 1)
      clear hm
      have hst := hfill1.stored ratioC_len hlt (vs := ratioC x) (by rw [HX.out])
      have hst2 := below_setCells (Nat.le_refl w.heap.size) (ratioC x) (k * 2) _ hbw1
      go_wp2
      exact ⟨⟨k + 1, by omega, by go_num, hst, hst2⟩, by simp [intOf]; omega⟩
    · obtain rfl : k = xs.length := by omega
      go_wp2
      go_ret
      exact ⟨_, rfl, hfill.new ratioC_len (Nat.le_refl _) (by unfold maxLen; omega), hbw⟩

theorem szSpotS_c (A : Option Addr) (n cap : Nat) (left : Int) (w : World) (hn : n ≤ 9223372036854775807) (h0 : 0 ≤ left) (h1 : left ≤ 1048576) :
    Calls Try.prog 104 #[.slice A n cap, .int .i64 left] w fun e w' => e = .returned (.int .i64 (if left - n < 0 then -1 else left - n)) ∧ w = w' := by
  by_cases h : left - n < 0
  all_goals
    go_enter Try.func104, Try.ntmps104
    go_wp2
    go_ret
    exact ⟨ret_int (by simp), rfl⟩

set_option maxRecDepth 100000 in
theorem eqSpotS_t (A B : Option Addr) (xs : List Spot) (c d : Nat) (w : World) (hn : xs.length ≤ 1048576) (ha : Sl 3 spotC w A xs) (hb : Sl 3 spotC w B xs) :
    Calls Try.prog 24 #[.slice A xs.length c, .slice B xs.length d] w fun e w' => e = .returned (.bool true) ∧ Below w.heap.size w w' := by
  go_enter Try.func24, Try.ntmps24
  go_wp2
  go_loopw [5] (fun i wr => ∃ k : Nat, k ≤ xs.length ∧ i = .int .i64 k ∧ Below w.heap.size w wr) (fun i _ => xs.length - (intOf i).toNat)
  case atStart => exact ⟨0, Nat.zero_le _, rfl, Below.refl _ _⟩
  case round =>
    obtain ⟨k, hk, rfl, hbw⟩ := hrel
    by_cases hlt : k < xs.length
    · obtain ⟨b, off, rfl, hblt, hc⟩ := (ha.below hbw).at_ hlt
      obtain ⟨b', off', rfl, hblt', hc'⟩ := (hb.below hbw).at_ hlt
      have g0 := hc 0 _ rfl
      have g1 := hc 1 _ rfl
      have g2 := hc 2 _ rfl
      have g0' := hc' 0 _ rfl
      have g1' := hc' 1 _ rfl
      have g2' := hc' 2 _ rfl
      clear hc hc'
      simp only [Nat.add_zero] at g0 g0'
      generalize xs[k] = x at *
      go_wp2
      go_still_tail 8, (by kernel_rfl)
      change wpList _ _ _ _ _ wr.drew
      generalize hwr : wr.drew = w2
      have hb2 : Below w.heap.size w w2 := by rw [← hwr]; exact hbw.drew
      clear hwr
      go_wp2_with (fail)
      refine (eqSpot_t x _).mono ?_
      rintro e w1 ⟨rfl, hb1⟩
      go_wp2
      go_roundw
      case rel => exact ⟨k + 1, by omega, by go_num, hb2.trans (hb1.mono hb2.size)⟩
      case measure => simp [intOf]; omega
    · go_wp2
      go_ret
      exact ⟨rfl, hbw⟩

set_option maxRecDepth 100000 in
theorem toSpotS_c (A : Option Addr) (xs : List Spot) (cap : Nat) (w : World) (hn : xs.length ≤ 1048576) (hs : Sl 3 spotC w A xs) :
    Calls Try.prog 106 #[.slice A xs.length cap] w fun e w' => ∃ v, e = .returned v ∧ New 32 3 spotC w' w.heap.size v xs ∧ Below w.heap.size w w' := by
  obtain ⟨i0, hi0, hz0, hz1, hz2⟩ := info_parts (show (Try.prog.info? 32).map (fun i => (i.zero, i.size, i.bytes)) = some (some (.agg #[.int .i64 0, .int .i64 0, .int .i64 0]), 3, 24) by kernel_rfl)
  have hmk : ∀ W : World, (Instr.makeSlice 36 (.int .i64 (xs.length : Int)) (.int .i64 (xs.length : Int))).run Try.prog W = .ok (.slice (some ⟨W.heap.size, 0, none⟩) xs.length xs.length) (W.alloc (.cells (madeCells #[.int .i64 0, .int .i64 0, .int .i64 0] (xs.length * 3)) 32)) := by
    intro W
    have h := run_make (P := Try.prog) W 36 32 i0 _ Try.underlying36 hi0 hz0 .i64 .i64 (xs.length : Int) (xs.length : Int) (by omega) (by omega) (by rw [hz2]; omega) (by omega)
    rw [hz1] at h
    simpa [Value.cells] using h
  go_enter Try.func106, Try.ntmps106
  go_wp2
  go_loopw [4] (fun i wr => ∃ k : Nat, k ≤ xs.length ∧ i = .int .i64 k ∧ Filled 32 3 spotC wr w.heap.size (xs.length * 3) xs k ∧ Below w.heap.size w wr) (fun i _ => xs.length - (intOf i).toNat)
  case atStart => exact ⟨0, Nat.zero_le _, rfl, Filled.start (by simp [madeCells]) (Nat.le_refl _), below_al (Below.refl _ _) _⟩
  case round =>
    obtain ⟨k, hk, rfl, hfill, hbw⟩ := hrel
    by_cases hlt : k < xs.length
    · obtain ⟨b, off, rfl, hblt, hc⟩ := (hs.below hbw).at_ hlt
      have g0 := hc 0 _ rfl
      have g1 := hc 1 _ rfl
      have g2 := hc 2 _ rfl
      clear hc
      simp only [Nat.add_zero] at g0
      have hx : xs[k] = xs[k] := rfl
      generalize hxx : xs[k] = x at *
      have HX := Lib.hid hxx
      clear hxx hx
      go_wp2_with (fail)
      refine (toSpot_c x _).mono ?_
      rintro e w1 ⟨rfl, hb1⟩
      have hfill1 := hfill.below hb1
      have hbw1 := below_tr hbw hb1
      have hm := Nat.mul_le_mul_right 3 hlt
      obtain ⟨u0, c0⟩ := hfill1.cell (m := k * 3) (by omega)
      have f0 := hfill1.frozen (k * 3)
      obtain ⟨u1, c1⟩ := hfill1.cell (m := k * 3 + 1) (by omega)
      have f1 := hfill1.frozen (k * 3 + 1)
      obtain ⟨u2, c2⟩ := hfill1.cell (m := k * 3 + 2) (by omega)
      have f2 := hfill1.frozen (k * 3 + 2)
      clear hm
      have hst := hfill1.stored spotC_len hlt (vs := spotC x) (by rw [HX.out])
      have hst2 := below_setCells (Nat.le_refl w.heap.size) (spotC x) (k * 3) _ hbw1
      go_wp2
      exact ⟨⟨k + 1, by omega, by go_num, hst, hst2⟩, by simp [intOf]; omega⟩
    · obtain rfl : k = xs.length := by omega
      go_wp2
      go_ret
      exact ⟨_, rfl, hfill.new spotC_len (Nat.le_refl _) (by unfold maxLen; omega), hbw⟩

theorem szHalfS_c (A : Option Addr) (n cap : Nat) (left : Int) (w : World) (hn : n ≤ 9223372036854775807) (h0 : 0 ≤ left) (h1 : left ≤ 1048576) :
    Calls Try.prog 129 #[.slice A n cap, .int .i64 left] w fun e w' => e = .returned (.int .i64 (if left - n < 0 then -1 else left - n)) ∧ w = w' := by
  by_cases h : left - n < 0
  all_goals
    go_enter Try.func129, Try.ntmps129
    go_wp2
    go_ret
    exact ⟨ret_int (by simp), rfl⟩

set_option maxRecDepth 100000 in
theorem eqHalfS_t (A B : Option Addr) (xs : List Half) (c d : Nat) (w : World) (hn : xs.length ≤ 1048576) (ha : Sl 3 halfC w A xs) (hb : Sl 3 halfC w B xs) :
    Calls Try.prog 131 #[.slice A xs.length c, .slice B xs.length d] w fun e w' => e = .returned (.bool true) ∧ Below w.heap.size w w' := by
  go_enter Try.func131, Try.ntmps131
  go_wp2
  go_loopw [5] (fun i wr => ∃ k : Nat, k ≤ xs.length ∧ i = .int .i64 k ∧ Below w.heap.size w wr) (fun i _ => xs.length - (intOf i).toNat)
  case atStart => exact ⟨0, Nat.zero_le _, rfl, Below.refl _ _⟩
  case round =>
    obtain ⟨k, hk, rfl, hbw⟩ := hrel
    by_cases hlt : k < xs.length
    · obtain ⟨b, off, rfl, hblt, hc⟩ := (ha.below hbw).at_ hlt
      obtain ⟨b', off', rfl, hblt', hc'⟩ := (hb.below hbw).at_ hlt
      have g0 := hc 0 _ rfl
      have g1 := hc 1 _ rfl
      have g2 := hc 2 _ rfl
      have g0' := hc' 0 _ rfl
      have g1' := hc' 1 _ rfl
      have g2' := hc' 2 _ rfl
      clear hc hc'
      simp only [Nat.add_zero] at g0 g0'
      generalize xs[k] = x at *
      go_wp2
      go_still_tail 8, (by kernel_rfl)
      change wpList _ _ _ _ _ wr.drew
      generalize hwr : wr.drew = w2
      have hb2 : Below w.heap.size w w2 := by rw [← hwr]; exact hbw.drew
      clear hwr
      go_wp2_with (fail)
      refine (eqHalf_t x _).mono ?_
      rintro e w1 ⟨rfl, hb1⟩
      go_wp2
      go_roundw
      case rel => exact ⟨k + 1, by omega, by go_num, hb2.trans (hb1.mono hb2.size)⟩
      case measure => simp [intOf]; omega
    · go_wp2
      go_ret
      exact ⟨rfl, hbw⟩

set_option maxRecDepth 100000 in
theorem toHalfS_c (A : Option Addr) (xs : List Half) (cap : Nat) (w : World) (hn : xs.length ≤ 1048576) (hs : Sl 3 halfC w A xs) :
    Calls Try.prog 130 #[.slice A xs.length cap] w fun e w' => ∃ v, e = .returned v ∧ New 161 3 halfC w' w.heap.size v xs ∧ Below w.heap.size w w' := by
  obtain ⟨i0, hi0, hz0, hz1, hz2⟩ := info_parts (show (Try.prog.info? 161).map (fun i => (i.zero, i.size, i.bytes)) = some (some (.agg #[.int .i64 0, .int .i64 0, .int .i64 0]), 3, 24) by kernel_rfl)
  have hmk : ∀ W : World, (Instr.makeSlice 51 (.int .i64 (xs.length : Int)) (.int .i64 (xs.length : Int))).run Try.prog W = .ok (.slice (some ⟨W.heap.size, 0, none⟩) xs.length xs.length) (W.alloc (.cells (madeCells #[.int .i64 0, .int .i64 0, .int .i64 0] (xs.length * 3)) 161)) := by
    intro W
    have h := run_make (P := Try.prog) W 51 161 i0 _ Try.underlying51 hi0 hz0 .i64 .i64 (xs.length : Int) (xs.length : Int) (by omega) (by omega) (by rw [hz2]; omega) (by omega)
    rw [hz1] at h
    simpa [Value.cells] using h
  go_enter Try.func130, Try.ntmps130
  go_wp2
  go_loopw [4] (fun i wr => ∃ k : Nat, k ≤ xs.length ∧ i = .int .i64 k ∧ Filled 161 3 halfC wr w.heap.size (xs.length * 3) xs k ∧ Below w.heap.size w wr) (fun i _ => xs.length - (intOf i).toNat)
  case atStart => exact ⟨0, Nat.zero_le _, rfl, Filled.start (by simp [madeCells]) (Nat.le_refl _), below_al (Below.refl _ _) _⟩
  case round =>
    obtain ⟨k, hk, rfl, hfill, hbw⟩ := hrel
    by_cases hlt : k < xs.length
    · obtain ⟨b, off, rfl, hblt, hc⟩ := (hs.below hbw).at_ hlt
      have g0 := hc 0 _ rfl
      have g1 := hc 1 _ rfl
      have g2 := hc 2 _ rfl
      clear hc
      simp only [Nat.add_zero] at g0
      have hx : xs[k] = xs[k] := rfl
      generalize hxx : xs[k] = x at *
      have HX := Lib.hid hxx
      clear hxx hx
      go_wp2_with (fail)
      refine (toHalf_c x _).mono ?_
      rintro e w1 ⟨rfl, hb1⟩
      have hfill1 := hfill.below hb1
      have hbw1 := below_tr hbw hb1
      have hm := Nat.mul_le_mul_right 3 hlt
      obtain ⟨u0, c0⟩ := hfill1.cell (m := k * 3) (by omega)
      have f0 := hfill1.frozen (k * 3)
      obtain ⟨u1, c1⟩ := hfill1.cell (m := k * 3 + 1) (by omega)
      have f1 := hfill1.frozen (k * 3 + 1)
      obtain ⟨u2, c2⟩ := hfill1.cell (m := k * 3 + 2) (by omega)
      have f2 := hfill1.frozen (k * 3 + 2)
      clear hm
      have hst := hfill1.stored halfC_len hlt (vs := halfC x) (by rw [HX.out])
      have hst2 := below_setCells (Nat.le_refl w.heap.size) (halfC x) (k * 3) _ hbw1
      go_wp2
      exact ⟨⟨k + 1, by omega, by go_num, hst, hst2⟩, by simp [intOf]; omega⟩
    · obtain rfl : k = xs.length := by omega
      go_wp2
      go_ret
      exact ⟨_, rfl, hfill.new halfC_len (Nat.le_refl _) (by unfold maxLen; omega), hbw⟩

theorem szPieceS_c (A : Option Addr) (n cap : Nat) (left : Int) (w : World) (hn : n ≤ 9223372036854775807) (h0 : 0 ≤ left) (h1 : left ≤ 1048576) :
    Calls Try.prog 116 #[.slice A n cap, .int .i64 left] w fun e w' => e = .returned (.int .i64 (if left - n < 0 then -1 else left - n)) ∧ w = w' := by
  by_cases h : left - n < 0
  all_goals
    go_enter Try.func116, Try.ntmps116
    go_wp2
    go_ret
    exact ⟨ret_int (by simp), rfl⟩

set_option maxRecDepth 100000 in
theorem eqPieceS_t (A B : Option Addr) (xs : List Piece) (c d : Nat) (w : World) (hn : xs.length ≤ 1048576) (ha : Sl 4 pieceC w A xs) (hb : Sl 4 pieceC w B xs) :
    Calls Try.prog 122 #[.slice A xs.length c, .slice B xs.length d] w fun e w' => e = .returned (.bool true) ∧ Below w.heap.size w w' := by
  go_enter Try.func122, Try.ntmps122
  go_wp2
  go_loopw [5] (fun i wr => ∃ k : Nat, k ≤ xs.length ∧ i = .int .i64 k ∧ Below w.heap.size w wr) (fun i _ => xs.length - (intOf i).toNat)
  case atStart => exact ⟨0, Nat.zero_le _, rfl, Below.refl _ _⟩
  case round =>
    obtain ⟨k, hk, rfl, hbw⟩ := hrel
    by_cases hlt : k < xs.length
    · obtain ⟨b, off, rfl, hblt, hc⟩ := (ha.below hbw).at_ hlt
      obtain ⟨b', off', rfl, hblt', hc'⟩ := (hb.below hbw).at_ hlt
      have g0 := hc 0 _ rfl
      have g1 := hc 1 _ rfl
      have g2 := hc 2 _ rfl
      have g3 := hc 3 _ rfl
      have g0' := hc' 0 _ rfl
      have g1' := hc' 1 _ rfl
      have g2' := hc' 2 _ rfl
      have g3' := hc' 3 _ rfl
      clear hc hc'
      simp only [Nat.add_zero] at g0 g0'
      generalize xs[k] = x at *
      go_wp2
      go_still_tail 8, (by kernel_rfl)
      change wpList _ _ _ _ _ wr.drew
      generalize hwr : wr.drew = w2
      have hb2 : Below w.heap.size w w2 := by rw [← hwr]; exact hbw.drew
      clear hwr
      go_wp2_with (fail)
      refine (eqPiece_t x _).mono ?_
      rintro e w1 ⟨rfl, hb1⟩
      go_wp2
      go_roundw
      case rel => exact ⟨k + 1, by omega, by go_num, hb2.trans (hb1.mono hb2.size)⟩
      case measure => simp [intOf]; omega
    · go_wp2
      go_ret
      exact ⟨rfl, hbw⟩

set_option maxRecDepth 100000 in
theorem toPieceS_c (A : Option Addr) (xs : List Piece) (cap : Nat) (w : World) (hn : xs.length ≤ 1048576) (hs : Sl 4 pieceC w A xs) :
    Calls Try.prog 119 #[.slice A xs.length cap] w fun e w' => ∃ v, e = .returned v ∧ New 170 4 pieceC w' w.heap.size v xs ∧ Below w.heap.size w w' := by
  obtain ⟨i0, hi0, hz0, hz1, hz2⟩ := info_parts (show (Try.prog.info? 170).map (fun i => (i.zero, i.size, i.bytes)) = some (some (.agg #[.int .i64 0, .int .i64 0, .int .i64 0, .int .i64 0]), 4, 32) by kernel_rfl)
  have hmk : ∀ W : World, (Instr.makeSlice 99 (.int .i64 (xs.length : Int)) (.int .i64 (xs.length : Int))).run Try.prog W = .ok (.slice (some ⟨W.heap.size, 0, none⟩) xs.length xs.length) (W.alloc (.cells (madeCells #[.int .i64 0, .int .i64 0, .int .i64 0, .int .i64 0] (xs.length * 4)) 170)) := by
    intro W
    have h := run_make (P := Try.prog) W 99 170 i0 _ Try.underlying99 hi0 hz0 .i64 .i64 (xs.length : Int) (xs.length : Int) (by omega) (by omega) (by rw [hz2]; omega) (by omega)
    rw [hz1] at h
    simpa [Value.cells] using h
  go_enter Try.func119, Try.ntmps119
  go_wp2
  go_loopw [4] (fun i wr => ∃ k : Nat, k ≤ xs.length ∧ i = .int .i64 k ∧ Filled 170 4 pieceC wr w.heap.size (xs.length * 4) xs k ∧ Below w.heap.size w wr) (fun i _ => xs.length - (intOf i).toNat)
  case atStart => exact ⟨0, Nat.zero_le _, rfl, Filled.start (by simp [madeCells]) (Nat.le_refl _), below_al (Below.refl _ _) _⟩
  case round =>
    obtain ⟨k, hk, rfl, hfill, hbw⟩ := hrel
    by_cases hlt : k < xs.length
    · obtain ⟨b, off, rfl, hblt, hc⟩ := (hs.below hbw).at_ hlt
      have g0 := hc 0 _ rfl
      have g1 := hc 1 _ rfl
      have g2 := hc 2 _ rfl
      have g3 := hc 3 _ rfl
      clear hc
      simp only [Nat.add_zero] at g0
      have hx : xs[k] = xs[k] := rfl
      generalize hxx : xs[k] = x at *
      have HX := Lib.hid hxx
      clear hxx hx
      go_wp2_with (fail)
      refine (toPiece_c x _).mono ?_
      rintro e w1 ⟨rfl, hb1⟩
      have hfill1 := hfill.below hb1
      have hbw1 := below_tr hbw hb1
      have hm := Nat.mul_le_mul_right 4 hlt
      obtain ⟨u0, c0⟩ := hfill1.cell (m := k * 4) (by omega)
      have f0 := hfill1.frozen (k * 4)
      obtain ⟨u1, c1⟩ := hfill1.cell (m := k * 4 + 1) (by omega)
      have f1 := hfill1.frozen (k * 4 + 1)
      obtain ⟨u2, c2⟩ := hfill1.cell (m := k * 4 + 2) (by omega)
      have f2 := hfill1.frozen (k * 4 + 2)
      obtain ⟨u3, c3⟩ := hfill1.cell (m := k * 4 + 3) (by omega)
      have f3 := hfill1.frozen (k * 4 + 3)
      clear hm
      have hst := hfill1.stored pieceC_len hlt (vs := pieceC x) (by rw [HX.out])
      have hst2 := below_setCells (Nat.le_refl w.heap.size) (pieceC x) (k * 4) _ hbw1
      go_wp2
      exact ⟨⟨k + 1, by omega, by go_num, hst, hst2⟩, by simp [intOf]; omega⟩
    · obtain rfl : k = xs.length := by omega
      go_wp2
      go_ret
      exact ⟨_, rfl, hfill.new pieceC_len (Nat.le_refl _) (by unfold maxLen; omega), hbw⟩

theorem szRecordS_c (A : Option Addr) (n cap : Nat) (left : Int) (w : World) (hn : n ≤ 9223372036854775807) (h0 : 0 ≤ left) (h1 : left ≤ 1048576) :
    Calls Try.prog 37 #[.slice A n cap, .int .i64 left] w fun e w' => e = .returned (.int .i64 (if left - n < 0 then -1 else left - n)) ∧ w = w' := by
  by_cases h : left - n < 0
  all_goals
    go_enter Try.func37, Try.ntmps37
    go_wp2
    go_ret
    exact ⟨ret_int (by simp), rfl⟩

set_option maxRecDepth 100000 in
theorem eqRecordS_t (A B : Option Addr) (xs : List Record) (c d : Nat) (w : World) (hn : xs.length ≤ 1048576) (ha : Sl 3 recordC w A xs) (hb : Sl 3 recordC w B xs) :
    Calls Try.prog 41 #[.slice A xs.length c, .slice B xs.length d] w fun e w' => e = .returned (.bool true) ∧ Below w.heap.size w w' := by
  go_enter Try.func41, Try.ntmps41
  go_wp2
  go_loopw [5] (fun i wr => ∃ k : Nat, k ≤ xs.length ∧ i = .int .i64 k ∧ Below w.heap.size w wr) (fun i _ => xs.length - (intOf i).toNat)
  case atStart => exact ⟨0, Nat.zero_le _, rfl, Below.refl _ _⟩
  case round =>
    obtain ⟨k, hk, rfl, hbw⟩ := hrel
    by_cases hlt : k < xs.length
    · obtain ⟨b, off, rfl, hblt, hc⟩ := (ha.below hbw).at_ hlt
      obtain ⟨b', off', rfl, hblt', hc'⟩ := (hb.below hbw).at_ hlt
      have g0 := hc 0 _ rfl
      have g1 := hc 1 _ rfl
      have g2 := hc 2 _ rfl
      have g0' := hc' 0 _ rfl
      have g1' := hc' 1 _ rfl
      have g2' := hc' 2 _ rfl
      clear hc hc'
      simp only [Nat.add_zero] at g0 g0'
      generalize xs[k] = x at *
      go_wp2
      go_still_tail 8, (by kernel_rfl)
      change wpList _ _ _ _ _ wr.drew
      generalize hwr : wr.drew = w2
      have hb2 : Below w.heap.size w w2 := by rw [← hwr]; exact hbw.drew
      clear hwr
      go_wp2_with (fail)
      refine (eqRecord_t x _).mono ?_
      rintro e w1 ⟨rfl, hb1⟩
      go_wp2
      go_roundw
      case rel => exact ⟨k + 1, by omega, by go_num, hb2.trans (hb1.mono hb2.size)⟩
      case measure => simp [intOf]; omega
    · go_wp2
      go_ret
      exact ⟨rfl, hbw⟩

set_option maxRecDepth 100000 in
theorem toRecordS_c (A : Option Addr) (xs : List Record) (cap : Nat) (w : World) (hn : xs.length ≤ 1048576) (hs : Sl 3 recordC w A xs) :
    Calls Try.prog 39 #[.slice A xs.length cap] w fun e w' => ∃ v, e = .returned v ∧ New 130 3 recordC w' w.heap.size v xs ∧ Below w.heap.size w w' := by
  obtain ⟨i0, hi0, hz0, hz1, hz2⟩ := info_parts (show (Try.prog.info? 130).map (fun i => (i.zero, i.size, i.bytes)) = some (some (.agg #[.int .i64 0, .int .i64 0, .int .i64 0]), 3, 24) by kernel_rfl)
  have hmk : ∀ W : World, (Instr.makeSlice 68 (.int .i64 (xs.length : Int)) (.int .i64 (xs.length : Int))).run Try.prog W = .ok (.slice (some ⟨W.heap.size, 0, none⟩) xs.length xs.length) (W.alloc (.cells (madeCells #[.int .i64 0, .int .i64 0, .int .i64 0] (xs.length * 3)) 130)) := by
    intro W
    have h := run_make (P := Try.prog) W 68 130 i0 _ Try.underlying68 hi0 hz0 .i64 .i64 (xs.length : Int) (xs.length : Int) (by omega) (by omega) (by rw [hz2]; omega) (by omega)
    rw [hz1] at h
    simpa [Value.cells] using h
  go_enter Try.func39, Try.ntmps39
  go_wp2
  go_loopw [4] (fun i wr => ∃ k : Nat, k ≤ xs.length ∧ i = .int .i64 k ∧ Filled 130 3 recordC wr w.heap.size (xs.length * 3) xs k ∧ Below w.heap.size w wr) (fun i _ => xs.length - (intOf i).toNat)
  case atStart => exact ⟨0, Nat.zero_le _, rfl, Filled.start (by simp [madeCells]) (Nat.le_refl _), below_al (Below.refl _ _) _⟩
  case round =>
    obtain ⟨k, hk, rfl, hfill, hbw⟩ := hrel
    by_cases hlt : k < xs.length
    · obtain ⟨b, off, rfl, hblt, hc⟩ := (hs.below hbw).at_ hlt
      have g0 := hc 0 _ rfl
      have g1 := hc 1 _ rfl
      have g2 := hc 2 _ rfl
      clear hc
      simp only [Nat.add_zero] at g0
      have hx : xs[k] = xs[k] := rfl
      generalize hxx : xs[k] = x at *
      have HX := Lib.hid hxx
      clear hxx hx
      go_wp2_with (fail)
      refine (toRecord_c x _).mono ?_
      rintro e w1 ⟨rfl, hb1⟩
      have hfill1 := hfill.below hb1
      have hbw1 := below_tr hbw hb1
      have hm := Nat.mul_le_mul_right 3 hlt
      obtain ⟨u0, c0⟩ := hfill1.cell (m := k * 3) (by omega)
      have f0 := hfill1.frozen (k * 3)
      obtain ⟨u1, c1⟩ := hfill1.cell (m := k * 3 + 1) (by omega)
      have f1 := hfill1.frozen (k * 3 + 1)
      obtain ⟨u2, c2⟩ := hfill1.cell (m := k * 3 + 2) (by omega)
      have f2 := hfill1.frozen (k * 3 + 2)
      clear hm
      have hst := hfill1.stored recordC_len hlt (vs := recordC x) (by rw [HX.out])
      have hst2 := below_setCells (Nat.le_refl w.heap.size) (recordC x) (k * 3) _ hbw1
      go_wp2
      exact ⟨⟨k + 1, by omega, by go_num, hst, hst2⟩, by simp [intOf]; omega⟩
    · obtain rfl : k = xs.length := by omega
      go_wp2
      go_ret
      exact ⟨_, rfl, hfill.new recordC_len (Nat.le_refl _) (by unfold maxLen; omega), hbw⟩

end Go.Proofs.Ytelkcmchokajaaa
