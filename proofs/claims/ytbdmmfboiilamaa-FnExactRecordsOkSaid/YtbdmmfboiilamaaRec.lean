/-
  The functions on records: what they return.
  Conditions: the slice reads as a list of at most 2^20 records.
-/
import Derived.Test.YtbdmmfboiilamaaNum
import Derived.StillTailTactics
import Derived.Deep.RegionHeld3
namespace Go.Proofs.Ytbdmmfboiilamaa
open Go.RowKit

structure Rec where
  before : Int
  input : Int
  after : Int
def recOk (x : Rec) : Bool := inR x.before (-1000) 1000 && inR x.input (-1000) 1000 && inR x.after (-1000) 1000
def recordsOk (xs : List Rec) : Bool := xs.all recOk && decide (xs.length ≤ 12)
def recC (x : Rec) : List Value := [.int .i64 x.before, .int .i64 x.input, .int .i64 x.after]
abbrev recV (x : Rec) : Value := .agg #[.int .i64 x.before, .int .i64 x.input, .int .i64 x.after]
theorem recC_len (x : Rec) : (recC x).length = 3 := rfl

theorem recordsOk_no {xs : List Rec} {k : Nat} (h : k < xs.length) (hk : recOk xs[k] = false) : recordsOk xs = false := by
  have : xs.all recOk = false := by rw [List.all_eq_false]; exact ⟨_, List.getElem_mem h, by simp [hk]⟩
  simp [recordsOk, this]
theorem all_take_succ {α : Type} {p : α → Bool} {xs : List α} {k : Nat} (h : k < xs.length) (h1 : (xs.take k).all p = true) (h2 : p xs[k] = true) : (xs.take (k + 1)).all p = true := by
  rw [take_succ' xs k h, List.all_append, h1]; simp [h2]

theorem isMeasure_c (a : Int) (w : World) :
    Calls Try.prog 38 #[.int .i64 a] w fun e w' => e = .returned (.bool (inR a (-1000) 1000)) ∧ w = w' := by
  go_enter Try.func38, Try.ntmps38
  go_wp2_with (first | (go_at_call 45; refine (inRange_c _ _ _ _).mono ?_; rintro e w' ⟨rfl, rfl⟩))
  go_ret
  exact ⟨rfl, rfl⟩

theorem iRecordsOk_c (A : Option Addr) (xs : List Rec) (cap : Nat) (w : World) (hn : xs.length ≤ 1048576) (hs : Sl 3 recC w A xs) :
    Calls Try.prog 12 #[.slice A xs.length cap] w fun e w' => e = .returned (.bool (recordsOk xs)) ∧ Below w.heap.size w w' := by
  go_enter Try.func12, Try.ntmps12
  go_wp2
  go_loopw [4, 7] (fun x i wr => ∃ k : Nat, k ≤ xs.length ∧ i = .int .i64 k ∧ (xs.take k).all recOk = true ∧ Below w.heap.size w wr) (fun _ i _ => xs.length - (intOf i).toNat)
  case atStart => exact ⟨0, Nat.zero_le _, rfl, rfl, Below.refl _ _⟩
  case round =>
    obtain ⟨k, hk, rfl, hall, hbw⟩ := hrel
    by_cases hlt : k < xs.length
    · obtain ⟨b, off, rfl, hblt, hc⟩ := (hs.below hbw).at_ hlt
      have g0 := hc 0 _ rfl
      have g1 := hc 1 _ rfl
      have g2 := hc 2 _ rfl
      have H1 := Lib.hid (fun h => recordsOk_no (k := k) (xs := xs) hlt h)
      have H2 := Lib.hid (fun h => all_take_succ (k := k) (xs := xs) (p := recOk) hlt hall h)
      clear hc hall
      simp only [Nat.add_zero] at g0
      generalize xs[k] = x at *
      have hbn : Below w.heap.size w (wr.alloc (Obj.cells #[.int .i64 x.before, .int .i64 x.input, .int .i64 x.after] 57)) := hbw.alloc hbw.size _
      cases e1 : inR x.before (-1000) 1000
      · go_wp2_with (first | (go_at_call 38; refine (isMeasure_c _ _).mono ?_; rintro e w' ⟨rfl, rfl⟩))
        go_ret
        exact ⟨ret_bool (by rw [H1.out (by simp [recOk, e1])]), hbn⟩
      · cases e2 : inR x.input (-1000) 1000
        · go_wp2_with (first | (go_at_call 38; refine (isMeasure_c _ _).mono ?_; rintro e w' ⟨rfl, rfl⟩))
          go_ret
          exact ⟨ret_bool (by rw [H1.out (by simp [recOk, e2])]), hbn⟩
        · cases e3 : inR x.after (-1000) 1000
          · go_wp2_with (first | (go_at_call 38; refine (isMeasure_c _ _).mono ?_; rintro e w' ⟨rfl, rfl⟩))
            go_ret
            exact ⟨ret_bool (by rw [H1.out (by simp [recOk, e3])]), hbn⟩
          · go_wp2_with (first | (go_at_call 38; refine (isMeasure_c _ _).mono ?_; rintro e w' ⟨rfl, rfl⟩))
            go_roundw
            case rel => exact ⟨k + 1, by omega, by go_num, H2.out (by simp [recOk, e1, e2, e3]), hbn⟩
            case measure => simp [intOf]; omega
    · obtain rfl : k = xs.length := by omega
      have HA := Lib.hid hall
      clear hall
      go_wp2
      go_ret
      exact ⟨ret_bool (by have := HA.out; rw [List.take_length] at this; simp [recordsOk, this]; omega), hbw⟩

theorem l18Record_c (x : Rec) (w : World) :
    Calls Try.prog 37 #[recV x] w fun e w' => e = .returned (.bool (recOk x)) ∧ Below w.heap.size w w' := by
  unfold recV
  cases e1 : inR x.before (-1000) 1000 <;> cases e2 : inR x.input (-1000) 1000 <;> cases e3 : inR x.after (-1000) 1000
  all_goals
    go_enter Try.func37, Try.ntmps37
    go_wp2_with (first | (go_at_call 42; refine (l01In_c _ _ _ _).mono ?_; rintro e w' ⟨rfl, rfl⟩))
    go_ret
    exact ⟨ret_bool (by simp [recOk, e1, e2, e3]), (Below.refl _ _).alloc (Nat.le_refl _) _⟩

theorem sRecordsOk_c (A : Option Addr) (xs : List Rec) (cap : Nat) (w : World) (hn : xs.length ≤ 1048576) (hs : Sl 3 recC w A xs) :
    Calls Try.prog 10 #[.slice A xs.length cap] w fun e w' => e = .returned (.bool (recordsOk xs)) ∧ Below w.heap.size w w' := by
  go_enter Try.func10, Try.ntmps10
  go_wp2
  go_loopw [4, 7] (fun x i wr => ∃ k : Nat, k ≤ xs.length ∧ i = .int .i64 k ∧ (xs.take k).all recOk = true ∧ Below w.heap.size w wr) (fun _ i _ => xs.length - (intOf i).toNat)
  case atStart => exact ⟨0, Nat.zero_le _, rfl, rfl, Below.refl _ _⟩
  case round =>
    obtain ⟨k, hk, rfl, hall, hbw⟩ := hrel
    by_cases hlt : k < xs.length
    · obtain ⟨b, off, rfl, hblt, hc⟩ := (hs.below hbw).at_ hlt
      have g0 := hc 0 _ rfl
      have g1 := hc 1 _ rfl
      have g2 := hc 2 _ rfl
      have H1 := Lib.hid (fun h => recordsOk_no (k := k) (xs := xs) hlt h)
      have H2 := Lib.hid (fun h => all_take_succ (k := k) (xs := xs) (p := recOk) hlt hall h)
      clear hc hall
      simp only [Nat.add_zero] at g0
      generalize xs[k] = x at *
      have hbn : Below w.heap.size w (wr.alloc (Obj.cells #[.int .i64 x.before, .int .i64 x.input, .int .i64 x.after] 57)) := hbw.alloc hbw.size _
      cases e1 : recOk x
      · go_wp2_with (fail)
        refine (l18Record_c x _).mono ?_
        rintro e w1 ⟨rfl, hb_w1⟩
        go_wp2
        go_ret
        exact ⟨ret_bool (by rw [H1.out e1]), hbn.trans (hb_w1.mono hbn.size)⟩
      · go_wp2_with (fail)
        refine (l18Record_c x _).mono ?_
        rintro e w1 ⟨rfl, hb_w1⟩
        go_wp2
        go_roundw
        case rel => exact ⟨k + 1, by omega, by go_num, H2.out e1, hbn.trans (hb_w1.mono hbn.size)⟩
        case measure => simp [intOf]; omega
    · obtain rfl : k = xs.length := by omega
      have HA := Lib.hid hall
      clear hall
      go_wp2
      go_ret
      exact ⟨ret_bool (by have := HA.out; rw [List.take_length] at this; simp [recordsOk, this]; omega), hbw⟩

theorem toRecord_c (x : Rec) (w : World) :
    Calls Try.prog 27 #[recV x] w fun e w' => e = .returned (recV x) ∧ Below w.heap.size w w' := by
  unfold recV
  go_enter Try.func27, Try.ntmps27
  go_wp2
  refine bodyPost_ret (v := .agg #[.int .i64 x.before, .int .i64 x.input, .int .i64 x.after]) (by simp [results, Try.results27, go_sem]) rfl ⟨rfl, ?_⟩
  repeat (first | exact Below.refl _ _ | assumption | refine below_al ?_ _ | refine Below.drew ?_ | refine below_drewN ?_ _ | refine below_tr ?_ (by assumption))

theorem eqRecord_t (x : Rec) (w : World) :
    Calls Try.prog 39 #[recV x, recV x] w fun e w' => e = .returned (.bool true) ∧ Below w.heap.size w w' := by
  unfold recV
  go_enter Try.func39, Try.ntmps39
  go_wp2
  go_ret
  exact ⟨rfl, ((Below.refl _ _).alloc (Nat.le_refl _) _).alloc (by simp) _⟩

theorem szRecordS_c (A : Option Addr) (n cap : Nat) (left : Int) (w : World) (hn : n ≤ 9223372036854775807) (h0 : 0 ≤ left) (h1 : left ≤ 1048576) :
    Calls Try.prog 9 #[.slice A n cap, .int .i64 left] w fun e w' => e = .returned (.int .i64 (if left - n < 0 then -1 else left - n)) ∧ w = w' := by
  by_cases h : left - n < 0
  all_goals
    go_enter Try.func9, Try.ntmps9
    go_wp2
    go_ret
    exact ⟨ret_int (by simp), rfl⟩

set_option maxRecDepth 100000 in
theorem eqRecordS_t (A B : Option Addr) (xs : List Rec) (c d : Nat) (w : World) (hn : xs.length ≤ 1048576) (ha : Sl 3 recC w A xs) (hb : Sl 3 recC w B xs) :
    Calls Try.prog 13 #[.slice A xs.length c, .slice B xs.length d] w fun e w' => e = .returned (.bool true) ∧ Below w.heap.size w w' := by
  go_enter Try.func13, Try.ntmps13
  go_wp2
  go_loopw [5] (fun i wr => ∃ k : Nat, k ≤ xs.length ∧ i = .int .i64 k ∧ Below w.heap.size w wr) (fun i _ => xs.length - (intOf i).toNat)
  case atStart => exact ⟨0, Nat.zero_le _, rfl, Below.refl _ _⟩
  case round =>
    obtain ⟨k, hk, rfl, hbw⟩ := hrel
    by_cases hlt : k < xs.length
    · obtain ⟨b, off, rfl, hblt, hc⟩ := (ha.below hbw).at_ hlt
      obtain ⟨b', off', rfl, hblt', hc'⟩ := (hb.below hbw).at_ hlt
      have g0 := hc 0 _ rfl
      have g1 := hc 1 _ rfl
      have g2 := hc 2 _ rfl
      have g0' := hc' 0 _ rfl
      have g1' := hc' 1 _ rfl
      have g2' := hc' 2 _ rfl
      clear hc hc'
      simp only [Nat.add_zero] at g0 g0'
      generalize xs[k] = x at *
      go_wp2
      go_still_tail 8, (by kernel_rfl)
      change wpList _ _ _ _ _ wr.drew
      generalize hwr : wr.drew = w2
      have hb2 : Below w.heap.size w w2 := by rw [← hwr]; exact hbw.drew
      clear hwr
      go_wp2_with (fail)
      refine (eqRecord_t x _).mono ?_
      rintro e w1 ⟨rfl, hb1⟩
      go_wp2
      go_roundw
      case rel => exact ⟨k + 1, by omega, by go_num, hb2.trans (hb1.mono hb2.size)⟩
      case measure => simp [intOf]; omega
    · go_wp2
      go_ret
      exact ⟨rfl, hbw⟩

set_option maxRecDepth 100000 in
theorem toRecordS_c (A : Option Addr) (xs : List Rec) (cap : Nat) (w : World) (hn : xs.length ≤ 1048576) (hs : Sl 3 recC w A xs) :
    Calls Try.prog 11 #[.slice A xs.length cap] w fun e w' => ∃ v, e = .returned v ∧ New 57 3 recC w' w.heap.size v xs ∧ Below w.heap.size w w' := by
  obtain ⟨i0, hi0, hz0, hz1, hz2⟩ := info_parts (show (Try.prog.info? 57).map (fun i => (i.zero, i.size, i.bytes)) = some (some (.agg #[.int .i64 0, .int .i64 0, .int .i64 0]), 3, 24) by kernel_rfl)
  have hmk : ∀ W : World, (Instr.makeSlice 25 (.int .i64 (xs.length : Int)) (.int .i64 (xs.length : Int))).run Try.prog W = .ok (.slice (some ⟨W.heap.size, 0, none⟩) xs.length xs.length) (W.alloc (.cells (madeCells #[.int .i64 0, .int .i64 0, .int .i64 0] (xs.length * 3)) 57)) := by
    intro W
    have h := run_make (P := Try.prog) W 25 57 i0 _ Try.underlying25 hi0 hz0 .i64 .i64 (xs.length : Int) (xs.length : Int) (by omega) (by omega) (by rw [hz2]; omega) (by omega)
    rw [hz1] at h
    simpa [Value.cells] using h
  go_enter Try.func11, Try.ntmps11
  go_wp2
  go_loopw [4] (fun i wr => ∃ k : Nat, k ≤ xs.length ∧ i = .int .i64 k ∧ Filled 57 3 recC wr w.heap.size xs k ∧ Below w.heap.size w wr) (fun i _ => xs.length - (intOf i).toNat)
  case atStart => exact ⟨0, Nat.zero_le _, rfl, Filled.start (by simp [madeCells]), below_al (Below.refl _ _) _⟩
  case round =>
    obtain ⟨k, hk, rfl, hfill, hbw⟩ := hrel
    by_cases hlt : k < xs.length
    · obtain ⟨b, off, rfl, hblt, hc⟩ := (hs.below hbw).at_ hlt
      have g0 := hc 0 _ rfl
      have g1 := hc 1 _ rfl
      have g2 := hc 2 _ rfl
      clear hc
      simp only [Nat.add_zero] at g0
      have hx : xs[k] = xs[k] := rfl
      generalize hxx : xs[k] = x at *
      have HX := Lib.hid hxx
      clear hxx hx
      go_wp2_with (fail)
      refine (toRecord_c x _).mono ?_
      rintro e w1 ⟨rfl, hb1⟩
      have hfill1 := hfill.below hb1
      have hbw1 := below_tr hbw hb1
      have hm := Nat.mul_le_mul_right 3 hlt
      obtain ⟨u0, c0⟩ := hfill1.cell (m := k * 3) (by omega)
      obtain ⟨u1, c1⟩ := hfill1.cell (m := k * 3 + 1) (by omega)
      obtain ⟨u2, c2⟩ := hfill1.cell (m := k * 3 + 2) (by omega)
      have f0 := hfill1.frozen (k * 3)
      have f1 := hfill1.frozen (k * 3 + 1)
      have f2 := hfill1.frozen (k * 3 + 2)
      clear hm
      have hst := hfill1.stored recC_len hlt (vs := recC x) (by rw [HX.out])
      have hst2 := below_setCells (Nat.le_refl w.heap.size) (recC x) (k * 3) _ hbw1
      go_wp2
      exact ⟨⟨k + 1, by omega, by go_num, hst, hst2⟩, by simp [intOf]; omega⟩
    · obtain rfl : k = xs.length := by omega
      go_wp2
      go_ret
      exact ⟨_, rfl, hfill.new recC_len (Nat.le_refl _) (by unfold maxLen; omega), hbw⟩
end Go.Proofs.Ytbdmmfboiilamaa
