/-
  RecordsOk: of the program and of the reference, one record more.
  Conditions: the slice reads as a list of at most 2^20 + 1 records.
-/
import Derived.Test.YtbdihgcjopbnjaaRec
namespace Go.Proofs.Ytbdihgcjopbnjaa
open Go.RowKit

theorem iRecordsOkB_c (A : Option Addr) (xs : List Record) (cap : Nat) (w : World) (hn : xs.length ≤ 1048577) (hs : Sl 3 recordC w A xs) :
    Calls Try.prog 38 #[.slice A xs.length cap] w fun e w' => e = .returned (.bool (recordsOk xs)) ∧ Below w.heap.size w w' := by
  go_enter Try.func38, Try.ntmps38
  go_wp2
  go_loopw [4, 7] (fun x i wr => ∃ k : Nat, k ≤ xs.length ∧ i = .int .i64 k ∧ (xs.take k).all recOk = true ∧ Below w.heap.size w wr) (fun _ i _ => xs.length - (intOf i).toNat)
  case atStart => exact ⟨0, Nat.zero_le _, rfl, rfl, Below.refl _ _⟩
  case round =>
    obtain ⟨k, hk, rfl, hall, hbw⟩ := hrel
    by_cases hlt : k < xs.length
    · obtain ⟨b, off, rfl, hblt, hc⟩ := (hs.below hbw).at_ hlt
      have g0 := hc 0 _ rfl
      have g1 := hc 1 _ rfl
      have g2 := hc 2 _ rfl
      have H1 := Lib.hid (fun h => recordsOk_no (k := k) (xs := xs) hlt h)
      have H2 := Lib.hid (fun h => all_take_succ (k := k) (xs := xs) (p := recOk) hlt hall h)
      clear hc hall
      simp only [Nat.add_zero] at g0
      generalize xs[k] = x at *
      have hbn : Below w.heap.size w (wr.alloc (Obj.cells #[.int .i64 x.before, .int .i64 x.input, .int .i64 x.after] 95)) := hbw.alloc hbw.size _
      cases e1 : inR x.before (-1000) 1000
      · go_wp2_with (first | (go_at_call 116; refine (isMeasure_c _ _).mono ?_; rintro e w' ⟨rfl, rfl⟩))
        go_ret
        exact ⟨ret_bool (by rw [H1.out (by simp [recOk, e1])]), hbn⟩
      · cases e2 : inR x.input (-1000) 1000
        · go_wp2_with (first | (go_at_call 116; refine (isMeasure_c _ _).mono ?_; rintro e w' ⟨rfl, rfl⟩))
          go_ret
          exact ⟨ret_bool (by rw [H1.out (by simp [recOk, e2])]), hbn⟩
        · cases e3 : inR x.after (-1000) 1000
          · go_wp2_with (first | (go_at_call 116; refine (isMeasure_c _ _).mono ?_; rintro e w' ⟨rfl, rfl⟩))
            go_ret
            exact ⟨ret_bool (by rw [H1.out (by simp [recOk, e3])]), hbn⟩
          · go_wp2_with (first | (go_at_call 116; refine (isMeasure_c _ _).mono ?_; rintro e w' ⟨rfl, rfl⟩))
            go_roundw
            case rel => exact ⟨k + 1, by omega, by go_num, H2.out (by simp [recOk, e1, e2, e3]), hbn⟩
            case measure => simp [intOf]; omega
    · obtain rfl : k = xs.length := by omega
      have HA := Lib.hid hall
      clear hall
      go_wp2
      go_ret
      exact ⟨ret_bool (by have := HA.out; rw [List.take_length] at this; simp [recordsOk, this]; omega), hbw⟩

theorem sRecordsOkB_c (A : Option Addr) (xs : List Record) (cap : Nat) (w : World) (hn : xs.length ≤ 1048577) (hs : Sl 3 recordC w A xs) :
    Calls Try.prog 135 #[.slice A xs.length cap] w fun e w' => e = .returned (.bool (recordsOk xs)) ∧ Below w.heap.size w w' := by
  go_enter Try.func135, Try.ntmps135
  go_wp2
  go_loopw [4, 7] (fun x i wr => ∃ k : Nat, k ≤ xs.length ∧ i = .int .i64 k ∧ (xs.take k).all recOk = true ∧ Below w.heap.size w wr) (fun _ i _ => xs.length - (intOf i).toNat)
  case atStart => exact ⟨0, Nat.zero_le _, rfl, rfl, Below.refl _ _⟩
  case round =>
    obtain ⟨k, hk, rfl, hall, hbw⟩ := hrel
    by_cases hlt : k < xs.length
    · obtain ⟨b, off, rfl, hblt, hc⟩ := (hs.below hbw).at_ hlt
      have g0 := hc 0 _ rfl
      have g1 := hc 1 _ rfl
      have g2 := hc 2 _ rfl
      have H1 := Lib.hid (fun h => recordsOk_no (k := k) (xs := xs) hlt h)
      have H2 := Lib.hid (fun h => all_take_succ (k := k) (xs := xs) (p := recOk) hlt hall h)
      clear hc hall
      simp only [Nat.add_zero] at g0
      generalize xs[k] = x at *
      have hbn : Below w.heap.size w (wr.alloc (Obj.cells #[.int .i64 x.before, .int .i64 x.input, .int .i64 x.after] 95)) := hbw.alloc hbw.size _
      cases e1 : recOk x
      · go_wp2_with (fail)
        refine (l18Record_c x _).mono ?_
        rintro e w1 ⟨rfl, hb_w1⟩
        go_wp2
        go_ret
        exact ⟨ret_bool (by rw [H1.out e1]), hbn.trans (hb_w1.mono hbn.size)⟩
      · go_wp2_with (fail)
        refine (l18Record_c x _).mono ?_
        rintro e w1 ⟨rfl, hb_w1⟩
        go_wp2
        go_roundw
        case rel => exact ⟨k + 1, by omega, by go_num, H2.out e1, hbn.trans (hb_w1.mono hbn.size)⟩
        case measure => simp [intOf]; omega
    · obtain rfl : k = xs.length := by omega
      have HA := Lib.hid hall
      clear hall
      go_wp2
      go_ret
      exact ⟨ret_bool (by have := HA.out; rw [List.take_length] at this; simp [recordsOk, this]; omega), hbw⟩

end Go.Proofs.Ytbdihgcjopbnjaa
