/-
  The functions on records: what they return.
  Conditions: the slice reads as a list of at most 2^20 records.
-/
import Derived.Test.YtbdihgcjopbnjaaNum
import Derived.Test.YtbdihgcjopbnjaaStr
namespace Go.Proofs.Ytbdihgcjopbnjaa
open Go.RowKit

def recOk (x : Record) : Bool := inR x.before (-1000) 1000 && inR x.input (-1000) 1000 && inR x.after (-1000) 1000
def recordsOk (xs : List Record) : Bool := xs.all recOk && decide (xs.length ≤ 12)
theorem recordsOk_no {xs : List Record} {k : Nat} (h : k < xs.length) (hk : recOk xs[k] = false) : recordsOk xs = false := by
  have : xs.all recOk = false := by rw [List.all_eq_false]; exact ⟨_, List.getElem_mem h, by simp [hk]⟩
  simp [recordsOk, this]
theorem all_take_succ {α : Type} {p : α → Bool} {xs : List α} {k : Nat} (h : k < xs.length) (h1 : (xs.take k).all p = true) (h2 : p xs[k] = true) : (xs.take (k + 1)).all p = true := by
  rw [take_succ' xs k h, List.all_append, h1]; simp [h2]

theorem isMeasure_c (a : Int) (w : World) :
    Calls Try.prog 116 #[.int .i64 a] w fun e w' => e = .returned (.bool (inR a (-1000) 1000)) ∧ w = w' := by
  go_enter Try.func116, Try.ntmps116
  go_wp2_with (first | (go_at_call 112; refine (inRange_c _ _ _ _).mono ?_; rintro e w' ⟨rfl, rfl⟩))
  go_ret
  exact ⟨rfl, rfl⟩

theorem iRecordsOk_c (A : Option Addr) (xs : List Record) (cap : Nat) (w : World) (hn : xs.length ≤ 1048576) (hs : Sl 3 recordC w A xs) :
    Calls Try.prog 38 #[.slice A xs.length cap] w fun e w' => e = .returned (.bool (recordsOk xs)) ∧ Below w.heap.size w w' := by
  go_enter Try.func38, Try.ntmps38
  go_wp2
  go_loopw [4, 7] (fun x i wr => ∃ k : Nat, k ≤ xs.length ∧ i = .int .i64 k ∧ (xs.take k).all recOk = true ∧ Below w.heap.size w wr) (fun _ i _ => xs.length - (intOf i).toNat)
  case atStart => exact ⟨0, Nat.zero_le _, rfl, rfl, Below.refl _ _⟩
  case round =>
    obtain ⟨k, hk, rfl, hall, hbw⟩ := hrel
    by_cases hlt : k < xs.length
    · obtain ⟨b, off, rfl, hblt, hc⟩ := (hs.below hbw).at_ hlt
      have g0 := hc 0 _ rfl
      have g1 := hc 1 _ rfl
      have g2 := hc 2 _ rfl
      have H1 := Lib.hid (fun h => recordsOk_no (k := k) (xs := xs) hlt h)
      have H2 := Lib.hid (fun h => all_take_succ (k := k) (xs := xs) (p := recOk) hlt hall h)
      clear hc hall
      simp only [Nat.add_zero] at g0
      generalize xs[k] = x at *
      have hbn : Below w.heap.size w (wr.alloc (Obj.cells #[.int .i64 x.before, .int .i64 x.input, .int .i64 x.after] 95)) := hbw.alloc hbw.size _
      cases e1 : inR x.before (-1000) 1000
      · go_wp2_with (first | (go_at_call 116; refine (isMeasure_c _ _).mono ?_; rintro e w' ⟨rfl, rfl⟩))
        go_ret
        exact ⟨ret_bool (by rw [H1.out (by simp [recOk, e1])]), hbn⟩
      · cases e2 : inR x.input (-1000) 1000
        · go_wp2_with (first | (go_at_call 116; refine (isMeasure_c _ _).mono ?_; rintro e w' ⟨rfl, rfl⟩))
          go_ret
          exact ⟨ret_bool (by rw [H1.out (by simp [recOk, e2])]), hbn⟩
        · cases e3 : inR x.after (-1000) 1000
          · go_wp2_with (first | (go_at_call 116; refine (isMeasure_c _ _).mono ?_; rintro e w' ⟨rfl, rfl⟩))
            go_ret
            exact ⟨ret_bool (by rw [H1.out (by simp [recOk, e3])]), hbn⟩
          · go_wp2_with (first | (go_at_call 116; refine (isMeasure_c _ _).mono ?_; rintro e w' ⟨rfl, rfl⟩))
            go_roundw
            case rel => exact ⟨k + 1, by omega, by go_num, H2.out (by simp [recOk, e1, e2, e3]), hbn⟩
            case measure => simp [intOf]; omega
    · obtain rfl : k = xs.length := by omega
      have HA := Lib.hid hall
      clear hall
      go_wp2
      go_ret
      exact ⟨ret_bool (by have := HA.out; rw [List.take_length] at this; simp [recordsOk, this]; omega), hbw⟩

theorem l18Record_c (x : Record) (w : World) :
    Calls Try.prog 175 #[recordV x] w fun e w' => e = .returned (.bool (recOk x)) ∧ Below w.heap.size w w' := by
  unfold recordV
  cases e1 : inR x.before (-1000) 1000 <;> cases e2 : inR x.input (-1000) 1000 <;> cases e3 : inR x.after (-1000) 1000
  all_goals
    go_enter Try.func175, Try.ntmps175
    go_wp2_with (first | (go_at_call 78; refine (l01In_c _ _ _ _).mono ?_; rintro e w' ⟨rfl, rfl⟩))
    go_ret
    exact ⟨ret_bool (by simp [recOk, e1, e2, e3]), (Below.refl _ _).alloc (Nat.le_refl _) _⟩

theorem sRecordsOk_c (A : Option Addr) (xs : List Record) (cap : Nat) (w : World) (hn : xs.length ≤ 1048576) (hs : Sl 3 recordC w A xs) :
    Calls Try.prog 135 #[.slice A xs.length cap] w fun e w' => e = .returned (.bool (recordsOk xs)) ∧ Below w.heap.size w w' := by
  go_enter Try.func135, Try.ntmps135
  go_wp2
  go_loopw [4, 7] (fun x i wr => ∃ k : Nat, k ≤ xs.length ∧ i = .int .i64 k ∧ (xs.take k).all recOk = true ∧ Below w.heap.size w wr) (fun _ i _ => xs.length - (intOf i).toNat)
  case atStart => exact ⟨0, Nat.zero_le _, rfl, rfl, Below.refl _ _⟩
  case round =>
    obtain ⟨k, hk, rfl, hall, hbw⟩ := hrel
    by_cases hlt : k < xs.length
    · obtain ⟨b, off, rfl, hblt, hc⟩ := (hs.below hbw).at_ hlt
      have g0 := hc 0 _ rfl
      have g1 := hc 1 _ rfl
      have g2 := hc 2 _ rfl
      have H1 := Lib.hid (fun h => recordsOk_no (k := k) (xs := xs) hlt h)
      have H2 := Lib.hid (fun h => all_take_succ (k := k) (xs := xs) (p := recOk) hlt hall h)
      clear hc hall
      simp only [Nat.add_zero] at g0
      generalize xs[k] = x at *
      have hbn : Below w.heap.size w (wr.alloc (Obj.cells #[.int .i64 x.before, .int .i64 x.input, .int .i64 x.after] 95)) := hbw.alloc hbw.size _
      cases e1 : recOk x
      · go_wp2_with (fail)
        refine (l18Record_c x _).mono ?_
        rintro e w1 ⟨rfl, hb_w1⟩
        go_wp2
        go_ret
        exact ⟨ret_bool (by rw [H1.out e1]), hbn.trans (hb_w1.mono hbn.size)⟩
      · go_wp2_with (fail)
        refine (l18Record_c x _).mono ?_
        rintro e w1 ⟨rfl, hb_w1⟩
        go_wp2
        go_roundw
        case rel => exact ⟨k + 1, by omega, by go_num, H2.out e1, hbn.trans (hb_w1.mono hbn.size)⟩
        case measure => simp [intOf]; omega
    · obtain rfl : k = xs.length := by omega
      have HA := Lib.hid hall
      clear hall
      go_wp2
      go_ret
      exact ⟨ret_bool (by have := HA.out; rw [List.take_length] at this; simp [recordsOk, this]; omega), hbw⟩

end Go.Proofs.Ytbdihgcjopbnjaa
