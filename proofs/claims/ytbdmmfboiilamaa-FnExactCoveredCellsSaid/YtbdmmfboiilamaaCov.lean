/-
  CoveredCells of the program and of the reference return the same number.
  Conditions: the slice of cells holds at most 2^20 ints.
-/
import Derived.Test.YtbdmmfboiilamaaTab
namespace Go.Proofs.Ytbdmmfboiilamaa
open Go.RowKit

def covN (l : List Int) : Int := (l.filter fun n => !(n == -1000000)).length
def covered (t : Tab) : Int := if tableOk t = true then covN t.cells else 0
theorem covN_le (l : List Int) : 0 ≤ covN l ∧ covN l ≤ l.length := by
  unfold covN
  exact ⟨by omega, by have := List.length_filter_le (fun n : Int => !(n == -1000000)) l; omega⟩
theorem covN_snoc (l : List Int) (n : Int) : covN (l ++ [n]) = covN l + if (n == -1000000) = true then 0 else 1 := by
  unfold covN
  rw [List.filter_append]
  cases h : (n == -1000000) <;> simp [List.filter_cons, h]

theorem iCovered_c (t : Tab) (A : Option Addr) (cap : Nat) (w : World) (ht : t.In) (hn : t.cells.length ≤ 1048576) (hs : Sl 1 intC w A t.cells) :
    Calls Try.prog 20 #[tabV t A cap] w fun e w' => e = .returned (.int .i64 (covered t)) ∧ Below w.heap.size w w' := by
  have c1 := fun W h => iTableOk_c t A cap W ht hn h
  have HA := Has.new w #[.int .i64 t.x0, .int .i64 t.y0, .int .i64 t.step, .int .i64 t.nx, .int .i64 t.ny, .slice A t.cells.length cap] 34
  cases e1 : tableOk t
  · rw [e1] at c1
    have hfin : Hid (covered t = 0) := by simp [Hid, covered, e1]
    go_enter Try.func20, Try.ntmps20
    go_wp2_with (fail)
    refine (c1 _ (hs.alloc _)).mono ?_
    rintro e w1 ⟨rfl, hb1⟩
    go_wp2
    go_ret
    refine ⟨ret_int (by rw [hfin.out]), ?_⟩
    repeat (first | (with_reducible exact Below.refl _ _) | (with_reducible assumption) | (with_reducible refine below_al ?_ _) | (with_reducible refine Below.drew ?_) | (with_reducible refine below_drewN ?_ _) | (with_reducible refine below_st ?_ ?_ _) | (with_reducible refine below_tr ?_ (by assumption)) | (with_reducible exact Nat.le_refl _) | (focus (simp; done)) | (focus (simp; omega)))
  · rw [e1] at c1
    have hfin : Hid (covered t = covN t.cells) := by simp [Hid, covered, e1]
    go_enter Try.func20, Try.ntmps20
    go_wp2_with (fail)
    refine (c1 _ (hs.alloc _)).mono ?_
    rintro e w1 ⟨rfl, hb1⟩
    have H1 := HA.below hb1
    have hbw := below_tr (below_al (Below.refl w.heap.size w) _) hb1
    obtain ⟨cH1_0, fH1_0⟩ := H1.2 0 _ rfl
    obtain ⟨cH1_1, fH1_1⟩ := H1.2 1 _ rfl
    obtain ⟨cH1_2, fH1_2⟩ := H1.2 2 _ rfl
    obtain ⟨cH1_3, fH1_3⟩ := H1.2 3 _ rfl
    obtain ⟨cH1_4, fH1_4⟩ := H1.2 4 _ rfl
    obtain ⟨cH1_5, fH1_5⟩ := H1.2 5 _ rfl
    go_wp2
    go_loopw [3, 5, 12] (fun c x i wr => ∃ k : Nat, k ≤ t.cells.length ∧ i = .int .i64 k ∧ c = .int .i64 (covN (t.cells.take k)) ∧ Below w.heap.size w wr) (fun _ _ i _ => t.cells.length - (intOf i).toNat)
    case atStart => exact ⟨0, Nat.zero_le _, rfl, rfl, hbw⟩
    case round =>
      obtain ⟨k, hk, rfl, rfl, hbr⟩ := hrel
      by_cases hlt : k < t.cells.length
      · obtain ⟨b, off, rfl, hblt, hc⟩ := (hs.below hbr).at_ hlt
        have g0 := hc 0 _ rfl
        have hsn := Lib.hid (covN_snoc (t.cells.take k) t.cells[k])
        rw [← take_succ' t.cells k hlt] at hsn
        have hb1 := covN_le (t.cells.take k)
        have hb2 : (t.cells.take k).length ≤ t.cells.length := by rw [List.length_take]; omega
        obtain ⟨hb3, hb4⟩ := hb1
        clear hc
        simp only [Nat.mul_one, Nat.add_zero] at g0
        generalize t.cells[k] = n at *
        cases q1 : (n == -1000000)
        · have q2 : (n != -1000000) = true := by simp [bne, q1]
          go_wp2
          refine ⟨⟨k + 1, by omega, by go_num, ?_, hbr⟩, by simp [intOf]; omega⟩
          rw [hsn.out, q1]; rfl
        · have q2 : (n != -1000000) = false := by simp [bne, q1]
          go_wp2
          refine ⟨⟨k + 1, by omega, by go_num, ?_, hbr⟩, by simp [intOf]; omega⟩
          rw [hsn.out, q1]; simp
      · obtain rfl : k = t.cells.length := by omega
        go_wp2
        go_ret
        exact ⟨ret_int (by rw [hfin.out, List.take_length]), hbr⟩

theorem sCovered_c (t : Tab) (A : Option Addr) (cap : Nat) (w : World) (ht : t.In) (hn : t.cells.length ≤ 1048576) (hs : Sl 1 intC w A t.cells) :
    Calls Try.prog 19 #[tabV t A cap] w fun e w' => e = .returned (.int .i64 (covered t)) ∧ Below w.heap.size w w' := by
  have c1 := fun W h => sTableOk_c t A cap W ht hn h
  have HA := Has.new w #[.int .i64 t.x0, .int .i64 t.y0, .int .i64 t.step, .int .i64 t.nx, .int .i64 t.ny, .slice A t.cells.length cap] 34
  cases e1 : tableOk t
  · rw [e1] at c1
    have hfin : Hid (covered t = 0) := by simp [Hid, covered, e1]
    go_enter Try.func19, Try.ntmps19
    go_wp2_with (fail)
    refine (c1 _ (hs.alloc _)).mono ?_
    rintro e w1 ⟨rfl, hb1⟩
    go_wp2
    go_ret
    refine ⟨ret_int (by rw [hfin.out]), ?_⟩
    repeat (first | (with_reducible exact Below.refl _ _) | (with_reducible assumption) | (with_reducible refine below_al ?_ _) | (with_reducible refine Below.drew ?_) | (with_reducible refine below_drewN ?_ _) | (with_reducible refine below_st ?_ ?_ _) | (with_reducible refine below_tr ?_ (by assumption)) | (with_reducible exact Nat.le_refl _) | (focus (simp; done)) | (focus (simp; omega)))
  · rw [e1] at c1
    have hfin : Hid (covered t = covN t.cells) := by simp [Hid, covered, e1]
    go_enter Try.func19, Try.ntmps19
    go_wp2_with (fail)
    refine (c1 _ (hs.alloc _)).mono ?_
    rintro e w1 ⟨rfl, hb1⟩
    have H1 := HA.below hb1
    have hbw := below_tr (below_al (Below.refl w.heap.size w) _) hb1
    obtain ⟨cH1_0, fH1_0⟩ := H1.2 0 _ rfl
    obtain ⟨cH1_1, fH1_1⟩ := H1.2 1 _ rfl
    obtain ⟨cH1_2, fH1_2⟩ := H1.2 2 _ rfl
    obtain ⟨cH1_3, fH1_3⟩ := H1.2 3 _ rfl
    obtain ⟨cH1_4, fH1_4⟩ := H1.2 4 _ rfl
    obtain ⟨cH1_5, fH1_5⟩ := H1.2 5 _ rfl
    go_wp2
    go_loopw [3, 5, 12] (fun c x i wr => ∃ k : Nat, k ≤ t.cells.length ∧ i = .int .i64 k ∧ c = .int .i64 (covN (t.cells.take k)) ∧ Below w.heap.size w wr) (fun _ _ i _ => t.cells.length - (intOf i).toNat)
    case atStart => exact ⟨0, Nat.zero_le _, rfl, rfl, hbw⟩
    case round =>
      obtain ⟨k, hk, rfl, rfl, hbr⟩ := hrel
      by_cases hlt : k < t.cells.length
      · obtain ⟨b, off, rfl, hblt, hc⟩ := (hs.below hbr).at_ hlt
        have g0 := hc 0 _ rfl
        have hsn := Lib.hid (covN_snoc (t.cells.take k) t.cells[k])
        rw [← take_succ' t.cells k hlt] at hsn
        have hb1 := covN_le (t.cells.take k)
        have hb2 : (t.cells.take k).length ≤ t.cells.length := by rw [List.length_take]; omega
        obtain ⟨hb3, hb4⟩ := hb1
        clear hc
        simp only [Nat.mul_one, Nat.add_zero] at g0
        generalize t.cells[k] = n at *
        cases q1 : (n == -1000000)
        · have q2 : (n != -1000000) = true := by simp [bne, q1]
          go_wp2
          refine ⟨⟨k + 1, by omega, by go_num, ?_, hbr⟩, by simp [intOf]; omega⟩
          rw [hsn.out, q1]; rfl
        · have q2 : (n != -1000000) = false := by simp [bne, q1]
          go_wp2
          refine ⟨⟨k + 1, by omega, by go_num, ?_, hbr⟩, by simp [intOf]; omega⟩
          rw [hsn.out, q1]; simp
      · obtain rfl : k = t.cells.length := by omega
        go_wp2
        go_ret
        exact ⟨ret_int (by rw [hfin.out, List.take_length]), hbr⟩
end Go.Proofs.Ytbdmmfboiilamaa
