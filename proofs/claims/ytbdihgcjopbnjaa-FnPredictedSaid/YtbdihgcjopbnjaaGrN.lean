/-
  The functions on tables: what they return.
  Conditions: the slice of cells holds at most 2^20 ints.
-/
import Derived.Test.YtbdihgcjopbnjaaGrC
import Derived.Test.YtbdihgcjopbnjaaGrA
import Derived.StillTailTactics
section
namespace Go.Proofs.Ytbdihgcjopbnjaa
open Go.RowKit

structure Tab where
  x0 : Int
  y0 : Int
  step : Int
  nx : Int
  ny : Int
  cells : List Int
def Tab.In (t : Tab) : Prop := In64 t.x0 ∧ In64 t.y0 ∧ In64 t.step ∧ In64 t.nx ∧ In64 t.ny
abbrev tabV (t : Tab) (A : Option Addr) (cap : Nat) : Value := .agg #[.int .i64 t.x0, .int .i64 t.y0, .int .i64 t.step, .int .i64 t.nx, .int .i64 t.ny, .slice A t.cells.length cap]
abbrev tabC (t : Tab) (A : Option Addr) (cap : Nat) : List Value := [.int .i64 t.x0, .int .i64 t.y0, .int .i64 t.step, .int .i64 t.nx, .int .i64 t.ny, .slice A t.cells.length cap]
def gridOk (t : Tab) : Bool := inR t.x0 (-1000) 1000 && inR t.y0 (-1000) 1000 && inR t.step 1 100 && inR t.nx 1 100 && inR t.ny 1 100 && decide (t.nx * t.ny ≤ 400) && decide (t.x0 + t.nx * t.step ≤ 1000) && decide (t.y0 + t.ny * t.step ≤ 1000)
def cellOk (n : Int) : Bool := n == -1000000 || inR n (-1000) 1000
def tableOk (t : Tab) : Bool := gridOk t && decide ((t.cells.length : Int) = t.nx * t.ny) && t.cells.all cellOk
theorem mul_bd {a b A B : Int} (ha : -A ≤ a ∧ a ≤ A) (hb : -B ≤ b ∧ b ≤ B) : -(A * B) ≤ a * b ∧ a * b ≤ A * B := by
  have hA : a.natAbs ≤ A.natAbs := by omega
  have hB : b.natAbs ≤ B.natAbs := by omega
  have hm := Nat.mul_le_mul hA hB
  rw [← Int.natAbs_mul, ← Int.natAbs_mul] at hm
  have hAB : 0 ≤ A * B := Int.mul_nonneg (by omega) (by omega)
  omega
theorem gridOk_iff {t : Tab} : gridOk t = true ↔ (-1000 ≤ t.x0 ∧ t.x0 ≤ 1000) ∧ (-1000 ≤ t.y0 ∧ t.y0 ≤ 1000) ∧ (1 ≤ t.step ∧ t.step ≤ 100) ∧ (1 ≤ t.nx ∧ t.nx ≤ 100) ∧ (1 ≤ t.ny ∧ t.ny ≤ 100) ∧ t.nx * t.ny ≤ 400 ∧ t.x0 + t.nx * t.step ≤ 1000 ∧ t.y0 + t.ny * t.step ≤ 1000 := by
  simp only [gridOk, Bool.and_eq_true, inR_iff, decide_eq_true_eq, and_assoc]

set_option maxHeartbeats 2000000 in
theorem igridOk_c (t : Tab) (A : Option Addr) (cap : Nat) (w : World) (_ : t.In) :
    Calls Try.prog 153 #[tabV t A cap] w fun e w' => e = .returned (.bool (gridOk t)) ∧ Below w.heap.size w w' := by
  cases e1 : inR t.x0 (-1000) 1000
  · go_enter Try.func153, Try.ntmps153
    go_wp2_with (first | (go_at_call 112; refine (inRange_c _ _ _ _).mono ?_; rintro e w' ⟨rfl, rfl⟩))
    go_ret
    refine ⟨ret_bool (by simp [gridOk, e1] <;> omega), ?_⟩
    repeat (first | (with_reducible exact Below.refl _ _) | (with_reducible assumption) | (with_reducible refine below_al ?_ _) | (with_reducible refine Below.drew ?_) | (with_reducible refine below_drewN ?_ _) | (with_reducible refine below_st ?_ ?_ _) | (with_reducible refine below_tr ?_ (by assumption)) | (with_reducible exact Nat.le_refl _) | (focus (simp; done)) | (focus (simp; omega)))
  · skip
    cases e2 : inR t.y0 (-1000) 1000
    · go_enter Try.func153, Try.ntmps153
      go_wp2_with (first | (go_at_call 112; refine (inRange_c _ _ _ _).mono ?_; rintro e w' ⟨rfl, rfl⟩))
      go_ret
      refine ⟨ret_bool (by simp [gridOk, e1, e2] <;> omega), ?_⟩
      repeat (first | (with_reducible exact Below.refl _ _) | (with_reducible assumption) | (with_reducible refine below_al ?_ _) | (with_reducible refine Below.drew ?_) | (with_reducible refine below_drewN ?_ _) | (with_reducible refine below_st ?_ ?_ _) | (with_reducible refine below_tr ?_ (by assumption)) | (with_reducible exact Nat.le_refl _) | (focus (simp; done)) | (focus (simp; omega)))
    · skip
      cases e3 : inR t.step 1 100
      · go_enter Try.func153, Try.ntmps153
        go_wp2_with (first | (go_at_call 112; refine (inRange_c _ _ _ _).mono ?_; rintro e w' ⟨rfl, rfl⟩))
        go_ret
        refine ⟨ret_bool (by simp [gridOk, e1, e2, e3] <;> omega), ?_⟩
        repeat (first | (with_reducible exact Below.refl _ _) | (with_reducible assumption) | (with_reducible refine below_al ?_ _) | (with_reducible refine Below.drew ?_) | (with_reducible refine below_drewN ?_ _) | (with_reducible refine below_st ?_ ?_ _) | (with_reducible refine below_tr ?_ (by assumption)) | (with_reducible exact Nat.le_refl _) | (focus (simp; done)) | (focus (simp; omega)))
      · skip
        cases e4 : inR t.nx 1 100
        · go_enter Try.func153, Try.ntmps153
          go_wp2_with (first | (go_at_call 112; refine (inRange_c _ _ _ _).mono ?_; rintro e w' ⟨rfl, rfl⟩))
          go_ret
          refine ⟨ret_bool (by simp [gridOk, e1, e2, e3, e4] <;> omega), ?_⟩
          repeat (first | (with_reducible exact Below.refl _ _) | (with_reducible assumption) | (with_reducible refine below_al ?_ _) | (with_reducible refine Below.drew ?_) | (with_reducible refine below_drewN ?_ _) | (with_reducible refine below_st ?_ ?_ _) | (with_reducible refine below_tr ?_ (by assumption)) | (with_reducible exact Nat.le_refl _) | (focus (simp; done)) | (focus (simp; omega)))
        · skip
          cases e5 : inR t.ny 1 100
          · go_enter Try.func153, Try.ntmps153
            go_wp2_with (first | (go_at_call 112; refine (inRange_c _ _ _ _).mono ?_; rintro e w' ⟨rfl, rfl⟩))
            go_ret
            refine ⟨ret_bool (by simp [gridOk, e1, e2, e3, e4, e5] <;> omega), ?_⟩
            repeat (first | (with_reducible exact Below.refl _ _) | (with_reducible assumption) | (with_reducible refine below_al ?_ _) | (with_reducible refine Below.drew ?_) | (with_reducible refine below_drewN ?_ _) | (with_reducible refine below_st ?_ ?_ _) | (with_reducible refine below_tr ?_ (by assumption)) | (with_reducible exact Nat.le_refl _) | (focus (simp; done)) | (focus (simp; omega)))
          · skip
            obtain ⟨a1, a2⟩ := inR_iff.1 e1
            obtain ⟨a3, a4⟩ := inR_iff.1 e2
            obtain ⟨a5, a6⟩ := inR_iff.1 e3
            obtain ⟨a7, a8⟩ := inR_iff.1 e4
            obtain ⟨a9, a10⟩ := inR_iff.1 e5
            obtain ⟨m1, m2⟩ := mul_bd (A := 100) (B := 100) (a := t.nx) (b := t.ny) (by omega) (by omega)
            obtain ⟨m3, m4⟩ := mul_bd (A := 100) (B := 100) (a := t.nx) (b := t.step) (by omega) (by omega)
            obtain ⟨m5, m6⟩ := mul_bd (A := 100) (B := 100) (a := t.ny) (b := t.step) (by omega) (by omega)
            by_cases e6 : t.nx * t.ny ≤ 400
            rotate_left
            · go_enter Try.func153, Try.ntmps153
              go_wp2_with (first | (go_at_call 112; refine (inRange_c _ _ _ _).mono ?_; rintro e w' ⟨rfl, rfl⟩))
              go_ret
              refine ⟨ret_bool (by simp [gridOk, e1, e2, e3, e4, e5] <;> omega), ?_⟩
              repeat (first | (with_reducible exact Below.refl _ _) | (with_reducible assumption) | (with_reducible refine below_al ?_ _) | (with_reducible refine Below.drew ?_) | (with_reducible refine below_drewN ?_ _) | (with_reducible refine below_st ?_ ?_ _) | (with_reducible refine below_tr ?_ (by assumption)) | (with_reducible exact Nat.le_refl _) | (focus (simp; done)) | (focus (simp; omega)))
            by_cases e7 : t.x0 + t.nx * t.step ≤ 1000
            rotate_left
            · go_enter Try.func153, Try.ntmps153
              go_wp2_with (first | (go_at_call 112; refine (inRange_c _ _ _ _).mono ?_; rintro e w' ⟨rfl, rfl⟩))
              go_ret
              refine ⟨ret_bool (by simp [gridOk, e1, e2, e3, e4, e5, e6] <;> omega), ?_⟩
              repeat (first | (with_reducible exact Below.refl _ _) | (with_reducible assumption) | (with_reducible refine below_al ?_ _) | (with_reducible refine Below.drew ?_) | (with_reducible refine below_drewN ?_ _) | (with_reducible refine below_st ?_ ?_ _) | (with_reducible refine below_tr ?_ (by assumption)) | (with_reducible exact Nat.le_refl _) | (focus (simp; done)) | (focus (simp; omega)))
            by_cases e8 : t.y0 + t.ny * t.step ≤ 1000
            rotate_left
            · go_enter Try.func153, Try.ntmps153
              go_wp2_with (first | (go_at_call 112; refine (inRange_c _ _ _ _).mono ?_; rintro e w' ⟨rfl, rfl⟩))
              go_ret
              refine ⟨ret_bool (by simp [gridOk, e1, e2, e3, e4, e5, e6, e7] <;> omega), ?_⟩
              repeat (first | (with_reducible exact Below.refl _ _) | (with_reducible assumption) | (with_reducible refine below_al ?_ _) | (with_reducible refine Below.drew ?_) | (with_reducible refine below_drewN ?_ _) | (with_reducible refine below_st ?_ ?_ _) | (with_reducible refine below_tr ?_ (by assumption)) | (with_reducible exact Nat.le_refl _) | (focus (simp; done)) | (focus (simp; omega)))
            go_enter Try.func153, Try.ntmps153
            go_wp2_with (first | (go_at_call 112; refine (inRange_c _ _ _ _).mono ?_; rintro e w' ⟨rfl, rfl⟩))
            go_ret
            refine ⟨ret_bool (by simp [gridOk, e1, e2, e3, e4, e5, e6, e7] <;> omega), ?_⟩
            repeat (first | (with_reducible exact Below.refl _ _) | (with_reducible assumption) | (with_reducible refine below_al ?_ _) | (with_reducible refine Below.drew ?_) | (with_reducible refine below_drewN ?_ _) | (with_reducible refine below_st ?_ ?_ _) | (with_reducible refine below_tr ?_ (by assumption)) | (with_reducible exact Nat.le_refl _) | (focus (simp; done)) | (focus (simp; omega)))

set_option maxHeartbeats 2000000 in
theorem l16Frame_c (t : Tab) (A : Option Addr) (cap : Nat) (w : World) (_ : t.In) :
    Calls Try.prog 152 #[tabV t A cap] w fun e w' => e = .returned (.bool (gridOk t)) ∧ Below w.heap.size w w' := by
  cases e1 : inR t.x0 (-1000) 1000
  · go_enter Try.func152, Try.ntmps152
    go_wp2_with (first | (go_at_call 78; refine (l01In_c _ _ _ _).mono ?_; rintro e w' ⟨rfl, rfl⟩))
    go_ret
    refine ⟨ret_bool (by simp [gridOk, e1] <;> omega), ?_⟩
    repeat (first | (with_reducible exact Below.refl _ _) | (with_reducible assumption) | (with_reducible refine below_al ?_ _) | (with_reducible refine Below.drew ?_) | (with_reducible refine below_drewN ?_ _) | (with_reducible refine below_st ?_ ?_ _) | (with_reducible refine below_tr ?_ (by assumption)) | (with_reducible exact Nat.le_refl _) | (focus (simp; done)) | (focus (simp; omega)))
  · skip
    cases e2 : inR t.y0 (-1000) 1000
    · go_enter Try.func152, Try.ntmps152
      go_wp2_with (first | (go_at_call 78; refine (l01In_c _ _ _ _).mono ?_; rintro e w' ⟨rfl, rfl⟩))
      go_ret
      refine ⟨ret_bool (by simp [gridOk, e1, e2] <;> omega), ?_⟩
      repeat (first | (with_reducible exact Below.refl _ _) | (with_reducible assumption) | (with_reducible refine below_al ?_ _) | (with_reducible refine Below.drew ?_) | (with_reducible refine below_drewN ?_ _) | (with_reducible refine below_st ?_ ?_ _) | (with_reducible refine below_tr ?_ (by assumption)) | (with_reducible exact Nat.le_refl _) | (focus (simp; done)) | (focus (simp; omega)))
    · skip
      cases e3 : inR t.step 1 100
      · go_enter Try.func152, Try.ntmps152
        go_wp2_with (first | (go_at_call 78; refine (l01In_c _ _ _ _).mono ?_; rintro e w' ⟨rfl, rfl⟩))
        go_ret
        refine ⟨ret_bool (by simp [gridOk, e1, e2, e3] <;> omega), ?_⟩
        repeat (first | (with_reducible exact Below.refl _ _) | (with_reducible assumption) | (with_reducible refine below_al ?_ _) | (with_reducible refine Below.drew ?_) | (with_reducible refine below_drewN ?_ _) | (with_reducible refine below_st ?_ ?_ _) | (with_reducible refine below_tr ?_ (by assumption)) | (with_reducible exact Nat.le_refl _) | (focus (simp; done)) | (focus (simp; omega)))
      · skip
        cases e4 : inR t.nx 1 100
        · go_enter Try.func152, Try.ntmps152
          go_wp2_with (first | (go_at_call 78; refine (l01In_c _ _ _ _).mono ?_; rintro e w' ⟨rfl, rfl⟩))
          go_ret
          refine ⟨ret_bool (by simp [gridOk, e1, e2, e3, e4] <;> omega), ?_⟩
          repeat (first | (with_reducible exact Below.refl _ _) | (with_reducible assumption) | (with_reducible refine below_al ?_ _) | (with_reducible refine Below.drew ?_) | (with_reducible refine below_drewN ?_ _) | (with_reducible refine below_st ?_ ?_ _) | (with_reducible refine below_tr ?_ (by assumption)) | (with_reducible exact Nat.le_refl _) | (focus (simp; done)) | (focus (simp; omega)))
        · skip
          cases e5 : inR t.ny 1 100
          · go_enter Try.func152, Try.ntmps152
            go_wp2_with (first | (go_at_call 78; refine (l01In_c _ _ _ _).mono ?_; rintro e w' ⟨rfl, rfl⟩))
            go_ret
            refine ⟨ret_bool (by simp [gridOk, e1, e2, e3, e4, e5] <;> omega), ?_⟩
            repeat (first | (with_reducible exact Below.refl _ _) | (with_reducible assumption) | (with_reducible refine below_al ?_ _) | (with_reducible refine Below.drew ?_) | (with_reducible refine below_drewN ?_ _) | (with_reducible refine below_st ?_ ?_ _) | (with_reducible refine below_tr ?_ (by assumption)) | (with_reducible exact Nat.le_refl _) | (focus (simp; done)) | (focus (simp; omega)))
          · skip
            obtain ⟨a1, a2⟩ := inR_iff.1 e1
            obtain ⟨a3, a4⟩ := inR_iff.1 e2
            obtain ⟨a5, a6⟩ := inR_iff.1 e3
            obtain ⟨a7, a8⟩ := inR_iff.1 e4
            obtain ⟨a9, a10⟩ := inR_iff.1 e5
            obtain ⟨m1, m2⟩ := mul_bd (A := 100) (B := 100) (a := t.nx) (b := t.ny) (by omega) (by omega)
            obtain ⟨m3, m4⟩ := mul_bd (A := 100) (B := 100) (a := t.nx) (b := t.step) (by omega) (by omega)
            obtain ⟨m5, m6⟩ := mul_bd (A := 100) (B := 100) (a := t.ny) (b := t.step) (by omega) (by omega)
            by_cases e6 : t.nx * t.ny ≤ 400
            rotate_left
            · go_enter Try.func152, Try.ntmps152
              go_wp2_with (first | (go_at_call 78; refine (l01In_c _ _ _ _).mono ?_; rintro e w' ⟨rfl, rfl⟩))
              go_ret
              refine ⟨ret_bool (by simp [gridOk, e1, e2, e3, e4, e5] <;> omega), ?_⟩
              repeat (first | (with_reducible exact Below.refl _ _) | (with_reducible assumption) | (with_reducible refine below_al ?_ _) | (with_reducible refine Below.drew ?_) | (with_reducible refine below_drewN ?_ _) | (with_reducible refine below_st ?_ ?_ _) | (with_reducible refine below_tr ?_ (by assumption)) | (with_reducible exact Nat.le_refl _) | (focus (simp; done)) | (focus (simp; omega)))
            by_cases e7 : t.x0 + t.nx * t.step ≤ 1000
            rotate_left
            · go_enter Try.func152, Try.ntmps152
              go_wp2_with (first | (go_at_call 78; refine (l01In_c _ _ _ _).mono ?_; rintro e w' ⟨rfl, rfl⟩))
              go_ret
              refine ⟨ret_bool (by simp [gridOk, e1, e2, e3, e4, e5, e6] <;> omega), ?_⟩
              repeat (first | (with_reducible exact Below.refl _ _) | (with_reducible assumption) | (with_reducible refine below_al ?_ _) | (with_reducible refine Below.drew ?_) | (with_reducible refine below_drewN ?_ _) | (with_reducible refine below_st ?_ ?_ _) | (with_reducible refine below_tr ?_ (by assumption)) | (with_reducible exact Nat.le_refl _) | (focus (simp; done)) | (focus (simp; omega)))
            by_cases e8 : t.y0 + t.ny * t.step ≤ 1000
            rotate_left
            · go_enter Try.func152, Try.ntmps152
              go_wp2_with (first | (go_at_call 78; refine (l01In_c _ _ _ _).mono ?_; rintro e w' ⟨rfl, rfl⟩))
              go_ret
              refine ⟨ret_bool (by simp [gridOk, e1, e2, e3, e4, e5, e6, e7] <;> omega), ?_⟩
              repeat (first | (with_reducible exact Below.refl _ _) | (with_reducible assumption) | (with_reducible refine below_al ?_ _) | (with_reducible refine Below.drew ?_) | (with_reducible refine below_drewN ?_ _) | (with_reducible refine below_st ?_ ?_ _) | (with_reducible refine below_tr ?_ (by assumption)) | (with_reducible exact Nat.le_refl _) | (focus (simp; done)) | (focus (simp; omega)))
            go_enter Try.func152, Try.ntmps152
            go_wp2_with (first | (go_at_call 78; refine (l01In_c _ _ _ _).mono ?_; rintro e w' ⟨rfl, rfl⟩))
            go_ret
            refine ⟨ret_bool (by simp [gridOk, e1, e2, e3, e4, e5, e6, e7] <;> omega), ?_⟩
            repeat (first | (with_reducible exact Below.refl _ _) | (with_reducible assumption) | (with_reducible refine below_al ?_ _) | (with_reducible refine Below.drew ?_) | (with_reducible refine below_drewN ?_ _) | (with_reducible refine below_st ?_ ?_ _) | (with_reducible refine below_tr ?_ (by assumption)) | (with_reducible exact Nat.le_refl _) | (focus (simp; done)) | (focus (simp; omega)))

theorem iTableOk_c (t : Tab) (A : Option Addr) (cap : Nat) (w : World) (ht : t.In) (hn : t.cells.length ≤ 1048576) (hs : Sl 1 intC w A t.cells) :
    Calls Try.prog 81 #[tabV t A cap] w fun e w' => e = .returned (.bool (tableOk t)) ∧ Below w.heap.size w w' := by
  have c1 := fun W => igridOk_c t A cap W ht
  have HA := Has.new w #[.int .i64 t.x0, .int .i64 t.y0, .int .i64 t.step, .int .i64 t.nx, .int .i64 t.ny, .slice A t.cells.length cap] 28
  cases e1 : gridOk t
  · rw [e1] at c1
    have hfin : Hid (tableOk t = false) := by simp [Hid, tableOk, e1]
    go_enter Try.func81, Try.ntmps81
    go_wp2_with (fail)
    refine (c1 _).mono ?_
    rintro e w1 ⟨rfl, hb1⟩
    go_wp2
    go_ret
    refine ⟨ret_bool (by rw [hfin.out]), ?_⟩
    repeat (first | (with_reducible exact Below.refl _ _) | (with_reducible assumption) | (with_reducible refine below_al ?_ _) | (with_reducible refine Below.drew ?_) | (with_reducible refine below_drewN ?_ _) | (with_reducible refine below_st ?_ ?_ _) | (with_reducible refine below_tr ?_ (by assumption)) | (with_reducible exact Nat.le_refl _) | (focus (simp; done)) | (focus (simp; omega)))
  · rw [e1] at c1
    obtain ⟨_, _, _, g4, g5, g6, _, _⟩ := gridOk_iff.1 e1
    obtain ⟨m1, m2⟩ := mul_bd (A := 100) (B := 100) (a := t.nx) (b := t.ny) (by omega) (by omega)
    by_cases e2 : (t.cells.length : Int) = t.nx * t.ny
    · have hfin : Hid (tableOk t = t.cells.all cellOk) := by simp [Hid, tableOk, e1, e2]
      have e3 : ((t.cells.length : Int) != t.nx * t.ny) = false := by simp [e2]
      have hmm := Lib.hid e2
      clear e2
      go_enter Try.func81, Try.ntmps81
      go_wp2_with (fail)
      refine (c1 _).mono ?_
      rintro e w1 ⟨rfl, hb1⟩
      have H1 := HA.below hb1
      have hbw := below_tr (below_al (Below.refl w.heap.size w) _) hb1
      obtain ⟨cH1_0, fH1_0⟩ := H1.2 0 _ rfl
      obtain ⟨cH1_1, fH1_1⟩ := H1.2 1 _ rfl
      obtain ⟨cH1_2, fH1_2⟩ := H1.2 2 _ rfl
      obtain ⟨cH1_3, fH1_3⟩ := H1.2 3 _ rfl
      obtain ⟨cH1_4, fH1_4⟩ := H1.2 4 _ rfl
      obtain ⟨cH1_5, fH1_5⟩ := H1.2 5 _ rfl
      go_wp2
      go_loopw [4, 22] (fun x i wr => ∃ k : Nat, k ≤ t.cells.length ∧ i = .int .i64 k ∧ (t.cells.take k).all cellOk = true ∧ Below w.heap.size w wr) (fun _ i _ => t.cells.length - (intOf i).toNat)
      case atStart => exact ⟨0, Nat.zero_le _, rfl, rfl, hbw⟩
      case round =>
        obtain ⟨k, hk, rfl, hall, hbr⟩ := hrel
        by_cases hlt : k < t.cells.length
        · obtain ⟨b, off, rfl, hblt, hc⟩ := (hs.below hbr).at_ hlt
          have g0 := hc 0 _ rfl
          have Z1 : cellOk t.cells[k] = false → t.cells.all cellOk = false := fun h => by
            rw [List.all_eq_false]; exact ⟨_, List.getElem_mem hlt, by simp [h]⟩
          have Z2 : cellOk t.cells[k] = true → (t.cells.take (k + 1)).all cellOk = true := fun h => by
            rw [take_succ' t.cells k hlt, List.all_append, hall]; simp [h]
          have Y1 := Lib.hid Z1
          have Y2 := Lib.hid Z2
          clear hc hall Z1 Z2 m1 m2 g4 g5 g6
          simp only [Nat.mul_one, Nat.add_zero] at g0
          generalize t.cells[k] = n at *
          cases q1 : (n == -1000000)
          · have q2 : (n != -1000000) = true := by simp [bne, q1]
            cases q3 : inR n (-1000) 1000
            · go_wp2_with (first | (go_at_call 112; refine (inRange_c _ _ _ _).mono ?_; rintro e w' ⟨rfl, rfl⟩))
              go_ret
              exact ⟨ret_bool (by rw [hfin.out, Y1.out (by simp [cellOk, q1, q3])]), hbr⟩
            · go_wp2_with (first | (go_at_call 112; refine (inRange_c _ _ _ _).mono ?_; rintro e w' ⟨rfl, rfl⟩))
              exact ⟨⟨k + 1, by omega, by go_num, Y2.out (by simp [cellOk, q3]), hbr⟩, by simp [intOf]; omega⟩
          · have q2 : (n != -1000000) = false := by simp [bne, q1]
            go_wp2
            exact ⟨⟨k + 1, by omega, by go_num, Y2.out (by simp [cellOk, q1]), hbr⟩, by simp [intOf]; omega⟩
        · obtain rfl : k = t.cells.length := by omega
          have Y := Lib.hid hall
          clear hall
          go_wp2
          go_ret
          exact ⟨ret_bool (by have := Y.out; rw [List.take_length] at this; rw [hfin.out, this]), hbr⟩
    · have hfin : Hid (tableOk t = false) := by simp [Hid, tableOk, e2]
      have e3 : ((t.cells.length : Int) != t.nx * t.ny) = true := by simp [e2]
      clear e2
      go_enter Try.func81, Try.ntmps81
      go_wp2_with (fail)
      refine (c1 _).mono ?_
      rintro e w1 ⟨rfl, hb1⟩
      have H1 := HA.below hb1
      obtain ⟨cH1_0, fH1_0⟩ := H1.2 0 _ rfl
      obtain ⟨cH1_1, fH1_1⟩ := H1.2 1 _ rfl
      obtain ⟨cH1_2, fH1_2⟩ := H1.2 2 _ rfl
      obtain ⟨cH1_3, fH1_3⟩ := H1.2 3 _ rfl
      obtain ⟨cH1_4, fH1_4⟩ := H1.2 4 _ rfl
      obtain ⟨cH1_5, fH1_5⟩ := H1.2 5 _ rfl
      go_wp2
      go_ret
      refine ⟨ret_bool (by rw [hfin.out]), ?_⟩
      repeat (first | (with_reducible exact Below.refl _ _) | (with_reducible assumption) | (with_reducible refine below_al ?_ _) | (with_reducible refine Below.drew ?_) | (with_reducible refine below_drewN ?_ _) | (with_reducible refine below_st ?_ ?_ _) | (with_reducible refine below_tr ?_ (by assumption)) | (with_reducible exact Nat.le_refl _) | (focus (simp; done)) | (focus (simp; omega)))

theorem sTableOk_c (t : Tab) (A : Option Addr) (cap : Nat) (w : World) (ht : t.In) (hn : t.cells.length ≤ 1048576) (hs : Sl 1 intC w A t.cells) :
    Calls Try.prog 77 #[tabV t A cap] w fun e w' => e = .returned (.bool (tableOk t)) ∧ Below w.heap.size w w' := by
  have c1 := fun W => l16Frame_c t A cap W ht
  have HA := Has.new w #[.int .i64 t.x0, .int .i64 t.y0, .int .i64 t.step, .int .i64 t.nx, .int .i64 t.ny, .slice A t.cells.length cap] 28
  cases e1 : gridOk t
  · rw [e1] at c1
    have hfin : Hid (tableOk t = false) := by simp [Hid, tableOk, e1]
    go_enter Try.func77, Try.ntmps77
    go_wp2_with (fail)
    refine (c1 _).mono ?_
    rintro e w1 ⟨rfl, hb1⟩
    go_wp2
    go_ret
    refine ⟨ret_bool (by rw [hfin.out]), ?_⟩
    repeat (first | (with_reducible exact Below.refl _ _) | (with_reducible assumption) | (with_reducible refine below_al ?_ _) | (with_reducible refine Below.drew ?_) | (with_reducible refine below_drewN ?_ _) | (with_reducible refine below_st ?_ ?_ _) | (with_reducible refine below_tr ?_ (by assumption)) | (with_reducible exact Nat.le_refl _) | (focus (simp; done)) | (focus (simp; omega)))
  · rw [e1] at c1
    obtain ⟨_, _, _, g4, g5, g6, _, _⟩ := gridOk_iff.1 e1
    obtain ⟨m1, m2⟩ := mul_bd (A := 100) (B := 100) (a := t.nx) (b := t.ny) (by omega) (by omega)
    by_cases e2 : (t.cells.length : Int) = t.nx * t.ny
    · have hfin : Hid (tableOk t = t.cells.all cellOk) := by simp [Hid, tableOk, e1, e2]
      have e3 : ((t.cells.length : Int) != t.nx * t.ny) = false := by simp [e2]
      have hmm := Lib.hid e2
      clear e2
      go_enter Try.func77, Try.ntmps77
      go_wp2_with (fail)
      refine (c1 _).mono ?_
      rintro e w1 ⟨rfl, hb1⟩
      have H1 := HA.below hb1
      have hbw := below_tr (below_al (Below.refl w.heap.size w) _) hb1
      obtain ⟨cH1_0, fH1_0⟩ := H1.2 0 _ rfl
      obtain ⟨cH1_1, fH1_1⟩ := H1.2 1 _ rfl
      obtain ⟨cH1_2, fH1_2⟩ := H1.2 2 _ rfl
      obtain ⟨cH1_3, fH1_3⟩ := H1.2 3 _ rfl
      obtain ⟨cH1_4, fH1_4⟩ := H1.2 4 _ rfl
      obtain ⟨cH1_5, fH1_5⟩ := H1.2 5 _ rfl
      go_wp2
      go_loopw [4, 22] (fun x i wr => ∃ k : Nat, k ≤ t.cells.length ∧ i = .int .i64 k ∧ (t.cells.take k).all cellOk = true ∧ Below w.heap.size w wr) (fun _ i _ => t.cells.length - (intOf i).toNat)
      case atStart => exact ⟨0, Nat.zero_le _, rfl, rfl, hbw⟩
      case round =>
        obtain ⟨k, hk, rfl, hall, hbr⟩ := hrel
        by_cases hlt : k < t.cells.length
        · obtain ⟨b, off, rfl, hblt, hc⟩ := (hs.below hbr).at_ hlt
          have g0 := hc 0 _ rfl
          have Z1 : cellOk t.cells[k] = false → t.cells.all cellOk = false := fun h => by
            rw [List.all_eq_false]; exact ⟨_, List.getElem_mem hlt, by simp [h]⟩
          have Z2 : cellOk t.cells[k] = true → (t.cells.take (k + 1)).all cellOk = true := fun h => by
            rw [take_succ' t.cells k hlt, List.all_append, hall]; simp [h]
          have Y1 := Lib.hid Z1
          have Y2 := Lib.hid Z2
          clear hc hall Z1 Z2 m1 m2 g4 g5 g6
          simp only [Nat.mul_one, Nat.add_zero] at g0
          generalize t.cells[k] = n at *
          cases q1 : (n == -1000000)
          · have q2 : (n != -1000000) = true := by simp [bne, q1]
            cases q3 : inR n (-1000) 1000
            · go_wp2_with (first | (go_at_call 78; refine (l01In_c _ _ _ _).mono ?_; rintro e w' ⟨rfl, rfl⟩))
              go_ret
              exact ⟨ret_bool (by rw [hfin.out, Y1.out (by simp [cellOk, q1, q3])]), hbr⟩
            · go_wp2_with (first | (go_at_call 78; refine (l01In_c _ _ _ _).mono ?_; rintro e w' ⟨rfl, rfl⟩))
              exact ⟨⟨k + 1, by omega, by go_num, Y2.out (by simp [cellOk, q3]), hbr⟩, by simp [intOf]; omega⟩
          · have q2 : (n != -1000000) = false := by simp [bne, q1]
            go_wp2
            exact ⟨⟨k + 1, by omega, by go_num, Y2.out (by simp [cellOk, q1]), hbr⟩, by simp [intOf]; omega⟩
        · obtain rfl : k = t.cells.length := by omega
          have Y := Lib.hid hall
          clear hall
          go_wp2
          go_ret
          exact ⟨ret_bool (by have := Y.out; rw [List.take_length] at this; rw [hfin.out, this]), hbr⟩
    · have hfin : Hid (tableOk t = false) := by simp [Hid, tableOk, e2]
      have e3 : ((t.cells.length : Int) != t.nx * t.ny) = true := by simp [e2]
      clear e2
      go_enter Try.func77, Try.ntmps77
      go_wp2_with (fail)
      refine (c1 _).mono ?_
      rintro e w1 ⟨rfl, hb1⟩
      have H1 := HA.below hb1
      obtain ⟨cH1_0, fH1_0⟩ := H1.2 0 _ rfl
      obtain ⟨cH1_1, fH1_1⟩ := H1.2 1 _ rfl
      obtain ⟨cH1_2, fH1_2⟩ := H1.2 2 _ rfl
      obtain ⟨cH1_3, fH1_3⟩ := H1.2 3 _ rfl
      obtain ⟨cH1_4, fH1_4⟩ := H1.2 4 _ rfl
      obtain ⟨cH1_5, fH1_5⟩ := H1.2 5 _ rfl
      go_wp2
      go_ret
      refine ⟨ret_bool (by rw [hfin.out]), ?_⟩
      repeat (first | (with_reducible exact Below.refl _ _) | (with_reducible assumption) | (with_reducible refine below_al ?_ _) | (with_reducible refine Below.drew ?_) | (with_reducible refine below_drewN ?_ _) | (with_reducible refine below_st ?_ ?_ _) | (with_reducible refine below_tr ?_ (by assumption)) | (with_reducible exact Nat.le_refl _) | (focus (simp; done)) | (focus (simp; omega)))
end Go.Proofs.Ytbdihgcjopbnjaa
end

section
namespace Go.Proofs.Ytbdihgcjopbnjaa
open Go.RowKit

theorem New.low {α : Type} {T sz : Nat} {enc : α → List Value} {w : World} {base : Nat} {v : Value} {xs : List α} (h : New T sz enc w base v xs) {p : Addr} (hp : p.block < base) (u : Value) : New T sz enc (w.setCell p u) base v xs := by
  obtain ⟨A, cap, rfl, ho⟩ := h
  exact ⟨A, cap, rfl, ownsRow_setCell_below ho hp u⟩

theorem szIntS_c (A : Option Addr) (n cap : Nat) (left : Int) (w : World) (hn : n ≤ 9223372036854775807) (h0 : 0 ≤ left) (h1 : left ≤ 1048576) :
    Calls Try.prog 76 #[.slice A n cap, .int .i64 left] w fun e w' => e = .returned (.int .i64 (if left - n < 0 then -1 else left - n)) ∧ w = w' := by
  by_cases h : left - n < 0
  all_goals
    go_enter Try.func76, Try.ntmps76
    go_wp2
    go_ret
    exact ⟨ret_int (by simp), rfl⟩

theorem szTable_c (t : Tab) (A : Option Addr) (cap : Nat) (left : Int) (w : World) (hn : t.cells.length ≤ 9223372036854775807) (h0 : 0 ≤ left) (h1 : left ≤ 1048576) :
    Calls Try.prog 13 #[tabV t A cap, .int .i64 left] w fun e w' => e = .returned (.int .i64 (if left - t.cells.length < 0 then -1 else left - t.cells.length)) ∧ Below w.heap.size w w' := by
  have c1 := fun W => szIntS_c A t.cells.length cap left W hn h0 h1
  by_cases h : left - t.cells.length < 0
  · rw [if_pos h] at c1
    rw [if_pos h]
    go_enter Try.func13, Try.ntmps13
    go_wp2_with (fail)
    refine (c1 _).mono ?_
    rintro e w' ⟨rfl, rfl⟩
    go_wp2
    go_ret
    refine ⟨rfl, ?_⟩
    repeat (first | (with_reducible exact Below.refl _ _) | (with_reducible assumption) | (with_reducible refine below_al ?_ _) | (with_reducible refine Below.drew ?_) | (with_reducible refine below_drewN ?_ _) | (with_reducible refine below_st ?_ ?_ _) | (with_reducible refine below_tr ?_ (by assumption)) | (with_reducible exact Nat.le_refl _) | (focus (simp; done)) | (focus (simp; omega)))
  · rw [if_neg h] at c1
    rw [if_neg h]
    go_enter Try.func13, Try.ntmps13
    go_wp2_with (fail)
    refine (c1 _).mono ?_
    rintro e w' ⟨rfl, rfl⟩
    go_wp2
    go_ret
    refine ⟨rfl, ?_⟩
    repeat (first | (with_reducible exact Below.refl _ _) | (with_reducible assumption) | (with_reducible refine below_al ?_ _) | (with_reducible refine Below.drew ?_) | (with_reducible refine below_drewN ?_ _) | (with_reducible refine below_st ?_ ?_ _) | (with_reducible refine below_tr ?_ (by assumption)) | (with_reducible exact Nat.le_refl _) | (focus (simp; done)) | (focus (simp; omega)))

set_option maxRecDepth 100000 in
theorem toIntS_c (A : Option Addr) (xs : List Int) (cap : Nat) (w : World) (hn : xs.length ≤ 1048576) (hs : Sl 1 intC w A xs) :
    Calls Try.prog 80 #[.slice A xs.length cap] w fun e w' => ∃ v, e = .returned v ∧ New 3 1 intC w' w.heap.size v xs ∧ Below w.heap.size w w' := by
  obtain ⟨i0, hi0, hz0, hz1, hz2⟩ := info_parts (show (Try.prog.info? 3).map (fun i => (i.zero, i.size, i.bytes)) = some (some (.int .i64 0), 1, 8) by kernel_rfl)
  have hmk : ∀ W : World, (Instr.makeSlice 22 (.int .i64 (xs.length : Int)) (.int .i64 (xs.length : Int))).run Try.prog W = .ok (.slice (some ⟨W.heap.size, 0, none⟩) xs.length xs.length) (W.alloc (.cells (madeCells #[.int .i64 0] xs.length) 3)) := by
    intro W
    have h := run_make (P := Try.prog) W 22 3 i0 _ Try.underlying22 hi0 hz0 .i64 .i64 (xs.length : Int) (xs.length : Int) (by omega) (by omega) (by rw [hz2]; omega) (by omega)
    rw [hz1] at h
    simpa [Value.cells] using h
  go_enter Try.func80, Try.ntmps80
  go_wp2
  go_loopw [4] (fun i wr => ∃ k : Nat, k ≤ xs.length ∧ i = .int .i64 k ∧ Filled 3 1 intC wr w.heap.size (xs.length * 1) xs k ∧ Below w.heap.size w wr) (fun i _ => xs.length - (intOf i).toNat)
  case atStart => exact ⟨0, Nat.zero_le _, rfl, Filled.start (by simp [madeCells]) (Nat.le_refl _), below_al (Below.refl _ _) _⟩
  case round =>
    obtain ⟨k, hk, rfl, hfill, hbw⟩ := hrel
    by_cases hlt : k < xs.length
    · obtain ⟨b, off, rfl, hblt, hc⟩ := (hs.below hbw).at_ hlt
      have g0 := hc 0 _ rfl
      clear hc
      simp only [Nat.mul_one, Nat.add_zero] at g0
      obtain ⟨u0, c0⟩ := hfill.cell (m := k) (by omega)
      have f0 := hfill.frozen k
      have hst := hfill.stored intC_len hlt (vs := intC xs[k]) rfl
      have hst2 := below_setCells (Nat.le_refl w.heap.size) (intC xs[k]) (k * 1) _ hbw
      rw [Nat.mul_one] at hst hst2
      generalize xs[k] = x at *
      go_wp2
      exact ⟨⟨k + 1, by omega, by go_num, hst, hst2⟩, by simp [intOf]; omega⟩
    · obtain rfl : k = xs.length := by omega
      go_wp2
      go_ret
      exact ⟨_, rfl, hfill.new intC_len (Nat.le_refl _) (by unfold maxLen; omega), hbw⟩

set_option maxRecDepth 100000 in
theorem eqIntS_t (A B : Option Addr) (xs : List Int) (c d : Nat) (w : World) (hn : xs.length ≤ 1048576) (ha : Sl 1 intC w A xs) (hb : Sl 1 intC w B xs) :
    Calls Try.prog 85 #[.slice A xs.length c, .slice B xs.length d] w fun e w' => e = .returned (.bool true) ∧ Below w.heap.size w w' := by
  go_enter Try.func85, Try.ntmps85
  go_wp2
  go_loopw [5] (fun i wr => ∃ k : Nat, k ≤ xs.length ∧ i = .int .i64 k ∧ Below w.heap.size w wr) (fun i _ => xs.length - (intOf i).toNat)
  case atStart => exact ⟨0, Nat.zero_le _, rfl, Below.refl _ _⟩
  case round =>
    obtain ⟨k, hk, rfl, hbw⟩ := hrel
    by_cases hlt : k < xs.length
    · obtain ⟨b, off, rfl, hblt, hc⟩ := (ha.below hbw).at_ hlt
      obtain ⟨b', off', rfl, hblt', hc'⟩ := (hb.below hbw).at_ hlt
      have g0 := hc 0 _ rfl
      have g1 := hc' 0 _ rfl
      clear hc hc'
      simp only [Nat.mul_one, Nat.add_zero] at g0 g1
      generalize xs[k] = x at *
      have i1 : (0 : Int) ≤ (k : Int) := by omega
      have i2 : (k : Int) < (xs.length : Int) := by omega
      go_wp2
      go_quiet (fail)
      go_wp2
      exact ⟨⟨k + 1, by omega, by go_num, below_drewN hbw _⟩, by simp [intOf]; omega⟩
    · go_wp2
      go_ret
      exact ⟨rfl, hbw⟩

set_option maxHeartbeats 400000 in
theorem toTable_c (t : Tab) (A : Option Addr) (cap : Nat) (w : World) (hn : t.cells.length ≤ 1048576) (hs : Sl 1 intC w A t.cells) :
    Calls Try.prog 15 #[tabV t A cap] w fun e w' => ∃ A' cap', e = .returned (tabV t A' cap') ∧ New 3 1 intC w' w.heap.size (.slice A' t.cells.length cap') t.cells ∧ Below w.heap.size w w' := by
  go_enter Try.func15, Try.ntmps15
  go_wp2_with (fail)
  refine (toIntS_c A t.cells cap _ hn ?hsl).mono ?_
  case hsl =>
    refine hs.below ?_
    repeat (first | (with_reducible exact Below.refl _ _) | (with_reducible assumption) | (with_reducible refine below_al ?_ _) | (with_reducible refine Below.drew ?_) | (with_reducible refine below_drewN ?_ _) | (with_reducible refine below_st ?_ ?_ _) | (with_reducible refine below_tr ?_ (by assumption)) | (with_reducible exact Nat.le_refl _) | (focus (simp; done)) | (focus (simp; omega)))
  rintro e w1 ⟨v1, rfl, N1, hb1⟩
  have hbw := below_tr (below_al (below_al (below_al (Below.refl w.heap.size w) _) _) _) hb1
  have H1 : Has w1 (w.heap.size + 1) [.int .i64 0, .int .i64 0, .int .i64 0, .int .i64 0, .int .i64 0, .slice none 0 0] := by
    refine Has.below ?_ hb1
    have := Has.new (w.alloc (.cells #[.int .i64 t.x0, .int .i64 t.y0, .int .i64 t.step, .int .i64 t.nx, .int .i64 t.ny, .slice A t.cells.length cap] 24)) #[.int .i64 0, .int .i64 0, .int .i64 0, .int .i64 0, .int .i64 0, .slice none 0 0] 28
    simp only [World.size_alloc] at this
    exact this.alloc _
  have H2 : Has w1 (w.heap.size + 1 + 1) [.int .i64 t.x0, .int .i64 t.y0, .int .i64 t.step, .int .i64 t.nx, .int .i64 t.ny, .slice none 0 0] := by
    refine Has.below ?_ hb1
    have := Has.new ((w.alloc (.cells #[.int .i64 t.x0, .int .i64 t.y0, .int .i64 t.step, .int .i64 t.nx, .int .i64 t.ny, .slice A t.cells.length cap] 24)).alloc (.cells #[.int .i64 0, .int .i64 0, .int .i64 0, .int .i64 0, .int .i64 0, .slice none 0 0] 28)) #[.int .i64 t.x0, .int .i64 t.y0, .int .i64 t.step, .int .i64 t.nx, .int .i64 t.ny, .slice none 0 0] 28
    simp only [World.size_alloc] at this
    exact this
  obtain ⟨A1, k1, rfl, hown⟩ := N1
  have N1' : New 3 1 intC w1 (w.heap.size + 1 + 1 + 1) (.slice A1 t.cells.length k1) t.cells := New.mono ⟨A1, k1, rfl, hown⟩ (by simp)
  have hz : w.heap.size + 1 + 1 < w1.heap.size := H2.1
  obtain ⟨cH1_0, fH1_0⟩ := H1.2 0 _ rfl
  obtain ⟨cH1_1, fH1_1⟩ := H1.2 1 _ rfl
  obtain ⟨cH1_2, fH1_2⟩ := H1.2 2 _ rfl
  obtain ⟨cH1_3, fH1_3⟩ := H1.2 3 _ rfl
  obtain ⟨cH1_4, fH1_4⟩ := H1.2 4 _ rfl
  obtain ⟨cH1_5, fH1_5⟩ := H1.2 5 _ rfl
  obtain ⟨cH2_0, fH2_0⟩ := H2.2 0 _ rfl
  obtain ⟨cH2_1, fH2_1⟩ := H2.2 1 _ rfl
  obtain ⟨cH2_2, fH2_2⟩ := H2.2 2 _ rfl
  obtain ⟨cH2_3, fH2_3⟩ := H2.2 3 _ rfl
  obtain ⟨cH2_4, fH2_4⟩ := H2.2 4 _ rfl
  obtain ⟨cH2_5, fH2_5⟩ := H2.2 5 _ rfl
  clear hown hs H1 H2 hb1
  go_wp2
  clear fH1_0 fH1_1 fH1_2 fH1_3 fH1_4 fH1_5 fH2_0 fH2_1 fH2_2 fH2_3 fH2_4 fH2_5 cH2_0 cH2_1 cH2_2 cH2_3 cH2_4 cH2_5
  refine bodyPost_ret (v := .agg #[.int .i64 t.x0, .int .i64 t.y0, .int .i64 t.step, .int .i64 t.nx, .int .i64 t.ny, .slice A1 t.cells.length k1]) (by simp [results, Try.results15, go_sem, cH1_0, cH1_1, cH1_2, cH1_3, cH1_4, cH1_5]) rfl ?_
  refine ⟨A1, k1, rfl, ?_, ?_⟩
  · refine New.mono (base := w.heap.size + 1 + 1 + 1) ?_ (by omega)
    repeat (first | (with_reducible exact N1') | (with_reducible refine New.low ?_ ?_ _) | (focus (simp; done)) | (focus (simp; omega)))
  · repeat (first | (with_reducible exact Below.refl _ _) | (with_reducible assumption) | (with_reducible refine below_al ?_ _) | (with_reducible refine Below.drew ?_) | (with_reducible refine below_drewN ?_ _) | (with_reducible refine below_st ?_ ?_ _) | (with_reducible refine below_tr ?_ (by assumption)) | (with_reducible exact Nat.le_refl _) | (focus (simp; done)) | (focus (simp; omega)))
theorem eqTable_t (t : Tab) (A B : Option Addr) (c d : Nat) (w : World) (hn : t.cells.length ≤ 1048576) (ha : Sl 1 intC w A t.cells) (hb : Sl 1 intC w B t.cells) :
    Calls Try.prog 18 #[tabV t A c, tabV t B d] w fun e w' => e = .returned (.bool true) ∧ Below w.heap.size w w' := by
  go_enter Try.func18, Try.ntmps18
  go_wp2_with (fail)
  refine (eqIntS_t A B t.cells c d _ hn ?ha ?hb).mono ?_
  case ha =>
    refine ha.below ?_
    repeat (first | (with_reducible exact Below.refl _ _) | (with_reducible assumption) | (with_reducible refine below_al ?_ _) | (with_reducible refine Below.drew ?_) | (with_reducible refine below_drewN ?_ _) | (with_reducible refine below_st ?_ ?_ _) | (with_reducible refine below_tr ?_ (by assumption)) | (with_reducible exact Nat.le_refl _) | (focus (simp; done)) | (focus (simp; omega)))
  case hb =>
    refine hb.below ?_
    repeat (first | (with_reducible exact Below.refl _ _) | (with_reducible assumption) | (with_reducible refine below_al ?_ _) | (with_reducible refine Below.drew ?_) | (with_reducible refine below_drewN ?_ _) | (with_reducible refine below_st ?_ ?_ _) | (with_reducible refine below_tr ?_ (by assumption)) | (with_reducible exact Nat.le_refl _) | (focus (simp; done)) | (focus (simp; omega)))
  rintro e w1 ⟨rfl, hb1⟩
  have hbw := below_tr (below_al (below_al (Below.refl w.heap.size w) _) _) hb1
  go_wp2
  go_ret
  exact ⟨rfl, hbw⟩
end Go.Proofs.Ytbdihgcjopbnjaa
end

section
namespace Go.Proofs.Ytbdihgcjopbnjaa
open Go.RowKit

structure RegionNew (w : World) (base : Nat) (x : List Half) (a : SlA) : Prop where
  halves : New 177 3 halfC w base (.slice a.A (List.length x) a.c) x
theorem RegionNew.sl {w : World} {base : Nat} {x : List Half} {a : SlA} (h : RegionNew w base x a) : RegionSl w x a := ⟨h.halves.out halfC_len⟩
theorem RegionNew.below {w w' : World} {base B : Nat} {x : List Half} {a : SlA} (h : RegionNew w base x a) (hb : Below B w w') (hB : w.heap.size ≤ B) : RegionNew w' base x a := ⟨h.halves.below hb hB⟩
theorem RegionNew.mono {w : World} {base base' : Nat} {x : List Half} {a : SlA} (h : RegionNew w base x a) (hb : base' ≤ base) : RegionNew w base' x a := ⟨h.halves.mono hb⟩
theorem RegionNew.low {w : World} {base : Nat} {x : List Half} {a : SlA} (h : RegionNew w base x a) {p : Addr} (hp : p.block < base) (u : Value) : RegionNew (w.setCell p u) base x a := ⟨h.halves.low hp u⟩
theorem RegionNew.blk {w : World} {base : Nat} {x : List Half} {a : SlA} (h : RegionNew w base x a) : Blk base w.heap.size a := h.halves.blk
structure RoomNew (w : World) (base : Nat) (x : Room) (a : RoomA) : Prop where
  map : New 3 1 intC w base (.slice a.map.A (List.length x.map) a.map.c) x.map
  noise : RegionNew w base x.noise a.noise
  limits : RegionNew w base x.limits a.limits
  apart : List.Pairwise Apart [a.map, a.noise, a.limits]
theorem RoomNew.sl {w : World} {base : Nat} {x : Room} {a : RoomA} (h : RoomNew w base x a) : RoomSl w x a := ⟨h.map.out intC_len, h.noise.sl, h.limits.sl⟩
theorem RoomNew.below {w w' : World} {base B : Nat} {x : Room} {a : RoomA} (h : RoomNew w base x a) (hb : Below B w w') (hB : w.heap.size ≤ B) : RoomNew w' base x a := ⟨h.map.below hb hB, h.noise.below hb hB, h.limits.below hb hB, h.apart⟩
theorem RoomNew.mono {w : World} {base base' : Nat} {x : Room} {a : RoomA} (h : RoomNew w base x a) (hb : base' ≤ base) : RoomNew w base' x a := ⟨h.map.mono hb, h.noise.mono hb, h.limits.mono hb, h.apart⟩
theorem RoomNew.low {w : World} {base : Nat} {x : Room} {a : RoomA} (h : RoomNew w base x a) {p : Addr} (hp : p.block < base) (u : Value) : RoomNew (w.setCell p u) base x a := ⟨h.map.low hp u, h.noise.low hp u, h.limits.low hp u, h.apart⟩
theorem RoomNew.blk {w : World} {base : Nat} {x : Room} {a : RoomA} (h : RoomNew w base x a) : Blk base w.heap.size a.map ∧ Blk base w.heap.size a.noise ∧ Blk base w.heap.size a.limits := ⟨h.map.blk, h.noise.blk, h.limits.blk⟩
structure WatchNew (w : World) (base : Nat) (x : Watch) (a : WatchA) : Prop where
  room : RoomNew w base x.room a.room
  reg : RegionNew w base x.reg a.reg
  log : New 3 1 intC w base (.slice a.log.A (List.length x.log) a.log.c) x.log
  apart : List.Pairwise Apart [a.room.map, a.room.noise, a.room.limits, a.reg, a.log]
theorem WatchNew.sl {w : World} {base : Nat} {x : Watch} {a : WatchA} (h : WatchNew w base x a) : WatchSl w x a := ⟨h.room.sl, h.reg.sl, h.log.out intC_len⟩
theorem WatchNew.below {w w' : World} {base B : Nat} {x : Watch} {a : WatchA} (h : WatchNew w base x a) (hb : Below B w w') (hB : w.heap.size ≤ B) : WatchNew w' base x a := ⟨h.room.below hb hB, h.reg.below hb hB, h.log.below hb hB, h.apart⟩
theorem WatchNew.mono {w : World} {base base' : Nat} {x : Watch} {a : WatchA} (h : WatchNew w base x a) (hb : base' ≤ base) : WatchNew w base' x a := ⟨h.room.mono hb, h.reg.mono hb, h.log.mono hb, h.apart⟩
theorem WatchNew.low {w : World} {base : Nat} {x : Watch} {a : WatchA} (h : WatchNew w base x a) {p : Addr} (hp : p.block < base) (u : Value) : WatchNew (w.setCell p u) base x a := ⟨h.room.low hp u, h.reg.low hp u, h.log.low hp u, h.apart⟩
theorem WatchNew.blk {w : World} {base : Nat} {x : Watch} {a : WatchA} (h : WatchNew w base x a) : Blk base w.heap.size a.room.map ∧ Blk base w.heap.size a.room.noise ∧ Blk base w.heap.size a.room.limits ∧ Blk base w.heap.size a.reg ∧ Blk base w.heap.size a.log := ⟨h.room.blk.1, h.room.blk.2.1, h.room.blk.2.2, h.reg.blk, h.log.blk⟩
structure TrackNew (w : World) (base : Nat) (x : Track) (a : TrackA) : Prop where
  spots : New 65 3 spotC w base (.slice a.spots.A (List.length x.spots) a.spots.c) x.spots
  inputs : New 41 2 ratioC w base (.slice a.inputs.A (List.length x.inputs) a.inputs.c) x.inputs
  apart : List.Pairwise Apart [a.spots, a.inputs]
theorem TrackNew.sl {w : World} {base : Nat} {x : Track} {a : TrackA} (h : TrackNew w base x a) : TrackSl w x a := ⟨h.spots.out spotC_len, h.inputs.out ratioC_len⟩
theorem TrackNew.below {w w' : World} {base B : Nat} {x : Track} {a : TrackA} (h : TrackNew w base x a) (hb : Below B w w') (hB : w.heap.size ≤ B) : TrackNew w' base x a := ⟨h.spots.below hb hB, h.inputs.below hb hB, h.apart⟩
theorem TrackNew.mono {w : World} {base base' : Nat} {x : Track} {a : TrackA} (h : TrackNew w base x a) (hb : base' ≤ base) : TrackNew w base' x a := ⟨h.spots.mono hb, h.inputs.mono hb, h.apart⟩
theorem TrackNew.low {w : World} {base : Nat} {x : Track} {a : TrackA} (h : TrackNew w base x a) {p : Addr} (hp : p.block < base) (u : Value) : TrackNew (w.setCell p u) base x a := ⟨h.spots.low hp u, h.inputs.low hp u, h.apart⟩
theorem TrackNew.blk {w : World} {base : Nat} {x : Track} {a : TrackA} (h : TrackNew w base x a) : Blk base w.heap.size a.spots ∧ Blk base w.heap.size a.inputs := ⟨h.spots.blk, h.inputs.blk⟩
structure LawNew (w : World) (base : Nat) (x : Law) (a : LawA) : Prop where
  lows : New 193 4 pieceC w base (.slice a.lows.A (List.length x.lows) a.lows.c) x.lows
  highs : New 193 4 pieceC w base (.slice a.highs.A (List.length x.highs) a.highs.c) x.highs
  apart : List.Pairwise Apart [a.lows, a.highs]
theorem LawNew.sl {w : World} {base : Nat} {x : Law} {a : LawA} (h : LawNew w base x a) : LawSl w x a := ⟨h.lows.out pieceC_len, h.highs.out pieceC_len⟩
theorem LawNew.below {w w' : World} {base B : Nat} {x : Law} {a : LawA} (h : LawNew w base x a) (hb : Below B w w') (hB : w.heap.size ≤ B) : LawNew w' base x a := ⟨h.lows.below hb hB, h.highs.below hb hB, h.apart⟩
theorem LawNew.mono {w : World} {base base' : Nat} {x : Law} {a : LawA} (h : LawNew w base x a) (hb : base' ≤ base) : LawNew w base' x a := ⟨h.lows.mono hb, h.highs.mono hb, h.apart⟩
theorem LawNew.low {w : World} {base : Nat} {x : Law} {a : LawA} (h : LawNew w base x a) {p : Addr} (hp : p.block < base) (u : Value) : LawNew (w.setCell p u) base x a := ⟨h.lows.low hp u, h.highs.low hp u, h.apart⟩
theorem LawNew.blk {w : World} {base : Nat} {x : Law} {a : LawA} (h : LawNew w base x a) : Blk base w.heap.size a.lows ∧ Blk base w.heap.size a.highs := ⟨h.lows.blk, h.highs.blk⟩
end Go.Proofs.Ytbdihgcjopbnjaa
end

section
namespace Go.Proofs.Ytbdihgcjopbnjaa
open Go.RowKit

theorem toRatio_c (x : Ratio) (w : World) :
    Calls Try.prog 156 #[ratioV x] w fun e w' => e = .returned (ratioV x) ∧ Below w.heap.size w w' := by
  go_enter Try.func156, Try.ntmps156
  go_wp2
  refine bodyPost_ret (v := .agg #[.int .i64 x.n, .int .i64 x.d]) (by simp [results, Try.results156, go_sem]) rfl ⟨rfl, ?_⟩
  repeat (first | (with_reducible exact Below.refl _ _) | (with_reducible assumption) | (with_reducible refine below_al ?_ _) | (with_reducible refine Below.drew ?_) | (with_reducible refine below_drewN ?_ _) | (with_reducible refine below_st ?_ ?_ _) | (with_reducible refine below_tr ?_ (by assumption)) | (with_reducible exact Nat.le_refl _) | (focus (simp; done)) | (focus (simp; omega)))

theorem eqRatio_t (x : Ratio) (w : World) :
    Calls Try.prog 26 #[ratioV x, ratioV x] w fun e w' => e = .returned (.bool true) ∧ Below w.heap.size w w' := by
  go_enter Try.func26, Try.ntmps26
  go_wp2
  go_ret
  refine ⟨rfl, ?_⟩
  repeat (first | (with_reducible exact Below.refl _ _) | (with_reducible assumption) | (with_reducible refine below_al ?_ _) | (with_reducible refine Below.drew ?_) | (with_reducible refine below_drewN ?_ _) | (with_reducible refine below_st ?_ ?_ _) | (with_reducible refine below_tr ?_ (by assumption)) | (with_reducible exact Nat.le_refl _) | (focus (simp; done)) | (focus (simp; omega)))

theorem toSpot_c (x : Spot) (w : World) :
    Calls Try.prog 31 #[spotV x] w fun e w' => e = .returned (spotV x) ∧ Below w.heap.size w w' := by
  go_enter Try.func31, Try.ntmps31
  go_wp2
  refine bodyPost_ret (v := .agg #[.int .i64 x.x, .int .i64 x.y, .int .i64 x.d]) (by simp [results, Try.results31, go_sem]) rfl ⟨rfl, ?_⟩
  repeat (first | (with_reducible exact Below.refl _ _) | (with_reducible assumption) | (with_reducible refine below_al ?_ _) | (with_reducible refine Below.drew ?_) | (with_reducible refine below_drewN ?_ _) | (with_reducible refine below_st ?_ ?_ _) | (with_reducible refine below_tr ?_ (by assumption)) | (with_reducible exact Nat.le_refl _) | (focus (simp; done)) | (focus (simp; omega)))

theorem eqSpot_t (x : Spot) (w : World) :
    Calls Try.prog 84 #[spotV x, spotV x] w fun e w' => e = .returned (.bool true) ∧ Below w.heap.size w w' := by
  go_enter Try.func84, Try.ntmps84
  go_wp2
  go_ret
  refine ⟨rfl, ?_⟩
  repeat (first | (with_reducible exact Below.refl _ _) | (with_reducible assumption) | (with_reducible refine below_al ?_ _) | (with_reducible refine Below.drew ?_) | (with_reducible refine below_drewN ?_ _) | (with_reducible refine below_st ?_ ?_ _) | (with_reducible refine below_tr ?_ (by assumption)) | (with_reducible exact Nat.le_refl _) | (focus (simp; done)) | (focus (simp; omega)))

theorem toHalf_c (x : Half) (w : World) :
    Calls Try.prog 217 #[halfV x] w fun e w' => e = .returned (halfV x) ∧ Below w.heap.size w w' := by
  go_enter Try.func217, Try.ntmps217
  go_wp2
  refine bodyPost_ret (v := .agg #[.int .i64 x.a, .int .i64 x.b, .int .i64 x.c]) (by simp [results, Try.results217, go_sem]) rfl ⟨rfl, ?_⟩
  repeat (first | (with_reducible exact Below.refl _ _) | (with_reducible assumption) | (with_reducible refine below_al ?_ _) | (with_reducible refine Below.drew ?_) | (with_reducible refine below_drewN ?_ _) | (with_reducible refine below_st ?_ ?_ _) | (with_reducible refine below_tr ?_ (by assumption)) | (with_reducible exact Nat.le_refl _) | (focus (simp; done)) | (focus (simp; omega)))

theorem eqHalf_t (x : Half) (w : World) :
    Calls Try.prog 180 #[halfV x, halfV x] w fun e w' => e = .returned (.bool true) ∧ Below w.heap.size w w' := by
  go_enter Try.func180, Try.ntmps180
  go_wp2
  go_ret
  refine ⟨rfl, ?_⟩
  repeat (first | (with_reducible exact Below.refl _ _) | (with_reducible assumption) | (with_reducible refine below_al ?_ _) | (with_reducible refine Below.drew ?_) | (with_reducible refine below_drewN ?_ _) | (with_reducible refine below_st ?_ ?_ _) | (with_reducible refine below_tr ?_ (by assumption)) | (with_reducible exact Nat.le_refl _) | (focus (simp; done)) | (focus (simp; omega)))

theorem toPiece_c (x : Piece) (w : World) :
    Calls Try.prog 160 #[pieceV x] w fun e w' => e = .returned (pieceV x) ∧ Below w.heap.size w w' := by
  go_enter Try.func160, Try.ntmps160
  go_wp2
  refine bodyPost_ret (v := .agg #[.int .i64 x.a, .int .i64 x.b, .int .i64 x.c, .int .i64 x.d]) (by simp [results, Try.results160, go_sem]) rfl ⟨rfl, ?_⟩
  repeat (first | (with_reducible exact Below.refl _ _) | (with_reducible assumption) | (with_reducible refine below_al ?_ _) | (with_reducible refine Below.drew ?_) | (with_reducible refine below_drewN ?_ _) | (with_reducible refine below_st ?_ ?_ _) | (with_reducible refine below_tr ?_ (by assumption)) | (with_reducible exact Nat.le_refl _) | (focus (simp; done)) | (focus (simp; omega)))

theorem eqPiece_t (x : Piece) (w : World) :
    Calls Try.prog 163 #[pieceV x, pieceV x] w fun e w' => e = .returned (.bool true) ∧ Below w.heap.size w w' := by
  go_enter Try.func163, Try.ntmps163
  go_wp2
  go_ret
  refine ⟨rfl, ?_⟩
  repeat (first | (with_reducible exact Below.refl _ _) | (with_reducible assumption) | (with_reducible refine below_al ?_ _) | (with_reducible refine Below.drew ?_) | (with_reducible refine below_drewN ?_ _) | (with_reducible refine below_st ?_ ?_ _) | (with_reducible refine below_tr ?_ (by assumption)) | (with_reducible exact Nat.le_refl _) | (focus (simp; done)) | (focus (simp; omega)))

theorem toMode_c (x : Mode) (w : World) :
    Calls Try.prog 72 #[modeV x] w fun e w' => e = .returned (modeV x) ∧ Below w.heap.size w w' := by
  go_enter Try.func72, Try.ntmps72
  go_wp2
  refine bodyPost_ret (v := .agg #[.int .i64 x.low, .int .i64 x.high]) (by simp [results, Try.results72, go_sem]) rfl ⟨rfl, ?_⟩
  repeat (first | (with_reducible exact Below.refl _ _) | (with_reducible assumption) | (with_reducible refine below_al ?_ _) | (with_reducible refine Below.drew ?_) | (with_reducible refine below_drewN ?_ _) | (with_reducible refine below_st ?_ ?_ _) | (with_reducible refine below_tr ?_ (by assumption)) | (with_reducible exact Nat.le_refl _) | (focus (simp; done)) | (focus (simp; omega)))

theorem eqMode_t (x : Mode) (w : World) :
    Calls Try.prog 145 #[modeV x, modeV x] w fun e w' => e = .returned (.bool true) ∧ Below w.heap.size w w' := by
  go_enter Try.func145, Try.ntmps145
  go_wp2
  go_ret
  refine ⟨rfl, ?_⟩
  repeat (first | (with_reducible exact Below.refl _ _) | (with_reducible assumption) | (with_reducible refine below_al ?_ _) | (with_reducible refine Below.drew ?_) | (with_reducible refine below_drewN ?_ _) | (with_reducible refine below_st ?_ ?_ _) | (with_reducible refine below_tr ?_ (by assumption)) | (with_reducible exact Nat.le_refl _) | (focus (simp; done)) | (focus (simp; omega)))

theorem toRecord_c (x : Record) (w : World) :
    Calls Try.prog 55 #[recordV x] w fun e w' => e = .returned (recordV x) ∧ Below w.heap.size w w' := by
  go_enter Try.func55, Try.ntmps55
  go_wp2
  refine bodyPost_ret (v := .agg #[.int .i64 x.before, .int .i64 x.input, .int .i64 x.after]) (by simp [results, Try.results55, go_sem]) rfl ⟨rfl, ?_⟩
  repeat (first | (with_reducible exact Below.refl _ _) | (with_reducible assumption) | (with_reducible refine below_al ?_ _) | (with_reducible refine Below.drew ?_) | (with_reducible refine below_drewN ?_ _) | (with_reducible refine below_st ?_ ?_ _) | (with_reducible refine below_tr ?_ (by assumption)) | (with_reducible exact Nat.le_refl _) | (focus (simp; done)) | (focus (simp; omega)))

theorem eqRecord_t (x : Record) (w : World) :
    Calls Try.prog 134 #[recordV x, recordV x] w fun e w' => e = .returned (.bool true) ∧ Below w.heap.size w w' := by
  go_enter Try.func134, Try.ntmps134
  go_wp2
  go_ret
  refine ⟨rfl, ?_⟩
  repeat (first | (with_reducible exact Below.refl _ _) | (with_reducible assumption) | (with_reducible refine below_al ?_ _) | (with_reducible refine Below.drew ?_) | (with_reducible refine below_drewN ?_ _) | (with_reducible refine below_st ?_ ?_ _) | (with_reducible refine below_tr ?_ (by assumption)) | (with_reducible exact Nat.le_refl _) | (focus (simp; done)) | (focus (simp; omega)))

end Go.Proofs.Ytbdihgcjopbnjaa
end

section
namespace Go.Proofs.Ytbdihgcjopbnjaa
open Go.RowKit

theorem szRatioS_c (A : Option Addr) (n cap : Nat) (left : Int) (w : World) (hn : n ≤ 9223372036854775807) (h0 : 0 ≤ left) (h1 : left ≤ 1048576) :
    Calls Try.prog 88 #[.slice A n cap, .int .i64 left] w fun e w' => e = .returned (.int .i64 (if left - n < 0 then -1 else left - n)) ∧ w = w' := by
  by_cases h : left - n < 0
  all_goals
    go_enter Try.func88, Try.ntmps88
    go_wp2
    go_ret
    exact ⟨ret_int (by simp), rfl⟩

set_option maxRecDepth 100000 in
theorem eqRatioS_t (A B : Option Addr) (xs : List Ratio) (c d : Nat) (w : World) (hn : xs.length ≤ 1048576) (ha : Sl 2 ratioC w A xs) (hb : Sl 2 ratioC w B xs) :
    Calls Try.prog 97 #[.slice A xs.length c, .slice B xs.length d] w fun e w' => e = .returned (.bool true) ∧ Below w.heap.size w w' := by
  go_enter Try.func97, Try.ntmps97
  go_wp2
  go_loopw [5] (fun i wr => ∃ k : Nat, k ≤ xs.length ∧ i = .int .i64 k ∧ Below w.heap.size w wr) (fun i _ => xs.length - (intOf i).toNat)
  case atStart => exact ⟨0, Nat.zero_le _, rfl, Below.refl _ _⟩
  case round =>
    obtain ⟨k, hk, rfl, hbw⟩ := hrel
    by_cases hlt : k < xs.length
    · obtain ⟨b, off, rfl, hblt, hc⟩ := (ha.below hbw).at_ hlt
      obtain ⟨b', off', rfl, hblt', hc'⟩ := (hb.below hbw).at_ hlt
      have g0 := hc 0 _ rfl
      have g1 := hc 1 _ rfl
      have g0' := hc' 0 _ rfl
      have g1' := hc' 1 _ rfl
      clear hc hc'
      simp only [Nat.add_zero] at g0 g0'
      generalize xs[k] = x at *
      go_wp2
      go_still_tail 8, (by kernel_rfl)
      change wpList _ _ _ _ _ wr.drew
      generalize hwr : wr.drew = w2
      have hb2 : Below w.heap.size w w2 := by rw [← hwr]; exact hbw.drew
      clear hwr
      go_wp2_with (fail)
      refine (eqRatio_t x _).mono ?_
      rintro e w1 ⟨rfl, hb1⟩
      go_wp2
      go_roundw
      case rel => exact ⟨k + 1, by omega, by go_num, hb2.trans (hb1.mono hb2.size)⟩
      case measure => simp [intOf]; omega
    · go_wp2
      go_ret
      exact ⟨rfl, hbw⟩

set_option maxRecDepth 100000 in
theorem toRatioS_c (A : Option Addr) (xs : List Ratio) (cap : Nat) (w : World) (hn : xs.length ≤ 1048576) (hs : Sl 2 ratioC w A xs) :
    Calls Try.prog 93 #[.slice A xs.length cap] w fun e w' => ∃ v, e = .returned v ∧ New 41 2 ratioC w' w.heap.size v xs ∧ Below w.heap.size w w' := by
  obtain ⟨i0, hi0, hz0, hz1, hz2⟩ := info_parts (show (Try.prog.info? 41).map (fun i => (i.zero, i.size, i.bytes)) = some (some (.agg #[.int .i64 0, .int .i64 0]), 2, 16) by kernel_rfl)
  have hmk : ∀ W : World, (Instr.makeSlice 44 (.int .i64 (xs.length : Int)) (.int .i64 (xs.length : Int))).run Try.prog W = .ok (.slice (some ⟨W.heap.size, 0, none⟩) xs.length xs.length) (W.alloc (.cells (madeCells #[.int .i64 0, .int .i64 0] (xs.length * 2)) 41)) := by
    intro W
    have h := run_make (P := Try.prog) W 44 41 i0 _ Try.underlying44 hi0 hz0 .i64 .i64 (xs.length : Int) (xs.length : Int) (by omega) (by omega) (by rw [hz2]; omega) (by omega)
    rw [hz1] at h
    simpa [Value.cells] using h
  go_enter Try.func93, Try.ntmps93
  go_wp2
  go_loopw [4] (fun i wr => ∃ k : Nat, k ≤ xs.length ∧ i = .int .i64 k ∧ Filled 41 2 ratioC wr w.heap.size (xs.length * 2) xs k ∧ Below w.heap.size w wr) (fun i _ => xs.length - (intOf i).toNat)
  case atStart => exact ⟨0, Nat.zero_le _, rfl, Filled.start (by simp [madeCells]) (Nat.le_refl _), below_al (Below.refl _ _) _⟩
  case round =>
    obtain ⟨k, hk, rfl, hfill, hbw⟩ := hrel
    by_cases hlt : k < xs.length
    · obtain ⟨b, off, rfl, hblt, hc⟩ := (hs.below hbw).at_ hlt
      have g0 := hc 0 _ rfl
      have g1 := hc 1 _ rfl
      clear hc
      simp only [Nat.add_zero] at g0
      have hx : xs[k] = xs[k] := rfl
      generalize hxx : xs[k] = x at *
      have HX := Lib.hid hxx
      clear hxx hx
      go_wp2_with (fail)
      refine (toRatio_c x _).mono ?_
      rintro e w1 ⟨rfl, hb1⟩
      have hfill1 := hfill.below hb1
      have hbw1 := below_tr hbw hb1
      have hm := Nat.mul_le_mul_right 2 hlt
      obtain ⟨u0, c0⟩ := hfill1.cell (m := k * 2) (by omega)
      have f0 := hfill1.frozen (k * 2)
      obtain ⟨u1, c1⟩ := hfill1.cell (m := k * 2 + 1) (by omega)
      have f1 := hfill1.frozen (k * 2 + 1)
      clear hm
      have hst := hfill1.stored ratioC_len hlt (vs := ratioC x) (by rw [HX.out])
      have hst2 := below_setCells (Nat.le_refl w.heap.size) (ratioC x) (k * 2) _ hbw1
      go_wp2
      exact ⟨⟨k + 1, by omega, by go_num, hst, hst2⟩, by simp [intOf]; omega⟩
    · obtain rfl : k = xs.length := by omega
      go_wp2
      go_ret
      exact ⟨_, rfl, hfill.new ratioC_len (Nat.le_refl _) (by unfold maxLen; omega), hbw⟩

theorem szSpotS_c (A : Option Addr) (n cap : Nat) (left : Int) (w : World) (hn : n ≤ 9223372036854775807) (h0 : 0 ≤ left) (h1 : left ≤ 1048576) :
    Calls Try.prog 87 #[.slice A n cap, .int .i64 left] w fun e w' => e = .returned (.int .i64 (if left - n < 0 then -1 else left - n)) ∧ w = w' := by
  by_cases h : left - n < 0
  all_goals
    go_enter Try.func87, Try.ntmps87
    go_wp2
    go_ret
    exact ⟨ret_int (by simp), rfl⟩

set_option maxRecDepth 100000 in
theorem eqSpotS_t (A B : Option Addr) (xs : List Spot) (c d : Nat) (w : World) (hn : xs.length ≤ 1048576) (ha : Sl 3 spotC w A xs) (hb : Sl 3 spotC w B xs) :
    Calls Try.prog 17 #[.slice A xs.length c, .slice B xs.length d] w fun e w' => e = .returned (.bool true) ∧ Below w.heap.size w w' := by
  go_enter Try.func17, Try.ntmps17
  go_wp2
  go_loopw [5] (fun i wr => ∃ k : Nat, k ≤ xs.length ∧ i = .int .i64 k ∧ Below w.heap.size w wr) (fun i _ => xs.length - (intOf i).toNat)
  case atStart => exact ⟨0, Nat.zero_le _, rfl, Below.refl _ _⟩
  case round =>
    obtain ⟨k, hk, rfl, hbw⟩ := hrel
    by_cases hlt : k < xs.length
    · obtain ⟨b, off, rfl, hblt, hc⟩ := (ha.below hbw).at_ hlt
      obtain ⟨b', off', rfl, hblt', hc'⟩ := (hb.below hbw).at_ hlt
      have g0 := hc 0 _ rfl
      have g1 := hc 1 _ rfl
      have g2 := hc 2 _ rfl
      have g0' := hc' 0 _ rfl
      have g1' := hc' 1 _ rfl
      have g2' := hc' 2 _ rfl
      clear hc hc'
      simp only [Nat.add_zero] at g0 g0'
      generalize xs[k] = x at *
      go_wp2
      go_still_tail 8, (by kernel_rfl)
      change wpList _ _ _ _ _ wr.drew
      generalize hwr : wr.drew = w2
      have hb2 : Below w.heap.size w w2 := by rw [← hwr]; exact hbw.drew
      clear hwr
      go_wp2_with (fail)
      refine (eqSpot_t x _).mono ?_
      rintro e w1 ⟨rfl, hb1⟩
      go_wp2
      go_roundw
      case rel => exact ⟨k + 1, by omega, by go_num, hb2.trans (hb1.mono hb2.size)⟩
      case measure => simp [intOf]; omega
    · go_wp2
      go_ret
      exact ⟨rfl, hbw⟩

set_option maxRecDepth 100000 in
theorem toSpotS_c (A : Option Addr) (xs : List Spot) (cap : Nat) (w : World) (hn : xs.length ≤ 1048576) (hs : Sl 3 spotC w A xs) :
    Calls Try.prog 92 #[.slice A xs.length cap] w fun e w' => ∃ v, e = .returned v ∧ New 65 3 spotC w' w.heap.size v xs ∧ Below w.heap.size w w' := by
  obtain ⟨i0, hi0, hz0, hz1, hz2⟩ := info_parts (show (Try.prog.info? 65).map (fun i => (i.zero, i.size, i.bytes)) = some (some (.agg #[.int .i64 0, .int .i64 0, .int .i64 0]), 3, 24) by kernel_rfl)
  have hmk : ∀ W : World, (Instr.makeSlice 26 (.int .i64 (xs.length : Int)) (.int .i64 (xs.length : Int))).run Try.prog W = .ok (.slice (some ⟨W.heap.size, 0, none⟩) xs.length xs.length) (W.alloc (.cells (madeCells #[.int .i64 0, .int .i64 0, .int .i64 0] (xs.length * 3)) 65)) := by
    intro W
    have h := run_make (P := Try.prog) W 26 65 i0 _ Try.underlying26 hi0 hz0 .i64 .i64 (xs.length : Int) (xs.length : Int) (by omega) (by omega) (by rw [hz2]; omega) (by omega)
    rw [hz1] at h
    simpa [Value.cells] using h
  go_enter Try.func92, Try.ntmps92
  go_wp2
  go_loopw [4] (fun i wr => ∃ k : Nat, k ≤ xs.length ∧ i = .int .i64 k ∧ Filled 65 3 spotC wr w.heap.size (xs.length * 3) xs k ∧ Below w.heap.size w wr) (fun i _ => xs.length - (intOf i).toNat)
  case atStart => exact ⟨0, Nat.zero_le _, rfl, Filled.start (by simp [madeCells]) (Nat.le_refl _), below_al (Below.refl _ _) _⟩
  case round =>
    obtain ⟨k, hk, rfl, hfill, hbw⟩ := hrel
    by_cases hlt : k < xs.length
    · obtain ⟨b, off, rfl, hblt, hc⟩ := (hs.below hbw).at_ hlt
      have g0 := hc 0 _ rfl
      have g1 := hc 1 _ rfl
      have g2 := hc 2 _ rfl
      clear hc
      simp only [Nat.add_zero] at g0
      have hx : xs[k] = xs[k] := rfl
      generalize hxx : xs[k] = x at *
      have HX := Lib.hid hxx
      clear hxx hx
      go_wp2_with (fail)
      refine (toSpot_c x _).mono ?_
      rintro e w1 ⟨rfl, hb1⟩
      have hfill1 := hfill.below hb1
      have hbw1 := below_tr hbw hb1
      have hm := Nat.mul_le_mul_right 3 hlt
      obtain ⟨u0, c0⟩ := hfill1.cell (m := k * 3) (by omega)
      have f0 := hfill1.frozen (k * 3)
      obtain ⟨u1, c1⟩ := hfill1.cell (m := k * 3 + 1) (by omega)
      have f1 := hfill1.frozen (k * 3 + 1)
      obtain ⟨u2, c2⟩ := hfill1.cell (m := k * 3 + 2) (by omega)
      have f2 := hfill1.frozen (k * 3 + 2)
      clear hm
      have hst := hfill1.stored spotC_len hlt (vs := spotC x) (by rw [HX.out])
      have hst2 := below_setCells (Nat.le_refl w.heap.size) (spotC x) (k * 3) _ hbw1
      go_wp2
      exact ⟨⟨k + 1, by omega, by go_num, hst, hst2⟩, by simp [intOf]; omega⟩
    · obtain rfl : k = xs.length := by omega
      go_wp2
      go_ret
      exact ⟨_, rfl, hfill.new spotC_len (Nat.le_refl _) (by unfold maxLen; omega), hbw⟩

theorem szHalfS_c (A : Option Addr) (n cap : Nat) (left : Int) (w : World) (hn : n ≤ 9223372036854775807) (h0 : 0 ≤ left) (h1 : left ≤ 1048576) :
    Calls Try.prog 181 #[.slice A n cap, .int .i64 left] w fun e w' => e = .returned (.int .i64 (if left - n < 0 then -1 else left - n)) ∧ w = w' := by
  by_cases h : left - n < 0
  all_goals
    go_enter Try.func181, Try.ntmps181
    go_wp2
    go_ret
    exact ⟨ret_int (by simp), rfl⟩

set_option maxRecDepth 100000 in
theorem eqHalfS_t (A B : Option Addr) (xs : List Half) (c d : Nat) (w : World) (hn : xs.length ≤ 1048576) (ha : Sl 3 halfC w A xs) (hb : Sl 3 halfC w B xs) :
    Calls Try.prog 138 #[.slice A xs.length c, .slice B xs.length d] w fun e w' => e = .returned (.bool true) ∧ Below w.heap.size w w' := by
  go_enter Try.func138, Try.ntmps138
  go_wp2
  go_loopw [5] (fun i wr => ∃ k : Nat, k ≤ xs.length ∧ i = .int .i64 k ∧ Below w.heap.size w wr) (fun i _ => xs.length - (intOf i).toNat)
  case atStart => exact ⟨0, Nat.zero_le _, rfl, Below.refl _ _⟩
  case round =>
    obtain ⟨k, hk, rfl, hbw⟩ := hrel
    by_cases hlt : k < xs.length
    · obtain ⟨b, off, rfl, hblt, hc⟩ := (ha.below hbw).at_ hlt
      obtain ⟨b', off', rfl, hblt', hc'⟩ := (hb.below hbw).at_ hlt
      have g0 := hc 0 _ rfl
      have g1 := hc 1 _ rfl
      have g2 := hc 2 _ rfl
      have g0' := hc' 0 _ rfl
      have g1' := hc' 1 _ rfl
      have g2' := hc' 2 _ rfl
      clear hc hc'
      simp only [Nat.add_zero] at g0 g0'
      generalize xs[k] = x at *
      go_wp2
      go_still_tail 8, (by kernel_rfl)
      change wpList _ _ _ _ _ wr.drew
      generalize hwr : wr.drew = w2
      have hb2 : Below w.heap.size w w2 := by rw [← hwr]; exact hbw.drew
      clear hwr
      go_wp2_with (fail)
      refine (eqHalf_t x _).mono ?_
      rintro e w1 ⟨rfl, hb1⟩
      go_wp2
      go_roundw
      case rel => exact ⟨k + 1, by omega, by go_num, hb2.trans (hb1.mono hb2.size)⟩
      case measure => simp [intOf]; omega
    · go_wp2
      go_ret
      exact ⟨rfl, hbw⟩

set_option maxRecDepth 100000 in
theorem toHalfS_c (A : Option Addr) (xs : List Half) (cap : Nat) (w : World) (hn : xs.length ≤ 1048576) (hs : Sl 3 halfC w A xs) :
    Calls Try.prog 184 #[.slice A xs.length cap] w fun e w' => ∃ v, e = .returned v ∧ New 177 3 halfC w' w.heap.size v xs ∧ Below w.heap.size w w' := by
  obtain ⟨i0, hi0, hz0, hz1, hz2⟩ := info_parts (show (Try.prog.info? 177).map (fun i => (i.zero, i.size, i.bytes)) = some (some (.agg #[.int .i64 0, .int .i64 0, .int .i64 0]), 3, 24) by kernel_rfl)
  have hmk : ∀ W : World, (Instr.makeSlice 74 (.int .i64 (xs.length : Int)) (.int .i64 (xs.length : Int))).run Try.prog W = .ok (.slice (some ⟨W.heap.size, 0, none⟩) xs.length xs.length) (W.alloc (.cells (madeCells #[.int .i64 0, .int .i64 0, .int .i64 0] (xs.length * 3)) 177)) := by
    intro W
    have h := run_make (P := Try.prog) W 74 177 i0 _ Try.underlying74 hi0 hz0 .i64 .i64 (xs.length : Int) (xs.length : Int) (by omega) (by omega) (by rw [hz2]; omega) (by omega)
    rw [hz1] at h
    simpa [Value.cells] using h
  go_enter Try.func184, Try.ntmps184
  go_wp2
  go_loopw [4] (fun i wr => ∃ k : Nat, k ≤ xs.length ∧ i = .int .i64 k ∧ Filled 177 3 halfC wr w.heap.size (xs.length * 3) xs k ∧ Below w.heap.size w wr) (fun i _ => xs.length - (intOf i).toNat)
  case atStart => exact ⟨0, Nat.zero_le _, rfl, Filled.start (by simp [madeCells]) (Nat.le_refl _), below_al (Below.refl _ _) _⟩
  case round =>
    obtain ⟨k, hk, rfl, hfill, hbw⟩ := hrel
    by_cases hlt : k < xs.length
    · obtain ⟨b, off, rfl, hblt, hc⟩ := (hs.below hbw).at_ hlt
      have g0 := hc 0 _ rfl
      have g1 := hc 1 _ rfl
      have g2 := hc 2 _ rfl
      clear hc
      simp only [Nat.add_zero] at g0
      have hx : xs[k] = xs[k] := rfl
      generalize hxx : xs[k] = x at *
      have HX := Lib.hid hxx
      clear hxx hx
      go_wp2_with (fail)
      refine (toHalf_c x _).mono ?_
      rintro e w1 ⟨rfl, hb1⟩
      have hfill1 := hfill.below hb1
      have hbw1 := below_tr hbw hb1
      have hm := Nat.mul_le_mul_right 3 hlt
      obtain ⟨u0, c0⟩ := hfill1.cell (m := k * 3) (by omega)
      have f0 := hfill1.frozen (k * 3)
      obtain ⟨u1, c1⟩ := hfill1.cell (m := k * 3 + 1) (by omega)
      have f1 := hfill1.frozen (k * 3 + 1)
      obtain ⟨u2, c2⟩ := hfill1.cell (m := k * 3 + 2) (by omega)
      have f2 := hfill1.frozen (k * 3 + 2)
      clear hm
      have hst := hfill1.stored halfC_len hlt (vs := halfC x) (by rw [HX.out])
      have hst2 := below_setCells (Nat.le_refl w.heap.size) (halfC x) (k * 3) _ hbw1
      go_wp2
      exact ⟨⟨k + 1, by omega, by go_num, hst, hst2⟩, by simp [intOf]; omega⟩
    · obtain rfl : k = xs.length := by omega
      go_wp2
      go_ret
      exact ⟨_, rfl, hfill.new halfC_len (Nat.le_refl _) (by unfold maxLen; omega), hbw⟩

theorem szPieceS_c (A : Option Addr) (n cap : Nat) (left : Int) (w : World) (hn : n ≤ 9223372036854775807) (h0 : 0 ≤ left) (h1 : left ≤ 1048576) :
    Calls Try.prog 98 #[.slice A n cap, .int .i64 left] w fun e w' => e = .returned (.int .i64 (if left - n < 0 then -1 else left - n)) ∧ w = w' := by
  by_cases h : left - n < 0
  all_goals
    go_enter Try.func98, Try.ntmps98
    go_wp2
    go_ret
    exact ⟨ret_int (by simp), rfl⟩

set_option maxRecDepth 100000 in
theorem eqPieceS_t (A B : Option Addr) (xs : List Piece) (c d : Nat) (w : World) (hn : xs.length ≤ 1048576) (ha : Sl 4 pieceC w A xs) (hb : Sl 4 pieceC w B xs) :
    Calls Try.prog 107 #[.slice A xs.length c, .slice B xs.length d] w fun e w' => e = .returned (.bool true) ∧ Below w.heap.size w w' := by
  go_enter Try.func107, Try.ntmps107
  go_wp2
  go_loopw [5] (fun i wr => ∃ k : Nat, k ≤ xs.length ∧ i = .int .i64 k ∧ Below w.heap.size w wr) (fun i _ => xs.length - (intOf i).toNat)
  case atStart => exact ⟨0, Nat.zero_le _, rfl, Below.refl _ _⟩
  case round =>
    obtain ⟨k, hk, rfl, hbw⟩ := hrel
    by_cases hlt : k < xs.length
    · obtain ⟨b, off, rfl, hblt, hc⟩ := (ha.below hbw).at_ hlt
      obtain ⟨b', off', rfl, hblt', hc'⟩ := (hb.below hbw).at_ hlt
      have g0 := hc 0 _ rfl
      have g1 := hc 1 _ rfl
      have g2 := hc 2 _ rfl
      have g3 := hc 3 _ rfl
      have g0' := hc' 0 _ rfl
      have g1' := hc' 1 _ rfl
      have g2' := hc' 2 _ rfl
      have g3' := hc' 3 _ rfl
      clear hc hc'
      simp only [Nat.add_zero] at g0 g0'
      generalize xs[k] = x at *
      go_wp2
      go_still_tail 8, (by kernel_rfl)
      change wpList _ _ _ _ _ wr.drew
      generalize hwr : wr.drew = w2
      have hb2 : Below w.heap.size w w2 := by rw [← hwr]; exact hbw.drew
      clear hwr
      go_wp2_with (fail)
      refine (eqPiece_t x _).mono ?_
      rintro e w1 ⟨rfl, hb1⟩
      go_wp2
      go_roundw
      case rel => exact ⟨k + 1, by omega, by go_num, hb2.trans (hb1.mono hb2.size)⟩
      case measure => simp [intOf]; omega
    · go_wp2
      go_ret
      exact ⟨rfl, hbw⟩

set_option maxRecDepth 100000 in
theorem toPieceS_c (A : Option Addr) (xs : List Piece) (cap : Nat) (w : World) (hn : xs.length ≤ 1048576) (hs : Sl 4 pieceC w A xs) :
    Calls Try.prog 102 #[.slice A xs.length cap] w fun e w' => ∃ v, e = .returned v ∧ New 193 4 pieceC w' w.heap.size v xs ∧ Below w.heap.size w w' := by
  obtain ⟨i0, hi0, hz0, hz1, hz2⟩ := info_parts (show (Try.prog.info? 193).map (fun i => (i.zero, i.size, i.bytes)) = some (some (.agg #[.int .i64 0, .int .i64 0, .int .i64 0, .int .i64 0]), 4, 32) by kernel_rfl)
  have hmk : ∀ W : World, (Instr.makeSlice 61 (.int .i64 (xs.length : Int)) (.int .i64 (xs.length : Int))).run Try.prog W = .ok (.slice (some ⟨W.heap.size, 0, none⟩) xs.length xs.length) (W.alloc (.cells (madeCells #[.int .i64 0, .int .i64 0, .int .i64 0, .int .i64 0] (xs.length * 4)) 193)) := by
    intro W
    have h := run_make (P := Try.prog) W 61 193 i0 _ Try.underlying61 hi0 hz0 .i64 .i64 (xs.length : Int) (xs.length : Int) (by omega) (by omega) (by rw [hz2]; omega) (by omega)
    rw [hz1] at h
    simpa [Value.cells] using h
  go_enter Try.func102, Try.ntmps102
  go_wp2
  go_loopw [4] (fun i wr => ∃ k : Nat, k ≤ xs.length ∧ i = .int .i64 k ∧ Filled 193 4 pieceC wr w.heap.size (xs.length * 4) xs k ∧ Below w.heap.size w wr) (fun i _ => xs.length - (intOf i).toNat)
  case atStart => exact ⟨0, Nat.zero_le _, rfl, Filled.start (by simp [madeCells]) (Nat.le_refl _), below_al (Below.refl _ _) _⟩
  case round =>
    obtain ⟨k, hk, rfl, hfill, hbw⟩ := hrel
    by_cases hlt : k < xs.length
    · obtain ⟨b, off, rfl, hblt, hc⟩ := (hs.below hbw).at_ hlt
      have g0 := hc 0 _ rfl
      have g1 := hc 1 _ rfl
      have g2 := hc 2 _ rfl
      have g3 := hc 3 _ rfl
      clear hc
      simp only [Nat.add_zero] at g0
      have hx : xs[k] = xs[k] := rfl
      generalize hxx : xs[k] = x at *
      have HX := Lib.hid hxx
      clear hxx hx
      go_wp2_with (fail)
      refine (toPiece_c x _).mono ?_
      rintro e w1 ⟨rfl, hb1⟩
      have hfill1 := hfill.below hb1
      have hbw1 := below_tr hbw hb1
      have hm := Nat.mul_le_mul_right 4 hlt
      obtain ⟨u0, c0⟩ := hfill1.cell (m := k * 4) (by omega)
      have f0 := hfill1.frozen (k * 4)
      obtain ⟨u1, c1⟩ := hfill1.cell (m := k * 4 + 1) (by omega)
      have f1 := hfill1.frozen (k * 4 + 1)
      obtain ⟨u2, c2⟩ := hfill1.cell (m := k * 4 + 2) (by omega)
      have f2 := hfill1.frozen (k * 4 + 2)
      obtain ⟨u3, c3⟩ := hfill1.cell (m := k * 4 + 3) (by omega)
      have f3 := hfill1.frozen (k * 4 + 3)
      clear hm
      have hst := hfill1.stored pieceC_len hlt (vs := pieceC x) (by rw [HX.out])
      have hst2 := below_setCells (Nat.le_refl w.heap.size) (pieceC x) (k * 4) _ hbw1
      go_wp2
      exact ⟨⟨k + 1, by omega, by go_num, hst, hst2⟩, by simp [intOf]; omega⟩
    · obtain rfl : k = xs.length := by omega
      go_wp2
      go_ret
      exact ⟨_, rfl, hfill.new pieceC_len (Nat.le_refl _) (by unfold maxLen; omega), hbw⟩

theorem szModeS_c (A : Option Addr) (n cap : Nat) (left : Int) (w : World) (hn : n ≤ 9223372036854775807) (h0 : 0 ≤ left) (h1 : left ≤ 1048576) :
    Calls Try.prog 63 #[.slice A n cap, .int .i64 left] w fun e w' => e = .returned (.int .i64 (if left - n < 0 then -1 else left - n)) ∧ w = w' := by
  by_cases h : left - n < 0
  all_goals
    go_enter Try.func63, Try.ntmps63
    go_wp2
    go_ret
    exact ⟨ret_int (by simp), rfl⟩

set_option maxRecDepth 100000 in
theorem eqModeS_t (A B : Option Addr) (xs : List Mode) (c d : Nat) (w : World) (hn : xs.length ≤ 1048576) (ha : Sl 2 modeC w A xs) (hb : Sl 2 modeC w B xs) :
    Calls Try.prog 69 #[.slice A xs.length c, .slice B xs.length d] w fun e w' => e = .returned (.bool true) ∧ Below w.heap.size w w' := by
  go_enter Try.func69, Try.ntmps69
  go_wp2
  go_loopw [5] (fun i wr => ∃ k : Nat, k ≤ xs.length ∧ i = .int .i64 k ∧ Below w.heap.size w wr) (fun i _ => xs.length - (intOf i).toNat)
  case atStart => exact ⟨0, Nat.zero_le _, rfl, Below.refl _ _⟩
  case round =>
    obtain ⟨k, hk, rfl, hbw⟩ := hrel
    by_cases hlt : k < xs.length
    · obtain ⟨b, off, rfl, hblt, hc⟩ := (ha.below hbw).at_ hlt
      obtain ⟨b', off', rfl, hblt', hc'⟩ := (hb.below hbw).at_ hlt
      have g0 := hc 0 _ rfl
      have g1 := hc 1 _ rfl
      have g0' := hc' 0 _ rfl
      have g1' := hc' 1 _ rfl
      clear hc hc'
      simp only [Nat.add_zero] at g0 g0'
      generalize xs[k] = x at *
      go_wp2
      go_still_tail 8, (by kernel_rfl)
      change wpList _ _ _ _ _ wr.drew
      generalize hwr : wr.drew = w2
      have hb2 : Below w.heap.size w w2 := by rw [← hwr]; exact hbw.drew
      clear hwr
      go_wp2_with (fail)
      refine (eqMode_t x _).mono ?_
      rintro e w1 ⟨rfl, hb1⟩
      go_wp2
      go_roundw
      case rel => exact ⟨k + 1, by omega, by go_num, hb2.trans (hb1.mono hb2.size)⟩
      case measure => simp [intOf]; omega
    · go_wp2
      go_ret
      exact ⟨rfl, hbw⟩

set_option maxRecDepth 100000 in
theorem toModeS_c (A : Option Addr) (xs : List Mode) (cap : Nat) (w : World) (hn : xs.length ≤ 1048576) (hs : Sl 2 modeC w A xs) :
    Calls Try.prog 66 #[.slice A xs.length cap] w fun e w' => ∃ v, e = .returned v ∧ New 130 2 modeC w' w.heap.size v xs ∧ Below w.heap.size w w' := by
  obtain ⟨i0, hi0, hz0, hz1, hz2⟩ := info_parts (show (Try.prog.info? 130).map (fun i => (i.zero, i.size, i.bytes)) = some (some (.agg #[.int .i64 0, .int .i64 0]), 2, 16) by kernel_rfl)
  have hmk : ∀ W : World, (Instr.makeSlice 120 (.int .i64 (xs.length : Int)) (.int .i64 (xs.length : Int))).run Try.prog W = .ok (.slice (some ⟨W.heap.size, 0, none⟩) xs.length xs.length) (W.alloc (.cells (madeCells #[.int .i64 0, .int .i64 0] (xs.length * 2)) 130)) := by
    intro W
    have h := run_make (P := Try.prog) W 120 130 i0 _ Try.underlying120 hi0 hz0 .i64 .i64 (xs.length : Int) (xs.length : Int) (by omega) (by omega) (by rw [hz2]; omega) (by omega)
    rw [hz1] at h
    simpa [Value.cells] using h
  go_enter Try.func66, Try.ntmps66
  go_wp2
  go_loopw [4] (fun i wr => ∃ k : Nat, k ≤ xs.length ∧ i = .int .i64 k ∧ Filled 130 2 modeC wr w.heap.size (xs.length * 2) xs k ∧ Below w.heap.size w wr) (fun i _ => xs.length - (intOf i).toNat)
  case atStart => exact ⟨0, Nat.zero_le _, rfl, Filled.start (by simp [madeCells]) (Nat.le_refl _), below_al (Below.refl _ _) _⟩
  case round =>
    obtain ⟨k, hk, rfl, hfill, hbw⟩ := hrel
    by_cases hlt : k < xs.length
    · obtain ⟨b, off, rfl, hblt, hc⟩ := (hs.below hbw).at_ hlt
      have g0 := hc 0 _ rfl
      have g1 := hc 1 _ rfl
      clear hc
      simp only [Nat.add_zero] at g0
      have hx : xs[k] = xs[k] := rfl
      generalize hxx : xs[k] = x at *
      have HX := Lib.hid hxx
      clear hxx hx
      go_wp2_with (fail)
      refine (toMode_c x _).mono ?_
      rintro e w1 ⟨rfl, hb1⟩
      have hfill1 := hfill.below hb1
      have hbw1 := below_tr hbw hb1
      have hm := Nat.mul_le_mul_right 2 hlt
      obtain ⟨u0, c0⟩ := hfill1.cell (m := k * 2) (by omega)
      have f0 := hfill1.frozen (k * 2)
      obtain ⟨u1, c1⟩ := hfill1.cell (m := k * 2 + 1) (by omega)
      have f1 := hfill1.frozen (k * 2 + 1)
      clear hm
      have hst := hfill1.stored modeC_len hlt (vs := modeC x) (by rw [HX.out])
      have hst2 := below_setCells (Nat.le_refl w.heap.size) (modeC x) (k * 2) _ hbw1
      go_wp2
      exact ⟨⟨k + 1, by omega, by go_num, hst, hst2⟩, by simp [intOf]; omega⟩
    · obtain rfl : k = xs.length := by omega
      go_wp2
      go_ret
      exact ⟨_, rfl, hfill.new modeC_len (Nat.le_refl _) (by unfold maxLen; omega), hbw⟩

theorem szRecordS_c (A : Option Addr) (n cap : Nat) (left : Int) (w : World) (hn : n ≤ 9223372036854775807) (h0 : 0 ≤ left) (h1 : left ≤ 1048576) :
    Calls Try.prog 52 #[.slice A n cap, .int .i64 left] w fun e w' => e = .returned (.int .i64 (if left - n < 0 then -1 else left - n)) ∧ w = w' := by
  by_cases h : left - n < 0
  all_goals
    go_enter Try.func52, Try.ntmps52
    go_wp2
    go_ret
    exact ⟨ret_int (by simp), rfl⟩

set_option maxRecDepth 100000 in
theorem eqRecordS_t (A B : Option Addr) (xs : List Record) (c d : Nat) (w : World) (hn : xs.length ≤ 1048576) (ha : Sl 3 recordC w A xs) (hb : Sl 3 recordC w B xs) :
    Calls Try.prog 56 #[.slice A xs.length c, .slice B xs.length d] w fun e w' => e = .returned (.bool true) ∧ Below w.heap.size w w' := by
  go_enter Try.func56, Try.ntmps56
  go_wp2
  go_loopw [5] (fun i wr => ∃ k : Nat, k ≤ xs.length ∧ i = .int .i64 k ∧ Below w.heap.size w wr) (fun i _ => xs.length - (intOf i).toNat)
  case atStart => exact ⟨0, Nat.zero_le _, rfl, Below.refl _ _⟩
  case round =>
    obtain ⟨k, hk, rfl, hbw⟩ := hrel
    by_cases hlt : k < xs.length
    · obtain ⟨b, off, rfl, hblt, hc⟩ := (ha.below hbw).at_ hlt
      obtain ⟨b', off', rfl, hblt', hc'⟩ := (hb.below hbw).at_ hlt
      have g0 := hc 0 _ rfl
      have g1 := hc 1 _ rfl
      have g2 := hc 2 _ rfl
      have g0' := hc' 0 _ rfl
      have g1' := hc' 1 _ rfl
      have g2' := hc' 2 _ rfl
      clear hc hc'
      simp only [Nat.add_zero] at g0 g0'
      generalize xs[k] = x at *
      go_wp2
      go_still_tail 8, (by kernel_rfl)
      change wpList _ _ _ _ _ wr.drew
      generalize hwr : wr.drew = w2
      have hb2 : Below w.heap.size w w2 := by rw [← hwr]; exact hbw.drew
      clear hwr
      go_wp2_with (fail)
      refine (eqRecord_t x _).mono ?_
      rintro e w1 ⟨rfl, hb1⟩
      go_wp2
      go_roundw
      case rel => exact ⟨k + 1, by omega, by go_num, hb2.trans (hb1.mono hb2.size)⟩
      case measure => simp [intOf]; omega
    · go_wp2
      go_ret
      exact ⟨rfl, hbw⟩

set_option maxRecDepth 100000 in
theorem toRecordS_c (A : Option Addr) (xs : List Record) (cap : Nat) (w : World) (hn : xs.length ≤ 1048576) (hs : Sl 3 recordC w A xs) :
    Calls Try.prog 54 #[.slice A xs.length cap] w fun e w' => ∃ v, e = .returned v ∧ New 95 3 recordC w' w.heap.size v xs ∧ Below w.heap.size w w' := by
  obtain ⟨i0, hi0, hz0, hz1, hz2⟩ := info_parts (show (Try.prog.info? 95).map (fun i => (i.zero, i.size, i.bytes)) = some (some (.agg #[.int .i64 0, .int .i64 0, .int .i64 0]), 3, 24) by kernel_rfl)
  have hmk : ∀ W : World, (Instr.makeSlice 71 (.int .i64 (xs.length : Int)) (.int .i64 (xs.length : Int))).run Try.prog W = .ok (.slice (some ⟨W.heap.size, 0, none⟩) xs.length xs.length) (W.alloc (.cells (madeCells #[.int .i64 0, .int .i64 0, .int .i64 0] (xs.length * 3)) 95)) := by
    intro W
    have h := run_make (P := Try.prog) W 71 95 i0 _ Try.underlying71 hi0 hz0 .i64 .i64 (xs.length : Int) (xs.length : Int) (by omega) (by omega) (by rw [hz2]; omega) (by omega)
    rw [hz1] at h
    simpa [Value.cells] using h
  go_enter Try.func54, Try.ntmps54
  go_wp2
  go_loopw [4] (fun i wr => ∃ k : Nat, k ≤ xs.length ∧ i = .int .i64 k ∧ Filled 95 3 recordC wr w.heap.size (xs.length * 3) xs k ∧ Below w.heap.size w wr) (fun i _ => xs.length - (intOf i).toNat)
  case atStart => exact ⟨0, Nat.zero_le _, rfl, Filled.start (by simp [madeCells]) (Nat.le_refl _), below_al (Below.refl _ _) _⟩
  case round =>
    obtain ⟨k, hk, rfl, hfill, hbw⟩ := hrel
    by_cases hlt : k < xs.length
    · obtain ⟨b, off, rfl, hblt, hc⟩ := (hs.below hbw).at_ hlt
      have g0 := hc 0 _ rfl
      have g1 := hc 1 _ rfl
      have g2 := hc 2 _ rfl
      clear hc
      simp only [Nat.add_zero] at g0
      have hx : xs[k] = xs[k] := rfl
      generalize hxx : xs[k] = x at *
      have HX := Lib.hid hxx
      clear hxx hx
      go_wp2_with (fail)
      refine (toRecord_c x _).mono ?_
      rintro e w1 ⟨rfl, hb1⟩
      have hfill1 := hfill.below hb1
      have hbw1 := below_tr hbw hb1
      have hm := Nat.mul_le_mul_right 3 hlt
      obtain ⟨u0, c0⟩ := hfill1.cell (m := k * 3) (by omega)
      have f0 := hfill1.frozen (k * 3)
      obtain ⟨u1, c1⟩ := hfill1.cell (m := k * 3 + 1) (by omega)
      have f1 := hfill1.frozen (k * 3 + 1)
      obtain ⟨u2, c2⟩ := hfill1.cell (m := k * 3 + 2) (by omega)
      have f2 := hfill1.frozen (k * 3 + 2)
      clear hm
      have hst := hfill1.stored recordC_len hlt (vs := recordC x) (by rw [HX.out])
      have hst2 := below_setCells (Nat.le_refl w.heap.size) (recordC x) (k * 3) _ hbw1
      go_wp2
      exact ⟨⟨k + 1, by omega, by go_num, hst, hst2⟩, by simp [intOf]; omega⟩
    · obtain rfl : k = xs.length := by omega
      go_wp2
      go_ret
      exact ⟨_, rfl, hfill.new recordC_len (Nat.le_refl _) (by unfold maxLen; omega), hbw⟩

end Go.Proofs.Ytbdihgcjopbnjaa
end

section
namespace Go.Proofs.Ytbdihgcjopbnjaa
open Go.RowKit

set_option maxRecDepth 100000 in
set_option maxHeartbeats 1000000 in
theorem szRegion_c (x : List Half) (a : SlA) (left : Int) (w : World) (hn : List.length x ≤ 9223372036854775807) (h0 : 0 ≤ left) (h1 : left ≤ 1048576) :
    Calls Try.prog 141 #[regionV x a, .int .i64 left] w fun e w' => e = .returned (.int .i64 (if left - regionLen x < 0 then -1 else left - regionLen x)) ∧ Below w.heap.size w w' := by
  have hn0 := hn
  have hlen : Hid (((regionLen x : Nat) : Int) = ((List.length x : Nat) : Int)) := by show _ = _; simp only [regionLen]; (try omega)
  have p0 : (0 : Int) ≤ ((List.length x : Nat) : Int) := by omega
  by_cases c0 : left - ((List.length x : Nat) : Int) < 0
  · skip
    have hfin : (if left - ((regionLen x : Nat) : Int) < 0 then (-1 : Int) else left - ((regionLen x : Nat) : Int)) = -1 := by have := hlen.out; rw [if_pos (by omega)]
    rw [hfin]
    clear hfin
    go_enter Try.func141, Try.ntmps141
    go_wp2_with (fail)
    refine (szHalfS_c a.A (List.length x) a.c (left) _ hn0 (by omega) (by omega)).mono ?_
    rw [if_pos (by omega)]
    rintro e w' ⟨rfl, rfl⟩
    go_wp2
    go_ret
    refine ⟨rfl, ?_⟩
    repeat (first | (with_reducible exact Below.refl _ _) | (with_reducible assumption) | (with_reducible refine below_al ?_ _) | (with_reducible refine Below.drew ?_) | (with_reducible refine below_drewN ?_ _) | (with_reducible refine below_st ?_ ?_ _) | (with_reducible refine below_tr ?_ (by assumption)) | (with_reducible exact Nat.le_refl _) | (focus (simp; done)) | (focus (simp; omega)))
  · skip
    have hfin : (if left - ((regionLen x : Nat) : Int) < 0 then (-1 : Int) else left - ((regionLen x : Nat) : Int)) = left - ((List.length x : Nat) : Int) := by have := hlen.out; (rw [if_neg (by omega)]; omega)
    rw [hfin]
    clear hfin
    go_enter Try.func141, Try.ntmps141
    go_wp2_with (fail)
    refine (szHalfS_c a.A (List.length x) a.c (left) _ hn0 (by omega) (by omega)).mono ?_
    rw [if_neg (by omega)]
    rintro e w' ⟨rfl, rfl⟩
    go_wp2
    go_ret
    refine ⟨rfl, ?_⟩
    repeat (first | (with_reducible exact Below.refl _ _) | (with_reducible assumption) | (with_reducible refine below_al ?_ _) | (with_reducible refine Below.drew ?_) | (with_reducible refine below_drewN ?_ _) | (with_reducible refine below_st ?_ ?_ _) | (with_reducible refine below_tr ?_ (by assumption)) | (with_reducible exact Nat.le_refl _) | (focus (simp; done)) | (focus (simp; omega)))
set_option maxRecDepth 100000 in
set_option maxHeartbeats 1000000 in
theorem eqRegion_t (x : List Half) (a b : SlA) (w : World) (hn : regionLen x ≤ 1048576) (ha : RegionSl w x a) (hb : RegionSl w x b) :
    Calls Try.prog 58 #[regionV x a, regionV x b] w fun e w' => e = .returned (.bool true) ∧ Below w.heap.size w w' := by
  simp only [regionLen] at hn
  go_enter Try.func58, Try.ntmps58
  go_wp2_with (fail)
  refine (eqHalfS_t a.A b.A x _ _ _ (by omega) (Sl.below ha.halves (by (repeat (first | (with_reducible exact Below.refl _ _) | (with_reducible assumption) | (with_reducible refine below_al ?_ _) | (with_reducible refine Below.drew ?_) | (with_reducible refine below_drewN ?_ _) | (with_reducible refine below_st ?_ ?_ _) | (with_reducible refine below_tr ?_ (by assumption)) | (with_reducible exact Nat.le_refl _) | (focus (simp; done)) | (focus (simp; omega)))))) (Sl.below hb.halves (by (repeat (first | (with_reducible exact Below.refl _ _) | (with_reducible assumption) | (with_reducible refine below_al ?_ _) | (with_reducible refine Below.drew ?_) | (with_reducible refine below_drewN ?_ _) | (with_reducible refine below_st ?_ ?_ _) | (with_reducible refine below_tr ?_ (by assumption)) | (with_reducible exact Nat.le_refl _) | (focus (simp; done)) | (focus (simp; omega))))))).mono ?_
  rintro e w0 ⟨rfl, hb0⟩
  have r0 := bcell1 hb0
  have l0 : w.heap.size < w0.heap.size := blt hb0 (by first | (simp; done) | (simp; omega) | omega)
  have m0 : w.heap.size + 1 < w0.heap.size := blt hb0 (by first | (simp; done) | (simp; omega) | omega)
  go_wp2
  go_ret
  refine ⟨rfl, ?_⟩
  repeat (first | (with_reducible exact Below.refl _ _) | (with_reducible assumption) | (with_reducible refine below_al ?_ _) | (with_reducible refine Below.drew ?_) | (with_reducible refine below_drewN ?_ _) | (with_reducible refine below_st ?_ ?_ _) | (with_reducible refine below_tr ?_ (by assumption)) | (with_reducible exact Nat.le_refl _) | (focus (simp; done)) | (focus (simp; omega)))
set_option maxRecDepth 100000 in
set_option maxHeartbeats 2000000 in
theorem toRegion_c (x : List Half) (a : SlA) (w : World) (hn : regionLen x ≤ 1048576) (hs : RegionSl w x a) :
    Calls Try.prog 143 #[regionV x a] w fun e w' => ∃ a', e = .returned (regionV x a') ∧ RegionNew w' w.heap.size x a' ∧ Below w.heap.size w w' := by
  simp only [regionLen] at hn
  go_enter Try.func143, Try.ntmps143
  go_wp2_with (fail)
  refine (toHalfS_c a.A x _ _ (by omega) (Sl.below hs.halves (by (repeat (first | (with_reducible exact Below.refl _ _) | (with_reducible assumption) | (with_reducible refine below_al ?_ _) | (with_reducible refine Below.drew ?_) | (with_reducible refine below_drewN ?_ _) | (with_reducible refine below_st ?_ ?_ _) | (with_reducible refine below_tr ?_ (by assumption)) | (with_reducible exact Nat.le_refl _) | (focus (simp; done)) | (focus (simp; omega))))))).mono ?_
  rintro e w0 ⟨v0, rfl, N0, hb0⟩
  obtain ⟨A0, k0, rfl, ho0⟩ := N0
  have N0 : New 177 3 halfC w0 _ (.slice A0 (List.length x) k0) x := ⟨A0, k0, rfl, ho0⟩
  clear ho0
  have K0 := N0.blk
  replace N0 := N0.mono (base' := w.heap.size + 1 + 1 + 1) (by first | (simp; done) | (simp; omega) | omega)
  have r0 := bcell1 hb0
  have f0 := (bcell hb0).2
  have l0 : w.heap.size < w0.heap.size := blt hb0 (by first | (simp; done) | (simp; omega) | omega)
  have m0 : w.heap.size + 1 < w0.heap.size := blt hb0 (by first | (simp; done) | (simp; omega) | omega)
  have n0 : w.heap.size + 1 + 1 < w0.heap.size := blt hb0 (by first | (simp; done) | (simp; omega) | omega)
  have H : Has w0 (w.heap.size + 1) [.slice none 0 0] := by
    repeat (first | ((with_reducible refine Has.new_at ?_ _ _ rfl); (first | rfl | (focus (simp; done)))) | (with_reducible refine Has.set_ ?_ ?_ _) | (with_reducible refine Has.alloc ?_ _) | (with_reducible refine Has.below ?_ (by assumption)) | (focus (simp; done)) | (focus (simp; omega)))
  obtain ⟨cH_0, fH_0⟩ := H.2 0 _ rfl
  go_wp2
  refine bodyPost_ret (v := regionV x ⟨A0, k0⟩) (by simp [results, Try.results143, go_sem, cH_0]) rfl ?_
  refine ⟨⟨A0, k0⟩, rfl, ⟨?_⟩, ?_⟩
  · refine New.mono (base := w.heap.size + 1 + 1 + 1) ?_ (by omega)
    repeat (first | (with_reducible exact N0) | (with_reducible refine New.low ?_ (by first | (simp; done) | (simp; omega) | omega) _) | (with_reducible refine New.below ?_ (by assumption) (Nat.le_refl _)))
  · repeat (first | (with_reducible exact Below.refl _ _) | (with_reducible assumption) | (with_reducible refine below_al ?_ _) | (with_reducible refine Below.drew ?_) | (with_reducible refine below_drewN ?_ _) | (with_reducible refine below_st ?_ ?_ _) | (with_reducible refine below_tr ?_ (by assumption)) | (with_reducible exact Nat.le_refl _) | (focus (simp; done)) | (focus (simp; omega)))
set_option maxRecDepth 100000 in
set_option maxHeartbeats 1000000 in
theorem szRoom_c (x : Room) (a : RoomA) (left : Int) (w : World) (hn : List.length x.map ≤ 9223372036854775807 ∧ List.length x.noise ≤ 9223372036854775807 ∧ List.length x.limits ≤ 9223372036854775807) (h0 : 0 ≤ left) (h1 : left ≤ 1048576) :
    Calls Try.prog 62 #[roomV x a, .int .i64 left] w fun e w' => e = .returned (.int .i64 (if left - roomLen x < 0 then -1 else left - roomLen x)) ∧ Below w.heap.size w w' := by
  obtain ⟨hn0, hn1, hn2⟩ := hn
  have hlen : Hid (((roomLen x : Nat) : Int) = ((List.length x.map : Nat) : Int) + ((regionLen x.noise : Nat) : Int) + ((regionLen x.limits : Nat) : Int)) := by show _ = _; simp only [regionLen, roomLen]; (try omega)
  have p0 : (0 : Int) ≤ ((List.length x.map : Nat) : Int) := by omega
  have p1 : (0 : Int) ≤ ((regionLen x.noise : Nat) : Int) := by omega
  have p2 : (0 : Int) ≤ ((regionLen x.limits : Nat) : Int) := by omega
  by_cases c0 : left - ((List.length x.map : Nat) : Int) < 0
  · skip
    have hfin : (if left - ((roomLen x : Nat) : Int) < 0 then (-1 : Int) else left - ((roomLen x : Nat) : Int)) = -1 := by have := hlen.out; rw [if_pos (by omega)]
    rw [hfin]
    clear hfin
    go_enter Try.func62, Try.ntmps62
    go_wp2_with (fail)
    refine (szIntS_c a.map.A (List.length x.map) a.map.c (left) _ hn0 (by omega) (by omega)).mono ?_
    rw [if_pos (by omega)]
    rintro e w' ⟨rfl, rfl⟩
    go_wp2
    go_ret
    refine ⟨rfl, ?_⟩
    repeat (first | (with_reducible exact Below.refl _ _) | (with_reducible assumption) | (with_reducible refine below_al ?_ _) | (with_reducible refine Below.drew ?_) | (with_reducible refine below_drewN ?_ _) | (with_reducible refine below_st ?_ ?_ _) | (with_reducible refine below_tr ?_ (by assumption)) | (with_reducible exact Nat.le_refl _) | (focus (simp; done)) | (focus (simp; omega)))
  · skip
    by_cases c1 : left - ((List.length x.map : Nat) : Int) - ((regionLen x.noise : Nat) : Int) < 0
    · skip
      have hfin : (if left - ((roomLen x : Nat) : Int) < 0 then (-1 : Int) else left - ((roomLen x : Nat) : Int)) = -1 := by have := hlen.out; rw [if_pos (by omega)]
      rw [hfin]
      clear hfin
      go_enter Try.func62, Try.ntmps62
      go_wp2_with (fail)
      refine (szIntS_c a.map.A (List.length x.map) a.map.c (left) _ hn0 (by omega) (by omega)).mono ?_
      rw [if_neg (by omega)]
      rintro e w' ⟨rfl, rfl⟩
      go_wp2_with (fail)
      refine (szRegion_c x.noise a.noise (left - ((List.length x.map : Nat) : Int)) _ hn1 (by omega) (by omega)).mono ?_
      rw [if_pos (by omega)]
      rintro e w1 ⟨rfl, hb1⟩
      have r1 := bcell1 hb1
      have l1 : w.heap.size < w1.heap.size := blt hb1 (by first | (simp; done) | (simp; omega) | omega)
      go_wp2
      go_ret
      refine ⟨rfl, ?_⟩
      repeat (first | (with_reducible exact Below.refl _ _) | (with_reducible assumption) | (with_reducible refine below_al ?_ _) | (with_reducible refine Below.drew ?_) | (with_reducible refine below_drewN ?_ _) | (with_reducible refine below_st ?_ ?_ _) | (with_reducible refine below_tr ?_ (by assumption)) | (with_reducible exact Nat.le_refl _) | (focus (simp; done)) | (focus (simp; omega)))
    · skip
      by_cases c2 : left - ((List.length x.map : Nat) : Int) - ((regionLen x.noise : Nat) : Int) - ((regionLen x.limits : Nat) : Int) < 0
      · skip
        have hfin : (if left - ((roomLen x : Nat) : Int) < 0 then (-1 : Int) else left - ((roomLen x : Nat) : Int)) = -1 := by have := hlen.out; rw [if_pos (by omega)]
        rw [hfin]
        clear hfin
        go_enter Try.func62, Try.ntmps62
        go_wp2_with (fail)
        refine (szIntS_c a.map.A (List.length x.map) a.map.c (left) _ hn0 (by omega) (by omega)).mono ?_
        rw [if_neg (by omega)]
        rintro e w' ⟨rfl, rfl⟩
        go_wp2_with (fail)
        refine (szRegion_c x.noise a.noise (left - ((List.length x.map : Nat) : Int)) _ hn1 (by omega) (by omega)).mono ?_
        rw [if_neg (by omega)]
        rintro e w1 ⟨rfl, hb1⟩
        have r1 := bcell1 hb1
        have l1 : w.heap.size < w1.heap.size := blt hb1 (by first | (simp; done) | (simp; omega) | omega)
        go_wp2_with (fail)
        refine (szRegion_c x.limits a.limits (left - ((List.length x.map : Nat) : Int) - ((regionLen x.noise : Nat) : Int)) _ hn2 (by omega) (by omega)).mono ?_
        rw [if_pos (by omega)]
        rintro e w2 ⟨rfl, hb2⟩
        have r2 := bcell1 hb2
        have l2 : w.heap.size < w2.heap.size := blt hb2 (by first | (simp; done) | (simp; omega) | omega)
        go_wp2
        go_ret
        refine ⟨rfl, ?_⟩
        repeat (first | (with_reducible exact Below.refl _ _) | (with_reducible assumption) | (with_reducible refine below_al ?_ _) | (with_reducible refine Below.drew ?_) | (with_reducible refine below_drewN ?_ _) | (with_reducible refine below_st ?_ ?_ _) | (with_reducible refine below_tr ?_ (by assumption)) | (with_reducible exact Nat.le_refl _) | (focus (simp; done)) | (focus (simp; omega)))
      · skip
        have hfin : (if left - ((roomLen x : Nat) : Int) < 0 then (-1 : Int) else left - ((roomLen x : Nat) : Int)) = left - ((List.length x.map : Nat) : Int) - ((regionLen x.noise : Nat) : Int) - ((regionLen x.limits : Nat) : Int) := by have := hlen.out; (rw [if_neg (by omega)]; omega)
        rw [hfin]
        clear hfin
        go_enter Try.func62, Try.ntmps62
        go_wp2_with (fail)
        refine (szIntS_c a.map.A (List.length x.map) a.map.c (left) _ hn0 (by omega) (by omega)).mono ?_
        rw [if_neg (by omega)]
        rintro e w' ⟨rfl, rfl⟩
        go_wp2_with (fail)
        refine (szRegion_c x.noise a.noise (left - ((List.length x.map : Nat) : Int)) _ hn1 (by omega) (by omega)).mono ?_
        rw [if_neg (by omega)]
        rintro e w1 ⟨rfl, hb1⟩
        have r1 := bcell1 hb1
        have l1 : w.heap.size < w1.heap.size := blt hb1 (by first | (simp; done) | (simp; omega) | omega)
        go_wp2_with (fail)
        refine (szRegion_c x.limits a.limits (left - ((List.length x.map : Nat) : Int) - ((regionLen x.noise : Nat) : Int)) _ hn2 (by omega) (by omega)).mono ?_
        rw [if_neg (by omega)]
        rintro e w2 ⟨rfl, hb2⟩
        have r2 := bcell1 hb2
        have l2 : w.heap.size < w2.heap.size := blt hb2 (by first | (simp; done) | (simp; omega) | omega)
        go_wp2
        go_ret
        refine ⟨rfl, ?_⟩
        repeat (first | (with_reducible exact Below.refl _ _) | (with_reducible assumption) | (with_reducible refine below_al ?_ _) | (with_reducible refine Below.drew ?_) | (with_reducible refine below_drewN ?_ _) | (with_reducible refine below_st ?_ ?_ _) | (with_reducible refine below_tr ?_ (by assumption)) | (with_reducible exact Nat.le_refl _) | (focus (simp; done)) | (focus (simp; omega)))
set_option maxRecDepth 100000 in
set_option maxHeartbeats 1000000 in
theorem eqRoom_t (x : Room) (a b : RoomA) (w : World) (hn : roomLen x ≤ 1048576) (ha : RoomSl w x a) (hb : RoomSl w x b) :
    Calls Try.prog 68 #[roomV x a, roomV x b] w fun e w' => e = .returned (.bool true) ∧ Below w.heap.size w w' := by
  simp only [roomLen] at hn
  go_enter Try.func68, Try.ntmps68
  go_wp2_with (fail)
  refine (eqIntS_t a.map.A b.map.A x.map _ _ _ (by omega) (Sl.below ha.map (by (repeat (first | (with_reducible exact Below.refl _ _) | (with_reducible assumption) | (with_reducible refine below_al ?_ _) | (with_reducible refine Below.drew ?_) | (with_reducible refine below_drewN ?_ _) | (with_reducible refine below_st ?_ ?_ _) | (with_reducible refine below_tr ?_ (by assumption)) | (with_reducible exact Nat.le_refl _) | (focus (simp; done)) | (focus (simp; omega)))))) (Sl.below hb.map (by (repeat (first | (with_reducible exact Below.refl _ _) | (with_reducible assumption) | (with_reducible refine below_al ?_ _) | (with_reducible refine Below.drew ?_) | (with_reducible refine below_drewN ?_ _) | (with_reducible refine below_st ?_ ?_ _) | (with_reducible refine below_tr ?_ (by assumption)) | (with_reducible exact Nat.le_refl _) | (focus (simp; done)) | (focus (simp; omega))))))).mono ?_
  rintro e w0 ⟨rfl, hb0⟩
  have r0 := bcell1 hb0
  have l0 : w.heap.size < w0.heap.size := blt hb0 (by first | (simp; done) | (simp; omega) | omega)
  have m0 : w.heap.size + 1 < w0.heap.size := blt hb0 (by first | (simp; done) | (simp; omega) | omega)
  go_wp2_with (fail)
  refine (eqRegion_t x.noise a.noise b.noise _ (by simp only [regionLen]; omega) (RegionSl.below ha.noise (by (repeat (first | (with_reducible exact Below.refl _ _) | (with_reducible assumption) | (with_reducible refine below_al ?_ _) | (with_reducible refine Below.drew ?_) | (with_reducible refine below_drewN ?_ _) | (with_reducible refine below_st ?_ ?_ _) | (with_reducible refine below_tr ?_ (by assumption)) | (with_reducible exact Nat.le_refl _) | (focus (simp; done)) | (focus (simp; omega)))))) (RegionSl.below hb.noise (by (repeat (first | (with_reducible exact Below.refl _ _) | (with_reducible assumption) | (with_reducible refine below_al ?_ _) | (with_reducible refine Below.drew ?_) | (with_reducible refine below_drewN ?_ _) | (with_reducible refine below_st ?_ ?_ _) | (with_reducible refine below_tr ?_ (by assumption)) | (with_reducible exact Nat.le_refl _) | (focus (simp; done)) | (focus (simp; omega))))))).mono ?_
  rintro e w1 ⟨rfl, hb1⟩
  have r1 := bcell1 hb1
  have l1 : w.heap.size < w1.heap.size := blt hb1 (by first | (simp; done) | (simp; omega) | omega)
  have m1 : w.heap.size + 1 < w1.heap.size := blt hb1 (by first | (simp; done) | (simp; omega) | omega)
  go_wp2_with (fail)
  refine (eqRegion_t x.limits a.limits b.limits _ (by simp only [regionLen]; omega) (RegionSl.below ha.limits (by (repeat (first | (with_reducible exact Below.refl _ _) | (with_reducible assumption) | (with_reducible refine below_al ?_ _) | (with_reducible refine Below.drew ?_) | (with_reducible refine below_drewN ?_ _) | (with_reducible refine below_st ?_ ?_ _) | (with_reducible refine below_tr ?_ (by assumption)) | (with_reducible exact Nat.le_refl _) | (focus (simp; done)) | (focus (simp; omega)))))) (RegionSl.below hb.limits (by (repeat (first | (with_reducible exact Below.refl _ _) | (with_reducible assumption) | (with_reducible refine below_al ?_ _) | (with_reducible refine Below.drew ?_) | (with_reducible refine below_drewN ?_ _) | (with_reducible refine below_st ?_ ?_ _) | (with_reducible refine below_tr ?_ (by assumption)) | (with_reducible exact Nat.le_refl _) | (focus (simp; done)) | (focus (simp; omega))))))).mono ?_
  rintro e w2 ⟨rfl, hb2⟩
  have r2 := bcell1 hb2
  have l2 : w.heap.size < w2.heap.size := blt hb2 (by first | (simp; done) | (simp; omega) | omega)
  have m2 : w.heap.size + 1 < w2.heap.size := blt hb2 (by first | (simp; done) | (simp; omega) | omega)
  go_wp2
  go_ret
  refine ⟨rfl, ?_⟩
  repeat (first | (with_reducible exact Below.refl _ _) | (with_reducible assumption) | (with_reducible refine below_al ?_ _) | (with_reducible refine Below.drew ?_) | (with_reducible refine below_drewN ?_ _) | (with_reducible refine below_st ?_ ?_ _) | (with_reducible refine below_tr ?_ (by assumption)) | (with_reducible exact Nat.le_refl _) | (focus (simp; done)) | (focus (simp; omega)))
set_option maxRecDepth 100000 in
set_option maxHeartbeats 2000000 in
theorem toRoom_c (x : Room) (a : RoomA) (w : World) (hn : roomLen x ≤ 1048576) (hs : RoomSl w x a) :
    Calls Try.prog 65 #[roomV x a] w fun e w' => ∃ a', e = .returned (roomV x a') ∧ RoomNew w' w.heap.size x a' ∧ Below w.heap.size w w' := by
  simp only [roomLen] at hn
  go_enter Try.func65, Try.ntmps65
  go_wp2_with (fail)
  refine (toIntS_c a.map.A x.map _ _ (by omega) (Sl.below hs.map (by (repeat (first | (with_reducible exact Below.refl _ _) | (with_reducible assumption) | (with_reducible refine below_al ?_ _) | (with_reducible refine Below.drew ?_) | (with_reducible refine below_drewN ?_ _) | (with_reducible refine below_st ?_ ?_ _) | (with_reducible refine below_tr ?_ (by assumption)) | (with_reducible exact Nat.le_refl _) | (focus (simp; done)) | (focus (simp; omega))))))).mono ?_
  rintro e w0 ⟨v0, rfl, N0, hb0⟩
  obtain ⟨A0, k0, rfl, ho0⟩ := N0
  have N0 : New 3 1 intC w0 _ (.slice A0 (List.length x.map) k0) x.map := ⟨A0, k0, rfl, ho0⟩
  clear ho0
  have K0 := N0.blk
  replace N0 := N0.mono (base' := w.heap.size + 1 + 1 + 1) (by first | (simp; done) | (simp; omega) | omega)
  have r0 := bcell1 hb0
  have f0 := (bcell hb0).2
  have l0 : w.heap.size < w0.heap.size := blt hb0 (by first | (simp; done) | (simp; omega) | omega)
  have m0 : w.heap.size + 1 < w0.heap.size := blt hb0 (by first | (simp; done) | (simp; omega) | omega)
  have n0 : w.heap.size + 1 + 1 < w0.heap.size := blt hb0 (by first | (simp; done) | (simp; omega) | omega)
  go_wp2_with (fail)
  refine (toRegion_c x.noise a.noise _ (by simp only [regionLen]; omega) (RegionSl.below hs.noise (by (repeat (first | (with_reducible exact Below.refl _ _) | (with_reducible assumption) | (with_reducible refine below_al ?_ _) | (with_reducible refine Below.drew ?_) | (with_reducible refine below_drewN ?_ _) | (with_reducible refine below_st ?_ ?_ _) | (with_reducible refine below_tr ?_ (by assumption)) | (with_reducible exact Nat.le_refl _) | (focus (simp; done)) | (focus (simp; omega))))))).mono ?_
  rintro e w1 ⟨a1, rfl, N1, hb1⟩
  have K1 := N1.blk
  replace N1 := N1.mono (base' := w.heap.size + 1 + 1 + 1) (by first | (simp; done) | (simp; omega) | omega)
  have r1 := bcell1 hb1
  have f1 := (bcell hb1).2
  have s1 : w0.heap.size ≤ w1.heap.size := by simpa using hb1.size
  have l1 : w.heap.size < w1.heap.size := blt hb1 (by first | (simp; done) | (simp; omega) | omega)
  have m1 : w.heap.size + 1 < w1.heap.size := blt hb1 (by first | (simp; done) | (simp; omega) | omega)
  have n1 : w.heap.size + 1 + 1 < w1.heap.size := blt hb1 (by first | (simp; done) | (simp; omega) | omega)
  go_wp2_with (fail)
  refine (toRegion_c x.limits a.limits _ (by simp only [regionLen]; omega) (RegionSl.below hs.limits (by (repeat (first | (with_reducible exact Below.refl _ _) | (with_reducible assumption) | (with_reducible refine below_al ?_ _) | (with_reducible refine Below.drew ?_) | (with_reducible refine below_drewN ?_ _) | (with_reducible refine below_st ?_ ?_ _) | (with_reducible refine below_tr ?_ (by assumption)) | (with_reducible exact Nat.le_refl _) | (focus (simp; done)) | (focus (simp; omega))))))).mono ?_
  rintro e w2 ⟨a2, rfl, N2, hb2⟩
  have K2 := N2.blk
  replace N2 := N2.mono (base' := w.heap.size + 1 + 1 + 1) (by first | (simp; done) | (simp; omega) | omega)
  have r2 := bcell1 hb2
  have f2 := (bcell hb2).2
  have s2 : w1.heap.size ≤ w2.heap.size := by simpa using hb2.size
  have l2 : w.heap.size < w2.heap.size := blt hb2 (by first | (simp; done) | (simp; omega) | omega)
  have m2 : w.heap.size + 1 < w2.heap.size := blt hb2 (by first | (simp; done) | (simp; omega) | omega)
  have n2 : w.heap.size + 1 + 1 < w2.heap.size := blt hb2 (by first | (simp; done) | (simp; omega) | omega)
  have H : Has w2 (w.heap.size + 1) [.slice none 0 0, .int .i64 0, .int .i64 0, .int .i64 0, .int .i64 0, .int .i64 0, .slice none 0 0, .slice none 0 0] := by
    repeat (first | ((with_reducible refine Has.new_at ?_ _ _ rfl); (first | rfl | (focus (simp; done)))) | (with_reducible refine Has.set_ ?_ ?_ _) | (with_reducible refine Has.alloc ?_ _) | (with_reducible refine Has.below ?_ (by assumption)) | (focus (simp; done)) | (focus (simp; omega)))
  obtain ⟨cH_0, fH_0⟩ := H.2 0 _ rfl
  obtain ⟨cH_1, fH_1⟩ := H.2 1 _ rfl
  obtain ⟨cH_2, fH_2⟩ := H.2 2 _ rfl
  obtain ⟨cH_3, fH_3⟩ := H.2 3 _ rfl
  obtain ⟨cH_4, fH_4⟩ := H.2 4 _ rfl
  obtain ⟨cH_5, fH_5⟩ := H.2 5 _ rfl
  obtain ⟨cH_6, fH_6⟩ := H.2 6 _ rfl
  obtain ⟨cH_7, fH_7⟩ := H.2 7 _ rfl
  go_wp2
  refine bodyPost_ret (v := roomV x ⟨⟨A0, k0⟩, a1, a2⟩) (by simp [results, Try.results65, go_sem, cH_0, cH_1, cH_2, cH_3, cH_4, cH_5, cH_6, cH_7]) rfl ?_
  refine ⟨⟨⟨A0, k0⟩, a1, a2⟩, rfl, ⟨?_, ?_, ?_, ?_⟩, ?_⟩
  · refine New.mono (base := w.heap.size + 1 + 1 + 1) ?_ (by omega)
    repeat (first | (with_reducible exact N0) | (with_reducible refine New.low ?_ (by first | (simp; done) | (simp; omega) | omega) _) | (with_reducible refine New.below ?_ (by assumption) (Nat.le_refl _)))
  · refine RegionNew.mono (base := w.heap.size + 1 + 1 + 1) ?_ (by omega)
    repeat (first | (with_reducible exact N1) | (with_reducible refine RegionNew.low ?_ (by first | (simp; done) | (simp; omega) | omega) _) | (with_reducible refine RegionNew.below ?_ (by assumption) (Nat.le_refl _)))
  · refine RegionNew.mono (base := w.heap.size + 1 + 1 + 1) ?_ (by omega)
    repeat (first | (with_reducible exact N2) | (with_reducible refine RegionNew.low ?_ (by first | (simp; done) | (simp; omega) | omega) _) | (with_reducible refine RegionNew.below ?_ (by assumption) (Nat.le_refl _)))
  · simp only [List.pairwise_cons, List.mem_cons, List.not_mem_nil, or_false, forall_eq_or_imp, forall_eq, false_implies, implies_true, List.Pairwise.nil, and_true]
    exact ⟨⟨Blk.apart (K0) (K1) (by first | (simp; done) | (simp; omega) | omega), Blk.apart (K0) (K2) (by first | (simp; done) | (simp; omega) | omega)⟩, Blk.apart (K1) (K2) (by first | (simp; done) | (simp; omega) | omega)⟩
  · repeat (first | (with_reducible exact Below.refl _ _) | (with_reducible assumption) | (with_reducible refine below_al ?_ _) | (with_reducible refine Below.drew ?_) | (with_reducible refine below_drewN ?_ _) | (with_reducible refine below_st ?_ ?_ _) | (with_reducible refine below_tr ?_ (by assumption)) | (with_reducible exact Nat.le_refl _) | (focus (simp; done)) | (focus (simp; omega)))
set_option maxRecDepth 100000 in
set_option maxHeartbeats 1000000 in
theorem szTrack_c (x : Track) (a : TrackA) (left : Int) (w : World) (hn : List.length x.spots ≤ 9223372036854775807 ∧ List.length x.inputs ≤ 9223372036854775807) (h0 : 0 ≤ left) (h1 : left ≤ 1048576) :
    Calls Try.prog 22 #[trackV x a, .int .i64 left] w fun e w' => e = .returned (.int .i64 (if left - trackLen x < 0 then -1 else left - trackLen x)) ∧ Below w.heap.size w w' := by
  obtain ⟨hn0, hn1⟩ := hn
  have hlen : Hid (((trackLen x : Nat) : Int) = ((List.length x.spots : Nat) : Int) + ((List.length x.inputs : Nat) : Int)) := by show _ = _; simp only [trackLen]; (try omega)
  have p0 : (0 : Int) ≤ ((List.length x.spots : Nat) : Int) := by omega
  have p1 : (0 : Int) ≤ ((List.length x.inputs : Nat) : Int) := by omega
  by_cases c0 : left - ((List.length x.spots : Nat) : Int) < 0
  · skip
    have hfin : (if left - ((trackLen x : Nat) : Int) < 0 then (-1 : Int) else left - ((trackLen x : Nat) : Int)) = -1 := by have := hlen.out; rw [if_pos (by omega)]
    rw [hfin]
    clear hfin
    go_enter Try.func22, Try.ntmps22
    go_wp2_with (fail)
    refine (szSpotS_c a.spots.A (List.length x.spots) a.spots.c (left) _ hn0 (by omega) (by omega)).mono ?_
    rw [if_pos (by omega)]
    rintro e w' ⟨rfl, rfl⟩
    go_wp2
    go_ret
    refine ⟨rfl, ?_⟩
    repeat (first | (with_reducible exact Below.refl _ _) | (with_reducible assumption) | (with_reducible refine below_al ?_ _) | (with_reducible refine Below.drew ?_) | (with_reducible refine below_drewN ?_ _) | (with_reducible refine below_st ?_ ?_ _) | (with_reducible refine below_tr ?_ (by assumption)) | (with_reducible exact Nat.le_refl _) | (focus (simp; done)) | (focus (simp; omega)))
  · skip
    by_cases c1 : left - ((List.length x.spots : Nat) : Int) - ((List.length x.inputs : Nat) : Int) < 0
    · skip
      have hfin : (if left - ((trackLen x : Nat) : Int) < 0 then (-1 : Int) else left - ((trackLen x : Nat) : Int)) = -1 := by have := hlen.out; rw [if_pos (by omega)]
      rw [hfin]
      clear hfin
      go_enter Try.func22, Try.ntmps22
      go_wp2_with (fail)
      refine (szSpotS_c a.spots.A (List.length x.spots) a.spots.c (left) _ hn0 (by omega) (by omega)).mono ?_
      rw [if_neg (by omega)]
      rintro e w' ⟨rfl, rfl⟩
      go_wp2_with (fail)
      refine (szRatioS_c a.inputs.A (List.length x.inputs) a.inputs.c (left - ((List.length x.spots : Nat) : Int)) _ hn1 (by omega) (by omega)).mono ?_
      rw [if_pos (by omega)]
      rintro e w' ⟨rfl, rfl⟩
      go_wp2
      go_ret
      refine ⟨rfl, ?_⟩
      repeat (first | (with_reducible exact Below.refl _ _) | (with_reducible assumption) | (with_reducible refine below_al ?_ _) | (with_reducible refine Below.drew ?_) | (with_reducible refine below_drewN ?_ _) | (with_reducible refine below_st ?_ ?_ _) | (with_reducible refine below_tr ?_ (by assumption)) | (with_reducible exact Nat.le_refl _) | (focus (simp; done)) | (focus (simp; omega)))
    · skip
      have hfin : (if left - ((trackLen x : Nat) : Int) < 0 then (-1 : Int) else left - ((trackLen x : Nat) : Int)) = left - ((List.length x.spots : Nat) : Int) - ((List.length x.inputs : Nat) : Int) := by have := hlen.out; (rw [if_neg (by omega)]; omega)
      rw [hfin]
      clear hfin
      go_enter Try.func22, Try.ntmps22
      go_wp2_with (fail)
      refine (szSpotS_c a.spots.A (List.length x.spots) a.spots.c (left) _ hn0 (by omega) (by omega)).mono ?_
      rw [if_neg (by omega)]
      rintro e w' ⟨rfl, rfl⟩
      go_wp2_with (fail)
      refine (szRatioS_c a.inputs.A (List.length x.inputs) a.inputs.c (left - ((List.length x.spots : Nat) : Int)) _ hn1 (by omega) (by omega)).mono ?_
      rw [if_neg (by omega)]
      rintro e w' ⟨rfl, rfl⟩
      go_wp2
      go_ret
      refine ⟨rfl, ?_⟩
      repeat (first | (with_reducible exact Below.refl _ _) | (with_reducible assumption) | (with_reducible refine below_al ?_ _) | (with_reducible refine Below.drew ?_) | (with_reducible refine below_drewN ?_ _) | (with_reducible refine below_st ?_ ?_ _) | (with_reducible refine below_tr ?_ (by assumption)) | (with_reducible exact Nat.le_refl _) | (focus (simp; done)) | (focus (simp; omega)))
set_option maxRecDepth 100000 in
set_option maxHeartbeats 1000000 in
theorem eqTrack_t (x : Track) (a b : TrackA) (w : World) (hn : trackLen x ≤ 1048576) (ha : TrackSl w x a) (hb : TrackSl w x b) :
    Calls Try.prog 27 #[trackV x a, trackV x b] w fun e w' => e = .returned (.bool true) ∧ Below w.heap.size w w' := by
  simp only [trackLen] at hn
  go_enter Try.func27, Try.ntmps27
  go_wp2_with (fail)
  refine (eqSpotS_t a.spots.A b.spots.A x.spots _ _ _ (by omega) (Sl.below ha.spots (by (repeat (first | (with_reducible exact Below.refl _ _) | (with_reducible assumption) | (with_reducible refine below_al ?_ _) | (with_reducible refine Below.drew ?_) | (with_reducible refine below_drewN ?_ _) | (with_reducible refine below_st ?_ ?_ _) | (with_reducible refine below_tr ?_ (by assumption)) | (with_reducible exact Nat.le_refl _) | (focus (simp; done)) | (focus (simp; omega)))))) (Sl.below hb.spots (by (repeat (first | (with_reducible exact Below.refl _ _) | (with_reducible assumption) | (with_reducible refine below_al ?_ _) | (with_reducible refine Below.drew ?_) | (with_reducible refine below_drewN ?_ _) | (with_reducible refine below_st ?_ ?_ _) | (with_reducible refine below_tr ?_ (by assumption)) | (with_reducible exact Nat.le_refl _) | (focus (simp; done)) | (focus (simp; omega))))))).mono ?_
  rintro e w0 ⟨rfl, hb0⟩
  have r0 := bcell1 hb0
  have l0 : w.heap.size < w0.heap.size := blt hb0 (by first | (simp; done) | (simp; omega) | omega)
  have m0 : w.heap.size + 1 < w0.heap.size := blt hb0 (by first | (simp; done) | (simp; omega) | omega)
  go_wp2_with (fail)
  refine (eqRatioS_t a.inputs.A b.inputs.A x.inputs _ _ _ (by omega) (Sl.below ha.inputs (by (repeat (first | (with_reducible exact Below.refl _ _) | (with_reducible assumption) | (with_reducible refine below_al ?_ _) | (with_reducible refine Below.drew ?_) | (with_reducible refine below_drewN ?_ _) | (with_reducible refine below_st ?_ ?_ _) | (with_reducible refine below_tr ?_ (by assumption)) | (with_reducible exact Nat.le_refl _) | (focus (simp; done)) | (focus (simp; omega)))))) (Sl.below hb.inputs (by (repeat (first | (with_reducible exact Below.refl _ _) | (with_reducible assumption) | (with_reducible refine below_al ?_ _) | (with_reducible refine Below.drew ?_) | (with_reducible refine below_drewN ?_ _) | (with_reducible refine below_st ?_ ?_ _) | (with_reducible refine below_tr ?_ (by assumption)) | (with_reducible exact Nat.le_refl _) | (focus (simp; done)) | (focus (simp; omega))))))).mono ?_
  rintro e w1 ⟨rfl, hb1⟩
  have r1 := bcell1 hb1
  have l1 : w.heap.size < w1.heap.size := blt hb1 (by first | (simp; done) | (simp; omega) | omega)
  have m1 : w.heap.size + 1 < w1.heap.size := blt hb1 (by first | (simp; done) | (simp; omega) | omega)
  go_wp2
  go_ret
  refine ⟨rfl, ?_⟩
  repeat (first | (with_reducible exact Below.refl _ _) | (with_reducible assumption) | (with_reducible refine below_al ?_ _) | (with_reducible refine Below.drew ?_) | (with_reducible refine below_drewN ?_ _) | (with_reducible refine below_st ?_ ?_ _) | (with_reducible refine below_tr ?_ (by assumption)) | (with_reducible exact Nat.le_refl _) | (focus (simp; done)) | (focus (simp; omega)))
set_option maxRecDepth 100000 in
set_option maxHeartbeats 2000000 in
theorem toTrack_c (x : Track) (a : TrackA) (w : World) (hn : trackLen x ≤ 1048576) (hs : TrackSl w x a) :
    Calls Try.prog 24 #[trackV x a] w fun e w' => ∃ a', e = .returned (trackV x a') ∧ TrackNew w' w.heap.size x a' ∧ Below w.heap.size w w' := by
  simp only [trackLen] at hn
  go_enter Try.func24, Try.ntmps24
  go_wp2_with (fail)
  refine (toSpotS_c a.spots.A x.spots _ _ (by omega) (Sl.below hs.spots (by (repeat (first | (with_reducible exact Below.refl _ _) | (with_reducible assumption) | (with_reducible refine below_al ?_ _) | (with_reducible refine Below.drew ?_) | (with_reducible refine below_drewN ?_ _) | (with_reducible refine below_st ?_ ?_ _) | (with_reducible refine below_tr ?_ (by assumption)) | (with_reducible exact Nat.le_refl _) | (focus (simp; done)) | (focus (simp; omega))))))).mono ?_
  rintro e w0 ⟨v0, rfl, N0, hb0⟩
  obtain ⟨A0, k0, rfl, ho0⟩ := N0
  have N0 : New 65 3 spotC w0 _ (.slice A0 (List.length x.spots) k0) x.spots := ⟨A0, k0, rfl, ho0⟩
  clear ho0
  have K0 := N0.blk
  replace N0 := N0.mono (base' := w.heap.size + 1 + 1 + 1) (by first | (simp; done) | (simp; omega) | omega)
  have r0 := bcell1 hb0
  have f0 := (bcell hb0).2
  have l0 : w.heap.size < w0.heap.size := blt hb0 (by first | (simp; done) | (simp; omega) | omega)
  have m0 : w.heap.size + 1 < w0.heap.size := blt hb0 (by first | (simp; done) | (simp; omega) | omega)
  have n0 : w.heap.size + 1 + 1 < w0.heap.size := blt hb0 (by first | (simp; done) | (simp; omega) | omega)
  go_wp2_with (fail)
  refine (toRatioS_c a.inputs.A x.inputs _ _ (by omega) (Sl.below hs.inputs (by (repeat (first | (with_reducible exact Below.refl _ _) | (with_reducible assumption) | (with_reducible refine below_al ?_ _) | (with_reducible refine Below.drew ?_) | (with_reducible refine below_drewN ?_ _) | (with_reducible refine below_st ?_ ?_ _) | (with_reducible refine below_tr ?_ (by assumption)) | (with_reducible exact Nat.le_refl _) | (focus (simp; done)) | (focus (simp; omega))))))).mono ?_
  rintro e w1 ⟨v1, rfl, N1, hb1⟩
  obtain ⟨A1, k1, rfl, ho1⟩ := N1
  have N1 : New 41 2 ratioC w1 _ (.slice A1 (List.length x.inputs) k1) x.inputs := ⟨A1, k1, rfl, ho1⟩
  clear ho1
  have K1 := N1.blk
  replace N1 := N1.mono (base' := w.heap.size + 1 + 1 + 1) (by first | (simp; done) | (simp; omega) | omega)
  have r1 := bcell1 hb1
  have f1 := (bcell hb1).2
  have s1 : w0.heap.size ≤ w1.heap.size := by simpa using hb1.size
  have l1 : w.heap.size < w1.heap.size := blt hb1 (by first | (simp; done) | (simp; omega) | omega)
  have m1 : w.heap.size + 1 < w1.heap.size := blt hb1 (by first | (simp; done) | (simp; omega) | omega)
  have n1 : w.heap.size + 1 + 1 < w1.heap.size := blt hb1 (by first | (simp; done) | (simp; omega) | omega)
  have H : Has w1 (w.heap.size + 1) [.slice none 0 0, .slice none 0 0] := by
    repeat (first | ((with_reducible refine Has.new_at ?_ _ _ rfl); (first | rfl | (focus (simp; done)))) | (with_reducible refine Has.set_ ?_ ?_ _) | (with_reducible refine Has.alloc ?_ _) | (with_reducible refine Has.below ?_ (by assumption)) | (focus (simp; done)) | (focus (simp; omega)))
  obtain ⟨cH_0, fH_0⟩ := H.2 0 _ rfl
  obtain ⟨cH_1, fH_1⟩ := H.2 1 _ rfl
  go_wp2
  refine bodyPost_ret (v := trackV x ⟨⟨A0, k0⟩, ⟨A1, k1⟩⟩) (by simp [results, Try.results24, go_sem, cH_0, cH_1]) rfl ?_
  refine ⟨⟨⟨A0, k0⟩, ⟨A1, k1⟩⟩, rfl, ⟨?_, ?_, ?_⟩, ?_⟩
  · refine New.mono (base := w.heap.size + 1 + 1 + 1) ?_ (by omega)
    repeat (first | (with_reducible exact N0) | (with_reducible refine New.low ?_ (by first | (simp; done) | (simp; omega) | omega) _) | (with_reducible refine New.below ?_ (by assumption) (Nat.le_refl _)))
  · refine New.mono (base := w.heap.size + 1 + 1 + 1) ?_ (by omega)
    repeat (first | (with_reducible exact N1) | (with_reducible refine New.low ?_ (by first | (simp; done) | (simp; omega) | omega) _) | (with_reducible refine New.below ?_ (by assumption) (Nat.le_refl _)))
  · simp only [List.pairwise_cons, List.mem_cons, List.not_mem_nil, or_false, forall_eq, false_implies, implies_true, List.Pairwise.nil, and_true]
    exact Blk.apart (K0) (K1) (by first | (simp; done) | (simp; omega) | omega)
  · repeat (first | (with_reducible exact Below.refl _ _) | (with_reducible assumption) | (with_reducible refine below_al ?_ _) | (with_reducible refine Below.drew ?_) | (with_reducible refine below_drewN ?_ _) | (with_reducible refine below_st ?_ ?_ _) | (with_reducible refine below_tr ?_ (by assumption)) | (with_reducible exact Nat.le_refl _) | (focus (simp; done)) | (focus (simp; omega)))
set_option maxRecDepth 100000 in
set_option maxHeartbeats 1000000 in
theorem szLaw_c (x : Law) (a : LawA) (left : Int) (w : World) (hn : List.length x.lows ≤ 9223372036854775807 ∧ List.length x.highs ≤ 9223372036854775807) (h0 : 0 ≤ left) (h1 : left ≤ 1048576) :
    Calls Try.prog 28 #[lawV x a, .int .i64 left] w fun e w' => e = .returned (.int .i64 (if left - lawLen x < 0 then -1 else left - lawLen x)) ∧ Below w.heap.size w w' := by
  obtain ⟨hn0, hn1⟩ := hn
  have hlen : Hid (((lawLen x : Nat) : Int) = ((List.length x.lows : Nat) : Int) + ((List.length x.highs : Nat) : Int)) := by show _ = _; simp only [lawLen]; (try omega)
  have p0 : (0 : Int) ≤ ((List.length x.lows : Nat) : Int) := by omega
  have p1 : (0 : Int) ≤ ((List.length x.highs : Nat) : Int) := by omega
  by_cases c0 : left - ((List.length x.lows : Nat) : Int) < 0
  · skip
    have hfin : (if left - ((lawLen x : Nat) : Int) < 0 then (-1 : Int) else left - ((lawLen x : Nat) : Int)) = -1 := by have := hlen.out; rw [if_pos (by omega)]
    rw [hfin]
    clear hfin
    go_enter Try.func28, Try.ntmps28
    go_wp2_with (fail)
    refine (szPieceS_c a.lows.A (List.length x.lows) a.lows.c (left) _ hn0 (by omega) (by omega)).mono ?_
    rw [if_pos (by omega)]
    rintro e w' ⟨rfl, rfl⟩
    go_wp2
    go_ret
    refine ⟨rfl, ?_⟩
    repeat (first | (with_reducible exact Below.refl _ _) | (with_reducible assumption) | (with_reducible refine below_al ?_ _) | (with_reducible refine Below.drew ?_) | (with_reducible refine below_drewN ?_ _) | (with_reducible refine below_st ?_ ?_ _) | (with_reducible refine below_tr ?_ (by assumption)) | (with_reducible exact Nat.le_refl _) | (focus (simp; done)) | (focus (simp; omega)))
  · skip
    by_cases c1 : left - ((List.length x.lows : Nat) : Int) - ((List.length x.highs : Nat) : Int) < 0
    · skip
      have hfin : (if left - ((lawLen x : Nat) : Int) < 0 then (-1 : Int) else left - ((lawLen x : Nat) : Int)) = -1 := by have := hlen.out; rw [if_pos (by omega)]
      rw [hfin]
      clear hfin
      go_enter Try.func28, Try.ntmps28
      go_wp2_with (fail)
      refine (szPieceS_c a.lows.A (List.length x.lows) a.lows.c (left) _ hn0 (by omega) (by omega)).mono ?_
      rw [if_neg (by omega)]
      rintro e w' ⟨rfl, rfl⟩
      go_wp2_with (fail)
      refine (szPieceS_c a.highs.A (List.length x.highs) a.highs.c (left - ((List.length x.lows : Nat) : Int)) _ hn1 (by omega) (by omega)).mono ?_
      rw [if_pos (by omega)]
      rintro e w' ⟨rfl, rfl⟩
      go_wp2
      go_ret
      refine ⟨rfl, ?_⟩
      repeat (first | (with_reducible exact Below.refl _ _) | (with_reducible assumption) | (with_reducible refine below_al ?_ _) | (with_reducible refine Below.drew ?_) | (with_reducible refine below_drewN ?_ _) | (with_reducible refine below_st ?_ ?_ _) | (with_reducible refine below_tr ?_ (by assumption)) | (with_reducible exact Nat.le_refl _) | (focus (simp; done)) | (focus (simp; omega)))
    · skip
      have hfin : (if left - ((lawLen x : Nat) : Int) < 0 then (-1 : Int) else left - ((lawLen x : Nat) : Int)) = left - ((List.length x.lows : Nat) : Int) - ((List.length x.highs : Nat) : Int) := by have := hlen.out; (rw [if_neg (by omega)]; omega)
      rw [hfin]
      clear hfin
      go_enter Try.func28, Try.ntmps28
      go_wp2_with (fail)
      refine (szPieceS_c a.lows.A (List.length x.lows) a.lows.c (left) _ hn0 (by omega) (by omega)).mono ?_
      rw [if_neg (by omega)]
      rintro e w' ⟨rfl, rfl⟩
      go_wp2_with (fail)
      refine (szPieceS_c a.highs.A (List.length x.highs) a.highs.c (left - ((List.length x.lows : Nat) : Int)) _ hn1 (by omega) (by omega)).mono ?_
      rw [if_neg (by omega)]
      rintro e w' ⟨rfl, rfl⟩
      go_wp2
      go_ret
      refine ⟨rfl, ?_⟩
      repeat (first | (with_reducible exact Below.refl _ _) | (with_reducible assumption) | (with_reducible refine below_al ?_ _) | (with_reducible refine Below.drew ?_) | (with_reducible refine below_drewN ?_ _) | (with_reducible refine below_st ?_ ?_ _) | (with_reducible refine below_tr ?_ (by assumption)) | (with_reducible exact Nat.le_refl _) | (focus (simp; done)) | (focus (simp; omega)))
set_option maxRecDepth 100000 in
set_option maxHeartbeats 1000000 in
theorem eqLaw_t (x : Law) (a b : LawA) (w : World) (hn : lawLen x ≤ 1048576) (ha : LawSl w x a) (hb : LawSl w x b) :
    Calls Try.prog 34 #[lawV x a, lawV x b] w fun e w' => e = .returned (.bool true) ∧ Below w.heap.size w w' := by
  simp only [lawLen] at hn
  go_enter Try.func34, Try.ntmps34
  go_wp2_with (fail)
  refine (eqPieceS_t a.lows.A b.lows.A x.lows _ _ _ (by omega) (Sl.below ha.lows (by (repeat (first | (with_reducible exact Below.refl _ _) | (with_reducible assumption) | (with_reducible refine below_al ?_ _) | (with_reducible refine Below.drew ?_) | (with_reducible refine below_drewN ?_ _) | (with_reducible refine below_st ?_ ?_ _) | (with_reducible refine below_tr ?_ (by assumption)) | (with_reducible exact Nat.le_refl _) | (focus (simp; done)) | (focus (simp; omega)))))) (Sl.below hb.lows (by (repeat (first | (with_reducible exact Below.refl _ _) | (with_reducible assumption) | (with_reducible refine below_al ?_ _) | (with_reducible refine Below.drew ?_) | (with_reducible refine below_drewN ?_ _) | (with_reducible refine below_st ?_ ?_ _) | (with_reducible refine below_tr ?_ (by assumption)) | (with_reducible exact Nat.le_refl _) | (focus (simp; done)) | (focus (simp; omega))))))).mono ?_
  rintro e w0 ⟨rfl, hb0⟩
  have r0 := bcell1 hb0
  have l0 : w.heap.size < w0.heap.size := blt hb0 (by first | (simp; done) | (simp; omega) | omega)
  have m0 : w.heap.size + 1 < w0.heap.size := blt hb0 (by first | (simp; done) | (simp; omega) | omega)
  go_wp2_with (fail)
  refine (eqPieceS_t a.highs.A b.highs.A x.highs _ _ _ (by omega) (Sl.below ha.highs (by (repeat (first | (with_reducible exact Below.refl _ _) | (with_reducible assumption) | (with_reducible refine below_al ?_ _) | (with_reducible refine Below.drew ?_) | (with_reducible refine below_drewN ?_ _) | (with_reducible refine below_st ?_ ?_ _) | (with_reducible refine below_tr ?_ (by assumption)) | (with_reducible exact Nat.le_refl _) | (focus (simp; done)) | (focus (simp; omega)))))) (Sl.below hb.highs (by (repeat (first | (with_reducible exact Below.refl _ _) | (with_reducible assumption) | (with_reducible refine below_al ?_ _) | (with_reducible refine Below.drew ?_) | (with_reducible refine below_drewN ?_ _) | (with_reducible refine below_st ?_ ?_ _) | (with_reducible refine below_tr ?_ (by assumption)) | (with_reducible exact Nat.le_refl _) | (focus (simp; done)) | (focus (simp; omega))))))).mono ?_
  rintro e w1 ⟨rfl, hb1⟩
  have r1 := bcell1 hb1
  have l1 : w.heap.size < w1.heap.size := blt hb1 (by first | (simp; done) | (simp; omega) | omega)
  have m1 : w.heap.size + 1 < w1.heap.size := blt hb1 (by first | (simp; done) | (simp; omega) | omega)
  go_wp2
  go_ret
  refine ⟨rfl, ?_⟩
  repeat (first | (with_reducible exact Below.refl _ _) | (with_reducible assumption) | (with_reducible refine below_al ?_ _) | (with_reducible refine Below.drew ?_) | (with_reducible refine below_drewN ?_ _) | (with_reducible refine below_st ?_ ?_ _) | (with_reducible refine below_tr ?_ (by assumption)) | (with_reducible exact Nat.le_refl _) | (focus (simp; done)) | (focus (simp; omega)))
set_option maxRecDepth 100000 in
set_option maxHeartbeats 2000000 in
theorem toLaw_c (x : Law) (a : LawA) (w : World) (hn : lawLen x ≤ 1048576) (hs : LawSl w x a) :
    Calls Try.prog 30 #[lawV x a] w fun e w' => ∃ a', e = .returned (lawV x a') ∧ LawNew w' w.heap.size x a' ∧ Below w.heap.size w w' := by
  simp only [lawLen] at hn
  go_enter Try.func30, Try.ntmps30
  go_wp2_with (fail)
  refine (toPieceS_c a.lows.A x.lows _ _ (by omega) (Sl.below hs.lows (by (repeat (first | (with_reducible exact Below.refl _ _) | (with_reducible assumption) | (with_reducible refine below_al ?_ _) | (with_reducible refine Below.drew ?_) | (with_reducible refine below_drewN ?_ _) | (with_reducible refine below_st ?_ ?_ _) | (with_reducible refine below_tr ?_ (by assumption)) | (with_reducible exact Nat.le_refl _) | (focus (simp; done)) | (focus (simp; omega))))))).mono ?_
  rintro e w0 ⟨v0, rfl, N0, hb0⟩
  obtain ⟨A0, k0, rfl, ho0⟩ := N0
  have N0 : New 193 4 pieceC w0 _ (.slice A0 (List.length x.lows) k0) x.lows := ⟨A0, k0, rfl, ho0⟩
  clear ho0
  have K0 := N0.blk
  replace N0 := N0.mono (base' := w.heap.size + 1 + 1 + 1) (by first | (simp; done) | (simp; omega) | omega)
  have r0 := bcell1 hb0
  have f0 := (bcell hb0).2
  have l0 : w.heap.size < w0.heap.size := blt hb0 (by first | (simp; done) | (simp; omega) | omega)
  have m0 : w.heap.size + 1 < w0.heap.size := blt hb0 (by first | (simp; done) | (simp; omega) | omega)
  have n0 : w.heap.size + 1 + 1 < w0.heap.size := blt hb0 (by first | (simp; done) | (simp; omega) | omega)
  go_wp2_with (fail)
  refine (toPieceS_c a.highs.A x.highs _ _ (by omega) (Sl.below hs.highs (by (repeat (first | (with_reducible exact Below.refl _ _) | (with_reducible assumption) | (with_reducible refine below_al ?_ _) | (with_reducible refine Below.drew ?_) | (with_reducible refine below_drewN ?_ _) | (with_reducible refine below_st ?_ ?_ _) | (with_reducible refine below_tr ?_ (by assumption)) | (with_reducible exact Nat.le_refl _) | (focus (simp; done)) | (focus (simp; omega))))))).mono ?_
  rintro e w1 ⟨v1, rfl, N1, hb1⟩
  obtain ⟨A1, k1, rfl, ho1⟩ := N1
  have N1 : New 193 4 pieceC w1 _ (.slice A1 (List.length x.highs) k1) x.highs := ⟨A1, k1, rfl, ho1⟩
  clear ho1
  have K1 := N1.blk
  replace N1 := N1.mono (base' := w.heap.size + 1 + 1 + 1) (by first | (simp; done) | (simp; omega) | omega)
  have r1 := bcell1 hb1
  have f1 := (bcell hb1).2
  have s1 : w0.heap.size ≤ w1.heap.size := by simpa using hb1.size
  have l1 : w.heap.size < w1.heap.size := blt hb1 (by first | (simp; done) | (simp; omega) | omega)
  have m1 : w.heap.size + 1 < w1.heap.size := blt hb1 (by first | (simp; done) | (simp; omega) | omega)
  have n1 : w.heap.size + 1 + 1 < w1.heap.size := blt hb1 (by first | (simp; done) | (simp; omega) | omega)
  have H : Has w1 (w.heap.size + 1) [.slice none 0 0, .slice none 0 0] := by
    repeat (first | ((with_reducible refine Has.new_at ?_ _ _ rfl); (first | rfl | (focus (simp; done)))) | (with_reducible refine Has.set_ ?_ ?_ _) | (with_reducible refine Has.alloc ?_ _) | (with_reducible refine Has.below ?_ (by assumption)) | (focus (simp; done)) | (focus (simp; omega)))
  obtain ⟨cH_0, fH_0⟩ := H.2 0 _ rfl
  obtain ⟨cH_1, fH_1⟩ := H.2 1 _ rfl
  go_wp2
  refine bodyPost_ret (v := lawV x ⟨⟨A0, k0⟩, ⟨A1, k1⟩⟩) (by simp [results, Try.results30, go_sem, cH_0, cH_1]) rfl ?_
  refine ⟨⟨⟨A0, k0⟩, ⟨A1, k1⟩⟩, rfl, ⟨?_, ?_, ?_⟩, ?_⟩
  · refine New.mono (base := w.heap.size + 1 + 1 + 1) ?_ (by omega)
    repeat (first | (with_reducible exact N0) | (with_reducible refine New.low ?_ (by first | (simp; done) | (simp; omega) | omega) _) | (with_reducible refine New.below ?_ (by assumption) (Nat.le_refl _)))
  · refine New.mono (base := w.heap.size + 1 + 1 + 1) ?_ (by omega)
    repeat (first | (with_reducible exact N1) | (with_reducible refine New.low ?_ (by first | (simp; done) | (simp; omega) | omega) _) | (with_reducible refine New.below ?_ (by assumption) (Nat.le_refl _)))
  · simp only [List.pairwise_cons, List.mem_cons, List.not_mem_nil, or_false, forall_eq, false_implies, implies_true, List.Pairwise.nil, and_true]
    exact Blk.apart (K0) (K1) (by first | (simp; done) | (simp; omega) | omega)
  · repeat (first | (with_reducible exact Below.refl _ _) | (with_reducible assumption) | (with_reducible refine below_al ?_ _) | (with_reducible refine Below.drew ?_) | (with_reducible refine below_drewN ?_ _) | (with_reducible refine below_st ?_ ?_ _) | (with_reducible refine below_tr ?_ (by assumption)) | (with_reducible exact Nat.le_refl _) | (focus (simp; done)) | (focus (simp; omega)))
end Go.Proofs.Ytbdihgcjopbnjaa
end
