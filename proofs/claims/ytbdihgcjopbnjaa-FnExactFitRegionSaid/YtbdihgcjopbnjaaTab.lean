/-
  The functions on tables: what they return.
  Conditions: the slice of cells holds at most 2^20 ints.
-/
import Derived.Test.YtbdihgcjopbnjaaNum2
namespace Go.Proofs.Ytbdihgcjopbnjaa
open Go.RowKit

structure Tab where
  x0 : Int
  y0 : Int
  step : Int
  nx : Int
  ny : Int
  cells : List Int
def Tab.In (t : Tab) : Prop := In64 t.x0 ∧ In64 t.y0 ∧ In64 t.step ∧ In64 t.nx ∧ In64 t.ny
abbrev tabV (t : Tab) (A : Option Addr) (cap : Nat) : Value := .agg #[.int .i64 t.x0, .int .i64 t.y0, .int .i64 t.step, .int .i64 t.nx, .int .i64 t.ny, .slice A t.cells.length cap]
abbrev tabC (t : Tab) (A : Option Addr) (cap : Nat) : List Value := [.int .i64 t.x0, .int .i64 t.y0, .int .i64 t.step, .int .i64 t.nx, .int .i64 t.ny, .slice A t.cells.length cap]
def gridOk (t : Tab) : Bool := inR t.x0 (-1000) 1000 && inR t.y0 (-1000) 1000 && inR t.step 1 100 && inR t.nx 1 100 && inR t.ny 1 100 && decide (t.nx * t.ny ≤ 400) && decide (t.x0 + t.nx * t.step ≤ 1000) && decide (t.y0 + t.ny * t.step ≤ 1000)
def cellOk (n : Int) : Bool := n == -1000000 || inR n (-1000) 1000
def tableOk (t : Tab) : Bool := gridOk t && decide ((t.cells.length : Int) = t.nx * t.ny) && t.cells.all cellOk
theorem mul_bd {a b A B : Int} (ha : -A ≤ a ∧ a ≤ A) (hb : -B ≤ b ∧ b ≤ B) : -(A * B) ≤ a * b ∧ a * b ≤ A * B := by
  have hA : a.natAbs ≤ A.natAbs := by omega
  have hB : b.natAbs ≤ B.natAbs := by omega
  have hm := Nat.mul_le_mul hA hB
  rw [← Int.natAbs_mul, ← Int.natAbs_mul] at hm
  have hAB : 0 ≤ A * B := Int.mul_nonneg (by omega) (by omega)
  omega
theorem gridOk_iff {t : Tab} : gridOk t = true ↔ (-1000 ≤ t.x0 ∧ t.x0 ≤ 1000) ∧ (-1000 ≤ t.y0 ∧ t.y0 ≤ 1000) ∧ (1 ≤ t.step ∧ t.step ≤ 100) ∧ (1 ≤ t.nx ∧ t.nx ≤ 100) ∧ (1 ≤ t.ny ∧ t.ny ≤ 100) ∧ t.nx * t.ny ≤ 400 ∧ t.x0 + t.nx * t.step ≤ 1000 ∧ t.y0 + t.ny * t.step ≤ 1000 := by
  simp only [gridOk, Bool.and_eq_true, inR_iff, decide_eq_true_eq, and_assoc]

set_option maxHeartbeats 2000000 in
theorem igridOk_c (t : Tab) (A : Option Addr) (cap : Nat) (w : World) (_ : t.In) :
    Calls Try.prog 153 #[tabV t A cap] w fun e w' => e = .returned (.bool (gridOk t)) ∧ Below w.heap.size w w' := by
  cases e1 : inR t.x0 (-1000) 1000
  · go_enter Try.func153, Try.ntmps153
    go_wp2_with (first | (go_at_call 112; refine (inRange_c _ _ _ _).mono ?_; rintro e w' ⟨rfl, rfl⟩))
    go_ret
    refine ⟨ret_bool (by simp [gridOk, e1] <;> omega), ?_⟩
    repeat (first | (with_reducible exact Below.refl _ _) | (with_reducible assumption) | (with_reducible refine below_al ?_ _) | (with_reducible refine Below.drew ?_) | (with_reducible refine below_drewN ?_ _) | (with_reducible refine below_st ?_ ?_ _) | (with_reducible refine below_tr ?_ (by assumption)) | (with_reducible exact Nat.le_refl _) | (focus (simp; done)) | (focus (simp; omega)))
  · skip
    cases e2 : inR t.y0 (-1000) 1000
    · go_enter Try.func153, Try.ntmps153
      go_wp2_with (first | (go_at_call 112; refine (inRange_c _ _ _ _).mono ?_; rintro e w' ⟨rfl, rfl⟩))
      go_ret
      refine ⟨ret_bool (by simp [gridOk, e1, e2] <;> omega), ?_⟩
      repeat (first | (with_reducible exact Below.refl _ _) | (with_reducible assumption) | (with_reducible refine below_al ?_ _) | (with_reducible refine Below.drew ?_) | (with_reducible refine below_drewN ?_ _) | (with_reducible refine below_st ?_ ?_ _) | (with_reducible refine below_tr ?_ (by assumption)) | (with_reducible exact Nat.le_refl _) | (focus (simp; done)) | (focus (simp; omega)))
    · skip
      cases e3 : inR t.step 1 100
      · go_enter Try.func153, Try.ntmps153
        go_wp2_with (first | (go_at_call 112; refine (inRange_c _ _ _ _).mono ?_; rintro e w' ⟨rfl, rfl⟩))
        go_ret
        refine ⟨ret_bool (by simp [gridOk, e1, e2, e3] <;> omega), ?_⟩
        repeat (first | (with_reducible exact Below.refl _ _) | (with_reducible assumption) | (with_reducible refine below_al ?_ _) | (with_reducible refine Below.drew ?_) | (with_reducible refine below_drewN ?_ _) | (with_reducible refine below_st ?_ ?_ _) | (with_reducible refine below_tr ?_ (by assumption)) | (with_reducible exact Nat.le_refl _) | (focus (simp; done)) | (focus (simp; omega)))
      · skip
        cases e4 : inR t.nx 1 100
        · go_enter Try.func153, Try.ntmps153
          go_wp2_with (first | (go_at_call 112; refine (inRange_c _ _ _ _).mono ?_; rintro e w' ⟨rfl, rfl⟩))
          go_ret
          refine ⟨ret_bool (by simp [gridOk, e1, e2, e3, e4] <;> omega), ?_⟩
          repeat (first | (with_reducible exact Below.refl _ _) | (with_reducible assumption) | (with_reducible refine below_al ?_ _) | (with_reducible refine Below.drew ?_) | (with_reducible refine below_drewN ?_ _) | (with_reducible refine below_st ?_ ?_ _) | (with_reducible refine below_tr ?_ (by assumption)) | (with_reducible exact Nat.le_refl _) | (focus (simp; done)) | (focus (simp; omega)))
        · skip
          cases e5 : inR t.ny 1 100
          · go_enter Try.func153, Try.ntmps153
            go_wp2_with (first | (go_at_call 112; refine (inRange_c _ _ _ _).mono ?_; rintro e w' ⟨rfl, rfl⟩))
            go_ret
            refine ⟨ret_bool (by simp [gridOk, e1, e2, e3, e4, e5] <;> omega), ?_⟩
            repeat (first | (with_reducible exact Below.refl _ _) | (with_reducible assumption) | (with_reducible refine below_al ?_ _) | (with_reducible refine Below.drew ?_) | (with_reducible refine below_drewN ?_ _) | (with_reducible refine below_st ?_ ?_ _) | (with_reducible refine below_tr ?_ (by assumption)) | (with_reducible exact Nat.le_refl _) | (focus (simp; done)) | (focus (simp; omega)))
          · skip
            obtain ⟨a1, a2⟩ := inR_iff.1 e1
            obtain ⟨a3, a4⟩ := inR_iff.1 e2
            obtain ⟨a5, a6⟩ := inR_iff.1 e3
            obtain ⟨a7, a8⟩ := inR_iff.1 e4
            obtain ⟨a9, a10⟩ := inR_iff.1 e5
            obtain ⟨m1, m2⟩ := mul_bd (A := 100) (B := 100) (a := t.nx) (b := t.ny) (by omega) (by omega)
            obtain ⟨m3, m4⟩ := mul_bd (A := 100) (B := 100) (a := t.nx) (b := t.step) (by omega) (by omega)
            obtain ⟨m5, m6⟩ := mul_bd (A := 100) (B := 100) (a := t.ny) (b := t.step) (by omega) (by omega)
            by_cases e6 : t.nx * t.ny ≤ 400
            rotate_left
            · go_enter Try.func153, Try.ntmps153
              go_wp2_with (first | (go_at_call 112; refine (inRange_c _ _ _ _).mono ?_; rintro e w' ⟨rfl, rfl⟩))
              go_ret
              refine ⟨ret_bool (by simp [gridOk, e1, e2, e3, e4, e5] <;> omega), ?_⟩
              repeat (first | (with_reducible exact Below.refl _ _) | (with_reducible assumption) | (with_reducible refine below_al ?_ _) | (with_reducible refine Below.drew ?_) | (with_reducible refine below_drewN ?_ _) | (with_reducible refine below_st ?_ ?_ _) | (with_reducible refine below_tr ?_ (by assumption)) | (with_reducible exact Nat.le_refl _) | (focus (simp; done)) | (focus (simp; omega)))
            by_cases e7 : t.x0 + t.nx * t.step ≤ 1000
            rotate_left
            · go_enter Try.func153, Try.ntmps153
              go_wp2_with (first | (go_at_call 112; refine (inRange_c _ _ _ _).mono ?_; rintro e w' ⟨rfl, rfl⟩))
              go_ret
              refine ⟨ret_bool (by simp [gridOk, e1, e2, e3, e4, e5, e6] <;> omega), ?_⟩
              repeat (first | (with_reducible exact Below.refl _ _) | (with_reducible assumption) | (with_reducible refine below_al ?_ _) | (with_reducible refine Below.drew ?_) | (with_reducible refine below_drewN ?_ _) | (with_reducible refine below_st ?_ ?_ _) | (with_reducible refine below_tr ?_ (by assumption)) | (with_reducible exact Nat.le_refl _) | (focus (simp; done)) | (focus (simp; omega)))
            by_cases e8 : t.y0 + t.ny * t.step ≤ 1000
            rotate_left
            · go_enter Try.func153, Try.ntmps153
              go_wp2_with (first | (go_at_call 112; refine (inRange_c _ _ _ _).mono ?_; rintro e w' ⟨rfl, rfl⟩))
              go_ret
              refine ⟨ret_bool (by simp [gridOk, e1, e2, e3, e4, e5, e6, e7] <;> omega), ?_⟩
              repeat (first | (with_reducible exact Below.refl _ _) | (with_reducible assumption) | (with_reducible refine below_al ?_ _) | (with_reducible refine Below.drew ?_) | (with_reducible refine below_drewN ?_ _) | (with_reducible refine below_st ?_ ?_ _) | (with_reducible refine below_tr ?_ (by assumption)) | (with_reducible exact Nat.le_refl _) | (focus (simp; done)) | (focus (simp; omega)))
            go_enter Try.func153, Try.ntmps153
            go_wp2_with (first | (go_at_call 112; refine (inRange_c _ _ _ _).mono ?_; rintro e w' ⟨rfl, rfl⟩))
            go_ret
            refine ⟨ret_bool (by simp [gridOk, e1, e2, e3, e4, e5, e6, e7] <;> omega), ?_⟩
            repeat (first | (with_reducible exact Below.refl _ _) | (with_reducible assumption) | (with_reducible refine below_al ?_ _) | (with_reducible refine Below.drew ?_) | (with_reducible refine below_drewN ?_ _) | (with_reducible refine below_st ?_ ?_ _) | (with_reducible refine below_tr ?_ (by assumption)) | (with_reducible exact Nat.le_refl _) | (focus (simp; done)) | (focus (simp; omega)))

set_option maxHeartbeats 2000000 in
theorem l16Frame_c (t : Tab) (A : Option Addr) (cap : Nat) (w : World) (_ : t.In) :
    Calls Try.prog 152 #[tabV t A cap] w fun e w' => e = .returned (.bool (gridOk t)) ∧ Below w.heap.size w w' := by
  cases e1 : inR t.x0 (-1000) 1000
  · go_enter Try.func152, Try.ntmps152
    go_wp2_with (first | (go_at_call 78; refine (l01In_c _ _ _ _).mono ?_; rintro e w' ⟨rfl, rfl⟩))
    go_ret
    refine ⟨ret_bool (by simp [gridOk, e1] <;> omega), ?_⟩
    repeat (first | (with_reducible exact Below.refl _ _) | (with_reducible assumption) | (with_reducible refine below_al ?_ _) | (with_reducible refine Below.drew ?_) | (with_reducible refine below_drewN ?_ _) | (with_reducible refine below_st ?_ ?_ _) | (with_reducible refine below_tr ?_ (by assumption)) | (with_reducible exact Nat.le_refl _) | (focus (simp; done)) | (focus (simp; omega)))
  · skip
    cases e2 : inR t.y0 (-1000) 1000
    · go_enter Try.func152, Try.ntmps152
      go_wp2_with (first | (go_at_call 78; refine (l01In_c _ _ _ _).mono ?_; rintro e w' ⟨rfl, rfl⟩))
      go_ret
      refine ⟨ret_bool (by simp [gridOk, e1, e2] <;> omega), ?_⟩
      repeat (first | (with_reducible exact Below.refl _ _) | (with_reducible assumption) | (with_reducible refine below_al ?_ _) | (with_reducible refine Below.drew ?_) | (with_reducible refine below_drewN ?_ _) | (with_reducible refine below_st ?_ ?_ _) | (with_reducible refine below_tr ?_ (by assumption)) | (with_reducible exact Nat.le_refl _) | (focus (simp; done)) | (focus (simp; omega)))
    · skip
      cases e3 : inR t.step 1 100
      · go_enter Try.func152, Try.ntmps152
        go_wp2_with (first | (go_at_call 78; refine (l01In_c _ _ _ _).mono ?_; rintro e w' ⟨rfl, rfl⟩))
        go_ret
        refine ⟨ret_bool (by simp [gridOk, e1, e2, e3] <;> omega), ?_⟩
        repeat (first | (with_reducible exact Below.refl _ _) | (with_reducible assumption) | (with_reducible refine below_al ?_ _) | (with_reducible refine Below.drew ?_) | (with_reducible refine below_drewN ?_ _) | (with_reducible refine below_st ?_ ?_ _) | (with_reducible refine below_tr ?_ (by assumption)) | (with_reducible exact Nat.le_refl _) | (focus (simp; done)) | (focus (simp; omega)))
      · skip
        cases e4 : inR t.nx 1 100
        · go_enter Try.func152, Try.ntmps152
          go_wp2_with (first | (go_at_call 78; refine (l01In_c _ _ _ _).mono ?_; rintro e w' ⟨rfl, rfl⟩))
          go_ret
          refine ⟨ret_bool (by simp [gridOk, e1, e2, e3, e4] <;> omega), ?_⟩
          repeat (first | (with_reducible exact Below.refl _ _) | (with_reducible assumption) | (with_reducible refine below_al ?_ _) | (with_reducible refine Below.drew ?_) | (with_reducible refine below_drewN ?_ _) | (with_reducible refine below_st ?_ ?_ _) | (with_reducible refine below_tr ?_ (by assumption)) | (with_reducible exact Nat.le_refl _) | (focus (simp; done)) | (focus (simp; omega)))
        · skip
          cases e5 : inR t.ny 1 100
          · go_enter Try.func152, Try.ntmps152
            go_wp2_with (first | (go_at_call 78; refine (l01In_c _ _ _ _).mono ?_; rintro e w' ⟨rfl, rfl⟩))
            go_ret
            refine ⟨ret_bool (by simp [gridOk, e1, e2, e3, e4, e5] <;> omega), ?_⟩
            repeat (first | (with_reducible exact Below.refl _ _) | (with_reducible assumption) | (with_reducible refine below_al ?_ _) | (with_reducible refine Below.drew ?_) | (with_reducible refine below_drewN ?_ _) | (with_reducible refine below_st ?_ ?_ _) | (with_reducible refine below_tr ?_ (by assumption)) | (with_reducible exact Nat.le_refl _) | (focus (simp; done)) | (focus (simp; omega)))
          · skip
            obtain ⟨a1, a2⟩ := inR_iff.1 e1
            obtain ⟨a3, a4⟩ := inR_iff.1 e2
            obtain ⟨a5, a6⟩ := inR_iff.1 e3
            obtain ⟨a7, a8⟩ := inR_iff.1 e4
            obtain ⟨a9, a10⟩ := inR_iff.1 e5
            obtain ⟨m1, m2⟩ := mul_bd (A := 100) (B := 100) (a := t.nx) (b := t.ny) (by omega) (by omega)
            obtain ⟨m3, m4⟩ := mul_bd (A := 100) (B := 100) (a := t.nx) (b := t.step) (by omega) (by omega)
            obtain ⟨m5, m6⟩ := mul_bd (A := 100) (B := 100) (a := t.ny) (b := t.step) (by omega) (by omega)
            by_cases e6 : t.nx * t.ny ≤ 400
            rotate_left
            · go_enter Try.func152, Try.ntmps152
              go_wp2_with (first | (go_at_call 78; refine (l01In_c _ _ _ _).mono ?_; rintro e w' ⟨rfl, rfl⟩))
              go_ret
              refine ⟨ret_bool (by simp [gridOk, e1, e2, e3, e4, e5] <;> omega), ?_⟩
              repeat (first | (with_reducible exact Below.refl _ _) | (with_reducible assumption) | (with_reducible refine below_al ?_ _) | (with_reducible refine Below.drew ?_) | (with_reducible refine below_drewN ?_ _) | (with_reducible refine below_st ?_ ?_ _) | (with_reducible refine below_tr ?_ (by assumption)) | (with_reducible exact Nat.le_refl _) | (focus (simp; done)) | (focus (simp; omega)))
            by_cases e7 : t.x0 + t.nx * t.step ≤ 1000
            rotate_left
            · go_enter Try.func152, Try.ntmps152
              go_wp2_with (first | (go_at_call 78; refine (l01In_c _ _ _ _).mono ?_; rintro e w' ⟨rfl, rfl⟩))
              go_ret
              refine ⟨ret_bool (by simp [gridOk, e1, e2, e3, e4, e5, e6] <;> omega), ?_⟩
              repeat (first | (with_reducible exact Below.refl _ _) | (with_reducible assumption) | (with_reducible refine below_al ?_ _) | (with_reducible refine Below.drew ?_) | (with_reducible refine below_drewN ?_ _) | (with_reducible refine below_st ?_ ?_ _) | (with_reducible refine below_tr ?_ (by assumption)) | (with_reducible exact Nat.le_refl _) | (focus (simp; done)) | (focus (simp; omega)))
            by_cases e8 : t.y0 + t.ny * t.step ≤ 1000
            rotate_left
            · go_enter Try.func152, Try.ntmps152
              go_wp2_with (first | (go_at_call 78; refine (l01In_c _ _ _ _).mono ?_; rintro e w' ⟨rfl, rfl⟩))
              go_ret
              refine ⟨ret_bool (by simp [gridOk, e1, e2, e3, e4, e5, e6, e7] <;> omega), ?_⟩
              repeat (first | (with_reducible exact Below.refl _ _) | (with_reducible assumption) | (with_reducible refine below_al ?_ _) | (with_reducible refine Below.drew ?_) | (with_reducible refine below_drewN ?_ _) | (with_reducible refine below_st ?_ ?_ _) | (with_reducible refine below_tr ?_ (by assumption)) | (with_reducible exact Nat.le_refl _) | (focus (simp; done)) | (focus (simp; omega)))
            go_enter Try.func152, Try.ntmps152
            go_wp2_with (first | (go_at_call 78; refine (l01In_c _ _ _ _).mono ?_; rintro e w' ⟨rfl, rfl⟩))
            go_ret
            refine ⟨ret_bool (by simp [gridOk, e1, e2, e3, e4, e5, e6, e7] <;> omega), ?_⟩
            repeat (first | (with_reducible exact Below.refl _ _) | (with_reducible assumption) | (with_reducible refine below_al ?_ _) | (with_reducible refine Below.drew ?_) | (with_reducible refine below_drewN ?_ _) | (with_reducible refine below_st ?_ ?_ _) | (with_reducible refine below_tr ?_ (by assumption)) | (with_reducible exact Nat.le_refl _) | (focus (simp; done)) | (focus (simp; omega)))

theorem iTableOk_c (t : Tab) (A : Option Addr) (cap : Nat) (w : World) (ht : t.In) (hn : t.cells.length ≤ 1048576) (hs : Sl 1 intC w A t.cells) :
    Calls Try.prog 81 #[tabV t A cap] w fun e w' => e = .returned (.bool (tableOk t)) ∧ Below w.heap.size w w' := by
  have c1 := fun W => igridOk_c t A cap W ht
  have HA := Has.new w #[.int .i64 t.x0, .int .i64 t.y0, .int .i64 t.step, .int .i64 t.nx, .int .i64 t.ny, .slice A t.cells.length cap] 28
  cases e1 : gridOk t
  · rw [e1] at c1
    have hfin : Hid (tableOk t = false) := by simp [Hid, tableOk, e1]
    go_enter Try.func81, Try.ntmps81
    go_wp2_with (fail)
    refine (c1 _).mono ?_
    rintro e w1 ⟨rfl, hb1⟩
    go_wp2
    go_ret
    refine ⟨ret_bool (by rw [hfin.out]), ?_⟩
    repeat (first | (with_reducible exact Below.refl _ _) | (with_reducible assumption) | (with_reducible refine below_al ?_ _) | (with_reducible refine Below.drew ?_) | (with_reducible refine below_drewN ?_ _) | (with_reducible refine below_st ?_ ?_ _) | (with_reducible refine below_tr ?_ (by assumption)) | (with_reducible exact Nat.le_refl _) | (focus (simp; done)) | (focus (simp; omega)))
  · rw [e1] at c1
    obtain ⟨_, _, _, g4, g5, g6, _, _⟩ := gridOk_iff.1 e1
    obtain ⟨m1, m2⟩ := mul_bd (A := 100) (B := 100) (a := t.nx) (b := t.ny) (by omega) (by omega)
    by_cases e2 : (t.cells.length : Int) = t.nx * t.ny
    · have hfin : Hid (tableOk t = t.cells.all cellOk) := by simp [Hid, tableOk, e1, e2]
      have e3 : ((t.cells.length : Int) != t.nx * t.ny) = false := by simp [e2]
      have hmm := Lib.hid e2
      clear e2
      go_enter Try.func81, Try.ntmps81
      go_wp2_with (fail)
      refine (c1 _).mono ?_
      rintro e w1 ⟨rfl, hb1⟩
      have H1 := HA.below hb1
      have hbw := below_tr (below_al (Below.refl w.heap.size w) _) hb1
      obtain ⟨cH1_0, fH1_0⟩ := H1.2 0 _ rfl
      obtain ⟨cH1_1, fH1_1⟩ := H1.2 1 _ rfl
      obtain ⟨cH1_2, fH1_2⟩ := H1.2 2 _ rfl
      obtain ⟨cH1_3, fH1_3⟩ := H1.2 3 _ rfl
      obtain ⟨cH1_4, fH1_4⟩ := H1.2 4 _ rfl
      obtain ⟨cH1_5, fH1_5⟩ := H1.2 5 _ rfl
      go_wp2
      go_loopw [4, 22] (fun x i wr => ∃ k : Nat, k ≤ t.cells.length ∧ i = .int .i64 k ∧ (t.cells.take k).all cellOk = true ∧ Below w.heap.size w wr) (fun _ i _ => t.cells.length - (intOf i).toNat)
      case atStart => exact ⟨0, Nat.zero_le _, rfl, rfl, hbw⟩
      case round =>
        obtain ⟨k, hk, rfl, hall, hbr⟩ := hrel
        by_cases hlt : k < t.cells.length
        · obtain ⟨b, off, rfl, hblt, hc⟩ := (hs.below hbr).at_ hlt
          have g0 := hc 0 _ rfl
          have Z1 : cellOk t.cells[k] = false → t.cells.all cellOk = false := fun h => by
            rw [List.all_eq_false]; exact ⟨_, List.getElem_mem hlt, by simp [h]⟩
          have Z2 : cellOk t.cells[k] = true → (t.cells.take (k + 1)).all cellOk = true := fun h => by
            rw [take_succ' t.cells k hlt, List.all_append, hall]; simp [h]
          have Y1 := Lib.hid Z1
          have Y2 := Lib.hid Z2
          clear hc hall Z1 Z2 m1 m2 g4 g5 g6
          simp only [Nat.mul_one, Nat.add_zero] at g0
          generalize t.cells[k] = n at *
          cases q1 : (n == -1000000)
          · have q2 : (n != -1000000) = true := by simp [bne, q1]
            cases q3 : inR n (-1000) 1000
            · go_wp2_with (first | (go_at_call 112; refine (inRange_c _ _ _ _).mono ?_; rintro e w' ⟨rfl, rfl⟩))
              go_ret
              exact ⟨ret_bool (by rw [hfin.out, Y1.out (by simp [cellOk, q1, q3])]), hbr⟩
            · go_wp2_with (first | (go_at_call 112; refine (inRange_c _ _ _ _).mono ?_; rintro e w' ⟨rfl, rfl⟩))
              exact ⟨⟨k + 1, by omega, by go_num, Y2.out (by simp [cellOk, q3]), hbr⟩, by simp [intOf]; omega⟩
          · have q2 : (n != -1000000) = false := by simp [bne, q1]
            go_wp2
            exact ⟨⟨k + 1, by omega, by go_num, Y2.out (by simp [cellOk, q1]), hbr⟩, by simp [intOf]; omega⟩
        · obtain rfl : k = t.cells.length := by omega
          have Y := Lib.hid hall
          clear hall
          go_wp2
          go_ret
          exact ⟨ret_bool (by have := Y.out; rw [List.take_length] at this; rw [hfin.out, this]), hbr⟩
    · have hfin : Hid (tableOk t = false) := by simp [Hid, tableOk, e2]
      have e3 : ((t.cells.length : Int) != t.nx * t.ny) = true := by simp [e2]
      clear e2
      go_enter Try.func81, Try.ntmps81
      go_wp2_with (fail)
      refine (c1 _).mono ?_
      rintro e w1 ⟨rfl, hb1⟩
      have H1 := HA.below hb1
      obtain ⟨cH1_0, fH1_0⟩ := H1.2 0 _ rfl
      obtain ⟨cH1_1, fH1_1⟩ := H1.2 1 _ rfl
      obtain ⟨cH1_2, fH1_2⟩ := H1.2 2 _ rfl
      obtain ⟨cH1_3, fH1_3⟩ := H1.2 3 _ rfl
      obtain ⟨cH1_4, fH1_4⟩ := H1.2 4 _ rfl
      obtain ⟨cH1_5, fH1_5⟩ := H1.2 5 _ rfl
      go_wp2
      go_ret
      refine ⟨ret_bool (by rw [hfin.out]), ?_⟩
      repeat (first | (with_reducible exact Below.refl _ _) | (with_reducible assumption) | (with_reducible refine below_al ?_ _) | (with_reducible refine Below.drew ?_) | (with_reducible refine below_drewN ?_ _) | (with_reducible refine below_st ?_ ?_ _) | (with_reducible refine below_tr ?_ (by assumption)) | (with_reducible exact Nat.le_refl _) | (focus (simp; done)) | (focus (simp; omega)))

theorem sTableOk_c (t : Tab) (A : Option Addr) (cap : Nat) (w : World) (ht : t.In) (hn : t.cells.length ≤ 1048576) (hs : Sl 1 intC w A t.cells) :
    Calls Try.prog 77 #[tabV t A cap] w fun e w' => e = .returned (.bool (tableOk t)) ∧ Below w.heap.size w w' := by
  have c1 := fun W => l16Frame_c t A cap W ht
  have HA := Has.new w #[.int .i64 t.x0, .int .i64 t.y0, .int .i64 t.step, .int .i64 t.nx, .int .i64 t.ny, .slice A t.cells.length cap] 28
  cases e1 : gridOk t
  · rw [e1] at c1
    have hfin : Hid (tableOk t = false) := by simp [Hid, tableOk, e1]
    go_enter Try.func77, Try.ntmps77
    go_wp2_with (fail)
    refine (c1 _).mono ?_
    rintro e w1 ⟨rfl, hb1⟩
    go_wp2
    go_ret
    refine ⟨ret_bool (by rw [hfin.out]), ?_⟩
    repeat (first | (with_reducible exact Below.refl _ _) | (with_reducible assumption) | (with_reducible refine below_al ?_ _) | (with_reducible refine Below.drew ?_) | (with_reducible refine below_drewN ?_ _) | (with_reducible refine below_st ?_ ?_ _) | (with_reducible refine below_tr ?_ (by assumption)) | (with_reducible exact Nat.le_refl _) | (focus (simp; done)) | (focus (simp; omega)))
  · rw [e1] at c1
    obtain ⟨_, _, _, g4, g5, g6, _, _⟩ := gridOk_iff.1 e1
    obtain ⟨m1, m2⟩ := mul_bd (A := 100) (B := 100) (a := t.nx) (b := t.ny) (by omega) (by omega)
    by_cases e2 : (t.cells.length : Int) = t.nx * t.ny
    · have hfin : Hid (tableOk t = t.cells.all cellOk) := by simp [Hid, tableOk, e1, e2]
      have e3 : ((t.cells.length : Int) != t.nx * t.ny) = false := by simp [e2]
      have hmm := Lib.hid e2
      clear e2
      go_enter Try.func77, Try.ntmps77
      go_wp2_with (fail)
      refine (c1 _).mono ?_
      rintro e w1 ⟨rfl, hb1⟩
      have H1 := HA.below hb1
      have hbw := below_tr (below_al (Below.refl w.heap.size w) _) hb1
      obtain ⟨cH1_0, fH1_0⟩ := H1.2 0 _ rfl
      obtain ⟨cH1_1, fH1_1⟩ := H1.2 1 _ rfl
      obtain ⟨cH1_2, fH1_2⟩ := H1.2 2 _ rfl
      obtain ⟨cH1_3, fH1_3⟩ := H1.2 3 _ rfl
      obtain ⟨cH1_4, fH1_4⟩ := H1.2 4 _ rfl
      obtain ⟨cH1_5, fH1_5⟩ := H1.2 5 _ rfl
      go_wp2
      go_loopw [4, 22] (fun x i wr => ∃ k : Nat, k ≤ t.cells.length ∧ i = .int .i64 k ∧ (t.cells.take k).all cellOk = true ∧ Below w.heap.size w wr) (fun _ i _ => t.cells.length - (intOf i).toNat)
      case atStart => exact ⟨0, Nat.zero_le _, rfl, rfl, hbw⟩
      case round =>
        obtain ⟨k, hk, rfl, hall, hbr⟩ := hrel
        by_cases hlt : k < t.cells.length
        · obtain ⟨b, off, rfl, hblt, hc⟩ := (hs.below hbr).at_ hlt
          have g0 := hc 0 _ rfl
          have Z1 : cellOk t.cells[k] = false → t.cells.all cellOk = false := fun h => by
            rw [List.all_eq_false]; exact ⟨_, List.getElem_mem hlt, by simp [h]⟩
          have Z2 : cellOk t.cells[k] = true → (t.cells.take (k + 1)).all cellOk = true := fun h => by
            rw [take_succ' t.cells k hlt, List.all_append, hall]; simp [h]
          have Y1 := Lib.hid Z1
          have Y2 := Lib.hid Z2
          clear hc hall Z1 Z2 m1 m2 g4 g5 g6
          simp only [Nat.mul_one, Nat.add_zero] at g0
          generalize t.cells[k] = n at *
          cases q1 : (n == -1000000)
          · have q2 : (n != -1000000) = true := by simp [bne, q1]
            cases q3 : inR n (-1000) 1000
            · go_wp2_with (first | (go_at_call 78; refine (l01In_c _ _ _ _).mono ?_; rintro e w' ⟨rfl, rfl⟩))
              go_ret
              exact ⟨ret_bool (by rw [hfin.out, Y1.out (by simp [cellOk, q1, q3])]), hbr⟩
            · go_wp2_with (first | (go_at_call 78; refine (l01In_c _ _ _ _).mono ?_; rintro e w' ⟨rfl, rfl⟩))
              exact ⟨⟨k + 1, by omega, by go_num, Y2.out (by simp [cellOk, q3]), hbr⟩, by simp [intOf]; omega⟩
          · have q2 : (n != -1000000) = false := by simp [bne, q1]
            go_wp2
            exact ⟨⟨k + 1, by omega, by go_num, Y2.out (by simp [cellOk, q1]), hbr⟩, by simp [intOf]; omega⟩
        · obtain rfl : k = t.cells.length := by omega
          have Y := Lib.hid hall
          clear hall
          go_wp2
          go_ret
          exact ⟨ret_bool (by have := Y.out; rw [List.take_length] at this; rw [hfin.out, this]), hbr⟩
    · have hfin : Hid (tableOk t = false) := by simp [Hid, tableOk, e2]
      have e3 : ((t.cells.length : Int) != t.nx * t.ny) = true := by simp [e2]
      clear e2
      go_enter Try.func77, Try.ntmps77
      go_wp2_with (fail)
      refine (c1 _).mono ?_
      rintro e w1 ⟨rfl, hb1⟩
      have H1 := HA.below hb1
      obtain ⟨cH1_0, fH1_0⟩ := H1.2 0 _ rfl
      obtain ⟨cH1_1, fH1_1⟩ := H1.2 1 _ rfl
      obtain ⟨cH1_2, fH1_2⟩ := H1.2 2 _ rfl
      obtain ⟨cH1_3, fH1_3⟩ := H1.2 3 _ rfl
      obtain ⟨cH1_4, fH1_4⟩ := H1.2 4 _ rfl
      obtain ⟨cH1_5, fH1_5⟩ := H1.2 5 _ rfl
      go_wp2
      go_ret
      refine ⟨ret_bool (by rw [hfin.out]), ?_⟩
      repeat (first | (with_reducible exact Below.refl _ _) | (with_reducible assumption) | (with_reducible refine below_al ?_ _) | (with_reducible refine Below.drew ?_) | (with_reducible refine below_drewN ?_ _) | (with_reducible refine below_st ?_ ?_ _) | (with_reducible refine below_tr ?_ (by assumption)) | (with_reducible exact Nat.le_refl _) | (focus (simp; done)) | (focus (simp; omega)))
end Go.Proofs.Ytbdihgcjopbnjaa
