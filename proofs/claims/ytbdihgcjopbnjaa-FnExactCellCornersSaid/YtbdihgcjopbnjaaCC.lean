/-
  The corners of a cell of a table: of the program and of the reference.
  Conditions: the table's slice holds at most 2^20 elements.
-/
import Derived.Test.YtbdihgcjopbnjaaTab
import Derived.Test.YtbdihgcjopbnjaaPiece
import Derived.Test.YtbdihgcjopbnjaaBel
import Derived.Deep.QuietTactic
import Derived.BigQuiet
namespace Go.Proofs.Ytbdihgcjopbnjaa
open Go.RowKit

def cellB (t : Tab) (i j : Int) : Bool := decide (0 ≤ i) && decide (i < t.nx) && decide (0 ≤ j) && decide (j < t.ny)
def cellSpots (t : Tab) (i j : Int) : List Spot := [⟨t.x0 + i * t.step, t.y0 + j * t.step, 1⟩, ⟨t.x0 + i * t.step + t.step, t.y0 + j * t.step, 1⟩, ⟨t.x0 + i * t.step + t.step, t.y0 + j * t.step + t.step, 1⟩, ⟨t.x0 + i * t.step, t.y0 + j * t.step + t.step, 1⟩]
def cellCorners (t : Tab) (i j : Int) : List Spot := if tableOk t = true ∧ cellB t i j = true then cellSpots t i j else []
theorem cellCorners_le (t : Tab) (i j : Int) : (cellCorners t i j).length ≤ 4 := by unfold cellCorners; split <;> simp [cellSpots]
theorem tableOk_grid' {t : Tab} (h : tableOk t = true) : gridOk t = true := by
  simp only [tableOk, Bool.and_eq_true] at h; exact h.1.1
structure CellB (t : Tab) (i j : Int) : Prop where
  x : -1000 ≤ t.x0 ∧ t.x0 ≤ 1000
  y : -1000 ≤ t.y0 ∧ t.y0 ≤ 1000
  s : 1 ≤ t.step ∧ t.step ≤ 100
  is : 0 ≤ i * t.step ∧ i * t.step ≤ 10000
  js : 0 ≤ j * t.step ∧ j * t.step ≤ 10000
theorem cellB_bd {t : Tab} {i j : Int} (h : gridOk t = true) (hb : cellB t i j = true) : CellB t i j := by
  obtain ⟨g1, g2, g3, g4, g5, _⟩ := gridOk_iff.1 h
  simp only [cellB, Bool.and_eq_true, decide_eq_true_eq] at hb
  obtain ⟨⟨⟨h1, h2⟩, h3⟩, h4⟩ := hb
  have m1 := mul_bd (a := i) (b := t.step) (A := 100) (B := 100) (by omega) (by omega)
  have m2 := mul_bd (a := j) (b := t.step) (A := 100) (B := 100) (by omega) (by omega)
  exact ⟨g1, g2, g3, ⟨Int.mul_nonneg h1 (by omega), by omega⟩, ⟨Int.mul_nonneg h3 (by omega), by omega⟩⟩
theorem cellNew {T base g : Nat} (w : World) (t : Tab) (i j : Int) (hg : g = w.heap.size) (hb : base ≤ w.heap.size) : New T 3 spotC (w.alloc (.cells #[.int .i64 (t.x0 + i * t.step), .int .i64 (t.y0 + j * t.step), .int .i64 1, .int .i64 (t.x0 + i * t.step + t.step), .int .i64 (t.y0 + j * t.step), .int .i64 1, .int .i64 (t.x0 + i * t.step + t.step), .int .i64 (t.y0 + j * t.step + t.step), .int .i64 1, .int .i64 (t.x0 + i * t.step), .int .i64 (t.y0 + j * t.step + t.step), .int .i64 1] T)) base (.slice (some ⟨g, 0, none⟩) 4 4) (cellSpots t i j) := by
  subst hg
  exact ⟨_, 4, rfl, flatMap_len spotC_len _, .inr ⟨w.heap.size, 4, _, rfl, hb, heap_alloc_new w _, Nat.le_refl 4, by decide, rfl, rfl⟩⟩
set_option maxRecDepth 100000 in
theorem isCell_c (t : Tab) (A : Option Addr) (cap : Nat) (i j : Int) (w : World) :
    Calls Try.prog 82 #[tabV t A cap, .int .i64 i, .int .i64 j] w fun e w' => e = .returned (.bool (cellB t i j)) ∧ Below w.heap.size w w' := by
  go_enter Try.func82, Try.ntmps82
  go_wp2
  all_goals
    go_ret
    refine ⟨ret_bool (by simp [cellB, *] <;> omega), ?_⟩
    repeat (first | (with_reducible exact Below.refl _ _) | (with_reducible assumption) | (with_reducible refine below_al ?_ _) | (with_reducible refine Below.drew ?_) | (with_reducible refine below_drewN ?_ _) | (with_reducible refine below_st ?_ ?_ _) | (with_reducible refine below_tr ?_ (by assumption)) | (with_reducible exact Nat.le_refl _) | (focus (simp; done)) | (focus (simp; omega)))
set_option maxRecDepth 100000 in
theorem iCnrs_c (t : Tab) (A : Option Addr) (cap : Nat) (i j : Int) (w : World) (hb : CellB t i j) :
    Calls Try.prog 83 #[tabV t A cap, .int .i64 i, .int .i64 j] w fun e w' => ∃ v, e = .returned v ∧ New 65 3 spotC w' w.heap.size v (cellSpots t i j) ∧ Below w.heap.size w w' := by
  obtain ⟨⟨b1, b2⟩, ⟨b3, b4⟩, ⟨b5, b6⟩, ⟨b7, b8⟩, ⟨b9, b10⟩⟩ := hb
  go_enter Try.func83, Try.ntmps83
  go_wp2
  go_big_quiet (fail)
  go_wp2
  go_big_quiet (fail)
  go_wp2
  go_ret
  refine ⟨.slice (some ⟨w.heap.size + 1, 0, none⟩) 4 4, rfl, ?_, ?_⟩
  · exact cellNew _ t i j (by simp) (by simp)
  · repeat (first | (with_reducible exact Below.refl _ _) | (with_reducible assumption) | (with_reducible refine below_al ?_ _) | (with_reducible refine Below.drew ?_) | (with_reducible refine below_drewN ?_ _) | (with_reducible refine below_st ?_ ?_ _) | (with_reducible refine below_tr ?_ (by assumption)) | (with_reducible exact Nat.le_refl _) | (focus (simp; done)) | (focus (simp; omega)))
set_option maxRecDepth 100000 in
set_option maxHeartbeats 1000000 in
theorem iCellCorners_c (t : Tab) (A : Option Addr) (cap : Nat) (i j : Int) (w : World) (ht : t.In) (hn : t.cells.length ≤ 1048576) (hs : Sl 1 intC w A t.cells) :
    Calls Try.prog 16 #[tabV t A cap, .int .i64 i, .int .i64 j] w fun e w' => ∃ v, e = .returned v ∧ New 65 3 spotC w' w.heap.size v (cellCorners t i j) ∧ Below w.heap.size w w' := by
  have c1 := fun W h => iTableOk_c t A cap W ht hn h
  have c2 := fun W => isCell_c t A cap i j W
  have c3 := fun W h => iCnrs_c t A cap i j W h
  have hdef := Lib.hid (show cellCorners t i j = if tableOk t = true ∧ cellB t i j = true then cellSpots t i j else [] from rfl)
  have hbd := Lib.hid (fun h1 h2 => @cellB_bd t i j (@tableOk_grid' t h1) h2)
  cases e1 : tableOk t
  · rw [e1] at c1
    have hfin := Lib.hid (show cellCorners t i j = [] by rw [hdef.out, e1]; simp)
    clear e1 hbd hdef c2 c3
    go_enter Try.func16, Try.ntmps16
    go_wp2_with (fail)
    refine (c1 _ (hs.alloc _)).mono ?_
    rintro e w1 ⟨rfl, hb1⟩
    go_wp2
    go_ret
    refine ⟨_, rfl, by rw [hfin.out]; exact ⟨none, 0, rfl, World.ownsRow_nil _ _ _ _⟩, ?_⟩
    repeat (first | (with_reducible exact Below.refl _ _) | (with_reducible assumption) | (with_reducible refine below_al ?_ _) | (with_reducible refine Below.drew ?_) | (with_reducible refine below_drewN ?_ _) | (with_reducible refine below_st ?_ ?_ _) | (with_reducible refine below_tr ?_ (by assumption)) | (with_reducible exact Nat.le_refl _) | (focus (simp; done)) | (focus (simp; omega)))
  · rw [e1] at c1
    cases e2 : cellB t i j
    · rw [e2] at c2
      have hfin := Lib.hid (show cellCorners t i j = [] by rw [hdef.out, e2]; simp)
      clear e1 e2 hbd hdef c3
      go_enter Try.func16, Try.ntmps16
      go_wp2_with (fail)
      refine (c1 _ (hs.alloc _)).mono ?_
      rintro e w1 ⟨rfl, hb1⟩
      have r1 := bcell1 hb1
      have l1 : w.heap.size < w1.heap.size := blt hb1 (by simp)
      go_wp2_with (fail)
      refine (c2 _).mono ?_
      rintro e w2 ⟨rfl, hb2⟩
      go_wp2
      go_ret
      refine ⟨_, rfl, by rw [hfin.out]; exact ⟨none, 0, rfl, World.ownsRow_nil _ _ _ _⟩, ?_⟩
      repeat (first | (with_reducible exact Below.refl _ _) | (with_reducible assumption) | (with_reducible refine below_al ?_ _) | (with_reducible refine Below.drew ?_) | (with_reducible refine below_drewN ?_ _) | (with_reducible refine below_st ?_ ?_ _) | (with_reducible refine below_tr ?_ (by assumption)) | (with_reducible exact Nat.le_refl _) | (focus (simp; done)) | (focus (simp; omega)))
    · rw [e2] at c2
      have hfin := Lib.hid (show cellCorners t i j = cellSpots t i j by rw [hdef.out, e1, e2]; simp)
      have hcb := Lib.hid (hbd.out e1 e2)
      clear e1 e2 hbd hdef
      go_enter Try.func16, Try.ntmps16
      go_wp2_with (fail)
      refine (c1 _ (hs.alloc _)).mono ?_
      rintro e w1 ⟨rfl, hb1⟩
      have r1 := bcell1 hb1
      have l1 : w.heap.size < w1.heap.size := blt hb1 (by simp)
      go_wp2_with (fail)
      refine (c2 _).mono ?_
      rintro e w2 ⟨rfl, hb2⟩
      have r2 := bcell1 hb2
      have l2 : w.heap.size < w2.heap.size := blt hb2 (by first | omega | simp)
      go_wp2_with (fail)
      refine (c3 _ hcb.out).mono ?_
      rintro e w3 ⟨v, rfl, N3, hb3⟩
      have hB : Below w.heap.size w w3 := by (repeat (first | (with_reducible exact Below.refl _ _) | (with_reducible assumption) | (with_reducible refine below_al ?_ _) | (with_reducible refine Below.drew ?_) | (with_reducible refine below_drewN ?_ _) | (with_reducible refine below_st ?_ ?_ _) | (with_reducible refine below_tr ?_ (by assumption)) | (with_reducible exact Nat.le_refl _) | (focus (simp; done)) | (focus (simp; omega))))
      have hle : w.heap.size ≤ w2.heap.size := by omega
      clear hb1 hb2 hb3 r1 r2
      go_wp2
      go_ret
      exact ⟨_, rfl, by rw [hfin.out]; exact N3.mono hle, hB⟩
set_option maxRecDepth 100000 in
theorem sCnrs_c (t : Tab) (A : Option Addr) (cap : Nat) (i j : Int) (w : World) (hb : CellB t i j) :
    Calls Try.prog 79 #[tabV t A cap, .int .i64 i, .int .i64 j] w fun e w' => ∃ v, e = .returned v ∧ New 65 3 spotC w' w.heap.size v (cellSpots t i j) ∧ Below w.heap.size w w' := by
  obtain ⟨⟨b1, b2⟩, ⟨b3, b4⟩, ⟨b5, b6⟩, ⟨b7, b8⟩, ⟨b9, b10⟩⟩ := hb
  go_enter Try.func79, Try.ntmps79
  go_wp2
  go_ret
  refine ⟨.slice (some ⟨w.heap.size + 1, 0, none⟩) 4 4, rfl, ?_, ?_⟩
  · exact cellNew _ t i j (by simp) (by simp)
  · repeat (first | (with_reducible exact Below.refl _ _) | (with_reducible assumption) | (with_reducible refine below_al ?_ _) | (with_reducible refine Below.drew ?_) | (with_reducible refine below_drewN ?_ _) | (with_reducible refine below_st ?_ ?_ _) | (with_reducible refine below_tr ?_ (by assumption)) | (with_reducible exact Nat.le_refl _) | (focus (simp; done)) | (focus (simp; omega)))
set_option maxRecDepth 100000 in
set_option maxHeartbeats 1000000 in
theorem sCellCorners_c (t : Tab) (A : Option Addr) (cap : Nat) (i j : Int) (w : World) (ht : t.In) (hn : t.cells.length ≤ 1048576) (hs : Sl 1 intC w A t.cells) :
    Calls Try.prog 14 #[tabV t A cap, .int .i64 i, .int .i64 j] w fun e w' => ∃ v, e = .returned v ∧ New 65 3 spotC w' w.heap.size v (cellCorners t i j) ∧ Below w.heap.size w w' := by
  have c1 := fun W h => sTableOk_c t A cap W ht hn h
  have c2 := fun W => l01In_c i 0 (t.nx - 1) W
  have c2b := fun W => l01In_c j 0 (t.ny - 1) W
  have c3 := fun W h => sCnrs_c t A cap i j W h
  have hdef := Lib.hid (show cellCorners t i j = if tableOk t = true ∧ cellB t i j = true then cellSpots t i j else [] from rfl)
  have hcell := Lib.hid (show cellB t i j = (inR i 0 (t.nx - 1) && inR j 0 (t.ny - 1)) by
    rw [Bool.eq_iff_iff]; simp only [cellB, inR, Bool.and_eq_true, decide_eq_true_eq]; omega)
  have hbd := Lib.hid (fun h1 h2 => @cellB_bd t i j (@tableOk_grid' t h1) h2)
  have hgb := Lib.hid (fun h1 => gridOk_iff.1 (@tableOk_grid' t h1))
  cases e1 : tableOk t
  · rw [e1] at c1
    have hfin := Lib.hid (show cellCorners t i j = [] by rw [hdef.out, e1]; simp)
    clear e1 hbd hdef c2 c2b c3 hcell hgb
    go_enter Try.func14, Try.ntmps14
    go_wp2_with (fail)
    refine (c1 _ (hs.alloc _)).mono ?_
    rintro e w1 ⟨rfl, hb1⟩
    have r1 := bcell1 hb1
    have l1 : w.heap.size < w1.heap.size := blt hb1 (by simp)
    go_wp2
    go_ret
    refine ⟨_, rfl, by rw [hfin.out]; exact ⟨none, 0, rfl, World.ownsRow_nil _ _ _ _⟩, ?_⟩
    repeat (first | (with_reducible exact Below.refl _ _) | (with_reducible assumption) | (with_reducible refine below_al ?_ _) | (with_reducible refine Below.drew ?_) | (with_reducible refine below_drewN ?_ _) | (with_reducible refine below_st ?_ ?_ _) | (with_reducible refine below_tr ?_ (by assumption)) | (with_reducible exact Nat.le_refl _) | (focus (simp; done)) | (focus (simp; omega)))
  · rw [e1] at c1
    obtain ⟨_, _, _, ⟨n1, n2⟩, ⟨n3, n4⟩, _⟩ := hgb.out e1
    cases e2 : inR i 0 (t.nx - 1)
    · rw [e2] at c2 hcell
      have hfin := Lib.hid (show cellCorners t i j = [] by rw [hdef.out, hcell.out]; simp)
      clear e1 e2 hbd hdef c3 hcell hgb c2b
      go_enter Try.func14, Try.ntmps14
      go_wp2_with (fail)
      refine (c1 _ (hs.alloc _)).mono ?_
      rintro e w1 ⟨rfl, hb1⟩
      have r1 := bcell1 hb1
      have l1 : w.heap.size < w1.heap.size := blt hb1 (by simp)
      go_wp2_with (fail)
      refine (c2 _).mono ?_
      rintro e w2 ⟨rfl, rfl⟩
      go_wp2
      go_ret
      refine ⟨_, rfl, by rw [hfin.out]; exact ⟨none, 0, rfl, World.ownsRow_nil _ _ _ _⟩, ?_⟩
      repeat (first | (with_reducible exact Below.refl _ _) | (with_reducible assumption) | (with_reducible refine below_al ?_ _) | (with_reducible refine Below.drew ?_) | (with_reducible refine below_drewN ?_ _) | (with_reducible refine below_st ?_ ?_ _) | (with_reducible refine below_tr ?_ (by assumption)) | (with_reducible exact Nat.le_refl _) | (focus (simp; done)) | (focus (simp; omega)))
    · cases e3 : inR j 0 (t.ny - 1)
      · rw [e2] at c2 hcell
        rw [e3] at c2b hcell
        have hfin := Lib.hid (show cellCorners t i j = [] by rw [hdef.out, hcell.out]; simp)
        clear e1 e2 e3 hbd hdef c3 hcell hgb
        go_enter Try.func14, Try.ntmps14
        go_wp2_with (fail)
        refine (c1 _ (hs.alloc _)).mono ?_
        rintro e w1 ⟨rfl, hb1⟩
        have r1 := bcell1 hb1
        have l1 : w.heap.size < w1.heap.size := blt hb1 (by simp)
        go_wp2_with (fail)
        refine (c2 _).mono ?_
        rintro e w2 ⟨rfl, rfl⟩
        go_wp2_with (fail)
        refine (c2b _).mono ?_
        rintro e w2 ⟨rfl, rfl⟩
        go_wp2
        go_ret
        refine ⟨_, rfl, by rw [hfin.out]; exact ⟨none, 0, rfl, World.ownsRow_nil _ _ _ _⟩, ?_⟩
        repeat (first | (with_reducible exact Below.refl _ _) | (with_reducible assumption) | (with_reducible refine below_al ?_ _) | (with_reducible refine Below.drew ?_) | (with_reducible refine below_drewN ?_ _) | (with_reducible refine below_st ?_ ?_ _) | (with_reducible refine below_tr ?_ (by assumption)) | (with_reducible exact Nat.le_refl _) | (focus (simp; done)) | (focus (simp; omega)))
      · rw [e2] at c2 hcell
        rw [e3] at c2b hcell
        have hcb := Lib.hid (hbd.out e1 hcell.out)
        have hfin := Lib.hid (show cellCorners t i j = cellSpots t i j by rw [hdef.out, e1, hcell.out]; simp)
        clear e1 e2 e3 hbd hdef hcell hgb
        go_enter Try.func14, Try.ntmps14
        go_wp2_with (fail)
        refine (c1 _ (hs.alloc _)).mono ?_
        rintro e w1 ⟨rfl, hb1⟩
        have r1 := bcell1 hb1
        have l1 : w.heap.size < w1.heap.size := blt hb1 (by simp)
        go_wp2_with (fail)
        refine (c2 _).mono ?_
        rintro e w2 ⟨rfl, rfl⟩
        go_wp2_with (fail)
        refine (c2b _).mono ?_
        rintro e w2 ⟨rfl, rfl⟩
        go_wp2_with (fail)
        refine (c3 _ hcb.out).mono ?_
        rintro e w3 ⟨v, rfl, N3, hb3⟩
        have hB : Below w.heap.size w w3 := by (repeat (first | (with_reducible exact Below.refl _ _) | (with_reducible assumption) | (with_reducible refine below_al ?_ _) | (with_reducible refine Below.drew ?_) | (with_reducible refine below_drewN ?_ _) | (with_reducible refine below_st ?_ ?_ _) | (with_reducible refine below_tr ?_ (by assumption)) | (with_reducible exact Nat.le_refl _) | (focus (simp; done)) | (focus (simp; omega))))
        have hle : w.heap.size ≤ w1.heap.size := by omega
        clear hb1 hb3 r1
        go_wp2
        go_ret
        exact ⟨_, rfl, by rw [hfin.out]; exact N3.mono hle, hB⟩
end Go.Proofs.Ytbdihgcjopbnjaa
