/-
  InputAt: of the program and of the reference.
  Conditions: the table's slice holds at most 2^20 elements.
-/
import Derived.Test.YtelkcmchokajaaaCell
import Derived.Test.YtelkcmchokajaaaBel
namespace Go.Proofs.Ytelkcmchokajaaa
open Go.RowKit

def cellIx (t : Tab) (s : Spot) : Nat := ((cellOf t s).2 * t.nx + (cellOf t s).1).toNat
def inputAt (t : Tab) (s : Spot) : Int × Bool :=
  if (cellOf t s).1 < 0 then (0, false)
  else if t.cells.getD (cellIx t s) 0 = -1000000 then (0, false)
  else (t.cells.getD (cellIx t s) 0, true)
theorem tableOk_len {t : Tab} (h : tableOk t = true) : (t.cells.length : Int) = t.nx * t.ny := by
  simp only [tableOk, Bool.and_eq_true, decide_eq_true_eq] at h; exact h.1.2
theorem cellOf_bd {t : Tab} {s : Spot} (h : 0 ≤ (cellOf t s).1) : tableOk t = true ∧ (cellOf t s).1 < t.nx ∧ 0 ≤ (cellOf t s).2 ∧ (cellOf t s).2 < t.ny := by
  unfold cellOf at h ⊢
  by_cases h1 : tableOk t = true ∧ spotOk s = true
  · rw [if_pos h1] at h ⊢
    obtain ⟨⟨_, _⟩, ⟨_, _⟩, ⟨_, _⟩, ⟨g7, g8⟩, ⟨g9, g10⟩, _⟩ := gridOk_iff.1 (tableOk_grid h1.1)
    have b1 := firstGo_bd (p := inStrip s.x s.d t.x0 t.step) (t.nx.toNat - 0) 0
    have b2 := firstGo_bd (p := inStrip s.y s.d t.y0 t.step) (t.ny.toNat - 0) 0
    split at h
    · simp at h
    · rename_i h2
      rw [if_neg h2]
      unfold strip at h2 ⊢
      exact ⟨h1.1, by simp only; omega, by simp only; omega, by simp only; omega⟩
  · rw [if_neg h1] at h; simp at h
structure IxB (t : Tab) (i j : Int) : Prop where
  m : 0 ≤ j * t.nx ∧ j * t.nx ≤ 10000
  p : 0 ≤ j * t.nx + i ∧ j * t.nx + i < t.cells.length
theorem ixB {t : Tab} {s : Spot} (h : 0 ≤ (cellOf t s).1) : IxB t (cellOf t s).1 (cellOf t s).2 := by
  obtain ⟨h1, h2, h3, h4⟩ := cellOf_bd h
  have hl := tableOk_len h1
  obtain ⟨⟨_, _⟩, ⟨_, _⟩, ⟨_, _⟩, ⟨g7, g8⟩, ⟨g9, g10⟩, _⟩ := gridOk_iff.1 (tableOk_grid h1)
  generalize (cellOf t s).1 = i at *
  generalize (cellOf t s).2 = j at *
  have a0 : 0 ≤ j * t.nx := Int.mul_nonneg h3 (by omega)
  have a1 : j * t.nx ≤ 100 * t.nx := Int.mul_le_mul_of_nonneg_right (by omega) (by omega)
  have a2 : (j + 1) * t.nx ≤ t.ny * t.nx := Int.mul_le_mul_of_nonneg_right (by omega) (by omega)
  rw [Int.add_mul, Int.one_mul, Int.mul_comm t.ny] at a2
  exact ⟨⟨a0, by omega⟩, ⟨by omega, by omega⟩⟩

set_option maxRecDepth 100000 in
set_option maxHeartbeats 2000000 in
theorem iInputAt_c (t : Tab) (A : Option Addr) (cap : Nat) (s : Spot) (w : World) (ht : t.In) (hsi : s.In) (hn : t.cells.length ≤ 1048576) (hs : Sl 1 intC w A t.cells) :
    Calls Try.prog 36 #[tabV t A cap, spotV s] w fun e w' => e = .returned (.tuple #[.int .i64 (inputAt t s).1, .bool (inputAt t s).2]) ∧ Below w.heap.size w w' := by
  have c1 := fun W h => iCellOf_c t A cap s W ht hsi hn h
  obtain ⟨R, hR⟩ : ∃ R, R = inputAt t s := ⟨_, rfl⟩
  rw [← hR]
  unfold inputAt at hR
  have hd := Lib.hid hR
  clear hR
  have hix := fun h => @ixB t s h
  have hcx : cellIx t s = ((cellOf t s).2 * t.nx + (cellOf t s).1).toNat := rfl
  generalize cellIx t s = x at *
  generalize (cellOf t s).1 = i at *
  generalize (cellOf t s).2 = j at *
  by_cases hi : i < 0
  · have hfin := Lib.hid (show R = (0, false) by have := hd.out; rw [if_pos hi] at this; exact this)
    clear hd hix hcx
    go_enter Try.func36, Try.ntmps36
    go_wp2_with (fail)
    refine (c1 _ (Sl.below hs (by (repeat (first | (with_reducible exact Below.refl _ _) | (with_reducible assumption) | (with_reducible refine below_al ?_ _) | (with_reducible refine Below.drew ?_) | (with_reducible refine below_drewN ?_ _) | (with_reducible refine below_st ?_ ?_ _) | (with_reducible refine below_tr ?_ (by assumption)) | (with_reducible exact Nat.le_refl _) | (focus (simp; done)) | (focus (simp; omega))))))).mono ?_
    rintro e w1 ⟨rfl, hb1⟩
    go_wp2
    refine bodyPost_ret (v := .tuple #[.int .i64 0, .bool false]) (by simp [results, Try.results36, go_sem]) rfl ⟨by rw [hfin.out], ?_⟩
    repeat (first | (with_reducible exact Below.refl _ _) | (with_reducible assumption) | (with_reducible refine below_al ?_ _) | (with_reducible refine Below.drew ?_) | (with_reducible refine below_drewN ?_ _) | (with_reducible refine below_st ?_ ?_ _) | (with_reducible refine below_tr ?_ (by assumption)) | (with_reducible exact Nat.le_refl _) | (focus (simp; done)) | (focus (simp; omega)))
  · obtain ⟨⟨m1, m2⟩, p1, p2⟩ := hix (by omega)
    obtain ⟨b, off, rfl, hblt, hc⟩ := hs (by omega)
    have hxl : x < t.cells.length := by omega
    have hx2 : (x : Int) = j * t.nx + i := by omega
    have hg := hc x hxl 0 _ rfl
    have hgd : t.cells.getD x 0 = t.cells[x] := by rw [List.getD_eq_getElem?_getD, List.getElem?_eq_getElem hxl]; rfl
    rw [hgd, if_neg hi] at hd
    have g0 : w.cell? ⟨b, off + (j * t.nx + i).toNat, none⟩ = some (.int .i64 t.cells[x]) := by rw [← hcx]; simpa using hg
    have hs' := Lib.hid hs
    clear hc hg hgd hix hs
    have HX := Lib.hid hcx
    have HY := Lib.hid hx2
    clear hcx hx2
    generalize t.cells[x] = n at *
    by_cases hn0 : n = -1000000
    · have hfin := Lib.hid (show R = (0, false) by have := hd.out; rw [if_pos hn0] at this; exact this)
      clear hd
      have hq : (n == -1000000) = true := by simp [hn0]
      have HN := Lib.hid hn0
      clear hn0
      go_enter Try.func36, Try.ntmps36
      go_wp2_with (fail)
      refine (c1 _ (Sl.below hs'.out (by (repeat (first | (with_reducible exact Below.refl _ _) | (with_reducible assumption) | (with_reducible refine below_al ?_ _) | (with_reducible refine Below.drew ?_) | (with_reducible refine below_drewN ?_ _) | (with_reducible refine below_st ?_ ?_ _) | (with_reducible refine below_tr ?_ (by assumption)) | (with_reducible exact Nat.le_refl _) | (focus (simp; done)) | (focus (simp; omega))))))).mono ?_
      rintro e w1 ⟨rfl, hb1⟩
      have r1 := bcell1 hb1
      have l0 : w.heap.size < w1.heap.size := blt hb1 (by first | (simp; done) | (simp; omega) | omega)
      have l1 : w.heap.size + 1 < w1.heap.size := blt hb1 (by first | (simp; done) | (simp; omega) | omega)
      have g1 : w1.cell? ⟨b, off + (j * t.nx + i).toNat, none⟩ = some (.int .i64 n) := by
        have hbw : Below w.heap.size w w1 := by
          repeat (first | (with_reducible exact Below.refl _ _) | (with_reducible assumption) | (with_reducible refine below_al ?_ _) | (with_reducible refine Below.drew ?_) | (with_reducible refine below_drewN ?_ _) | (with_reducible refine below_st ?_ ?_ _) | (with_reducible refine below_tr ?_ (by assumption)) | (with_reducible exact Nat.le_refl _) | (focus (simp; done)) | (focus (simp; omega)))
        exact (hbw.cell (p := ⟨b, off + (j * t.nx + i).toNat, none⟩) hblt).trans g0
      go_wp2
      refine bodyPost_ret (v := .tuple #[.int .i64 0, .bool false]) (by simp [results, Try.results36, go_sem]) rfl ⟨by rw [hfin.out], ?_⟩
      repeat (first | (with_reducible exact Below.refl _ _) | (with_reducible assumption) | (with_reducible refine below_al ?_ _) | (with_reducible refine Below.drew ?_) | (with_reducible refine below_drewN ?_ _) | (with_reducible refine below_st ?_ ?_ _) | (with_reducible refine below_tr ?_ (by assumption)) | (with_reducible exact Nat.le_refl _) | (focus (simp; done)) | (focus (simp; omega)))
    · have hfin := Lib.hid (show R = (n, true) by have := hd.out; rw [if_neg hn0] at this; exact this)
      clear hd
      have hq : (n == -1000000) = false := by simpa using hn0
      clear hn0
      go_enter Try.func36, Try.ntmps36
      go_wp2_with (fail)
      refine (c1 _ (Sl.below hs'.out (by (repeat (first | (with_reducible exact Below.refl _ _) | (with_reducible assumption) | (with_reducible refine below_al ?_ _) | (with_reducible refine Below.drew ?_) | (with_reducible refine below_drewN ?_ _) | (with_reducible refine below_st ?_ ?_ _) | (with_reducible refine below_tr ?_ (by assumption)) | (with_reducible exact Nat.le_refl _) | (focus (simp; done)) | (focus (simp; omega))))))).mono ?_
      rintro e w1 ⟨rfl, hb1⟩
      have r1 := bcell1 hb1
      have l0 : w.heap.size < w1.heap.size := blt hb1 (by first | (simp; done) | (simp; omega) | omega)
      have l1 : w.heap.size + 1 < w1.heap.size := blt hb1 (by first | (simp; done) | (simp; omega) | omega)
      have g1 : w1.cell? ⟨b, off + (j * t.nx + i).toNat, none⟩ = some (.int .i64 n) := by
        have hbw : Below w.heap.size w w1 := by
          repeat (first | (with_reducible exact Below.refl _ _) | (with_reducible assumption) | (with_reducible refine below_al ?_ _) | (with_reducible refine Below.drew ?_) | (with_reducible refine below_drewN ?_ _) | (with_reducible refine below_st ?_ ?_ _) | (with_reducible refine below_tr ?_ (by assumption)) | (with_reducible exact Nat.le_refl _) | (focus (simp; done)) | (focus (simp; omega)))
        exact (hbw.cell (p := ⟨b, off + (j * t.nx + i).toNat, none⟩) hblt).trans g0
      go_wp2
      refine bodyPost_ret (v := .tuple #[.int .i64 n, .bool true]) (by simp [results, Try.results36, go_sem]) rfl ⟨by rw [hfin.out], ?_⟩
      repeat (first | (with_reducible exact Below.refl _ _) | (with_reducible assumption) | (with_reducible refine below_al ?_ _) | (with_reducible refine Below.drew ?_) | (with_reducible refine below_drewN ?_ _) | (with_reducible refine below_st ?_ ?_ _) | (with_reducible refine below_tr ?_ (by assumption)) | (with_reducible exact Nat.le_refl _) | (focus (simp; done)) | (focus (simp; omega)))
set_option maxRecDepth 100000 in
set_option maxHeartbeats 2000000 in
theorem sInputAt_c (t : Tab) (A : Option Addr) (cap : Nat) (s : Spot) (w : World) (ht : t.In) (hsi : s.In) (hn : t.cells.length ≤ 1048576) (hs : Sl 1 intC w A t.cells) :
    Calls Try.prog 35 #[tabV t A cap, spotV s] w fun e w' => e = .returned (.tuple #[.int .i64 (inputAt t s).1, .bool (inputAt t s).2]) ∧ Below w.heap.size w w' := by
  have c1 := fun W h => sCellOf_c t A cap s W ht hsi hn h
  obtain ⟨R, hR⟩ : ∃ R, R = inputAt t s := ⟨_, rfl⟩
  rw [← hR]
  unfold inputAt at hR
  have hd := Lib.hid hR
  clear hR
  have hix := fun h => @ixB t s h
  have hcx : cellIx t s = ((cellOf t s).2 * t.nx + (cellOf t s).1).toNat := rfl
  generalize cellIx t s = x at *
  generalize (cellOf t s).1 = i at *
  generalize (cellOf t s).2 = j at *
  by_cases hi : i < 0
  · have hfin := Lib.hid (show R = (0, false) by have := hd.out; rw [if_pos hi] at this; exact this)
    clear hd hix hcx
    go_enter Try.func35, Try.ntmps35
    go_wp2_with (fail)
    refine (c1 _ (Sl.below hs (by (repeat (first | (with_reducible exact Below.refl _ _) | (with_reducible assumption) | (with_reducible refine below_al ?_ _) | (with_reducible refine Below.drew ?_) | (with_reducible refine below_drewN ?_ _) | (with_reducible refine below_st ?_ ?_ _) | (with_reducible refine below_tr ?_ (by assumption)) | (with_reducible exact Nat.le_refl _) | (focus (simp; done)) | (focus (simp; omega))))))).mono ?_
    rintro e w1 ⟨rfl, hb1⟩
    go_wp2
    refine bodyPost_ret (v := .tuple #[.int .i64 0, .bool false]) (by simp [results, Try.results35, go_sem]) rfl ⟨by rw [hfin.out], ?_⟩
    repeat (first | (with_reducible exact Below.refl _ _) | (with_reducible assumption) | (with_reducible refine below_al ?_ _) | (with_reducible refine Below.drew ?_) | (with_reducible refine below_drewN ?_ _) | (with_reducible refine below_st ?_ ?_ _) | (with_reducible refine below_tr ?_ (by assumption)) | (with_reducible exact Nat.le_refl _) | (focus (simp; done)) | (focus (simp; omega)))
  · obtain ⟨⟨m1, m2⟩, p1, p2⟩ := hix (by omega)
    obtain ⟨b, off, rfl, hblt, hc⟩ := hs (by omega)
    have hxl : x < t.cells.length := by omega
    have hx2 : (x : Int) = j * t.nx + i := by omega
    have hg := hc x hxl 0 _ rfl
    have hgd : t.cells.getD x 0 = t.cells[x] := by rw [List.getD_eq_getElem?_getD, List.getElem?_eq_getElem hxl]; rfl
    rw [hgd, if_neg hi] at hd
    have g0 : w.cell? ⟨b, off + (j * t.nx + i).toNat, none⟩ = some (.int .i64 t.cells[x]) := by rw [← hcx]; simpa using hg
    have hs' := Lib.hid hs
    clear hc hg hgd hix hs
    have HX := Lib.hid hcx
    have HY := Lib.hid hx2
    clear hcx hx2
    generalize t.cells[x] = n at *
    by_cases hn0 : n = -1000000
    · have hfin := Lib.hid (show R = (0, false) by have := hd.out; rw [if_pos hn0] at this; exact this)
      clear hd
      have hq : (n == -1000000) = true := by simp [hn0]
      have HN := Lib.hid hn0
      clear hn0
      go_enter Try.func35, Try.ntmps35
      go_wp2_with (fail)
      refine (c1 _ (Sl.below hs'.out (by (repeat (first | (with_reducible exact Below.refl _ _) | (with_reducible assumption) | (with_reducible refine below_al ?_ _) | (with_reducible refine Below.drew ?_) | (with_reducible refine below_drewN ?_ _) | (with_reducible refine below_st ?_ ?_ _) | (with_reducible refine below_tr ?_ (by assumption)) | (with_reducible exact Nat.le_refl _) | (focus (simp; done)) | (focus (simp; omega))))))).mono ?_
      rintro e w1 ⟨rfl, hb1⟩
      have r1 := bcell1 hb1
      have l0 : w.heap.size < w1.heap.size := blt hb1 (by first | (simp; done) | (simp; omega) | omega)
      have l1 : w.heap.size + 1 < w1.heap.size := blt hb1 (by first | (simp; done) | (simp; omega) | omega)
      have g1 : w1.cell? ⟨b, off + (j * t.nx + i).toNat, none⟩ = some (.int .i64 n) := by
        have hbw : Below w.heap.size w w1 := by
          repeat (first | (with_reducible exact Below.refl _ _) | (with_reducible assumption) | (with_reducible refine below_al ?_ _) | (with_reducible refine Below.drew ?_) | (with_reducible refine below_drewN ?_ _) | (with_reducible refine below_st ?_ ?_ _) | (with_reducible refine below_tr ?_ (by assumption)) | (with_reducible exact Nat.le_refl _) | (focus (simp; done)) | (focus (simp; omega)))
        exact (hbw.cell (p := ⟨b, off + (j * t.nx + i).toNat, none⟩) hblt).trans g0
      go_wp2
      refine bodyPost_ret (v := .tuple #[.int .i64 0, .bool false]) (by simp [results, Try.results35, go_sem]) rfl ⟨by rw [hfin.out], ?_⟩
      repeat (first | (with_reducible exact Below.refl _ _) | (with_reducible assumption) | (with_reducible refine below_al ?_ _) | (with_reducible refine Below.drew ?_) | (with_reducible refine below_drewN ?_ _) | (with_reducible refine below_st ?_ ?_ _) | (with_reducible refine below_tr ?_ (by assumption)) | (with_reducible exact Nat.le_refl _) | (focus (simp; done)) | (focus (simp; omega)))
    · have hfin := Lib.hid (show R = (n, true) by have := hd.out; rw [if_neg hn0] at this; exact this)
      clear hd
      have hq : (n == -1000000) = false := by simpa using hn0
      clear hn0
      go_enter Try.func35, Try.ntmps35
      go_wp2_with (fail)
      refine (c1 _ (Sl.below hs'.out (by (repeat (first | (with_reducible exact Below.refl _ _) | (with_reducible assumption) | (with_reducible refine below_al ?_ _) | (with_reducible refine Below.drew ?_) | (with_reducible refine below_drewN ?_ _) | (with_reducible refine below_st ?_ ?_ _) | (with_reducible refine below_tr ?_ (by assumption)) | (with_reducible exact Nat.le_refl _) | (focus (simp; done)) | (focus (simp; omega))))))).mono ?_
      rintro e w1 ⟨rfl, hb1⟩
      have r1 := bcell1 hb1
      have l0 : w.heap.size < w1.heap.size := blt hb1 (by first | (simp; done) | (simp; omega) | omega)
      have l1 : w.heap.size + 1 < w1.heap.size := blt hb1 (by first | (simp; done) | (simp; omega) | omega)
      have g1 : w1.cell? ⟨b, off + (j * t.nx + i).toNat, none⟩ = some (.int .i64 n) := by
        have hbw : Below w.heap.size w w1 := by
          repeat (first | (with_reducible exact Below.refl _ _) | (with_reducible assumption) | (with_reducible refine below_al ?_ _) | (with_reducible refine Below.drew ?_) | (with_reducible refine below_drewN ?_ _) | (with_reducible refine below_st ?_ ?_ _) | (with_reducible refine below_tr ?_ (by assumption)) | (with_reducible exact Nat.le_refl _) | (focus (simp; done)) | (focus (simp; omega)))
        exact (hbw.cell (p := ⟨b, off + (j * t.nx + i).toNat, none⟩) hblt).trans g0
      go_wp2
      refine bodyPost_ret (v := .tuple #[.int .i64 n, .bool true]) (by simp [results, Try.results35, go_sem]) rfl ⟨by rw [hfin.out], ?_⟩
      repeat (first | (with_reducible exact Below.refl _ _) | (with_reducible assumption) | (with_reducible refine below_al ?_ _) | (with_reducible refine Below.drew ?_) | (with_reducible refine below_drewN ?_ _) | (with_reducible refine below_st ?_ ?_ _) | (with_reducible refine below_tr ?_ (by assumption)) | (with_reducible exact Nat.le_refl _) | (focus (simp; done)) | (focus (simp; omega)))
end Go.Proofs.Ytelkcmchokajaaa
