/-
  For every input FnExactFitRegion returns true: the program's FitRegion and the reference's agree, and the results share no memory.
  Conditions: none.
-/
import Derived.Test.YtbdihgcjopbnjaaFit
import Derived.Test.YtbdihgcjopbnjaaCompC
import Derived.Test.YtbdihgcjopbnjaaCompO
import Derived.Test.YtbdihgcjopbnjaaOpen2
import Derived.Test.YtbdihgcjopbnjaaBel
import Derived.Test.YtbdihgcjopbnjaaConv
import Derived.Test.YtbdihgcjopbnjaaConvS
import Derived.Test.YtbdihgcjopbnjaaConvT
import Derived.Test.YtbdihgcjopbnjaaKeep
import Derived.Test.YtbdihgcjopbnjaaMark3
import Derived.Deep.RegionHeld3
import Derived.Deep.DeepCutAuto
import Derived.Deep.DeepMust
namespace Go.Proofs.Ytbdihgcjopbnjaa
open Go.RowKit Go.ChangeShapes Go.WideShapes Go.ChangeAt Go.Deep

theorem fitR_le (l : List Record) (err : Int) : (fitR l err).length ≤ 1048576 := by
  unfold fitR
  split
  · rename_i h
    have h1 := h.1
    simp only [fitOk, recordsOk, Bool.and_eq_true, decide_eq_true_eq] at h1
    have := meetI_len (meetL (fitHs l err))
    have := meetL_len (fitHs l err)
    have := fitHs_len l err
    omega
  · exact Nat.zero_le _

set_option maxRecDepth 100000 in
set_option maxHeartbeats 16000000 in
theorem walkFitRegion (w : World) (l_A : Option Addr) (l : List Record) (l_c : Nat) (_ : ∀ y ∈ l, Record.In y) (hl_l : List.length l ≤ 9223372036854775807) (hs_l : Sl 3 recordC w l_A l) (err : Int) (hin_err : In64 err) :
    Calls Try.prog 9 #[.slice l_A (List.length l) l_c, .int .i64 err] w fun e w' => e = .returned (.bool true) ∧ Below w.heap.size w w' := by
  by_cases c0 : 1048576 - ((List.length l : Nat) : Int) < 0
  · skip
    go_enter Try.func9, Try.ntmps9
    go_wp2_with (fail)
    refine (szRecordS_c l_A (List.length l) l_c (1048576) _ hl_l (by omega) (by omega)).mono ?_
    rw [if_pos (by omega)]
    rintro e w' ⟨rfl, rfl⟩
    go_wp2
    go_ret
    refine ⟨rfl, ?_⟩
    repeat (first | (with_reducible exact Below.refl _ _) | (with_reducible assumption) | (with_reducible refine below_al ?_ _) | (with_reducible refine Below.drew ?_) | (with_reducible refine below_drewN ?_ _) | (with_reducible refine below_st ?_ ?_ _) | (with_reducible refine below_tr ?_ (by assumption)) | (with_reducible exact Nat.le_refl _) | (focus (simp; done)) | (focus (simp; omega)))
  have hn_l : List.length l ≤ 1048576 := by omega
  have k1 := fun W A' cap' h => sFit_c A' l cap' err W (by omega) hin_err h
  have k2 := fun W A' cap' h => iFit_c A' l cap' err W (by omega) hin_err h
  have hlen := fitR_le l err
  revert k1 k2 hlen
  generalize fitR l err = ys
  generalize fitOk l err = ok
  intro k1 k2 hlen
  go_enter Try.func9, Try.ntmps9
  go_wp2_with (fail)
  refine (szRecordS_c l_A (List.length l) l_c (1048576) _ hl_l (by omega) (by omega)).mono ?_
  rw [if_neg (by omega)]
  rintro e w' ⟨rfl, rfl⟩
  go_wp2_with (fail)
  refine (toRecordS_c l_A l l_c _ hn_l (Sl.below hs_l (by (repeat (first | (with_reducible exact Below.refl _ _) | (with_reducible assumption) | (with_reducible refine below_al ?_ _) | (with_reducible refine Below.drew ?_) | (with_reducible refine below_drewN ?_ _) | (with_reducible refine below_st ?_ ?_ _) | (with_reducible refine below_tr ?_ (by assumption)) | (with_reducible exact Nat.le_refl _) | (focus (simp; done)) | (focus (simp; omega))))))).mono ?_
  rintro e w1 ⟨v1, rfl, M1, hb1⟩
  obtain ⟨A1, c1, rfl, ho1⟩ := M1
  have N1 : New 95 3 recordC w1 _ (.slice A1 (List.length l) c1) l := ⟨A1, c1, rfl, ho1⟩
  clear ho1
  have r1 := bcell1 hb1
  have z1 : w.heap.size ≤ w1.heap.size := by have h := hb1.size; (try simp only [World.size_alloc] at h); omega
  go_wp2_with (fail)
  refine (k1 _ A1 c1 (Sl.below (N1.out recordC_len) (by (repeat (first | (with_reducible exact Below.refl _ _) | (with_reducible assumption) | (with_reducible refine below_al ?_ _) | (with_reducible refine Below.drew ?_) | (with_reducible refine below_drewN ?_ _) | (with_reducible refine below_st ?_ ?_ _) | (with_reducible refine below_tr ?_ (by assumption)) | (with_reducible exact Nat.le_refl _) | (focus (simp; done)) | (focus (simp; omega))))))).mono ?_
  rintro e w2 ⟨v2, rfl, M2, hb2⟩
  obtain ⟨A2, c2, rfl, ho2⟩ := M2
  have N2 : RegionNew w2 _ ys ⟨A2, c2⟩ := ⟨A2, c2, rfl, ho2⟩
  clear ho2
  have r2 := bcell1 hb2
  have z2 : w1.heap.size ≤ w2.heap.size := by have h := hb2.size; (try simp only [World.size_alloc] at h); omega
  have BLw : BlkL (w1.heap.size) (w2.heap.size) [⟨A2, c2⟩] := by
    have h := N2.blkL
    (try simp only [World.size_alloc] at h)
    exact h
  go_wp2_with (fail)
  refine (toRecordS_c l_A l l_c _ hn_l (Sl.below hs_l (by (repeat (first | (with_reducible exact Below.refl _ _) | (with_reducible assumption) | (with_reducible refine below_al ?_ _) | (with_reducible refine Below.drew ?_) | (with_reducible refine below_drewN ?_ _) | (with_reducible refine below_st ?_ ?_ _) | (with_reducible refine below_tr ?_ (by assumption)) | (with_reducible exact Nat.le_refl _) | (focus (simp; done)) | (focus (simp; omega))))))).mono ?_
  rintro e w3 ⟨v3, rfl, M3, hb3⟩
  obtain ⟨A3, c3, rfl, ho3⟩ := M3
  have N3 : New 95 3 recordC w3 _ (.slice A3 (List.length l) c3) l := ⟨A3, c3, rfl, ho3⟩
  clear ho3
  have r3 := bcell1 hb3
  have l3_0 : w2.heap.size < w3.heap.size := blt hb3 (by first | (simp; done) | (simp; omega) | omega)
  have z3 : w2.heap.size + 1 ≤ w3.heap.size := by have h := hb3.size; (try simp only [World.size_alloc] at h); omega
  have BLx_l : BlkL (w2.heap.size + 1) (w3.heap.size) [⟨A3, c3⟩] := by
    have h := N3.blkL
    (try simp only [World.size_alloc] at h)
    exact h
  go_wp2_with (fail)
  refine (k2 _ A3 c3 (Sl.below (N3.out recordC_len) (by (repeat (first | (with_reducible exact Below.refl _ _) | (with_reducible assumption) | (with_reducible refine below_al ?_ _) | (with_reducible refine Below.drew ?_) | (with_reducible refine below_drewN ?_ _) | (with_reducible refine below_st ?_ ?_ _) | (with_reducible refine below_tr ?_ (by assumption)) | (with_reducible exact Nat.le_refl _) | (focus (simp; done)) | (focus (simp; omega))))))).mono ?_
  rintro e w4 ⟨v4, rfl, M4, hb4⟩
  obtain ⟨A4, c4, rfl, ho4⟩ := M4
  have N4 : RegionNew w4 _ ys ⟨A4, c4⟩ := ⟨A4, c4, rfl, ho4⟩
  clear ho4
  have r4 := bcell1 hb4
  have l4_0 : w2.heap.size < w4.heap.size := blt hb4 (by first | (simp; done) | (simp; omega) | omega)
  have z4 : w3.heap.size ≤ w4.heap.size := by have h := hb4.size; (try simp only [World.size_alloc] at h); omega
  have BLg : BlkL (w3.heap.size) (w4.heap.size) [⟨A4, c4⟩] := by
    have h := N4.blkL
    (try simp only [World.size_alloc] at h)
    exact h
  go_wp2_with (fail)
  refine (eqRegion_t ys ⟨A4, c4⟩ ⟨A2, c2⟩ _ (by unfold regionLen; omega) (RegionSl.below N4.sl (by (repeat (first | (with_reducible exact Below.refl _ _) | (with_reducible assumption) | (with_reducible refine below_al ?_ _) | (with_reducible refine Below.drew ?_) | (with_reducible refine below_drewN ?_ _) | (with_reducible refine below_st ?_ ?_ _) | (with_reducible refine below_tr ?_ (by assumption)) | (with_reducible exact Nat.le_refl _) | (focus (simp; done)) | (focus (simp; omega)))))) (RegionSl.below N2.sl (by (repeat (first | (with_reducible exact Below.refl _ _) | (with_reducible assumption) | (with_reducible refine below_al ?_ _) | (with_reducible refine Below.drew ?_) | (with_reducible refine below_drewN ?_ _) | (with_reducible refine below_st ?_ ?_ _) | (with_reducible refine below_tr ?_ (by assumption)) | (with_reducible exact Nat.le_refl _) | (focus (simp; done)) | (focus (simp; omega))))))).mono ?_
  rintro e w5 ⟨rfl, hb5⟩
  have r5 := bcell1 hb5
  have l5_0 : w2.heap.size < w5.heap.size := blt hb5 (by first | (simp; done) | (simp; omega) | omega)
  have l5_1 : w4.heap.size < w5.heap.size := blt hb5 (by first | (simp; done) | (simp; omega) | omega)
  have z5 : w4.heap.size + 1 ≤ w5.heap.size := by have h := hb5.size; (try simp only [World.size_alloc] at h); omega
  go_wp2_with (fail)
  refine (toRecordS_c l_A l l_c _ hn_l (Sl.below hs_l (by (repeat (first | (with_reducible exact Below.refl _ _) | (with_reducible assumption) | (with_reducible refine below_al ?_ _) | (with_reducible refine Below.drew ?_) | (with_reducible refine below_drewN ?_ _) | (with_reducible refine below_st ?_ ?_ _) | (with_reducible refine below_tr ?_ (by assumption)) | (with_reducible exact Nat.le_refl _) | (focus (simp; done)) | (focus (simp; omega))))))).mono ?_
  rintro e w6 ⟨v6, rfl, M6, hb6⟩
  obtain ⟨A6, c6, rfl, ho6⟩ := M6
  have N6 : New 95 3 recordC w6 _ (.slice A6 (List.length l) c6) l := ⟨A6, c6, rfl, ho6⟩
  clear ho6
  have r6 := bcell1 hb6
  have l6_0 : w2.heap.size < w6.heap.size := blt hb6 (by first | (simp; done) | (simp; omega) | omega)
  have l6_1 : w4.heap.size < w6.heap.size := blt hb6 (by first | (simp; done) | (simp; omega) | omega)
  have z6 : w5.heap.size ≤ w6.heap.size := by have h := hb6.size; (try simp only [World.size_alloc] at h); omega
  go_wp2_with (fail)
  refine (eqRecordS_t A3 A6 l c3 c6 _ hn_l (Sl.below (N3.out recordC_len) (by (repeat (first | (with_reducible exact Below.refl _ _) | (with_reducible assumption) | (with_reducible refine below_al ?_ _) | (with_reducible refine Below.drew ?_) | (with_reducible refine below_drewN ?_ _) | (with_reducible refine below_st ?_ ?_ _) | (with_reducible refine below_tr ?_ (by assumption)) | (with_reducible exact Nat.le_refl _) | (focus (simp; done)) | (focus (simp; omega)))))) (Sl.below (N6.out recordC_len) (by (repeat (first | (with_reducible exact Below.refl _ _) | (with_reducible assumption) | (with_reducible refine below_al ?_ _) | (with_reducible refine Below.drew ?_) | (with_reducible refine below_drewN ?_ _) | (with_reducible refine below_st ?_ ?_ _) | (with_reducible refine below_tr ?_ (by assumption)) | (with_reducible exact Nat.le_refl _) | (focus (simp; done)) | (focus (simp; omega))))))).mono ?_
  rintro e w7 ⟨rfl, hb7⟩
  have r7 := bcell1 hb7
  have l7_0 : w2.heap.size < w7.heap.size := blt hb7 (by first | (simp; done) | (simp; omega) | omega)
  have l7_1 : w4.heap.size < w7.heap.size := blt hb7 (by first | (simp; done) | (simp; omega) | omega)
  have z7 : w6.heap.size ≤ w7.heap.size := by have h := hb7.size; (try simp only [World.size_alloc] at h); omega
  have X8 := N3.below (show Below w3.heap.size w3 w7 by (repeat (first | (with_reducible exact Below.refl _ _) | (with_reducible assumption) | (with_reducible refine below_al ?_ _) | (with_reducible refine Below.drew ?_) | (with_reducible refine below_drewN ?_ _) | (with_reducible refine below_st ?_ ?_ _) | (with_reducible refine below_tr ?_ (by assumption)) | (with_reducible exact Nat.le_refl _) | (focus (simp; done)) | (focus (simp; omega))))) (Nat.le_refl _)
  have Ew_8 := N2.below (show Below w2.heap.size w2 w7 by (repeat (first | (with_reducible exact Below.refl _ _) | (with_reducible assumption) | (with_reducible refine below_al ?_ _) | (with_reducible refine Below.drew ?_) | (with_reducible refine below_drewN ?_ _) | (with_reducible refine below_st ?_ ?_ _) | (with_reducible refine below_tr ?_ (by assumption)) | (with_reducible exact Nat.le_refl _) | (focus (simp; done)) | (focus (simp; omega))))) (Nat.le_refl _)
  have Eg_8 := N4.below (show Below w4.heap.size w4 w7 by (repeat (first | (with_reducible exact Below.refl _ _) | (with_reducible assumption) | (with_reducible refine below_al ?_ _) | (with_reducible refine Below.drew ?_) | (with_reducible refine below_drewN ?_ _) | (with_reducible refine below_st ?_ ?_ _) | (with_reducible refine below_tr ?_ (by assumption)) | (with_reducible exact Nat.le_refl _) | (focus (simp; done)) | (focus (simp; omega))))) (Nat.le_refl _)
  have P8 : Below w.heap.size w w7 := by (repeat (first | (with_reducible exact Below.refl _ _) | (with_reducible assumption) | (with_reducible refine below_al ?_ _) | (with_reducible refine Below.drew ?_) | (with_reducible refine below_drewN ?_ _) | (with_reducible refine below_st ?_ ?_ _) | (with_reducible refine below_tr ?_ (by assumption)) | (with_reducible exact Nat.le_refl _) | (focus (simp; done)) | (focus (simp; omega))))
  go_wp2_with (fail)
  refine (markRecordS_g A3 (List.length l) c3 l (1) _ _ rfl (by omega) (by omega) (by omega) X8).mono ?_
  rintro e w8 ⟨rfl, M8, o8⟩
  have z8 : w7.heap.size ≤ w8.heap.size := by have h := o8.size; (try simp only [World.size_alloc] at h); omega
  have B8 : Below w.heap.size w w8 := P8.trans (o8.below (by first | (simp; done) | (simp; omega) | omega) (BLx_l.lo (by first | omega | (simp; omega))))
  have q8_0 := o8.cell (show w2.heap.size < w7.heap.size from (by first | (simp; done) | (simp; omega) | omega)) (BLx_l.ne (by omega))
  have l8_0 : w2.heap.size < w8.heap.size := Nat.lt_of_lt_of_le (show w2.heap.size < w7.heap.size from (by first | (simp; done) | (simp; omega) | omega)) o8.size
  have q8_1 := o8.cell (show w4.heap.size < w7.heap.size from (by first | (simp; done) | (simp; omega) | omega)) (BLx_l.ne (by omega))
  have l8_1 : w4.heap.size < w8.heap.size := Nat.lt_of_lt_of_le (show w4.heap.size < w7.heap.size from (by first | (simp; done) | (simp; omega) | omega)) o8.size
  have Nw_8 := Ew_8.far1 o8 (BLw.apart BLx_l (by omega))
  have Ng_8 := Eg_8.far1 o8 (BLg.apart BLx_l (by omega))
  clear o8 P8 X8 Ew_8 Eg_8
  have nk1 : ¬ (1 + (List.length l : Int) * 3 < 0) := by omega
  go_wp2_with (fail)
  refine (eqRegion_t ys ⟨A4, c4⟩ ⟨A2, c2⟩ _ (by unfold regionLen; omega) (RegionSl.below Ng_8.sl (by (repeat (first | (with_reducible exact Below.refl _ _) | (with_reducible assumption) | (with_reducible refine below_al ?_ _) | (with_reducible refine Below.drew ?_) | (with_reducible refine below_drewN ?_ _) | (with_reducible refine below_st ?_ ?_ _) | (with_reducible refine below_tr ?_ (by assumption)) | (with_reducible exact Nat.le_refl _) | (focus (simp; done)) | (focus (simp; omega)))))) (RegionSl.below Nw_8.sl (by (repeat (first | (with_reducible exact Below.refl _ _) | (with_reducible assumption) | (with_reducible refine below_al ?_ _) | (with_reducible refine Below.drew ?_) | (with_reducible refine below_drewN ?_ _) | (with_reducible refine below_st ?_ ?_ _) | (with_reducible refine below_tr ?_ (by assumption)) | (with_reducible exact Nat.le_refl _) | (focus (simp; done)) | (focus (simp; omega))))))).mono ?_
  rintro e w9 ⟨rfl, hb9⟩
  have r9 := bcell1 hb9
  have l9_0 : w2.heap.size < w9.heap.size := blt hb9 (by first | (simp; done) | (simp; omega) | omega)
  have l9_1 : w4.heap.size < w9.heap.size := blt hb9 (by first | (simp; done) | (simp; omega) | omega)
  have z9 : w8.heap.size ≤ w9.heap.size := by have h := hb9.size; (try simp only [World.size_alloc] at h); omega
  have X10 := Ng_8.below (show Below w8.heap.size w8 w9 by (repeat (first | (with_reducible exact Below.refl _ _) | (with_reducible assumption) | (with_reducible refine below_al ?_ _) | (with_reducible refine Below.drew ?_) | (with_reducible refine below_drewN ?_ _) | (with_reducible refine below_st ?_ ?_ _) | (with_reducible refine below_tr ?_ (by assumption)) | (with_reducible exact Nat.le_refl _) | (focus (simp; done)) | (focus (simp; omega))))) (Nat.le_refl _)
  have Ew_10 := Nw_8.below (show Below w8.heap.size w8 w9 by (repeat (first | (with_reducible exact Below.refl _ _) | (with_reducible assumption) | (with_reducible refine below_al ?_ _) | (with_reducible refine Below.drew ?_) | (with_reducible refine below_drewN ?_ _) | (with_reducible refine below_st ?_ ?_ _) | (with_reducible refine below_tr ?_ (by assumption)) | (with_reducible exact Nat.le_refl _) | (focus (simp; done)) | (focus (simp; omega))))) (Nat.le_refl _)
  have P10 : Below w.heap.size w w9 := by (repeat (first | (with_reducible exact Below.refl _ _) | (with_reducible assumption) | (with_reducible refine below_al ?_ _) | (with_reducible refine Below.drew ?_) | (with_reducible refine below_drewN ?_ _) | (with_reducible refine below_st ?_ ?_ _) | (with_reducible refine below_tr ?_ (by assumption)) | (with_reducible exact Nat.le_refl _) | (focus (simp; done)) | (focus (simp; omega))))
  go_wp2_with (fail)
  refine (markRegion_g ys ⟨A4, c4⟩ (1) _ _ (by omega) (by omega) (by omega) X10).mono ?_
  rintro e w10 ⟨rfl, M10, o10⟩
  have z10 : w9.heap.size ≤ w10.heap.size := by have h := o10.size; (try simp only [World.size_alloc] at h); omega
  have B10 : Below w.heap.size w w10 := P10.trans (o10.below (by first | (simp; done) | (simp; omega) | omega) (BLg.lo (by first | omega | (simp; omega))))
  have q10_0 := o10.cell (show w2.heap.size < w9.heap.size from (by first | (simp; done) | (simp; omega) | omega)) (BLg.ne (by omega))
  have l10_0 : w2.heap.size < w10.heap.size := Nat.lt_of_lt_of_le (show w2.heap.size < w9.heap.size from (by first | (simp; done) | (simp; omega) | omega)) o10.size
  have q10_1 := o10.cell (show w4.heap.size < w9.heap.size from (by first | (simp; done) | (simp; omega) | omega)) (BLg.ne (by omega))
  have l10_1 : w4.heap.size < w10.heap.size := Nat.lt_of_lt_of_le (show w4.heap.size < w9.heap.size from (by first | (simp; done) | (simp; omega) | omega)) o10.size
  have Nw_10 := Ew_10.far1 o10 (BLw.apart BLg (by omega))
  clear o10 P10 X10 Ew_10
  have nkg : ¬ (1 + (List.length ys : Int) * 3 < 0) := by omega
  have SM10 : Sl 3 halfC w10 A4 (markHalfs 1 (List.length ys)) := M10.out halfC_len
  go_wp2_with (fail)
  refine (heldRegion_c (List.length ys) ⟨A4, c4⟩ (1) _ (by omega) (by omega) (by omega) (Sl.below SM10 (by (repeat (first | (with_reducible exact Below.refl _ _) | (with_reducible assumption) | (with_reducible refine below_al ?_ _) | (with_reducible refine Below.drew ?_) | (with_reducible refine below_drewN ?_ _) | (with_reducible refine below_st ?_ ?_ _) | (with_reducible refine below_tr ?_ (by assumption)) | (with_reducible exact Nat.le_refl _) | (focus (simp; done)) | (focus (simp; omega))))))).mono ?_
  rintro e w11 ⟨rfl, hb11⟩
  have r11 := bcell1 hb11
  have l11_0 : w2.heap.size < w11.heap.size := blt hb11 (by first | (simp; done) | (simp; omega) | omega)
  have l11_1 : w4.heap.size < w11.heap.size := blt hb11 (by first | (simp; done) | (simp; omega) | omega)
  have z11 : w10.heap.size ≤ w11.heap.size := by have h := hb11.size; (try simp only [World.size_alloc] at h); omega
  go_wp2_with (fail)
  refine (toRecordS_c l_A l l_c _ hn_l (Sl.below hs_l (by (repeat (first | (with_reducible exact Below.refl _ _) | (with_reducible assumption) | (with_reducible refine below_al ?_ _) | (with_reducible refine Below.drew ?_) | (with_reducible refine below_drewN ?_ _) | (with_reducible refine below_st ?_ ?_ _) | (with_reducible refine below_tr ?_ (by assumption)) | (with_reducible exact Nat.le_refl _) | (focus (simp; done)) | (focus (simp; omega))))))).mono ?_
  rintro e w12 ⟨v12, rfl, M12, hb12⟩
  obtain ⟨A12, c12, rfl, ho12⟩ := M12
  have N12 : New 95 3 recordC w12 _ (.slice A12 (List.length l) c12) l := ⟨A12, c12, rfl, ho12⟩
  clear ho12
  have r12 := bcell1 hb12
  have l12_0 : w2.heap.size < w12.heap.size := blt hb12 (by first | (simp; done) | (simp; omega) | omega)
  have l12_1 : w4.heap.size < w12.heap.size := blt hb12 (by first | (simp; done) | (simp; omega) | omega)
  have z12 : w11.heap.size ≤ w12.heap.size := by have h := hb12.size; (try simp only [World.size_alloc] at h); omega
  go_wp2_with (fail)
  refine (k2 _ A12 c12 (Sl.below (N12.out recordC_len) (by (repeat (first | (with_reducible exact Below.refl _ _) | (with_reducible assumption) | (with_reducible refine below_al ?_ _) | (with_reducible refine Below.drew ?_) | (with_reducible refine below_drewN ?_ _) | (with_reducible refine below_st ?_ ?_ _) | (with_reducible refine below_tr ?_ (by assumption)) | (with_reducible exact Nat.le_refl _) | (focus (simp; done)) | (focus (simp; omega))))))).mono ?_
  rintro e w13 ⟨v13, rfl, M13, hb13⟩
  obtain ⟨A13, c13, rfl, ho13⟩ := M13
  have N13 : RegionNew w13 _ ys ⟨A13, c13⟩ := ⟨A13, c13, rfl, ho13⟩
  clear ho13
  have r13 := bcell1 hb13
  have l13_0 : w2.heap.size < w13.heap.size := blt hb13 (by first | (simp; done) | (simp; omega) | omega)
  have l13_1 : w4.heap.size < w13.heap.size := blt hb13 (by first | (simp; done) | (simp; omega) | omega)
  have z13 : w12.heap.size ≤ w13.heap.size := by have h := hb13.size; (try simp only [World.size_alloc] at h); omega
  have BLh : BlkL (w12.heap.size) (w13.heap.size) [⟨A13, c13⟩] := by
    have h := N13.blkL
    (try simp only [World.size_alloc] at h)
    exact h
  go_wp2_with (fail)
  refine (eqRegion_t ys ⟨A13, c13⟩ ⟨A2, c2⟩ _ (by unfold regionLen; omega) (RegionSl.below N13.sl (by (repeat (first | (with_reducible exact Below.refl _ _) | (with_reducible assumption) | (with_reducible refine below_al ?_ _) | (with_reducible refine Below.drew ?_) | (with_reducible refine below_drewN ?_ _) | (with_reducible refine below_st ?_ ?_ _) | (with_reducible refine below_tr ?_ (by assumption)) | (with_reducible exact Nat.le_refl _) | (focus (simp; done)) | (focus (simp; omega)))))) (RegionSl.below Nw_10.sl (by (repeat (first | (with_reducible exact Below.refl _ _) | (with_reducible assumption) | (with_reducible refine below_al ?_ _) | (with_reducible refine Below.drew ?_) | (with_reducible refine below_drewN ?_ _) | (with_reducible refine below_st ?_ ?_ _) | (with_reducible refine below_tr ?_ (by assumption)) | (with_reducible exact Nat.le_refl _) | (focus (simp; done)) | (focus (simp; omega))))))).mono ?_
  rintro e w14 ⟨rfl, hb14⟩
  have r14 := bcell1 hb14
  have l14_0 : w2.heap.size < w14.heap.size := blt hb14 (by first | (simp; done) | (simp; omega) | omega)
  have l14_1 : w4.heap.size < w14.heap.size := blt hb14 (by first | (simp; done) | (simp; omega) | omega)
  have l14_2 : w13.heap.size < w14.heap.size := blt hb14 (by first | (simp; done) | (simp; omega) | omega)
  have z14 : w13.heap.size + 1 ≤ w14.heap.size := by have h := hb14.size; (try simp only [World.size_alloc] at h); omega
  go_wp2_with (fail)
  refine (heldRegion_c (List.length ys) ⟨A4, c4⟩ (1) _ (by omega) (by omega) (by omega) (Sl.below SM10 (by (repeat (first | (with_reducible exact Below.refl _ _) | (with_reducible assumption) | (with_reducible refine below_al ?_ _) | (with_reducible refine Below.drew ?_) | (with_reducible refine below_drewN ?_ _) | (with_reducible refine below_st ?_ ?_ _) | (with_reducible refine below_tr ?_ (by assumption)) | (with_reducible exact Nat.le_refl _) | (focus (simp; done)) | (focus (simp; omega))))))).mono ?_
  rintro e w15 ⟨rfl, hb15⟩
  have r15 := bcell1 hb15
  have l15_0 : w2.heap.size < w15.heap.size := blt hb15 (by first | (simp; done) | (simp; omega) | omega)
  have l15_1 : w4.heap.size < w15.heap.size := blt hb15 (by first | (simp; done) | (simp; omega) | omega)
  have l15_2 : w13.heap.size < w15.heap.size := blt hb15 (by first | (simp; done) | (simp; omega) | omega)
  have z15 : w14.heap.size ≤ w15.heap.size := by have h := hb15.size; (try simp only [World.size_alloc] at h); omega
  go_wp2
  go_ret
  refine ⟨rfl, ?_⟩
  repeat (first | (with_reducible exact Below.refl _ _) | (with_reducible assumption) | (with_reducible refine below_al ?_ _) | (with_reducible refine Below.drew ?_) | (with_reducible refine below_drewN ?_ _) | (with_reducible refine below_st ?_ ?_ _) | (with_reducible refine below_tr ?_ (by assumption)) | (with_reducible exact Nat.le_refl _) | (focus (simp; done)) | (focus (simp; omega)))

set_option maxRecDepth 100000 in
theorem lifted_FitRegion (os : Os) (started : os.Started) (H : Type) (enc : TypeId × Value → H) :
    ReturnsInHanded {} Try.checked os 9 .any (Rows.fnExactFitRegionSpec.pre6 enc Try.prog Try.f9 Rows.fnExactFitRegionRow.domain false) (Rows.fnExactFitRegionSpec.post enc Try.prog Try.f9 false true false false) := by
  refine returnsInHanded_of_change (C := Try.checked) own_ started (by kernel_rfl) Try.func9
    (ChangeSpec.witness6 (enc := enc) (C := Try.checked) false ⟨#[], #[.slice none 0 0, .int .i64 0], []⟩ 8 (by kernel_rfl) (by kernel_rfl) (by kernel_rfl) (by kernel_rfl)) ?_
  intro W base args ds gs before hval0 hW hcnd _
  have hval : ∀ (j : Nat) t v, Try.f9.params[j]? = some t → args[j]? = some v → Value.okWide Try.prog W .any base t v := hval0
  have hW' := hW
  obtain ⟨p, q, hA0, hV, rfl, hfz, hnd⟩ := hW
  have hA : DataW.TrodAll enc Try.prog W 0 (fun _ => true) true Try.f9.params.toList args.toList ds p := hA0
  rw [Try.params9] at hA hval
  obtain ⟨v0, vs0, d0, ds0, p0, q0, hargs, rfl, rfl, h0, r0⟩ := trodAll_cons hA
  obtain ⟨v1, vs1, d1, ds1, p1, q1, rfl, rfl, rfl, h1, r1⟩ := trodAll_cons r0
  obtain ⟨rfl, rfl, rfl⟩ := trodAll_nil r1
  obtain rfl : args = #[v0, v1] := by cases args; simp_all
  obtain ⟨rfl, rfl⟩ := trodVars_none hV
  have k0 := h0
  have lt0 : ∀ x ∈ p0, x.block < W.heap.size := by obtain ⟨m, hm⟩ := k0; exact DataW.trod_lt m _ _ _ hm
  have ok0 := hval 0 98 v0 rfl rfl
  have k1 := h1
  have lt1 : ∀ x ∈ p1, x.block < W.heap.size := by obtain ⟨m, hm⟩ := k1; exact DataW.trod_lt m _ _ _ hm
  have ok1 := hval 1 3 v1 rfl rfl
  obtain ⟨l_A, l_c, l, rfl, hl_l, hin_l, hs_l⟩ := openRecordSV ok0 h0
  obtain ⟨err, hin_err, rfl⟩ := open_int1 Try.underlying3 ok1 h1
  refine (walkFitRegion W l_A l l_c hin_l hl_l hs_l err hin_err).mono fun e W' ⟨he, bel⟩ => ?_
  subst he
  exact ⟨_, rfl, _, _, _, [], _, [], hW', trodAll_mk1 (shut_bool Try.underlying4 _), (trodAll_cons_mk (Below.trod laidOut_ (by kernel_rfl) (of_decide_eq_true (by kernel_rfl)) k0 bel lt0) (trodAll_cons_mk (Below.trod laidOut_ (by kernel_rfl) (of_decide_eq_true (by kernel_rfl)) k1 bel lt1) trodAll_mk0)), rfl, bel.frame _, fun h => by cases h⟩

/-- The statement. -/
theorem law_FitRegion : Rows.FnExactFitRegionSaid :=
  OpenClaim.holds_of_wide 9 Try.f9 rfl rfl rfl rfl rfl rfl rfl ⟨rfl, rfl, rfl, rfl, rfl⟩ rfl rfl rfl rfl rfl (by kernel_rfl) Try.func9 (by kernel_rfl)
    (of_decide_eq_true (by kernel_rfl)) (by unfold Func.isWrapper; first | (rw [if_pos (by decide +kernel)]; kernel_rfl) | (rw [if_neg (by decide +kernel)]; exact ⟨rfl, rfl⟩))
    (fun os started H enc _ => lifted_FitRegion os started H enc)
#print axioms law_FitRegion
end Go.Proofs.Ytbdihgcjopbnjaa
