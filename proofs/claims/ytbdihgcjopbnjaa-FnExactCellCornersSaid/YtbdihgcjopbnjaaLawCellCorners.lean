/-
  For every input FnExactCellCorners returns true: the program's CellCorners and the reference's agree, and the results share no memory.
  Conditions: none.
-/
import Derived.Test.YtbdihgcjopbnjaaCC
import Derived.Test.YtbdihgcjopbnjaaConvT
import Derived.Test.YtbdihgcjopbnjaaConvS
import Derived.Test.YtbdihgcjopbnjaaOpenT
import Derived.Test.YtbdihgcjopbnjaaOpen2
import Derived.Test.YtbdihgcjopbnjaaBel
import Derived.Test.YtbdihgcjopbnjaaConv
import Derived.Test.YtbdihgcjopbnjaaKeep
import Derived.Test.YtbdihgcjopbnjaaMark3
import Derived.Deep.RegionHeld3
import Derived.Deep.DeepCutAuto
import Derived.Deep.DeepMust
namespace Go.Proofs.Ytbdihgcjopbnjaa
open Go.RowKit Go.ChangeShapes Go.WideShapes Go.ChangeAt Go.Deep

set_option maxRecDepth 100000 in
set_option maxHeartbeats 16000000 in
theorem walkCellCorners (w : World) (t : Tab) (t_A : Option Addr) (t_c : Nat) (hin_t : t.In) (hl_t : t.cells.length ≤ 9223372036854775807) (hs_t : Sl 1 intC w t_A t.cells) (i : Int) (_ : In64 i) (j : Int) (_ : In64 j) :
    Calls Try.prog 3 #[tabV t t_A t_c, .int .i64 i, .int .i64 j] w fun e w' => e = .returned (.bool true) ∧ Below w.heap.size w w' := by
  by_cases c0 : 1048576 - ((t.cells.length : Nat) : Int) < 0
  · skip
    go_enter Try.func3, Try.ntmps3
    go_wp2_with (fail)
    refine (szTable_c t t_A t_c (1048576) _ hl_t (by omega) (by omega)).mono ?_
    rw [if_pos (by omega)]
    rintro e w1 ⟨rfl, hb1⟩
    have r1 := bcell1 hb1
    have l1_0 : w.heap.size < w1.heap.size := blt hb1 (by first | (simp; done) | (simp; omega) | omega)
    go_wp2
    go_ret
    refine ⟨rfl, ?_⟩
    repeat (first | (with_reducible exact Below.refl _ _) | (with_reducible assumption) | (with_reducible refine below_al ?_ _) | (with_reducible refine Below.drew ?_) | (with_reducible refine below_drewN ?_ _) | (with_reducible refine below_st ?_ ?_ _) | (with_reducible refine below_tr ?_ (by assumption)) | (with_reducible exact Nat.le_refl _) | (focus (simp; done)) | (focus (simp; omega)))
  have hn_t : t.cells.length ≤ 1048576 := by omega
  have k1 := fun W A' cap' h => sCellCorners_c t A' cap' i j W hin_t hn_t h
  have k2 := fun W A' cap' h => iCellCorners_c t A' cap' i j W hin_t hn_t h
  have hlen := cellCorners_le t i j
  generalize cellCorners t i j = ys at *
  go_enter Try.func3, Try.ntmps3
  go_wp2_with (fail)
  refine (szTable_c t t_A t_c (1048576) _ hl_t (by omega) (by omega)).mono ?_
  rw [if_neg (by omega)]
  rintro e w1 ⟨rfl, hb1⟩
  have r1 := bcell1 hb1
  have l1_0 : w.heap.size < w1.heap.size := blt hb1 (by first | (simp; done) | (simp; omega) | omega)
  have z1 : w.heap.size + 1 ≤ w1.heap.size := by have h := hb1.size; (try simp only [World.size_alloc] at h); omega
  go_wp2_with (fail)
  refine (toTable_c t t_A t_c _ hn_t (Sl.below hs_t (by (repeat (first | (with_reducible exact Below.refl _ _) | (with_reducible assumption) | (with_reducible refine below_al ?_ _) | (with_reducible refine Below.drew ?_) | (with_reducible refine below_drewN ?_ _) | (with_reducible refine below_st ?_ ?_ _) | (with_reducible refine below_tr ?_ (by assumption)) | (with_reducible exact Nat.le_refl _) | (focus (simp; done)) | (focus (simp; omega))))))).mono ?_
  rintro e w2 ⟨A2, c2, rfl, N2, hb2⟩
  have r2 := bcell1 hb2
  have l2_0 : w.heap.size < w2.heap.size := blt hb2 (by first | (simp; done) | (simp; omega) | omega)
  have z2 : w1.heap.size ≤ w2.heap.size := by have h := hb2.size; (try simp only [World.size_alloc] at h); omega
  go_wp2_with (fail)
  refine (k1 _ A2 c2 (Sl.below (N2.out intC_len) (by (repeat (first | (with_reducible exact Below.refl _ _) | (with_reducible assumption) | (with_reducible refine below_al ?_ _) | (with_reducible refine Below.drew ?_) | (with_reducible refine below_drewN ?_ _) | (with_reducible refine below_st ?_ ?_ _) | (with_reducible refine below_tr ?_ (by assumption)) | (with_reducible exact Nat.le_refl _) | (focus (simp; done)) | (focus (simp; omega))))))).mono ?_
  rintro e w3 ⟨v3, rfl, M3, hb3⟩
  obtain ⟨A3, c3, rfl, ho3⟩ := M3
  have N3 : New 65 3 spotC w3 _ (.slice A3 (List.length ys) c3) ys := ⟨A3, c3, rfl, ho3⟩
  clear ho3
  have r3 := bcell1 hb3
  have l3_0 : w.heap.size < w3.heap.size := blt hb3 (by first | (simp; done) | (simp; omega) | omega)
  have z3 : w2.heap.size ≤ w3.heap.size := by have h := hb3.size; (try simp only [World.size_alloc] at h); omega
  have BLw : BlkL (w2.heap.size) (w3.heap.size) [⟨A3, c3⟩] := by
    have h := N3.blkL
    (try simp only [World.size_alloc] at h)
    exact h
  go_wp2_with (fail)
  refine (toTable_c t t_A t_c _ hn_t (Sl.below hs_t (by (repeat (first | (with_reducible exact Below.refl _ _) | (with_reducible assumption) | (with_reducible refine below_al ?_ _) | (with_reducible refine Below.drew ?_) | (with_reducible refine below_drewN ?_ _) | (with_reducible refine below_st ?_ ?_ _) | (with_reducible refine below_tr ?_ (by assumption)) | (with_reducible exact Nat.le_refl _) | (focus (simp; done)) | (focus (simp; omega))))))).mono ?_
  rintro e w4 ⟨A4, c4, rfl, N4, hb4⟩
  have r4 := bcell1 hb4
  have l4_0 : w.heap.size < w4.heap.size := blt hb4 (by first | (simp; done) | (simp; omega) | omega)
  have z4 : w3.heap.size ≤ w4.heap.size := by have h := hb4.size; (try simp only [World.size_alloc] at h); omega
  have BLx_t : BlkL (w3.heap.size) (w4.heap.size) [⟨A4, c4⟩] := by
    have h := N4.blkL
    (try simp only [World.size_alloc] at h)
    exact h
  go_wp2_with (fail)
  refine (k2 _ A4 c4 (Sl.below (N4.out intC_len) (by (repeat (first | (with_reducible exact Below.refl _ _) | (with_reducible assumption) | (with_reducible refine below_al ?_ _) | (with_reducible refine Below.drew ?_) | (with_reducible refine below_drewN ?_ _) | (with_reducible refine below_st ?_ ?_ _) | (with_reducible refine below_tr ?_ (by assumption)) | (with_reducible exact Nat.le_refl _) | (focus (simp; done)) | (focus (simp; omega))))))).mono ?_
  rintro e w5 ⟨v5, rfl, M5, hb5⟩
  obtain ⟨A5, c5, rfl, ho5⟩ := M5
  have N5 : New 65 3 spotC w5 _ (.slice A5 (List.length ys) c5) ys := ⟨A5, c5, rfl, ho5⟩
  clear ho5
  have r5 := bcell1 hb5
  have l5_0 : w.heap.size < w5.heap.size := blt hb5 (by first | (simp; done) | (simp; omega) | omega)
  have l5_1 : w4.heap.size < w5.heap.size := blt hb5 (by first | (simp; done) | (simp; omega) | omega)
  have z5 : w4.heap.size + 1 ≤ w5.heap.size := by have h := hb5.size; (try simp only [World.size_alloc] at h); omega
  have BLg : BlkL (w4.heap.size + 1) (w5.heap.size) [⟨A5, c5⟩] := by
    have h := N5.blkL
    (try simp only [World.size_alloc] at h)
    exact h
  go_wp2_with (fail)
  refine (eqSpotS_t A5 A3 ys c5 c3 _ (by omega) (Sl.below (N5.out spotC_len) (by (repeat (first | (with_reducible exact Below.refl _ _) | (with_reducible assumption) | (with_reducible refine below_al ?_ _) | (with_reducible refine Below.drew ?_) | (with_reducible refine below_drewN ?_ _) | (with_reducible refine below_st ?_ ?_ _) | (with_reducible refine below_tr ?_ (by assumption)) | (with_reducible exact Nat.le_refl _) | (focus (simp; done)) | (focus (simp; omega)))))) (Sl.below (N3.out spotC_len) (by (repeat (first | (with_reducible exact Below.refl _ _) | (with_reducible assumption) | (with_reducible refine below_al ?_ _) | (with_reducible refine Below.drew ?_) | (with_reducible refine below_drewN ?_ _) | (with_reducible refine below_st ?_ ?_ _) | (with_reducible refine below_tr ?_ (by assumption)) | (with_reducible exact Nat.le_refl _) | (focus (simp; done)) | (focus (simp; omega))))))).mono ?_
  rintro e w6 ⟨rfl, hb6⟩
  have r6 := bcell1 hb6
  have l6_0 : w.heap.size < w6.heap.size := blt hb6 (by first | (simp; done) | (simp; omega) | omega)
  have l6_1 : w4.heap.size < w6.heap.size := blt hb6 (by first | (simp; done) | (simp; omega) | omega)
  have z6 : w5.heap.size ≤ w6.heap.size := by have h := hb6.size; (try simp only [World.size_alloc] at h); omega
  go_upto_region 10 with fail
  go_region_held3 (fun w' => (∀ b o, b < w6.heap.size → w'.cell? ⟨b, o, none⟩ = w6.cell? ⟨b, o, none⟩) ∧ w6.heap.size ≤ w'.heap.size) (first | exact ⟨fun _ _ _ => rfl, by simp⟩ | exact kq_step2 (by assumption) (by assumption))
    (first
      | (go_at_call 15; go_must (refine (toTable_c t t_A t_c _ hn_t (Sl.below hs_t (by (repeat (first | (with_reducible exact Below.refl _ _) | (with_reducible assumption) | (with_reducible refine below_al ?_ _) | (with_reducible refine Below.drew ?_) | (with_reducible refine below_drewN ?_ _) | (with_reducible refine below_st ?_ ?_ _) | (with_reducible refine below_tr ?_ (by assumption)) | (with_reducible exact Nat.le_refl _) | (focus (simp; done)) | (focus (simp; omega))))))).mono ?_; rintro e w7 ⟨A7, c7, rfl, N7, hb7⟩))
      | (go_at_call 18; go_must (refine (eqTable_t t A4 A7 c4 c7 _ hn_t (Sl.below (N4.out intC_len) (by (repeat (first | (with_reducible exact Below.refl _ _) | (with_reducible assumption) | (with_reducible refine below_al ?_ _) | (with_reducible refine Below.drew ?_) | (with_reducible refine below_drewN ?_ _) | (with_reducible refine below_st ?_ ?_ _) | (with_reducible refine below_tr ?_ (by assumption)) | (with_reducible exact Nat.le_refl _) | (focus (simp; done)) | (focus (simp; omega)))))) (Sl.below (N7.out intC_len) (by (repeat (first | (with_reducible exact Below.refl _ _) | (with_reducible assumption) | (with_reducible refine below_al ?_ _) | (with_reducible refine Below.drew ?_) | (with_reducible refine below_drewN ?_ _) | (with_reducible refine below_st ?_ ?_ _) | (with_reducible refine below_tr ?_ (by assumption)) | (with_reducible exact Nat.le_refl _) | (focus (simp; done)) | (focus (simp; omega))))))).mono ?_; rintro e w8 ⟨rfl, hb8⟩)))
  have B8 : Below w6.heap.size w6 w8 := by (repeat (first | (with_reducible exact Below.refl _ _) | (with_reducible assumption) | (with_reducible refine below_al ?_ _) | (with_reducible refine Below.drew ?_) | (with_reducible refine below_drewN ?_ _) | (with_reducible refine below_st ?_ ?_ _) | (with_reducible refine below_tr ?_ (by assumption)) | (with_reducible exact Nat.le_refl _) | (focus (simp; done)) | (focus (simp; omega))))
  have r8 := bcell1 B8
  have l8_0 : w.heap.size < w8.heap.size := blt B8 (by first | (simp; done) | (simp; omega) | omega)
  have l8_1 : w4.heap.size < w8.heap.size := blt B8 (by first | (simp; done) | (simp; omega) | omega)
  have z8 : w6.heap.size ≤ w8.heap.size := by have h := B8.size; (try simp only [World.size_alloc] at h); omega
  have X9 := N4.below (show Below w4.heap.size w4 w8 by (repeat (first | (with_reducible exact Below.refl _ _) | (with_reducible assumption) | (with_reducible refine below_al ?_ _) | (with_reducible refine Below.drew ?_) | (with_reducible refine below_drewN ?_ _) | (with_reducible refine below_st ?_ ?_ _) | (with_reducible refine below_tr ?_ (by assumption)) | (with_reducible exact Nat.le_refl _) | (focus (simp; done)) | (focus (simp; omega))))) (Nat.le_refl _)
  have Ew_9 := N3.below (show Below w3.heap.size w3 w8 by (repeat (first | (with_reducible exact Below.refl _ _) | (with_reducible assumption) | (with_reducible refine below_al ?_ _) | (with_reducible refine Below.drew ?_) | (with_reducible refine below_drewN ?_ _) | (with_reducible refine below_st ?_ ?_ _) | (with_reducible refine below_tr ?_ (by assumption)) | (with_reducible exact Nat.le_refl _) | (focus (simp; done)) | (focus (simp; omega))))) (Nat.le_refl _)
  have Eg_9 := N5.below (show Below w5.heap.size w5 w8 by (repeat (first | (with_reducible exact Below.refl _ _) | (with_reducible assumption) | (with_reducible refine below_al ?_ _) | (with_reducible refine Below.drew ?_) | (with_reducible refine below_drewN ?_ _) | (with_reducible refine below_st ?_ ?_ _) | (with_reducible refine below_tr ?_ (by assumption)) | (with_reducible exact Nat.le_refl _) | (focus (simp; done)) | (focus (simp; omega))))) (Nat.le_refl _)
  have P9 : Below w.heap.size w w8 := by (repeat (first | (with_reducible exact Below.refl _ _) | (with_reducible assumption) | (with_reducible refine below_al ?_ _) | (with_reducible refine Below.drew ?_) | (with_reducible refine below_drewN ?_ _) | (with_reducible refine below_st ?_ ?_ _) | (with_reducible refine below_tr ?_ (by assumption)) | (with_reducible exact Nat.le_refl _) | (focus (simp; done)) | (focus (simp; omega))))
  go_wp2_with (fail)
  refine (markTable_g t A4 c4 (1) _ _ (by omega) (by omega) (by omega) X9).mono ?_
  rintro e w9 ⟨rfl, M9, o9⟩
  have z9 : w8.heap.size ≤ w9.heap.size := by have h := o9.size; (try simp only [World.size_alloc] at h); omega
  have B9 : Below w.heap.size w w9 := P9.trans (o9.below (by first | (simp; done) | (simp; omega) | omega) (BLx_t.lo (by first | omega | (simp; omega))))
  have q9_0 := o9.cell (show w.heap.size < w8.heap.size from (by first | (simp; done) | (simp; omega) | omega)) (BLx_t.ne (by omega))
  have l9_0 : w.heap.size < w9.heap.size := Nat.lt_of_lt_of_le (show w.heap.size < w8.heap.size from (by first | (simp; done) | (simp; omega) | omega)) o9.size
  have q9_1 := o9.cell (show w4.heap.size < w8.heap.size from (by first | (simp; done) | (simp; omega) | omega)) (BLx_t.ne (by omega))
  have l9_1 : w4.heap.size < w9.heap.size := Nat.lt_of_lt_of_le (show w4.heap.size < w8.heap.size from (by first | (simp; done) | (simp; omega) | omega)) o9.size
  have Nw_9 := Ew_9.far1 o9 (BLw.apart BLx_t (by omega))
  have Ng_9 := Eg_9.far1 o9 (BLg.apart BLx_t (by omega))
  clear o9 P9 X9 Ew_9 Eg_9
  have nk1 : ¬ (1 + (t.cells.length : Int) < 0) := by omega
  go_wp2_with (fail)
  refine (eqSpotS_t A5 A3 ys c5 c3 _ (by omega) (Sl.below (Ng_9.out spotC_len) (by (repeat (first | (with_reducible exact Below.refl _ _) | (with_reducible assumption) | (with_reducible refine below_al ?_ _) | (with_reducible refine Below.drew ?_) | (with_reducible refine below_drewN ?_ _) | (with_reducible refine below_st ?_ ?_ _) | (with_reducible refine below_tr ?_ (by assumption)) | (with_reducible exact Nat.le_refl _) | (focus (simp; done)) | (focus (simp; omega)))))) (Sl.below (Nw_9.out spotC_len) (by (repeat (first | (with_reducible exact Below.refl _ _) | (with_reducible assumption) | (with_reducible refine below_al ?_ _) | (with_reducible refine Below.drew ?_) | (with_reducible refine below_drewN ?_ _) | (with_reducible refine below_st ?_ ?_ _) | (with_reducible refine below_tr ?_ (by assumption)) | (with_reducible exact Nat.le_refl _) | (focus (simp; done)) | (focus (simp; omega))))))).mono ?_
  rintro e w10 ⟨rfl, hb10⟩
  have r10 := bcell1 hb10
  have l10_0 : w.heap.size < w10.heap.size := blt hb10 (by first | (simp; done) | (simp; omega) | omega)
  have l10_1 : w4.heap.size < w10.heap.size := blt hb10 (by first | (simp; done) | (simp; omega) | omega)
  have z10 : w9.heap.size ≤ w10.heap.size := by have h := hb10.size; (try simp only [World.size_alloc] at h); omega
  have X11 := Ng_9.below (show Below w9.heap.size w9 w10 by (repeat (first | (with_reducible exact Below.refl _ _) | (with_reducible assumption) | (with_reducible refine below_al ?_ _) | (with_reducible refine Below.drew ?_) | (with_reducible refine below_drewN ?_ _) | (with_reducible refine below_st ?_ ?_ _) | (with_reducible refine below_tr ?_ (by assumption)) | (with_reducible exact Nat.le_refl _) | (focus (simp; done)) | (focus (simp; omega))))) (Nat.le_refl _)
  have Ew_11 := Nw_9.below (show Below w9.heap.size w9 w10 by (repeat (first | (with_reducible exact Below.refl _ _) | (with_reducible assumption) | (with_reducible refine below_al ?_ _) | (with_reducible refine Below.drew ?_) | (with_reducible refine below_drewN ?_ _) | (with_reducible refine below_st ?_ ?_ _) | (with_reducible refine below_tr ?_ (by assumption)) | (with_reducible exact Nat.le_refl _) | (focus (simp; done)) | (focus (simp; omega))))) (Nat.le_refl _)
  have P11 : Below w.heap.size w w10 := by (repeat (first | (with_reducible exact Below.refl _ _) | (with_reducible assumption) | (with_reducible refine below_al ?_ _) | (with_reducible refine Below.drew ?_) | (with_reducible refine below_drewN ?_ _) | (with_reducible refine below_st ?_ ?_ _) | (with_reducible refine below_tr ?_ (by assumption)) | (with_reducible exact Nat.le_refl _) | (focus (simp; done)) | (focus (simp; omega))))
  go_wp2_with (fail)
  refine (markSpotS_g A5 (List.length ys) c5 ys (1) _ _ rfl (by omega) (by omega) (by omega) X11).mono ?_
  rintro e w11 ⟨rfl, M11, o11⟩
  have z11 : w10.heap.size ≤ w11.heap.size := by have h := o11.size; (try simp only [World.size_alloc] at h); omega
  have B11 : Below w.heap.size w w11 := P11.trans (o11.below (by first | (simp; done) | (simp; omega) | omega) (BLg.lo (by first | omega | (simp; omega))))
  have q11_0 := o11.cell (show w.heap.size < w10.heap.size from (by first | (simp; done) | (simp; omega) | omega)) (BLg.ne (by omega))
  have l11_0 : w.heap.size < w11.heap.size := Nat.lt_of_lt_of_le (show w.heap.size < w10.heap.size from (by first | (simp; done) | (simp; omega) | omega)) o11.size
  have q11_1 := o11.cell (show w4.heap.size < w10.heap.size from (by first | (simp; done) | (simp; omega) | omega)) (BLg.ne (by omega))
  have l11_1 : w4.heap.size < w11.heap.size := Nat.lt_of_lt_of_le (show w4.heap.size < w10.heap.size from (by first | (simp; done) | (simp; omega) | omega)) o11.size
  have Nw_11 := Ew_11.far1 o11 (BLw.apart BLg (by omega))
  clear o11 P11 X11 Ew_11
  have nkg : ¬ (1 + (List.length ys : Int) * 3 < 0) := by omega
  have SM11 : Sl 3 spotC w11 A5 (markSpots 1 (List.length ys)) := M11.out spotC_len
  go_wp2_with (fail)
  refine (heldSpotS_c A5 (List.length ys) c5 (1) _ (by omega) (by omega) (by omega) (Sl.below SM11 (by (repeat (first | (with_reducible exact Below.refl _ _) | (with_reducible assumption) | (with_reducible refine below_al ?_ _) | (with_reducible refine Below.drew ?_) | (with_reducible refine below_drewN ?_ _) | (with_reducible refine below_st ?_ ?_ _) | (with_reducible refine below_tr ?_ (by assumption)) | (with_reducible exact Nat.le_refl _) | (focus (simp; done)) | (focus (simp; omega))))))).mono ?_
  rintro e w' ⟨rfl, rfl⟩
  go_wp2_with (fail)
  refine (toTable_c t t_A t_c _ hn_t (Sl.below hs_t (by (repeat (first | (with_reducible exact Below.refl _ _) | (with_reducible assumption) | (with_reducible refine below_al ?_ _) | (with_reducible refine Below.drew ?_) | (with_reducible refine below_drewN ?_ _) | (with_reducible refine below_st ?_ ?_ _) | (with_reducible refine below_tr ?_ (by assumption)) | (with_reducible exact Nat.le_refl _) | (focus (simp; done)) | (focus (simp; omega))))))).mono ?_
  rintro e w12 ⟨A12, c12, rfl, N12, hb12⟩
  have r12 := bcell1 hb12
  have l12_0 : w.heap.size < w12.heap.size := blt hb12 (by first | (simp; done) | (simp; omega) | omega)
  have l12_1 : w4.heap.size < w12.heap.size := blt hb12 (by first | (simp; done) | (simp; omega) | omega)
  have z12 : w11.heap.size ≤ w12.heap.size := by have h := hb12.size; (try simp only [World.size_alloc] at h); omega
  go_wp2_with (fail)
  refine (k2 _ A12 c12 (Sl.below (N12.out intC_len) (by (repeat (first | (with_reducible exact Below.refl _ _) | (with_reducible assumption) | (with_reducible refine below_al ?_ _) | (with_reducible refine Below.drew ?_) | (with_reducible refine below_drewN ?_ _) | (with_reducible refine below_st ?_ ?_ _) | (with_reducible refine below_tr ?_ (by assumption)) | (with_reducible exact Nat.le_refl _) | (focus (simp; done)) | (focus (simp; omega))))))).mono ?_
  rintro e w13 ⟨v13, rfl, M13, hb13⟩
  obtain ⟨A13, c13, rfl, ho13⟩ := M13
  have N13 : New 65 3 spotC w13 _ (.slice A13 (List.length ys) c13) ys := ⟨A13, c13, rfl, ho13⟩
  clear ho13
  have r13 := bcell1 hb13
  have l13_0 : w.heap.size < w13.heap.size := blt hb13 (by first | (simp; done) | (simp; omega) | omega)
  have l13_1 : w4.heap.size < w13.heap.size := blt hb13 (by first | (simp; done) | (simp; omega) | omega)
  have z13 : w12.heap.size ≤ w13.heap.size := by have h := hb13.size; (try simp only [World.size_alloc] at h); omega
  have BLh : BlkL (w12.heap.size) (w13.heap.size) [⟨A13, c13⟩] := by
    have h := N13.blkL
    (try simp only [World.size_alloc] at h)
    exact h
  go_wp2_with (fail)
  refine (eqSpotS_t A13 A3 ys c13 c3 _ (by omega) (Sl.below (N13.out spotC_len) (by (repeat (first | (with_reducible exact Below.refl _ _) | (with_reducible assumption) | (with_reducible refine below_al ?_ _) | (with_reducible refine Below.drew ?_) | (with_reducible refine below_drewN ?_ _) | (with_reducible refine below_st ?_ ?_ _) | (with_reducible refine below_tr ?_ (by assumption)) | (with_reducible exact Nat.le_refl _) | (focus (simp; done)) | (focus (simp; omega)))))) (Sl.below (Nw_11.out spotC_len) (by (repeat (first | (with_reducible exact Below.refl _ _) | (with_reducible assumption) | (with_reducible refine below_al ?_ _) | (with_reducible refine Below.drew ?_) | (with_reducible refine below_drewN ?_ _) | (with_reducible refine below_st ?_ ?_ _) | (with_reducible refine below_tr ?_ (by assumption)) | (with_reducible exact Nat.le_refl _) | (focus (simp; done)) | (focus (simp; omega))))))).mono ?_
  rintro e w14 ⟨rfl, hb14⟩
  have r14 := bcell1 hb14
  have l14_0 : w.heap.size < w14.heap.size := blt hb14 (by first | (simp; done) | (simp; omega) | omega)
  have l14_1 : w4.heap.size < w14.heap.size := blt hb14 (by first | (simp; done) | (simp; omega) | omega)
  have z14 : w13.heap.size ≤ w14.heap.size := by have h := hb14.size; (try simp only [World.size_alloc] at h); omega
  go_wp2_with (fail)
  refine (heldSpotS_c A5 (List.length ys) c5 (1) _ (by omega) (by omega) (by omega) (Sl.below SM11 (by (repeat (first | (with_reducible exact Below.refl _ _) | (with_reducible assumption) | (with_reducible refine below_al ?_ _) | (with_reducible refine Below.drew ?_) | (with_reducible refine below_drewN ?_ _) | (with_reducible refine below_st ?_ ?_ _) | (with_reducible refine below_tr ?_ (by assumption)) | (with_reducible exact Nat.le_refl _) | (focus (simp; done)) | (focus (simp; omega))))))).mono ?_
  rintro e w' ⟨rfl, rfl⟩
  go_wp2
  go_ret
  refine ⟨rfl, ?_⟩
  repeat (first | (with_reducible exact Below.refl _ _) | (with_reducible assumption) | (with_reducible refine below_al ?_ _) | (with_reducible refine Below.drew ?_) | (with_reducible refine below_drewN ?_ _) | (with_reducible refine below_st ?_ ?_ _) | (with_reducible refine below_tr ?_ (by assumption)) | (with_reducible exact Nat.le_refl _) | (focus (simp; done)) | (focus (simp; omega)))

set_option maxRecDepth 100000 in
theorem lifted_CellCorners (os : Os) (started : os.Started) (H : Type) (enc : TypeId × Value → H) :
    ReturnsInHanded {} Try.checked os 3 .any (Rows.fnExactCellCornersSpec.pre6 enc Try.prog Try.f3 Rows.fnExactCellCornersRow.domain false) (Rows.fnExactCellCornersSpec.post enc Try.prog Try.f3 false true false false) := by
  refine returnsInHanded_of_change (C := Try.checked) own_ started (by kernel_rfl) Try.func3
    (ChangeSpec.witness6 (enc := enc) (C := Try.checked) false ⟨#[], #[.agg #[.int .i64 0, .int .i64 0, .int .i64 0, .int .i64 0, .int .i64 0, .slice none 0 0], .int .i64 0, .int .i64 0], []⟩ 8 (by kernel_rfl) (by kernel_rfl) (by kernel_rfl) (by kernel_rfl)) ?_
  intro W base args ds gs before hval0 hW hcnd _
  have hval : ∀ (j : Nat) t v, Try.f3.params[j]? = some t → args[j]? = some v → Value.okWide Try.prog W .any base t v := hval0
  have hW' := hW
  obtain ⟨p, q, hA0, hV, rfl, hfz, hnd⟩ := hW
  have hA : DataW.TrodAll enc Try.prog W 0 (fun _ => true) true Try.f3.params.toList args.toList ds p := hA0
  rw [Try.params3] at hA hval
  obtain ⟨v0, vs0, d0, ds0, p0, q0, hargs, rfl, rfl, h0, r0⟩ := trodAll_cons hA
  obtain ⟨v1, vs1, d1, ds1, p1, q1, rfl, rfl, rfl, h1, r1⟩ := trodAll_cons r0
  obtain ⟨v2, vs2, d2, ds2, p2, q2, rfl, rfl, rfl, h2, r2⟩ := trodAll_cons r1
  obtain ⟨rfl, rfl, rfl⟩ := trodAll_nil r2
  obtain rfl : args = #[v0, v1, v2] := by cases args; simp_all
  obtain ⟨rfl, rfl⟩ := trodVars_none hV
  have k0 := h0
  have lt0 : ∀ x ∈ p0, x.block < W.heap.size := by obtain ⟨m, hm⟩ := k0; exact DataW.trod_lt m _ _ _ hm
  have ok0 := hval 0 24 v0 rfl rfl
  have k1 := h1
  have lt1 : ∀ x ∈ p1, x.block < W.heap.size := by obtain ⟨m, hm⟩ := k1; exact DataW.trod_lt m _ _ _ hm
  have ok1 := hval 1 3 v1 rfl rfl
  have k2 := h2
  have lt2 : ∀ x ∈ p2, x.block < W.heap.size := by obtain ⟨m, hm⟩ := k2; exact DataW.trod_lt m _ _ _ hm
  have ok2 := hval 2 3 v2 rfl rfl
  obtain ⟨t, t_A, t_c, hin_t, rfl, hl_t, _, hs_t⟩ := openTab ok0 h0
  obtain ⟨i, hin_i, rfl⟩ := open_int1 Try.underlying3 ok1 h1
  obtain ⟨j, hin_j, rfl⟩ := open_int1 Try.underlying3 ok2 h2
  refine (walkCellCorners W t t_A t_c hin_t hl_t hs_t i hin_i j hin_j).mono fun e W' ⟨he, bel⟩ => ?_
  subst he
  exact ⟨_, rfl, _, _, _, [], _, [], hW', trodAll_mk1 (shut_bool Try.underlying4 _), (trodAll_cons_mk (Below.trod laidOut_ (by kernel_rfl) (of_decide_eq_true (by kernel_rfl)) k0 bel lt0) (trodAll_cons_mk (Below.trod laidOut_ (by kernel_rfl) (of_decide_eq_true (by kernel_rfl)) k1 bel lt1) (trodAll_cons_mk (Below.trod laidOut_ (by kernel_rfl) (of_decide_eq_true (by kernel_rfl)) k2 bel lt2) trodAll_mk0))), rfl, bel.frame _, fun h => by cases h⟩

/-- The statement. -/
theorem law_CellCorners : Rows.FnExactCellCornersSaid :=
  OpenClaim.holds_of_wide 3 Try.f3 rfl rfl rfl rfl rfl rfl rfl ⟨rfl, rfl, rfl, rfl, rfl⟩ rfl rfl rfl rfl rfl (by kernel_rfl) Try.func3 (by kernel_rfl)
    (of_decide_eq_true (by kernel_rfl)) (by unfold Func.isWrapper; first | (rw [if_pos (by decide +kernel)]; kernel_rfl) | (rw [if_neg (by decide +kernel)]; exact ⟨rfl, rfl⟩))
    (fun os started H enc _ => lifted_CellCorners os started H enc)
#print axioms law_CellCorners
end Go.Proofs.Ytbdihgcjopbnjaa
