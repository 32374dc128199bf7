/-
  For every input FnExactDriftRoom returns true: the program's DriftRoom and the reference's agree, and the results share no memory.
  Conditions: none.
-/
import Derived.Test.YtbdihgcjopbnjaaGreatDrift
import Derived.Test.YtbdihgcjopbnjaaGreatGrN
import Derived.Test.YtbdihgcjopbnjaaGreatGrO
import Derived.Test.YtbdihgcjopbnjaaGreatGrA
import Derived.Test.YtbdihgcjopbnjaaGreatGrE
import Derived.Test.YtbdihgcjopbnjaaGreatGrP
import Derived.Test.YtbdihgcjopbnjaaGreatInv2
import Derived.Deep.RegionHeld3
import Derived.Deep.DeepCutAuto
import Derived.Deep.DeepMust
namespace Go.Proofs.YtbdihgcjopbnjaaGreat
open Go.RowKit Go.ChangeShapes Go.WideShapes Go.ChangeAt Go.Deep

set_option maxRecDepth 100000 in
set_option maxHeartbeats 16000000 in
theorem walkDriftRoom (w : World) (r : Room) (r_a : RoomA) (hin_r : RoomIn r) (hl_r : List.length r.map ≤ 9223372036854775807 ∧ List.length r.noise ≤ 9223372036854775807 ∧ List.length r.limits ≤ 9223372036854775807) (hs_r : RoomSl w r r_a) (dx : Int) (_ : In64 dx) (dy : Int) (_ : In64 dy) :
    Calls Tryz.prog 4 #[roomV r r_a, .int .i64 dx, .int .i64 dy] w fun e w' => e = .returned (.bool true) ∧ Below w.heap.size w w' := by
  by_cases c0 : 1048576 - ((roomLen r : Nat) : Int) < 0
  · skip
    go_enter Tryz.func4, Tryz.ntmps4
    go_wp2_with (fail)
    refine (szRoom_c r r_a (1048576) _ hl_r (by omega) (by omega)).mono ?_
    rw [if_pos (by omega)]
    rintro e w1 ⟨rfl, hb1⟩
    have r1 := bcell1 hb1
    have l1_0 : w.heap.size < w1.heap.size := blt hb1 (by first | (simp; done) | (simp; omega) | omega)
    go_wp2
    go_ret
    refine ⟨rfl, ?_⟩
    repeat (first | (with_reducible exact Below.refl _ _) | (with_reducible assumption) | (with_reducible refine below_al ?_ _) | (with_reducible refine Below.drew ?_) | (with_reducible refine below_drewN ?_ _) | (with_reducible refine below_st ?_ ?_ _) | (with_reducible refine below_tr ?_ (by assumption)) | (with_reducible exact Nat.le_refl _) | (focus (simp; done)) | (focus (simp; omega)))
  have hn_r : roomLen r ≤ 1048576 := by omega
  have k1 := fun W a' h h' => sDrift_c r a' dx dy W hn_r hin_r h h'
  have k2 := fun W a' h h' => iDrift_c r a' dx dy W hn_r hin_r h h'
  have hlen := driftRoom_le r dx dy hn_r
  revert k1 k2 hlen
  generalize driftRoom r dx dy = y
  generalize driftOk r dx dy = ok
  intro k1 k2 hlen
  go_enter Tryz.func4, Tryz.ntmps4
  go_wp2_with (fail)
  refine (szRoom_c r r_a (1048576) _ hl_r (by omega) (by omega)).mono ?_
  rw [if_neg (by omega)]
  rintro e w1 ⟨rfl, hb1⟩
  have r1 := bcell1 hb1
  have l1_0 : w.heap.size < w1.heap.size := blt hb1 (by first | (simp; done) | (simp; omega) | omega)
  have z1 : w.heap.size + 1 ≤ w1.heap.size := by have h := hb1.size; (try simp only [World.size_alloc] at h); omega
  go_wp2_with (fail)
  refine (toRoom_c r r_a _ hn_r (RoomSl.below hs_r (by (repeat (first | (with_reducible exact Below.refl _ _) | (with_reducible assumption) | (with_reducible refine below_al ?_ _) | (with_reducible refine Below.drew ?_) | (with_reducible refine below_drewN ?_ _) | (with_reducible refine below_st ?_ ?_ _) | (with_reducible refine below_tr ?_ (by assumption)) | (with_reducible exact Nat.le_refl _) | (focus (simp; done)) | (focus (simp; omega))))))).mono ?_
  rintro e w2 ⟨a2, rfl, N2, hb2⟩
  have r2 := bcell1 hb2
  have l2_0 : w.heap.size < w2.heap.size := blt hb2 (by first | (simp; done) | (simp; omega) | omega)
  have z2 : w1.heap.size ≤ w2.heap.size := by have h := hb2.size; (try simp only [World.size_alloc] at h); omega
  go_wp2_with (fail)
  refine (k1 _ a2 (RoomSl.below N2.sl (by (repeat (first | (with_reducible exact Below.refl _ _) | (with_reducible assumption) | (with_reducible refine below_al ?_ _) | (with_reducible refine Below.drew ?_) | (with_reducible refine below_drewN ?_ _) | (with_reducible refine below_st ?_ ?_ _) | (with_reducible refine below_tr ?_ (by assumption)) | (with_reducible exact Nat.le_refl _) | (focus (simp; done)) | (focus (simp; omega)))))) N2.nil).mono ?_
  rintro e w3 ⟨a3, rfl, N3, hb3⟩
  have r3 := bcell1 hb3
  have l3_0 : w.heap.size < w3.heap.size := blt hb3 (by first | (simp; done) | (simp; omega) | omega)
  have z3 : w2.heap.size ≤ w3.heap.size := by have h := hb3.size; (try simp only [World.size_alloc] at h); omega
  have BLw : BlkL (w2.heap.size) (w3.heap.size) [a3.map, a3.noise, a3.limits] := by
    have h := N3.blkL
    (try simp only [World.size_alloc] at h)
    exact h
  go_wp2_with (fail)
  refine (toRoom_c r r_a _ hn_r (RoomSl.below hs_r (by (repeat (first | (with_reducible exact Below.refl _ _) | (with_reducible assumption) | (with_reducible refine below_al ?_ _) | (with_reducible refine Below.drew ?_) | (with_reducible refine below_drewN ?_ _) | (with_reducible refine below_st ?_ ?_ _) | (with_reducible refine below_tr ?_ (by assumption)) | (with_reducible exact Nat.le_refl _) | (focus (simp; done)) | (focus (simp; omega))))))).mono ?_
  rintro e w4 ⟨a4, rfl, N4, hb4⟩
  have r4 := bcell1 hb4
  have l4_0 : w.heap.size < w4.heap.size := blt hb4 (by first | (simp; done) | (simp; omega) | omega)
  have l4_1 : w3.heap.size < w4.heap.size := blt hb4 (by first | (simp; done) | (simp; omega) | omega)
  have z4 : w3.heap.size + 1 ≤ w4.heap.size := by have h := hb4.size; (try simp only [World.size_alloc] at h); omega
  have BLx_r : BlkL (w3.heap.size + 1) (w4.heap.size) [a4.map, a4.noise, a4.limits] := by
    have h := N4.blkL
    (try simp only [World.size_alloc] at h)
    exact h
  go_wp2_with (fail)
  refine (k2 _ a4 (RoomSl.below N4.sl (by (repeat (first | (with_reducible exact Below.refl _ _) | (with_reducible assumption) | (with_reducible refine below_al ?_ _) | (with_reducible refine Below.drew ?_) | (with_reducible refine below_drewN ?_ _) | (with_reducible refine below_st ?_ ?_ _) | (with_reducible refine below_tr ?_ (by assumption)) | (with_reducible exact Nat.le_refl _) | (focus (simp; done)) | (focus (simp; omega)))))) N4.nil).mono ?_
  rintro e w5 ⟨a5, rfl, N5, hb5⟩
  have r5 := bcell1 hb5
  have l5_0 : w.heap.size < w5.heap.size := blt hb5 (by first | (simp; done) | (simp; omega) | omega)
  have l5_1 : w3.heap.size < w5.heap.size := blt hb5 (by first | (simp; done) | (simp; omega) | omega)
  have l5_2 : w4.heap.size < w5.heap.size := blt hb5 (by first | (simp; done) | (simp; omega) | omega)
  have z5 : w4.heap.size + 1 ≤ w5.heap.size := by have h := hb5.size; (try simp only [World.size_alloc] at h); omega
  have BLg : BlkL (w4.heap.size + 1) (w5.heap.size) [a5.map, a5.noise, a5.limits] := by
    have h := N5.blkL
    (try simp only [World.size_alloc] at h)
    exact h
  go_wp2_with (fail)
  refine (eqRoom_t y a5 a3 _ (by omega) (RoomSl.below N5.sl (by (repeat (first | (with_reducible exact Below.refl _ _) | (with_reducible assumption) | (with_reducible refine below_al ?_ _) | (with_reducible refine Below.drew ?_) | (with_reducible refine below_drewN ?_ _) | (with_reducible refine below_st ?_ ?_ _) | (with_reducible refine below_tr ?_ (by assumption)) | (with_reducible exact Nat.le_refl _) | (focus (simp; done)) | (focus (simp; omega)))))) (RoomSl.below N3.sl (by (repeat (first | (with_reducible exact Below.refl _ _) | (with_reducible assumption) | (with_reducible refine below_al ?_ _) | (with_reducible refine Below.drew ?_) | (with_reducible refine below_drewN ?_ _) | (with_reducible refine below_st ?_ ?_ _) | (with_reducible refine below_tr ?_ (by assumption)) | (with_reducible exact Nat.le_refl _) | (focus (simp; done)) | (focus (simp; omega))))))).mono ?_
  rintro e w6 ⟨rfl, hb6⟩
  have r6 := bcell1 hb6
  have l6_0 : w.heap.size < w6.heap.size := blt hb6 (by first | (simp; done) | (simp; omega) | omega)
  have l6_1 : w3.heap.size < w6.heap.size := blt hb6 (by first | (simp; done) | (simp; omega) | omega)
  have l6_2 : w4.heap.size < w6.heap.size := blt hb6 (by first | (simp; done) | (simp; omega) | omega)
  have l6_3 : w5.heap.size < w6.heap.size := blt hb6 (by first | (simp; done) | (simp; omega) | omega)
  have z6 : w5.heap.size + 1 ≤ w6.heap.size := by have h := hb6.size; (try simp only [World.size_alloc] at h); omega
  go_upto_region 10 with fail
  go_region_held3 (fun w' => (∀ b o, b < w6.heap.size → w'.cell? ⟨b, o, none⟩ = w6.cell? ⟨b, o, none⟩) ∧ w6.heap.size ≤ w'.heap.size) (first | exact ⟨fun _ _ _ => rfl, by simp⟩ | exact kq_step2 (by assumption) (by assumption))
    (first
      | (go_at_call 9; go_must (refine (toRoom_c r r_a _ hn_r (RoomSl.below hs_r (by (repeat (first | (with_reducible exact Below.refl _ _) | (with_reducible assumption) | (with_reducible refine below_al ?_ _) | (with_reducible refine Below.drew ?_) | (with_reducible refine below_drewN ?_ _) | (with_reducible refine below_st ?_ ?_ _) | (with_reducible refine below_tr ?_ (by assumption)) | (with_reducible exact Nat.le_refl _) | (focus (simp; done)) | (focus (simp; omega))))))).mono ?_; rintro e w7 ⟨a7, rfl, N7, hb7⟩))
      | (go_at_call 14; go_must (refine (eqRoom_t r a4 a7 _ hn_r (RoomSl.below N4.sl (by (repeat (first | (with_reducible exact Below.refl _ _) | (with_reducible assumption) | (with_reducible refine below_al ?_ _) | (with_reducible refine Below.drew ?_) | (with_reducible refine below_drewN ?_ _) | (with_reducible refine below_st ?_ ?_ _) | (with_reducible refine below_tr ?_ (by assumption)) | (with_reducible exact Nat.le_refl _) | (focus (simp; done)) | (focus (simp; omega)))))) (RoomSl.below N7.sl (by (repeat (first | (with_reducible exact Below.refl _ _) | (with_reducible assumption) | (with_reducible refine below_al ?_ _) | (with_reducible refine Below.drew ?_) | (with_reducible refine below_drewN ?_ _) | (with_reducible refine below_st ?_ ?_ _) | (with_reducible refine below_tr ?_ (by assumption)) | (with_reducible exact Nat.le_refl _) | (focus (simp; done)) | (focus (simp; omega))))))).mono ?_; rintro e w8 ⟨rfl, hb8⟩)))
  have B8 : Below w6.heap.size w6 w8 := by (repeat (first | (with_reducible exact Below.refl _ _) | (with_reducible assumption) | (with_reducible refine below_al ?_ _) | (with_reducible refine Below.drew ?_) | (with_reducible refine below_drewN ?_ _) | (with_reducible refine below_st ?_ ?_ _) | (with_reducible refine below_tr ?_ (by assumption)) | (with_reducible exact Nat.le_refl _) | (focus (simp; done)) | (focus (simp; omega))))
  have r8 := bcell1 B8
  have l8_0 : w.heap.size < w8.heap.size := blt B8 (by first | (simp; done) | (simp; omega) | omega)
  have l8_1 : w3.heap.size < w8.heap.size := blt B8 (by first | (simp; done) | (simp; omega) | omega)
  have l8_2 : w4.heap.size < w8.heap.size := blt B8 (by first | (simp; done) | (simp; omega) | omega)
  have l8_3 : w5.heap.size < w8.heap.size := blt B8 (by first | (simp; done) | (simp; omega) | omega)
  have z8 : w6.heap.size ≤ w8.heap.size := by have h := B8.size; (try simp only [World.size_alloc] at h); omega
  have X9 := N4.below (show Below w4.heap.size w4 w8 by (repeat (first | (with_reducible exact Below.refl _ _) | (with_reducible assumption) | (with_reducible refine below_al ?_ _) | (with_reducible refine Below.drew ?_) | (with_reducible refine below_drewN ?_ _) | (with_reducible refine below_st ?_ ?_ _) | (with_reducible refine below_tr ?_ (by assumption)) | (with_reducible exact Nat.le_refl _) | (focus (simp; done)) | (focus (simp; omega))))) (Nat.le_refl _)
  have Ew_9 := N3.below (show Below w3.heap.size w3 w8 by (repeat (first | (with_reducible exact Below.refl _ _) | (with_reducible assumption) | (with_reducible refine below_al ?_ _) | (with_reducible refine Below.drew ?_) | (with_reducible refine below_drewN ?_ _) | (with_reducible refine below_st ?_ ?_ _) | (with_reducible refine below_tr ?_ (by assumption)) | (with_reducible exact Nat.le_refl _) | (focus (simp; done)) | (focus (simp; omega))))) (Nat.le_refl _)
  have Eg_9 := N5.below (show Below w5.heap.size w5 w8 by (repeat (first | (with_reducible exact Below.refl _ _) | (with_reducible assumption) | (with_reducible refine below_al ?_ _) | (with_reducible refine Below.drew ?_) | (with_reducible refine below_drewN ?_ _) | (with_reducible refine below_st ?_ ?_ _) | (with_reducible refine below_tr ?_ (by assumption)) | (with_reducible exact Nat.le_refl _) | (focus (simp; done)) | (focus (simp; omega))))) (Nat.le_refl _)
  have P9 : Below w.heap.size w w8 := by (repeat (first | (with_reducible exact Below.refl _ _) | (with_reducible assumption) | (with_reducible refine below_al ?_ _) | (with_reducible refine Below.drew ?_) | (with_reducible refine below_drewN ?_ _) | (with_reducible refine below_st ?_ ?_ _) | (with_reducible refine below_tr ?_ (by assumption)) | (with_reducible exact Nat.le_refl _) | (focus (simp; done)) | (focus (simp; omega))))
  go_wp2_with (fail)
  refine (markRoom_g r a4 (1) _ _ (by omega) (by omega) (by omega) X9).mono ?_
  rintro e w9 ⟨rfl, M9, o9⟩
  have z9 : w8.heap.size ≤ w9.heap.size := by have h := o9.size; (try simp only [World.size_alloc] at h); omega
  have B9 : Below w.heap.size w w9 := P9.trans (o9.below (by first | (simp; done) | (simp; omega) | omega) (BLx_r.lo (by first | omega | (simp; omega))))
  have q9_0 := o9.cell (show w.heap.size < w8.heap.size from (by first | (simp; done) | (simp; omega) | omega)) (BLx_r.ne (by omega))
  have l9_0 : w.heap.size < w9.heap.size := Nat.lt_of_lt_of_le (show w.heap.size < w8.heap.size from (by first | (simp; done) | (simp; omega) | omega)) o9.size
  have q9_1 := o9.cell (show w3.heap.size < w8.heap.size from (by first | (simp; done) | (simp; omega) | omega)) (BLx_r.ne (by omega))
  have l9_1 : w3.heap.size < w9.heap.size := Nat.lt_of_lt_of_le (show w3.heap.size < w8.heap.size from (by first | (simp; done) | (simp; omega) | omega)) o9.size
  have q9_2 := o9.cell (show w4.heap.size < w8.heap.size from (by first | (simp; done) | (simp; omega) | omega)) (BLx_r.ne (by omega))
  have l9_2 : w4.heap.size < w9.heap.size := Nat.lt_of_lt_of_le (show w4.heap.size < w8.heap.size from (by first | (simp; done) | (simp; omega) | omega)) o9.size
  have q9_3 := o9.cell (show w5.heap.size < w8.heap.size from (by first | (simp; done) | (simp; omega) | omega)) (BLx_r.ne (by omega))
  have l9_3 : w5.heap.size < w9.heap.size := Nat.lt_of_lt_of_le (show w5.heap.size < w8.heap.size from (by first | (simp; done) | (simp; omega) | omega)) o9.size
  have Nw_9 := Ew_9.far1 o9 (BLw.apart BLx_r (by omega))
  have Ng_9 := Eg_9.far1 o9 (BLg.apart BLx_r (by omega))
  clear o9 P9 X9 Ew_9 Eg_9
  have nk1 : ¬ (1 + (List.length r.map : Int) + (List.length r.noise : Int) * 3 + (List.length r.limits : Int) * 3 < 0) := by omega
  go_wp2_with (fail)
  refine (eqRoom_t y a5 a3 _ (by omega) (RoomSl.below Ng_9.sl (by (repeat (first | (with_reducible exact Below.refl _ _) | (with_reducible assumption) | (with_reducible refine below_al ?_ _) | (with_reducible refine Below.drew ?_) | (with_reducible refine below_drewN ?_ _) | (with_reducible refine below_st ?_ ?_ _) | (with_reducible refine below_tr ?_ (by assumption)) | (with_reducible exact Nat.le_refl _) | (focus (simp; done)) | (focus (simp; omega)))))) (RoomSl.below Nw_9.sl (by (repeat (first | (with_reducible exact Below.refl _ _) | (with_reducible assumption) | (with_reducible refine below_al ?_ _) | (with_reducible refine Below.drew ?_) | (with_reducible refine below_drewN ?_ _) | (with_reducible refine below_st ?_ ?_ _) | (with_reducible refine below_tr ?_ (by assumption)) | (with_reducible exact Nat.le_refl _) | (focus (simp; done)) | (focus (simp; omega))))))).mono ?_
  rintro e w10 ⟨rfl, hb10⟩
  have r10 := bcell1 hb10
  have l10_0 : w.heap.size < w10.heap.size := blt hb10 (by first | (simp; done) | (simp; omega) | omega)
  have l10_1 : w3.heap.size < w10.heap.size := blt hb10 (by first | (simp; done) | (simp; omega) | omega)
  have l10_2 : w4.heap.size < w10.heap.size := blt hb10 (by first | (simp; done) | (simp; omega) | omega)
  have l10_3 : w5.heap.size < w10.heap.size := blt hb10 (by first | (simp; done) | (simp; omega) | omega)
  have z10 : w9.heap.size ≤ w10.heap.size := by have h := hb10.size; (try simp only [World.size_alloc] at h); omega
  have X11 := Ng_9.below (show Below w9.heap.size w9 w10 by (repeat (first | (with_reducible exact Below.refl _ _) | (with_reducible assumption) | (with_reducible refine below_al ?_ _) | (with_reducible refine Below.drew ?_) | (with_reducible refine below_drewN ?_ _) | (with_reducible refine below_st ?_ ?_ _) | (with_reducible refine below_tr ?_ (by assumption)) | (with_reducible exact Nat.le_refl _) | (focus (simp; done)) | (focus (simp; omega))))) (Nat.le_refl _)
  have Ew_11 := Nw_9.below (show Below w9.heap.size w9 w10 by (repeat (first | (with_reducible exact Below.refl _ _) | (with_reducible assumption) | (with_reducible refine below_al ?_ _) | (with_reducible refine Below.drew ?_) | (with_reducible refine below_drewN ?_ _) | (with_reducible refine below_st ?_ ?_ _) | (with_reducible refine below_tr ?_ (by assumption)) | (with_reducible exact Nat.le_refl _) | (focus (simp; done)) | (focus (simp; omega))))) (Nat.le_refl _)
  have P11 : Below w.heap.size w w10 := by (repeat (first | (with_reducible exact Below.refl _ _) | (with_reducible assumption) | (with_reducible refine below_al ?_ _) | (with_reducible refine Below.drew ?_) | (with_reducible refine below_drewN ?_ _) | (with_reducible refine below_st ?_ ?_ _) | (with_reducible refine below_tr ?_ (by assumption)) | (with_reducible exact Nat.le_refl _) | (focus (simp; done)) | (focus (simp; omega))))
  go_wp2_with (fail)
  refine (markRoom_g y a5 (1) _ _ (by omega) (by omega) (by omega) X11).mono ?_
  rintro e w11 ⟨rfl, M11, o11⟩
  have z11 : w10.heap.size ≤ w11.heap.size := by have h := o11.size; (try simp only [World.size_alloc] at h); omega
  have B11 : Below w.heap.size w w11 := P11.trans (o11.below (by first | (simp; done) | (simp; omega) | omega) (BLg.lo (by first | omega | (simp; omega))))
  have q11_0 := o11.cell (show w.heap.size < w10.heap.size from (by first | (simp; done) | (simp; omega) | omega)) (BLg.ne (by omega))
  have l11_0 : w.heap.size < w11.heap.size := Nat.lt_of_lt_of_le (show w.heap.size < w10.heap.size from (by first | (simp; done) | (simp; omega) | omega)) o11.size
  have q11_1 := o11.cell (show w3.heap.size < w10.heap.size from (by first | (simp; done) | (simp; omega) | omega)) (BLg.ne (by omega))
  have l11_1 : w3.heap.size < w11.heap.size := Nat.lt_of_lt_of_le (show w3.heap.size < w10.heap.size from (by first | (simp; done) | (simp; omega) | omega)) o11.size
  have q11_2 := o11.cell (show w4.heap.size < w10.heap.size from (by first | (simp; done) | (simp; omega) | omega)) (BLg.ne (by omega))
  have l11_2 : w4.heap.size < w11.heap.size := Nat.lt_of_lt_of_le (show w4.heap.size < w10.heap.size from (by first | (simp; done) | (simp; omega) | omega)) o11.size
  have q11_3 := o11.cell (show w5.heap.size < w10.heap.size from (by first | (simp; done) | (simp; omega) | omega)) (BLg.ne (by omega))
  have l11_3 : w5.heap.size < w11.heap.size := Nat.lt_of_lt_of_le (show w5.heap.size < w10.heap.size from (by first | (simp; done) | (simp; omega) | omega)) o11.size
  have Nw_11 := Ew_11.far1 o11 (BLw.apart BLg (by omega))
  clear o11 P11 X11 Ew_11
  have nkg : ¬ (1 + (List.length y.map : Int) + (List.length y.noise : Int) * 3 + (List.length y.limits : Int) * 3 < 0) := by omega
  go_wp2_with (fail)
  refine (heldRoom_c y a5 (1) _ (by omega) (by omega) (by omega) (RoomMk.below M11 (by (repeat (first | (with_reducible exact Below.refl _ _) | (with_reducible assumption) | (with_reducible refine below_al ?_ _) | (with_reducible refine Below.drew ?_) | (with_reducible refine below_drewN ?_ _) | (with_reducible refine below_st ?_ ?_ _) | (with_reducible refine below_tr ?_ (by assumption)) | (with_reducible exact Nat.le_refl _) | (focus (simp; done)) | (focus (simp; omega))))))).mono ?_
  rintro e w12 ⟨rfl, hb12⟩
  have r12 := bcell1 hb12
  have l12_0 : w.heap.size < w12.heap.size := blt hb12 (by first | (simp; done) | (simp; omega) | omega)
  have l12_1 : w3.heap.size < w12.heap.size := blt hb12 (by first | (simp; done) | (simp; omega) | omega)
  have l12_2 : w4.heap.size < w12.heap.size := blt hb12 (by first | (simp; done) | (simp; omega) | omega)
  have l12_3 : w5.heap.size < w12.heap.size := blt hb12 (by first | (simp; done) | (simp; omega) | omega)
  have z12 : w11.heap.size ≤ w12.heap.size := by have h := hb12.size; (try simp only [World.size_alloc] at h); omega
  go_wp2_with (fail)
  refine (toRoom_c r r_a _ hn_r (RoomSl.below hs_r (by (repeat (first | (with_reducible exact Below.refl _ _) | (with_reducible assumption) | (with_reducible refine below_al ?_ _) | (with_reducible refine Below.drew ?_) | (with_reducible refine below_drewN ?_ _) | (with_reducible refine below_st ?_ ?_ _) | (with_reducible refine below_tr ?_ (by assumption)) | (with_reducible exact Nat.le_refl _) | (focus (simp; done)) | (focus (simp; omega))))))).mono ?_
  rintro e w13 ⟨a13, rfl, N13, hb13⟩
  have r13 := bcell1 hb13
  have l13_0 : w.heap.size < w13.heap.size := blt hb13 (by first | (simp; done) | (simp; omega) | omega)
  have l13_1 : w3.heap.size < w13.heap.size := blt hb13 (by first | (simp; done) | (simp; omega) | omega)
  have l13_2 : w4.heap.size < w13.heap.size := blt hb13 (by first | (simp; done) | (simp; omega) | omega)
  have l13_3 : w5.heap.size < w13.heap.size := blt hb13 (by first | (simp; done) | (simp; omega) | omega)
  have z13 : w12.heap.size ≤ w13.heap.size := by have h := hb13.size; (try simp only [World.size_alloc] at h); omega
  go_wp2_with (fail)
  refine (k2 _ a13 (RoomSl.below N13.sl (by (repeat (first | (with_reducible exact Below.refl _ _) | (with_reducible assumption) | (with_reducible refine below_al ?_ _) | (with_reducible refine Below.drew ?_) | (with_reducible refine below_drewN ?_ _) | (with_reducible refine below_st ?_ ?_ _) | (with_reducible refine below_tr ?_ (by assumption)) | (with_reducible exact Nat.le_refl _) | (focus (simp; done)) | (focus (simp; omega)))))) N13.nil).mono ?_
  rintro e w14 ⟨a14, rfl, N14, hb14⟩
  have r14 := bcell1 hb14
  have l14_0 : w.heap.size < w14.heap.size := blt hb14 (by first | (simp; done) | (simp; omega) | omega)
  have l14_1 : w3.heap.size < w14.heap.size := blt hb14 (by first | (simp; done) | (simp; omega) | omega)
  have l14_2 : w4.heap.size < w14.heap.size := blt hb14 (by first | (simp; done) | (simp; omega) | omega)
  have l14_3 : w5.heap.size < w14.heap.size := blt hb14 (by first | (simp; done) | (simp; omega) | omega)
  have z14 : w13.heap.size ≤ w14.heap.size := by have h := hb14.size; (try simp only [World.size_alloc] at h); omega
  have BLh : BlkL (w13.heap.size) (w14.heap.size) [a14.map, a14.noise, a14.limits] := by
    have h := N14.blkL
    (try simp only [World.size_alloc] at h)
    exact h
  go_wp2_with (fail)
  refine (eqRoom_t y a14 a3 _ (by omega) (RoomSl.below N14.sl (by (repeat (first | (with_reducible exact Below.refl _ _) | (with_reducible assumption) | (with_reducible refine below_al ?_ _) | (with_reducible refine Below.drew ?_) | (with_reducible refine below_drewN ?_ _) | (with_reducible refine below_st ?_ ?_ _) | (with_reducible refine below_tr ?_ (by assumption)) | (with_reducible exact Nat.le_refl _) | (focus (simp; done)) | (focus (simp; omega)))))) (RoomSl.below Nw_11.sl (by (repeat (first | (with_reducible exact Below.refl _ _) | (with_reducible assumption) | (with_reducible refine below_al ?_ _) | (with_reducible refine Below.drew ?_) | (with_reducible refine below_drewN ?_ _) | (with_reducible refine below_st ?_ ?_ _) | (with_reducible refine below_tr ?_ (by assumption)) | (with_reducible exact Nat.le_refl _) | (focus (simp; done)) | (focus (simp; omega))))))).mono ?_
  rintro e w15 ⟨rfl, hb15⟩
  have r15 := bcell1 hb15
  have l15_0 : w.heap.size < w15.heap.size := blt hb15 (by first | (simp; done) | (simp; omega) | omega)
  have l15_1 : w3.heap.size < w15.heap.size := blt hb15 (by first | (simp; done) | (simp; omega) | omega)
  have l15_2 : w4.heap.size < w15.heap.size := blt hb15 (by first | (simp; done) | (simp; omega) | omega)
  have l15_3 : w5.heap.size < w15.heap.size := blt hb15 (by first | (simp; done) | (simp; omega) | omega)
  have l15_4 : w14.heap.size < w15.heap.size := blt hb15 (by first | (simp; done) | (simp; omega) | omega)
  have z15 : w14.heap.size + 1 ≤ w15.heap.size := by have h := hb15.size; (try simp only [World.size_alloc] at h); omega
  go_wp2_with (fail)
  refine (heldRoom_c y a5 (1) _ (by omega) (by omega) (by omega) (RoomMk.below M11 (by (repeat (first | (with_reducible exact Below.refl _ _) | (with_reducible assumption) | (with_reducible refine below_al ?_ _) | (with_reducible refine Below.drew ?_) | (with_reducible refine below_drewN ?_ _) | (with_reducible refine below_st ?_ ?_ _) | (with_reducible refine below_tr ?_ (by assumption)) | (with_reducible exact Nat.le_refl _) | (focus (simp; done)) | (focus (simp; omega))))))).mono ?_
  rintro e w16 ⟨rfl, hb16⟩
  have r16 := bcell1 hb16
  have l16_0 : w.heap.size < w16.heap.size := blt hb16 (by first | (simp; done) | (simp; omega) | omega)
  have l16_1 : w3.heap.size < w16.heap.size := blt hb16 (by first | (simp; done) | (simp; omega) | omega)
  have l16_2 : w4.heap.size < w16.heap.size := blt hb16 (by first | (simp; done) | (simp; omega) | omega)
  have l16_3 : w5.heap.size < w16.heap.size := blt hb16 (by first | (simp; done) | (simp; omega) | omega)
  have l16_4 : w14.heap.size < w16.heap.size := blt hb16 (by first | (simp; done) | (simp; omega) | omega)
  have z16 : w15.heap.size ≤ w16.heap.size := by have h := hb16.size; (try simp only [World.size_alloc] at h); omega
  go_wp2
  go_ret
  refine ⟨rfl, ?_⟩
  repeat (first | (with_reducible exact Below.refl _ _) | (with_reducible assumption) | (with_reducible refine below_al ?_ _) | (with_reducible refine Below.drew ?_) | (with_reducible refine below_drewN ?_ _) | (with_reducible refine below_st ?_ ?_ _) | (with_reducible refine below_tr ?_ (by assumption)) | (with_reducible exact Nat.le_refl _) | (focus (simp; done)) | (focus (simp; omega)))

set_option maxRecDepth 100000 in
theorem lifted_DriftRoom (os : Os) (started : os.Started) (H : Type) (enc : TypeId × Value → H) :
    ReturnsInHanded {} Tryz.checked os 4 .any (Rows.fnExactDriftRoomSpec.pre6 enc Tryz.prog Tryz.f4 Rows.fnExactDriftRoomRow.domain false) (Rows.fnExactDriftRoomSpec.post enc Tryz.prog Tryz.f4 false true false false) := by
  refine returnsInHanded_of_change (C := Tryz.checked) own_ started (by kernel_rfl) Tryz.func4
    (ChangeSpec.witness6 (enc := enc) (C := Tryz.checked) false ⟨#[], #[.agg #[.slice none 0 0, .int .i64 0, .int .i64 0, .int .i64 0, .int .i64 0, .int .i64 0, .slice none 0 0, .slice none 0 0], .int .i64 0, .int .i64 0], []⟩ 8 (by kernel_rfl) (by kernel_rfl) (by kernel_rfl) (by kernel_rfl)) ?_
  intro W base args ds gs before hval0 hW hcnd _
  have hval : ∀ (j : Nat) t v, Tryz.f4.params[j]? = some t → args[j]? = some v → Value.okWide Tryz.prog W .any base t v := hval0
  have hW' := hW
  obtain ⟨p, q, hA0, hV, rfl, hfz, hnd⟩ := hW
  have hA : DataW.TrodAll enc Tryz.prog W 0 (fun _ => true) true Tryz.f4.params.toList args.toList ds p := hA0
  rw [Tryz.params4] at hA hval
  obtain ⟨v0, vs0, d0, ds0, p0, q0, hargs, rfl, rfl, h0, r0⟩ := trodAll_cons hA
  obtain ⟨v1, vs1, d1, ds1, p1, q1, rfl, rfl, rfl, h1, r1⟩ := trodAll_cons r0
  obtain ⟨v2, vs2, d2, ds2, p2, q2, rfl, rfl, rfl, h2, r2⟩ := trodAll_cons r1
  obtain ⟨rfl, rfl, rfl⟩ := trodAll_nil r2
  obtain rfl : args = #[v0, v1, v2] := by cases args; simp_all
  obtain ⟨rfl, rfl⟩ := trodVars_none hV
  have k0 := h0
  have lt0 : ∀ x ∈ p0, x.block < W.heap.size := by obtain ⟨m, hm⟩ := k0; exact DataW.trod_lt m _ _ _ hm
  have ok0 := hval 0 27 v0 rfl rfl
  have k1 := h1
  have lt1 : ∀ x ∈ p1, x.block < W.heap.size := by obtain ⟨m, hm⟩ := k1; exact DataW.trod_lt m _ _ _ hm
  have ok1 := hval 1 3 v1 rfl rfl
  have k2 := h2
  have lt2 : ∀ x ∈ p2, x.block < W.heap.size := by obtain ⟨m, hm⟩ := k2; exact DataW.trod_lt m _ _ _ hm
  have ok2 := hval 2 3 v2 rfl rfl
  obtain ⟨r, r_a, hin_r, rfl, hl_r, hs_r⟩ := openRoom ok0 h0
  obtain ⟨dx, hin_dx, rfl⟩ := open_int1 Tryz.underlying3 ok1 h1
  obtain ⟨dy, hin_dy, rfl⟩ := open_int1 Tryz.underlying3 ok2 h2
  refine (walkDriftRoom W r r_a hin_r hl_r hs_r dx hin_dx dy hin_dy).mono fun e W' ⟨he, bel⟩ => ?_
  subst he
  exact ⟨_, rfl, _, _, _, [], _, [], hW', trodAll_mk1 (shut_bool Tryz.underlying4 _), (trodAll_cons_mk (Below.trod laidOut_ (by kernel_rfl) (of_decide_eq_true (by kernel_rfl)) k0 bel lt0) (trodAll_cons_mk (Below.trod laidOut_ (by kernel_rfl) (of_decide_eq_true (by kernel_rfl)) k1 bel lt1) (trodAll_cons_mk (Below.trod laidOut_ (by kernel_rfl) (of_decide_eq_true (by kernel_rfl)) k2 bel lt2) trodAll_mk0))), rfl, bel.frame _, fun h => by cases h⟩

/-- The statement. -/
theorem law_DriftRoom : Rows.FnExactDriftRoomSaid :=
  OpenClaim.holds_of_wide 4 Tryz.f4 rfl rfl rfl rfl rfl rfl rfl ⟨rfl, rfl, rfl, rfl, rfl⟩ rfl rfl rfl rfl rfl (by kernel_rfl) Tryz.func4 (by kernel_rfl)
    (of_decide_eq_true (by kernel_rfl)) (by unfold Func.isWrapper; first | (rw [if_pos (by decide +kernel)]; kernel_rfl) | (rw [if_neg (by decide +kernel)]; exact ⟨rfl, rfl⟩))
    (fun os started H enc _ => lifted_DriftRoom os started H enc)
#print axioms law_DriftRoom
end Go.Proofs.YtbdihgcjopbnjaaGreat
