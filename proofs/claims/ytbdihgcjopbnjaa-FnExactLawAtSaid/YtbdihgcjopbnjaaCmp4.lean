/-
  RatioCmp of the program; RatioMin, RatioMax, SpanOk of the program and of the reference.
  Conditions: the numbers are ints of the machine.
-/
import Derived.Test.YtbdihgcjopbnjaaCmp3
namespace Go.Proofs.Ytbdihgcjopbnjaa
open Go.RowKit

set_option maxHeartbeats 1000000 in
theorem iRatioCmp_c (r s : Ratio) (w : World) (hr : r.In) (hs : s.In) :
    Calls Try.prog 40 #[ratioV r, ratioV s] w fun e w' => e = .returned (.int .i64 (ratioCmp r s)) ∧ Below w.heap.size w w' := by
  have c0 := fun W => iRatioOk_c r W hr
  have c1 := fun W => iRatioOk_c s W hs
  cases e0 : ratioOk r
  · skip
    rw [e0] at c0
    go_enter Try.func40, Try.ntmps40
    go_wp2_with (fail)
    refine (c0 _).mono ?_
    rintro e w0 ⟨rfl, hb0⟩
    have r0 := bcell1 hb0
    have l0_0 : w.heap.size < w0.heap.size := blt hb0 (by first | (simp; done) | (simp; omega) | omega)
    have l0_1 : w.heap.size + 1 < w0.heap.size := blt hb0 (by first | (simp; done) | (simp; omega) | omega)
    go_wp2
    go_ret
    refine ⟨ret_int (by simp [ratioCmp, e0]), ?_⟩
    repeat (first | (with_reducible exact Below.refl _ _) | (with_reducible assumption) | (with_reducible refine below_al ?_ _) | (with_reducible refine Below.drew ?_) | (with_reducible refine below_drewN ?_ _) | (with_reducible refine below_st ?_ ?_ _) | (with_reducible refine below_tr ?_ (by assumption)) | (with_reducible exact Nat.le_refl _) | (focus (simp; done)) | (focus (simp; omega)))
  · skip
    rw [e0] at c0
    cases e1 : ratioOk s
    · skip
      rw [e1] at c1
      go_enter Try.func40, Try.ntmps40
      go_wp2_with (fail)
      refine (c0 _).mono ?_
      rintro e w0 ⟨rfl, hb0⟩
      have r0 := bcell1 hb0
      have l0_0 : w.heap.size < w0.heap.size := blt hb0 (by first | (simp; done) | (simp; omega) | omega)
      have l0_1 : w.heap.size + 1 < w0.heap.size := blt hb0 (by first | (simp; done) | (simp; omega) | omega)
      go_wp2_with (fail)
      refine (c1 _).mono ?_
      rintro e w1 ⟨rfl, hb1⟩
      have r1 := bcell1 hb1
      have l1_0 : w.heap.size < w1.heap.size := blt hb1 (by first | (simp; done) | (simp; omega) | omega)
      have l1_1 : w.heap.size + 1 < w1.heap.size := blt hb1 (by first | (simp; done) | (simp; omega) | omega)
      go_wp2
      go_ret
      refine ⟨ret_int (by simp [ratioCmp, e1]), ?_⟩
      repeat (first | (with_reducible exact Below.refl _ _) | (with_reducible assumption) | (with_reducible refine below_al ?_ _) | (with_reducible refine Below.drew ?_) | (with_reducible refine below_drewN ?_ _) | (with_reducible refine below_st ?_ ?_ _) | (with_reducible refine below_tr ?_ (by assumption)) | (with_reducible exact Nat.le_refl _) | (focus (simp; done)) | (focus (simp; omega)))
    · skip
      rw [e1] at c1
      have hv := Lib.hid (show ratioCmp r s = cmpF r.n r.d s.n s.d by simp [ratioCmp, e0, e1])
      have c2 := fun W => compareFractions_c r.n r.d s.n s.d W hr.1 hr.2 hs.1 hs.2 (by have := ratioOk_bd e0; omega) (by have := ratioOk_bd e1; omega)
      go_enter Try.func40, Try.ntmps40
      go_wp2_with (fail)
      refine (c0 _).mono ?_
      rintro e w0 ⟨rfl, hb0⟩
      have r0 := bcell1 hb0
      have l0_0 : w.heap.size < w0.heap.size := blt hb0 (by first | (simp; done) | (simp; omega) | omega)
      have l0_1 : w.heap.size + 1 < w0.heap.size := blt hb0 (by first | (simp; done) | (simp; omega) | omega)
      go_wp2_with (fail)
      refine (c1 _).mono ?_
      rintro e w1 ⟨rfl, hb1⟩
      have r1 := bcell1 hb1
      have l1_0 : w.heap.size < w1.heap.size := blt hb1 (by first | (simp; done) | (simp; omega) | omega)
      have l1_1 : w.heap.size + 1 < w1.heap.size := blt hb1 (by first | (simp; done) | (simp; omega) | omega)
      go_wp2_with (fail)
      refine (c2 _).mono ?_
      rintro e w' ⟨rfl, rfl⟩
      go_wp2
      go_ret
      refine ⟨ret_int hv.out.symm, ?_⟩
      repeat (first | (with_reducible exact Below.refl _ _) | (with_reducible assumption) | (with_reducible refine below_al ?_ _) | (with_reducible refine Below.drew ?_) | (with_reducible refine below_drewN ?_ _) | (with_reducible refine below_st ?_ ?_ _) | (with_reducible refine below_tr ?_ (by assumption)) | (with_reducible exact Nat.le_refl _) | (focus (simp; done)) | (focus (simp; omega)))
set_option maxRecDepth 100000 in
set_option maxHeartbeats 1000000 in
theorem iRatioMin_c (r s : Ratio) (w : World) (hr : r.In) (hs : s.In) :
    Calls Try.prog 95 #[ratioV r, ratioV s] w fun e w' => e = .returned (ratioV (ratioMin r s)) ∧ Below w.heap.size w w' := by
  have c0 := fun W => iRatioOk_c r W hr
  have c1 := fun W => iRatioOk_c s W hs
  have c2 := fun W => iRatioCmp_c r s W hr hs
  cases e0 : ratioOk r
  · skip
    rw [e0] at c0
    have hv := Lib.hid (show ratioMin r s = ratio0 by simp [ratioMin, e0])
    go_enter Try.func95, Try.ntmps95
    go_wp2_with (fail)
    refine (c0 _).mono ?_
    rintro e w0 ⟨rfl, hb0⟩
    have r0 := bcell1 hb0
    have l0_0 : w.heap.size < w0.heap.size := blt hb0 (by first | (simp; done) | (simp; omega) | omega)
    have l0_1 : w.heap.size + 1 < w0.heap.size := blt hb0 (by first | (simp; done) | (simp; omega) | omega)
    have l0_2 : w.heap.size + 1 + 1 < w0.heap.size := blt hb0 (by first | (simp; done) | (simp; omega) | omega)
    have H : Has w0 (w.heap.size + 1 + 1) [.int .i64 0, .int .i64 0] := by
      repeat (first | ((with_reducible refine Has.new_at ?_ _ _ rfl); (first | rfl | (focus (simp; done)))) | (with_reducible refine Has.set_ ?_ ?_ _) | (with_reducible refine Has.alloc ?_ _) | (with_reducible refine Has.below ?_ (by assumption)) | (focus (simp; done)) | (focus (simp; omega)))
    obtain ⟨cH_0, fH_0⟩ := H.2 0 _ rfl
    obtain ⟨cH_1, fH_1⟩ := H.2 1 _ rfl
    go_wp2
    refine bodyPost_ret (v := .agg #[.int .i64 0, .int .i64 0]) (by simp [results, Try.results95, go_sem, cH_0, cH_1]) rfl ⟨by rw [hv.out]; rfl, ?_⟩
    repeat (first | (with_reducible exact Below.refl _ _) | (with_reducible assumption) | (with_reducible refine below_al ?_ _) | (with_reducible refine Below.drew ?_) | (with_reducible refine below_drewN ?_ _) | (with_reducible refine below_st ?_ ?_ _) | (with_reducible refine below_tr ?_ (by assumption)) | (with_reducible exact Nat.le_refl _) | (focus (simp; done)) | (focus (simp; omega)))
  · skip
    rw [e0] at c0
    cases e1 : ratioOk s
    · skip
      rw [e1] at c1
      have hv := Lib.hid (show ratioMin r s = ratio0 by simp [ratioMin, e1])
      go_enter Try.func95, Try.ntmps95
      go_wp2_with (fail)
      refine (c0 _).mono ?_
      rintro e w0 ⟨rfl, hb0⟩
      have r0 := bcell1 hb0
      have l0_0 : w.heap.size < w0.heap.size := blt hb0 (by first | (simp; done) | (simp; omega) | omega)
      have l0_1 : w.heap.size + 1 < w0.heap.size := blt hb0 (by first | (simp; done) | (simp; omega) | omega)
      have l0_2 : w.heap.size + 1 + 1 < w0.heap.size := blt hb0 (by first | (simp; done) | (simp; omega) | omega)
      go_wp2_with (fail)
      refine (c1 _).mono ?_
      rintro e w1 ⟨rfl, hb1⟩
      have r1 := bcell1 hb1
      have l1_0 : w.heap.size < w1.heap.size := blt hb1 (by first | (simp; done) | (simp; omega) | omega)
      have l1_1 : w.heap.size + 1 < w1.heap.size := blt hb1 (by first | (simp; done) | (simp; omega) | omega)
      have l1_2 : w.heap.size + 1 + 1 < w1.heap.size := blt hb1 (by first | (simp; done) | (simp; omega) | omega)
      have H : Has w1 (w.heap.size + 1 + 1) [.int .i64 0, .int .i64 0] := by
        repeat (first | ((with_reducible refine Has.new_at ?_ _ _ rfl); (first | rfl | (focus (simp; done)))) | (with_reducible refine Has.set_ ?_ ?_ _) | (with_reducible refine Has.alloc ?_ _) | (with_reducible refine Has.below ?_ (by assumption)) | (focus (simp; done)) | (focus (simp; omega)))
      obtain ⟨cH_0, fH_0⟩ := H.2 0 _ rfl
      obtain ⟨cH_1, fH_1⟩ := H.2 1 _ rfl
      go_wp2
      refine bodyPost_ret (v := .agg #[.int .i64 0, .int .i64 0]) (by simp [results, Try.results95, go_sem, cH_0, cH_1]) rfl ⟨by rw [hv.out]; rfl, ?_⟩
      repeat (first | (with_reducible exact Below.refl _ _) | (with_reducible assumption) | (with_reducible refine below_al ?_ _) | (with_reducible refine Below.drew ?_) | (with_reducible refine below_drewN ?_ _) | (with_reducible refine below_st ?_ ?_ _) | (with_reducible refine below_tr ?_ (by assumption)) | (with_reducible exact Nat.le_refl _) | (focus (simp; done)) | (focus (simp; omega)))
    · skip
      rw [e1] at c1
      have bd := ratioCmp_bd r s
      cases e2 : decide (ratioCmp r s ≤ 0)
      · skip
        have hv := Lib.hid (show ratioMin r s = s by simp only [decide_eq_false_iff_not] at e2; simp [ratioMin, e0, e1, e2])
        simp only [decide_eq_false_iff_not] at e2
        clear e0 e1
        generalize ratioCmp r s = q at *
        go_enter Try.func95, Try.ntmps95
        go_wp2_with (fail)
        refine (c0 _).mono ?_
        rintro e w0 ⟨rfl, hb0⟩
        have r0 := bcell1 hb0
        have l0_0 : w.heap.size < w0.heap.size := blt hb0 (by first | (simp; done) | (simp; omega) | omega)
        have l0_1 : w.heap.size + 1 < w0.heap.size := blt hb0 (by first | (simp; done) | (simp; omega) | omega)
        have l0_2 : w.heap.size + 1 + 1 < w0.heap.size := blt hb0 (by first | (simp; done) | (simp; omega) | omega)
        go_wp2_with (fail)
        refine (c1 _).mono ?_
        rintro e w1 ⟨rfl, hb1⟩
        have r1 := bcell1 hb1
        have l1_0 : w.heap.size < w1.heap.size := blt hb1 (by first | (simp; done) | (simp; omega) | omega)
        have l1_1 : w.heap.size + 1 < w1.heap.size := blt hb1 (by first | (simp; done) | (simp; omega) | omega)
        have l1_2 : w.heap.size + 1 + 1 < w1.heap.size := blt hb1 (by first | (simp; done) | (simp; omega) | omega)
        go_wp2_with (fail)
        refine (c2 _).mono ?_
        rintro e w2 ⟨rfl, hb2⟩
        have r2 := bcell1 hb2
        have l2_0 : w.heap.size < w2.heap.size := blt hb2 (by first | (simp; done) | (simp; omega) | omega)
        have l2_1 : w.heap.size + 1 < w2.heap.size := blt hb2 (by first | (simp; done) | (simp; omega) | omega)
        have l2_2 : w.heap.size + 1 + 1 < w2.heap.size := blt hb2 (by first | (simp; done) | (simp; omega) | omega)
        have H : Has w2 (w.heap.size + 1 + 1) [.int .i64 0, .int .i64 0] := by
          repeat (first | ((with_reducible refine Has.new_at ?_ _ _ rfl); (first | rfl | (focus (simp; done)))) | (with_reducible refine Has.set_ ?_ ?_ _) | (with_reducible refine Has.alloc ?_ _) | (with_reducible refine Has.below ?_ (by assumption)) | (focus (simp; done)) | (focus (simp; omega)))
        obtain ⟨cH_0, fH_0⟩ := H.2 0 _ rfl
        obtain ⟨cH_1, fH_1⟩ := H.2 1 _ rfl
        go_wp2
        refine bodyPost_ret (v := .agg #[.int .i64 s.n, .int .i64 s.d]) (by simp [results, Try.results95, go_sem, cH_0, cH_1]) rfl ⟨by rw [hv.out], ?_⟩
        repeat (first | (with_reducible exact Below.refl _ _) | (with_reducible assumption) | (with_reducible refine below_al ?_ _) | (with_reducible refine Below.drew ?_) | (with_reducible refine below_drewN ?_ _) | (with_reducible refine below_st ?_ ?_ _) | (with_reducible refine below_tr ?_ (by assumption)) | (with_reducible exact Nat.le_refl _) | (focus (simp; done)) | (focus (simp; omega)))
      · skip
        have hv := Lib.hid (show ratioMin r s = r by simp only [decide_eq_true_eq] at e2; simp [ratioMin, e0, e1, e2])
        simp only [decide_eq_true_eq] at e2
        clear e0 e1
        generalize ratioCmp r s = q at *
        go_enter Try.func95, Try.ntmps95
        go_wp2_with (fail)
        refine (c0 _).mono ?_
        rintro e w0 ⟨rfl, hb0⟩
        have r0 := bcell1 hb0
        have l0_0 : w.heap.size < w0.heap.size := blt hb0 (by first | (simp; done) | (simp; omega) | omega)
        have l0_1 : w.heap.size + 1 < w0.heap.size := blt hb0 (by first | (simp; done) | (simp; omega) | omega)
        have l0_2 : w.heap.size + 1 + 1 < w0.heap.size := blt hb0 (by first | (simp; done) | (simp; omega) | omega)
        go_wp2_with (fail)
        refine (c1 _).mono ?_
        rintro e w1 ⟨rfl, hb1⟩
        have r1 := bcell1 hb1
        have l1_0 : w.heap.size < w1.heap.size := blt hb1 (by first | (simp; done) | (simp; omega) | omega)
        have l1_1 : w.heap.size + 1 < w1.heap.size := blt hb1 (by first | (simp; done) | (simp; omega) | omega)
        have l1_2 : w.heap.size + 1 + 1 < w1.heap.size := blt hb1 (by first | (simp; done) | (simp; omega) | omega)
        go_wp2_with (fail)
        refine (c2 _).mono ?_
        rintro e w2 ⟨rfl, hb2⟩
        have r2 := bcell1 hb2
        have l2_0 : w.heap.size < w2.heap.size := blt hb2 (by first | (simp; done) | (simp; omega) | omega)
        have l2_1 : w.heap.size + 1 < w2.heap.size := blt hb2 (by first | (simp; done) | (simp; omega) | omega)
        have l2_2 : w.heap.size + 1 + 1 < w2.heap.size := blt hb2 (by first | (simp; done) | (simp; omega) | omega)
        have H : Has w2 (w.heap.size + 1 + 1) [.int .i64 0, .int .i64 0] := by
          repeat (first | ((with_reducible refine Has.new_at ?_ _ _ rfl); (first | rfl | (focus (simp; done)))) | (with_reducible refine Has.set_ ?_ ?_ _) | (with_reducible refine Has.alloc ?_ _) | (with_reducible refine Has.below ?_ (by assumption)) | (focus (simp; done)) | (focus (simp; omega)))
        obtain ⟨cH_0, fH_0⟩ := H.2 0 _ rfl
        obtain ⟨cH_1, fH_1⟩ := H.2 1 _ rfl
        go_wp2
        refine bodyPost_ret (v := .agg #[.int .i64 r.n, .int .i64 r.d]) (by simp [results, Try.results95, go_sem, cH_0, cH_1]) rfl ⟨by rw [hv.out], ?_⟩
        repeat (first | (with_reducible exact Below.refl _ _) | (with_reducible assumption) | (with_reducible refine below_al ?_ _) | (with_reducible refine Below.drew ?_) | (with_reducible refine below_drewN ?_ _) | (with_reducible refine below_st ?_ ?_ _) | (with_reducible refine below_tr ?_ (by assumption)) | (with_reducible exact Nat.le_refl _) | (focus (simp; done)) | (focus (simp; omega)))
set_option maxRecDepth 100000 in
set_option maxHeartbeats 1000000 in
theorem iRatioMax_c (r s : Ratio) (w : World) (hr : r.In) (hs : s.In) :
    Calls Try.prog 96 #[ratioV r, ratioV s] w fun e w' => e = .returned (ratioV (ratioMax r s)) ∧ Below w.heap.size w w' := by
  have c0 := fun W => iRatioOk_c r W hr
  have c1 := fun W => iRatioOk_c s W hs
  have c2 := fun W => iRatioCmp_c r s W hr hs
  cases e0 : ratioOk r
  · skip
    rw [e0] at c0
    have hv := Lib.hid (show ratioMax r s = ratio0 by simp [ratioMax, e0])
    go_enter Try.func96, Try.ntmps96
    go_wp2_with (fail)
    refine (c0 _).mono ?_
    rintro e w0 ⟨rfl, hb0⟩
    have r0 := bcell1 hb0
    have l0_0 : w.heap.size < w0.heap.size := blt hb0 (by first | (simp; done) | (simp; omega) | omega)
    have l0_1 : w.heap.size + 1 < w0.heap.size := blt hb0 (by first | (simp; done) | (simp; omega) | omega)
    have l0_2 : w.heap.size + 1 + 1 < w0.heap.size := blt hb0 (by first | (simp; done) | (simp; omega) | omega)
    have H : Has w0 (w.heap.size + 1 + 1) [.int .i64 0, .int .i64 0] := by
      repeat (first | ((with_reducible refine Has.new_at ?_ _ _ rfl); (first | rfl | (focus (simp; done)))) | (with_reducible refine Has.set_ ?_ ?_ _) | (with_reducible refine Has.alloc ?_ _) | (with_reducible refine Has.below ?_ (by assumption)) | (focus (simp; done)) | (focus (simp; omega)))
    obtain ⟨cH_0, fH_0⟩ := H.2 0 _ rfl
    obtain ⟨cH_1, fH_1⟩ := H.2 1 _ rfl
    go_wp2
    refine bodyPost_ret (v := .agg #[.int .i64 0, .int .i64 0]) (by simp [results, Try.results96, go_sem, cH_0, cH_1]) rfl ⟨by rw [hv.out]; rfl, ?_⟩
    repeat (first | (with_reducible exact Below.refl _ _) | (with_reducible assumption) | (with_reducible refine below_al ?_ _) | (with_reducible refine Below.drew ?_) | (with_reducible refine below_drewN ?_ _) | (with_reducible refine below_st ?_ ?_ _) | (with_reducible refine below_tr ?_ (by assumption)) | (with_reducible exact Nat.le_refl _) | (focus (simp; done)) | (focus (simp; omega)))
  · skip
    rw [e0] at c0
    cases e1 : ratioOk s
    · skip
      rw [e1] at c1
      have hv := Lib.hid (show ratioMax r s = ratio0 by simp [ratioMax, e1])
      go_enter Try.func96, Try.ntmps96
      go_wp2_with (fail)
      refine (c0 _).mono ?_
      rintro e w0 ⟨rfl, hb0⟩
      have r0 := bcell1 hb0
      have l0_0 : w.heap.size < w0.heap.size := blt hb0 (by first | (simp; done) | (simp; omega) | omega)
      have l0_1 : w.heap.size + 1 < w0.heap.size := blt hb0 (by first | (simp; done) | (simp; omega) | omega)
      have l0_2 : w.heap.size + 1 + 1 < w0.heap.size := blt hb0 (by first | (simp; done) | (simp; omega) | omega)
      go_wp2_with (fail)
      refine (c1 _).mono ?_
      rintro e w1 ⟨rfl, hb1⟩
      have r1 := bcell1 hb1
      have l1_0 : w.heap.size < w1.heap.size := blt hb1 (by first | (simp; done) | (simp; omega) | omega)
      have l1_1 : w.heap.size + 1 < w1.heap.size := blt hb1 (by first | (simp; done) | (simp; omega) | omega)
      have l1_2 : w.heap.size + 1 + 1 < w1.heap.size := blt hb1 (by first | (simp; done) | (simp; omega) | omega)
      have H : Has w1 (w.heap.size + 1 + 1) [.int .i64 0, .int .i64 0] := by
        repeat (first | ((with_reducible refine Has.new_at ?_ _ _ rfl); (first | rfl | (focus (simp; done)))) | (with_reducible refine Has.set_ ?_ ?_ _) | (with_reducible refine Has.alloc ?_ _) | (with_reducible refine Has.below ?_ (by assumption)) | (focus (simp; done)) | (focus (simp; omega)))
      obtain ⟨cH_0, fH_0⟩ := H.2 0 _ rfl
      obtain ⟨cH_1, fH_1⟩ := H.2 1 _ rfl
      go_wp2
      refine bodyPost_ret (v := .agg #[.int .i64 0, .int .i64 0]) (by simp [results, Try.results96, go_sem, cH_0, cH_1]) rfl ⟨by rw [hv.out]; rfl, ?_⟩
      repeat (first | (with_reducible exact Below.refl _ _) | (with_reducible assumption) | (with_reducible refine below_al ?_ _) | (with_reducible refine Below.drew ?_) | (with_reducible refine below_drewN ?_ _) | (with_reducible refine below_st ?_ ?_ _) | (with_reducible refine below_tr ?_ (by assumption)) | (with_reducible exact Nat.le_refl _) | (focus (simp; done)) | (focus (simp; omega)))
    · skip
      rw [e1] at c1
      have bd := ratioCmp_bd r s
      cases e2 : decide (0 ≤ ratioCmp r s)
      · skip
        have hv := Lib.hid (show ratioMax r s = s by simp only [decide_eq_false_iff_not] at e2; simp [ratioMax, e0, e1, e2])
        simp only [decide_eq_false_iff_not] at e2
        clear e0 e1
        generalize ratioCmp r s = q at *
        go_enter Try.func96, Try.ntmps96
        go_wp2_with (fail)
        refine (c0 _).mono ?_
        rintro e w0 ⟨rfl, hb0⟩
        have r0 := bcell1 hb0
        have l0_0 : w.heap.size < w0.heap.size := blt hb0 (by first | (simp; done) | (simp; omega) | omega)
        have l0_1 : w.heap.size + 1 < w0.heap.size := blt hb0 (by first | (simp; done) | (simp; omega) | omega)
        have l0_2 : w.heap.size + 1 + 1 < w0.heap.size := blt hb0 (by first | (simp; done) | (simp; omega) | omega)
        go_wp2_with (fail)
        refine (c1 _).mono ?_
        rintro e w1 ⟨rfl, hb1⟩
        have r1 := bcell1 hb1
        have l1_0 : w.heap.size < w1.heap.size := blt hb1 (by first | (simp; done) | (simp; omega) | omega)
        have l1_1 : w.heap.size + 1 < w1.heap.size := blt hb1 (by first | (simp; done) | (simp; omega) | omega)
        have l1_2 : w.heap.size + 1 + 1 < w1.heap.size := blt hb1 (by first | (simp; done) | (simp; omega) | omega)
        go_wp2_with (fail)
        refine (c2 _).mono ?_
        rintro e w2 ⟨rfl, hb2⟩
        have r2 := bcell1 hb2
        have l2_0 : w.heap.size < w2.heap.size := blt hb2 (by first | (simp; done) | (simp; omega) | omega)
        have l2_1 : w.heap.size + 1 < w2.heap.size := blt hb2 (by first | (simp; done) | (simp; omega) | omega)
        have l2_2 : w.heap.size + 1 + 1 < w2.heap.size := blt hb2 (by first | (simp; done) | (simp; omega) | omega)
        have H : Has w2 (w.heap.size + 1 + 1) [.int .i64 0, .int .i64 0] := by
          repeat (first | ((with_reducible refine Has.new_at ?_ _ _ rfl); (first | rfl | (focus (simp; done)))) | (with_reducible refine Has.set_ ?_ ?_ _) | (with_reducible refine Has.alloc ?_ _) | (with_reducible refine Has.below ?_ (by assumption)) | (focus (simp; done)) | (focus (simp; omega)))
        obtain ⟨cH_0, fH_0⟩ := H.2 0 _ rfl
        obtain ⟨cH_1, fH_1⟩ := H.2 1 _ rfl
        go_wp2
        refine bodyPost_ret (v := .agg #[.int .i64 s.n, .int .i64 s.d]) (by simp [results, Try.results96, go_sem, cH_0, cH_1]) rfl ⟨by rw [hv.out], ?_⟩
        repeat (first | (with_reducible exact Below.refl _ _) | (with_reducible assumption) | (with_reducible refine below_al ?_ _) | (with_reducible refine Below.drew ?_) | (with_reducible refine below_drewN ?_ _) | (with_reducible refine below_st ?_ ?_ _) | (with_reducible refine below_tr ?_ (by assumption)) | (with_reducible exact Nat.le_refl _) | (focus (simp; done)) | (focus (simp; omega)))
      · skip
        have hv := Lib.hid (show ratioMax r s = r by simp only [decide_eq_true_eq] at e2; simp [ratioMax, e0, e1, e2])
        simp only [decide_eq_true_eq] at e2
        clear e0 e1
        generalize ratioCmp r s = q at *
        go_enter Try.func96, Try.ntmps96
        go_wp2_with (fail)
        refine (c0 _).mono ?_
        rintro e w0 ⟨rfl, hb0⟩
        have r0 := bcell1 hb0
        have l0_0 : w.heap.size < w0.heap.size := blt hb0 (by first | (simp; done) | (simp; omega) | omega)
        have l0_1 : w.heap.size + 1 < w0.heap.size := blt hb0 (by first | (simp; done) | (simp; omega) | omega)
        have l0_2 : w.heap.size + 1 + 1 < w0.heap.size := blt hb0 (by first | (simp; done) | (simp; omega) | omega)
        go_wp2_with (fail)
        refine (c1 _).mono ?_
        rintro e w1 ⟨rfl, hb1⟩
        have r1 := bcell1 hb1
        have l1_0 : w.heap.size < w1.heap.size := blt hb1 (by first | (simp; done) | (simp; omega) | omega)
        have l1_1 : w.heap.size + 1 < w1.heap.size := blt hb1 (by first | (simp; done) | (simp; omega) | omega)
        have l1_2 : w.heap.size + 1 + 1 < w1.heap.size := blt hb1 (by first | (simp; done) | (simp; omega) | omega)
        go_wp2_with (fail)
        refine (c2 _).mono ?_
        rintro e w2 ⟨rfl, hb2⟩
        have r2 := bcell1 hb2
        have l2_0 : w.heap.size < w2.heap.size := blt hb2 (by first | (simp; done) | (simp; omega) | omega)
        have l2_1 : w.heap.size + 1 < w2.heap.size := blt hb2 (by first | (simp; done) | (simp; omega) | omega)
        have l2_2 : w.heap.size + 1 + 1 < w2.heap.size := blt hb2 (by first | (simp; done) | (simp; omega) | omega)
        have H : Has w2 (w.heap.size + 1 + 1) [.int .i64 0, .int .i64 0] := by
          repeat (first | ((with_reducible refine Has.new_at ?_ _ _ rfl); (first | rfl | (focus (simp; done)))) | (with_reducible refine Has.set_ ?_ ?_ _) | (with_reducible refine Has.alloc ?_ _) | (with_reducible refine Has.below ?_ (by assumption)) | (focus (simp; done)) | (focus (simp; omega)))
        obtain ⟨cH_0, fH_0⟩ := H.2 0 _ rfl
        obtain ⟨cH_1, fH_1⟩ := H.2 1 _ rfl
        go_wp2
        refine bodyPost_ret (v := .agg #[.int .i64 r.n, .int .i64 r.d]) (by simp [results, Try.results96, go_sem, cH_0, cH_1]) rfl ⟨by rw [hv.out], ?_⟩
        repeat (first | (with_reducible exact Below.refl _ _) | (with_reducible assumption) | (with_reducible refine below_al ?_ _) | (with_reducible refine Below.drew ?_) | (with_reducible refine below_drewN ?_ _) | (with_reducible refine below_st ?_ ?_ _) | (with_reducible refine below_tr ?_ (by assumption)) | (with_reducible exact Nat.le_refl _) | (focus (simp; done)) | (focus (simp; omega)))
set_option maxRecDepth 100000 in
set_option maxHeartbeats 1000000 in
theorem iSpanOk_c (x : Span) (w : World) (hx : x.In) :
    Calls Try.prog 106 #[spanV x] w fun e w' => e = .returned (.bool (spanOk x)) ∧ Below w.heap.size w w' := by
  have c0 := fun W => iRatioOk_c x.low W hx.1
  have c1 := fun W => iRatioOk_c x.high W hx.2
  have c2 := fun W => iRatioCmp_c x.low x.high W hx.1 hx.2
  cases e0 : ratioOk x.low
  · skip
    rw [e0] at c0
    have hv := Lib.hid (show spanOk x = false by simp [spanOk, e0])
    go_enter Try.func106, Try.ntmps106
    go_wp2_with (fail)
    refine (c0 _).mono ?_
    rintro e w0 ⟨rfl, hb0⟩
    have r0 := bcell1 hb0
    have l0_0 : w.heap.size < w0.heap.size := blt hb0 (by first | (simp; done) | (simp; omega) | omega)
    go_wp2
    go_ret
    refine ⟨?_, ?_⟩
    · first
      | exact ret_bool hv.out.symm
      | exact ret_bool (by rw [hv.out]; simp; omega)
    · repeat (first | (with_reducible exact Below.refl _ _) | (with_reducible assumption) | (with_reducible refine below_al ?_ _) | (with_reducible refine Below.drew ?_) | (with_reducible refine below_drewN ?_ _) | (with_reducible refine below_st ?_ ?_ _) | (with_reducible refine below_tr ?_ (by assumption)) | (with_reducible exact Nat.le_refl _) | (focus (simp; done)) | (focus (simp; omega)))
  · skip
    rw [e0] at c0
    cases e1 : ratioOk x.high
    · skip
      rw [e1] at c1
      have hv := Lib.hid (show spanOk x = false by simp [spanOk, e1])
      go_enter Try.func106, Try.ntmps106
      go_wp2_with (fail)
      refine (c0 _).mono ?_
      rintro e w0 ⟨rfl, hb0⟩
      have r0 := bcell1 hb0
      have l0_0 : w.heap.size < w0.heap.size := blt hb0 (by first | (simp; done) | (simp; omega) | omega)
      go_wp2_with (fail)
      refine (c1 _).mono ?_
      rintro e w1 ⟨rfl, hb1⟩
      have r1 := bcell1 hb1
      have l1_0 : w.heap.size < w1.heap.size := blt hb1 (by first | (simp; done) | (simp; omega) | omega)
      go_wp2
      go_ret
      refine ⟨?_, ?_⟩
      · first
        | exact ret_bool hv.out.symm
        | exact ret_bool (by rw [hv.out]; simp; omega)
      · repeat (first | (with_reducible exact Below.refl _ _) | (with_reducible assumption) | (with_reducible refine below_al ?_ _) | (with_reducible refine Below.drew ?_) | (with_reducible refine below_drewN ?_ _) | (with_reducible refine below_st ?_ ?_ _) | (with_reducible refine below_tr ?_ (by assumption)) | (with_reducible exact Nat.le_refl _) | (focus (simp; done)) | (focus (simp; omega)))
    · skip
      rw [e1] at c1
      cases e2 : decide (ratioCmp x.low x.high ≤ 0)
      · skip
        have hv := Lib.hid (show spanOk x = false by simp only [spanOk, e0, e1, e2]; rfl)
        simp only [decide_eq_false_iff_not] at e2
        have bd := ratioCmp_bd x.low x.high
        generalize ratioCmp x.low x.high = q at *
        go_enter Try.func106, Try.ntmps106
        go_wp2_with (fail)
        refine (c0 _).mono ?_
        rintro e w0 ⟨rfl, hb0⟩
        have r0 := bcell1 hb0
        have l0_0 : w.heap.size < w0.heap.size := blt hb0 (by first | (simp; done) | (simp; omega) | omega)
        go_wp2_with (fail)
        refine (c1 _).mono ?_
        rintro e w1 ⟨rfl, hb1⟩
        have r1 := bcell1 hb1
        have l1_0 : w.heap.size < w1.heap.size := blt hb1 (by first | (simp; done) | (simp; omega) | omega)
        go_wp2_with (fail)
        refine (c2 _).mono ?_
        rintro e w2 ⟨rfl, hb2⟩
        have r2 := bcell1 hb2
        have l2_0 : w.heap.size < w2.heap.size := blt hb2 (by first | (simp; done) | (simp; omega) | omega)
        go_wp2
        go_ret
        refine ⟨?_, ?_⟩
        · first
          | exact ret_bool hv.out.symm
          | exact ret_bool (by rw [hv.out]; simp; omega)
        · repeat (first | (with_reducible exact Below.refl _ _) | (with_reducible assumption) | (with_reducible refine below_al ?_ _) | (with_reducible refine Below.drew ?_) | (with_reducible refine below_drewN ?_ _) | (with_reducible refine below_st ?_ ?_ _) | (with_reducible refine below_tr ?_ (by assumption)) | (with_reducible exact Nat.le_refl _) | (focus (simp; done)) | (focus (simp; omega)))
      · skip
        have hv := Lib.hid (show spanOk x = true by simp only [spanOk, e0, e1, e2]; rfl)
        simp only [decide_eq_true_eq] at e2
        have bd := ratioCmp_bd x.low x.high
        generalize ratioCmp x.low x.high = q at *
        go_enter Try.func106, Try.ntmps106
        go_wp2_with (fail)
        refine (c0 _).mono ?_
        rintro e w0 ⟨rfl, hb0⟩
        have r0 := bcell1 hb0
        have l0_0 : w.heap.size < w0.heap.size := blt hb0 (by first | (simp; done) | (simp; omega) | omega)
        go_wp2_with (fail)
        refine (c1 _).mono ?_
        rintro e w1 ⟨rfl, hb1⟩
        have r1 := bcell1 hb1
        have l1_0 : w.heap.size < w1.heap.size := blt hb1 (by first | (simp; done) | (simp; omega) | omega)
        go_wp2_with (fail)
        refine (c2 _).mono ?_
        rintro e w2 ⟨rfl, hb2⟩
        have r2 := bcell1 hb2
        have l2_0 : w.heap.size < w2.heap.size := blt hb2 (by first | (simp; done) | (simp; omega) | omega)
        go_wp2
        go_ret
        refine ⟨?_, ?_⟩
        · first
          | exact ret_bool hv.out.symm
          | exact ret_bool (by rw [hv.out]; simp; omega)
        · repeat (first | (with_reducible exact Below.refl _ _) | (with_reducible assumption) | (with_reducible refine below_al ?_ _) | (with_reducible refine Below.drew ?_) | (with_reducible refine below_drewN ?_ _) | (with_reducible refine below_st ?_ ?_ _) | (with_reducible refine below_tr ?_ (by assumption)) | (with_reducible exact Nat.le_refl _) | (focus (simp; done)) | (focus (simp; omega)))
set_option maxRecDepth 100000 in
set_option maxHeartbeats 1000000 in
theorem sRatioMin_c (r s : Ratio) (w : World) (hr : r.In) (hs : s.In) :
    Calls Try.prog 90 #[ratioV r, ratioV s] w fun e w' => e = .returned (ratioV (ratioMin r s)) ∧ Below w.heap.size w w' := by
  have c0 := fun W => sRatioOk_c r W hr
  have c1 := fun W => sRatioOk_c s W hs
  have c2 := fun W => sRatioCmp_c r s W hr hs
  cases e0 : ratioOk r
  · skip
    rw [e0] at c0
    have hv := Lib.hid (show ratioMin r s = ratio0 by simp [ratioMin, e0])
    go_enter Try.func90, Try.ntmps90
    go_wp2_with (fail)
    refine (c0 _).mono ?_
    rintro e w0 ⟨rfl, hb0⟩
    have r0 := bcell1 hb0
    have l0_0 : w.heap.size < w0.heap.size := blt hb0 (by first | (simp; done) | (simp; omega) | omega)
    have l0_1 : w.heap.size + 1 < w0.heap.size := blt hb0 (by first | (simp; done) | (simp; omega) | omega)
    have l0_2 : w.heap.size + 1 + 1 < w0.heap.size := blt hb0 (by first | (simp; done) | (simp; omega) | omega)
    have H : Has w0 (w.heap.size + 1 + 1) [.int .i64 0, .int .i64 0] := by
      repeat (first | ((with_reducible refine Has.new_at ?_ _ _ rfl); (first | rfl | (focus (simp; done)))) | (with_reducible refine Has.set_ ?_ ?_ _) | (with_reducible refine Has.alloc ?_ _) | (with_reducible refine Has.below ?_ (by assumption)) | (focus (simp; done)) | (focus (simp; omega)))
    obtain ⟨cH_0, fH_0⟩ := H.2 0 _ rfl
    obtain ⟨cH_1, fH_1⟩ := H.2 1 _ rfl
    go_wp2
    refine bodyPost_ret (v := .agg #[.int .i64 0, .int .i64 0]) (by simp [results, Try.results90, go_sem, cH_0, cH_1]) rfl ⟨by rw [hv.out]; rfl, ?_⟩
    repeat (first | (with_reducible exact Below.refl _ _) | (with_reducible assumption) | (with_reducible refine below_al ?_ _) | (with_reducible refine Below.drew ?_) | (with_reducible refine below_drewN ?_ _) | (with_reducible refine below_st ?_ ?_ _) | (with_reducible refine below_tr ?_ (by assumption)) | (with_reducible exact Nat.le_refl _) | (focus (simp; done)) | (focus (simp; omega)))
  · skip
    rw [e0] at c0
    cases e1 : ratioOk s
    · skip
      rw [e1] at c1
      have hv := Lib.hid (show ratioMin r s = ratio0 by simp [ratioMin, e1])
      go_enter Try.func90, Try.ntmps90
      go_wp2_with (fail)
      refine (c0 _).mono ?_
      rintro e w0 ⟨rfl, hb0⟩
      have r0 := bcell1 hb0
      have l0_0 : w.heap.size < w0.heap.size := blt hb0 (by first | (simp; done) | (simp; omega) | omega)
      have l0_1 : w.heap.size + 1 < w0.heap.size := blt hb0 (by first | (simp; done) | (simp; omega) | omega)
      have l0_2 : w.heap.size + 1 + 1 < w0.heap.size := blt hb0 (by first | (simp; done) | (simp; omega) | omega)
      go_wp2_with (fail)
      refine (c1 _).mono ?_
      rintro e w1 ⟨rfl, hb1⟩
      have r1 := bcell1 hb1
      have l1_0 : w.heap.size < w1.heap.size := blt hb1 (by first | (simp; done) | (simp; omega) | omega)
      have l1_1 : w.heap.size + 1 < w1.heap.size := blt hb1 (by first | (simp; done) | (simp; omega) | omega)
      have l1_2 : w.heap.size + 1 + 1 < w1.heap.size := blt hb1 (by first | (simp; done) | (simp; omega) | omega)
      have H : Has w1 (w.heap.size + 1 + 1) [.int .i64 0, .int .i64 0] := by
        repeat (first | ((with_reducible refine Has.new_at ?_ _ _ rfl); (first | rfl | (focus (simp; done)))) | (with_reducible refine Has.set_ ?_ ?_ _) | (with_reducible refine Has.alloc ?_ _) | (with_reducible refine Has.below ?_ (by assumption)) | (focus (simp; done)) | (focus (simp; omega)))
      obtain ⟨cH_0, fH_0⟩ := H.2 0 _ rfl
      obtain ⟨cH_1, fH_1⟩ := H.2 1 _ rfl
      go_wp2
      refine bodyPost_ret (v := .agg #[.int .i64 0, .int .i64 0]) (by simp [results, Try.results90, go_sem, cH_0, cH_1]) rfl ⟨by rw [hv.out]; rfl, ?_⟩
      repeat (first | (with_reducible exact Below.refl _ _) | (with_reducible assumption) | (with_reducible refine below_al ?_ _) | (with_reducible refine Below.drew ?_) | (with_reducible refine below_drewN ?_ _) | (with_reducible refine below_st ?_ ?_ _) | (with_reducible refine below_tr ?_ (by assumption)) | (with_reducible exact Nat.le_refl _) | (focus (simp; done)) | (focus (simp; omega)))
    · skip
      rw [e1] at c1
      have bd := ratioCmp_bd r s
      cases e2 : decide (ratioCmp r s ≤ 0)
      · skip
        have hv := Lib.hid (show ratioMin r s = s by simp only [decide_eq_false_iff_not] at e2; simp [ratioMin, e0, e1, e2])
        simp only [decide_eq_false_iff_not] at e2
        clear e0 e1
        generalize ratioCmp r s = q at *
        go_enter Try.func90, Try.ntmps90
        go_wp2_with (fail)
        refine (c0 _).mono ?_
        rintro e w0 ⟨rfl, hb0⟩
        have r0 := bcell1 hb0
        have l0_0 : w.heap.size < w0.heap.size := blt hb0 (by first | (simp; done) | (simp; omega) | omega)
        have l0_1 : w.heap.size + 1 < w0.heap.size := blt hb0 (by first | (simp; done) | (simp; omega) | omega)
        have l0_2 : w.heap.size + 1 + 1 < w0.heap.size := blt hb0 (by first | (simp; done) | (simp; omega) | omega)
        go_wp2_with (fail)
        refine (c1 _).mono ?_
        rintro e w1 ⟨rfl, hb1⟩
        have r1 := bcell1 hb1
        have l1_0 : w.heap.size < w1.heap.size := blt hb1 (by first | (simp; done) | (simp; omega) | omega)
        have l1_1 : w.heap.size + 1 < w1.heap.size := blt hb1 (by first | (simp; done) | (simp; omega) | omega)
        have l1_2 : w.heap.size + 1 + 1 < w1.heap.size := blt hb1 (by first | (simp; done) | (simp; omega) | omega)
        go_wp2_with (fail)
        refine (c2 _).mono ?_
        rintro e w2 ⟨rfl, hb2⟩
        have r2 := bcell1 hb2
        have l2_0 : w.heap.size < w2.heap.size := blt hb2 (by first | (simp; done) | (simp; omega) | omega)
        have l2_1 : w.heap.size + 1 < w2.heap.size := blt hb2 (by first | (simp; done) | (simp; omega) | omega)
        have l2_2 : w.heap.size + 1 + 1 < w2.heap.size := blt hb2 (by first | (simp; done) | (simp; omega) | omega)
        have H : Has w2 (w.heap.size + 1 + 1) [.int .i64 0, .int .i64 0] := by
          repeat (first | ((with_reducible refine Has.new_at ?_ _ _ rfl); (first | rfl | (focus (simp; done)))) | (with_reducible refine Has.set_ ?_ ?_ _) | (with_reducible refine Has.alloc ?_ _) | (with_reducible refine Has.below ?_ (by assumption)) | (focus (simp; done)) | (focus (simp; omega)))
        obtain ⟨cH_0, fH_0⟩ := H.2 0 _ rfl
        obtain ⟨cH_1, fH_1⟩ := H.2 1 _ rfl
        go_wp2
        refine bodyPost_ret (v := .agg #[.int .i64 s.n, .int .i64 s.d]) (by simp [results, Try.results90, go_sem, cH_0, cH_1]) rfl ⟨by rw [hv.out], ?_⟩
        repeat (first | (with_reducible exact Below.refl _ _) | (with_reducible assumption) | (with_reducible refine below_al ?_ _) | (with_reducible refine Below.drew ?_) | (with_reducible refine below_drewN ?_ _) | (with_reducible refine below_st ?_ ?_ _) | (with_reducible refine below_tr ?_ (by assumption)) | (with_reducible exact Nat.le_refl _) | (focus (simp; done)) | (focus (simp; omega)))
      · skip
        have hv := Lib.hid (show ratioMin r s = r by simp only [decide_eq_true_eq] at e2; simp [ratioMin, e0, e1, e2])
        simp only [decide_eq_true_eq] at e2
        clear e0 e1
        generalize ratioCmp r s = q at *
        go_enter Try.func90, Try.ntmps90
        go_wp2_with (fail)
        refine (c0 _).mono ?_
        rintro e w0 ⟨rfl, hb0⟩
        have r0 := bcell1 hb0
        have l0_0 : w.heap.size < w0.heap.size := blt hb0 (by first | (simp; done) | (simp; omega) | omega)
        have l0_1 : w.heap.size + 1 < w0.heap.size := blt hb0 (by first | (simp; done) | (simp; omega) | omega)
        have l0_2 : w.heap.size + 1 + 1 < w0.heap.size := blt hb0 (by first | (simp; done) | (simp; omega) | omega)
        go_wp2_with (fail)
        refine (c1 _).mono ?_
        rintro e w1 ⟨rfl, hb1⟩
        have r1 := bcell1 hb1
        have l1_0 : w.heap.size < w1.heap.size := blt hb1 (by first | (simp; done) | (simp; omega) | omega)
        have l1_1 : w.heap.size + 1 < w1.heap.size := blt hb1 (by first | (simp; done) | (simp; omega) | omega)
        have l1_2 : w.heap.size + 1 + 1 < w1.heap.size := blt hb1 (by first | (simp; done) | (simp; omega) | omega)
        go_wp2_with (fail)
        refine (c2 _).mono ?_
        rintro e w2 ⟨rfl, hb2⟩
        have r2 := bcell1 hb2
        have l2_0 : w.heap.size < w2.heap.size := blt hb2 (by first | (simp; done) | (simp; omega) | omega)
        have l2_1 : w.heap.size + 1 < w2.heap.size := blt hb2 (by first | (simp; done) | (simp; omega) | omega)
        have l2_2 : w.heap.size + 1 + 1 < w2.heap.size := blt hb2 (by first | (simp; done) | (simp; omega) | omega)
        have H : Has w2 (w.heap.size + 1 + 1) [.int .i64 0, .int .i64 0] := by
          repeat (first | ((with_reducible refine Has.new_at ?_ _ _ rfl); (first | rfl | (focus (simp; done)))) | (with_reducible refine Has.set_ ?_ ?_ _) | (with_reducible refine Has.alloc ?_ _) | (with_reducible refine Has.below ?_ (by assumption)) | (focus (simp; done)) | (focus (simp; omega)))
        obtain ⟨cH_0, fH_0⟩ := H.2 0 _ rfl
        obtain ⟨cH_1, fH_1⟩ := H.2 1 _ rfl
        go_wp2
        refine bodyPost_ret (v := .agg #[.int .i64 r.n, .int .i64 r.d]) (by simp [results, Try.results90, go_sem, cH_0, cH_1]) rfl ⟨by rw [hv.out], ?_⟩
        repeat (first | (with_reducible exact Below.refl _ _) | (with_reducible assumption) | (with_reducible refine below_al ?_ _) | (with_reducible refine Below.drew ?_) | (with_reducible refine below_drewN ?_ _) | (with_reducible refine below_st ?_ ?_ _) | (with_reducible refine below_tr ?_ (by assumption)) | (with_reducible exact Nat.le_refl _) | (focus (simp; done)) | (focus (simp; omega)))
set_option maxRecDepth 100000 in
set_option maxHeartbeats 1000000 in
theorem sRatioMax_c (r s : Ratio) (w : World) (hr : r.In) (hs : s.In) :
    Calls Try.prog 91 #[ratioV r, ratioV s] w fun e w' => e = .returned (ratioV (ratioMax r s)) ∧ Below w.heap.size w w' := by
  have c0 := fun W => sRatioOk_c r W hr
  have c1 := fun W => sRatioOk_c s W hs
  have c2 := fun W => sRatioCmp_c r s W hr hs
  cases e0 : ratioOk r
  · skip
    rw [e0] at c0
    have hv := Lib.hid (show ratioMax r s = ratio0 by simp [ratioMax, e0])
    go_enter Try.func91, Try.ntmps91
    go_wp2_with (fail)
    refine (c0 _).mono ?_
    rintro e w0 ⟨rfl, hb0⟩
    have r0 := bcell1 hb0
    have l0_0 : w.heap.size < w0.heap.size := blt hb0 (by first | (simp; done) | (simp; omega) | omega)
    have l0_1 : w.heap.size + 1 < w0.heap.size := blt hb0 (by first | (simp; done) | (simp; omega) | omega)
    have l0_2 : w.heap.size + 1 + 1 < w0.heap.size := blt hb0 (by first | (simp; done) | (simp; omega) | omega)
    have H : Has w0 (w.heap.size + 1 + 1) [.int .i64 0, .int .i64 0] := by
      repeat (first | ((with_reducible refine Has.new_at ?_ _ _ rfl); (first | rfl | (focus (simp; done)))) | (with_reducible refine Has.set_ ?_ ?_ _) | (with_reducible refine Has.alloc ?_ _) | (with_reducible refine Has.below ?_ (by assumption)) | (focus (simp; done)) | (focus (simp; omega)))
    obtain ⟨cH_0, fH_0⟩ := H.2 0 _ rfl
    obtain ⟨cH_1, fH_1⟩ := H.2 1 _ rfl
    go_wp2
    refine bodyPost_ret (v := .agg #[.int .i64 0, .int .i64 0]) (by simp [results, Try.results91, go_sem, cH_0, cH_1]) rfl ⟨by rw [hv.out]; rfl, ?_⟩
    repeat (first | (with_reducible exact Below.refl _ _) | (with_reducible assumption) | (with_reducible refine below_al ?_ _) | (with_reducible refine Below.drew ?_) | (with_reducible refine below_drewN ?_ _) | (with_reducible refine below_st ?_ ?_ _) | (with_reducible refine below_tr ?_ (by assumption)) | (with_reducible exact Nat.le_refl _) | (focus (simp; done)) | (focus (simp; omega)))
  · skip
    rw [e0] at c0
    cases e1 : ratioOk s
    · skip
      rw [e1] at c1
      have hv := Lib.hid (show ratioMax r s = ratio0 by simp [ratioMax, e1])
      go_enter Try.func91, Try.ntmps91
      go_wp2_with (fail)
      refine (c0 _).mono ?_
      rintro e w0 ⟨rfl, hb0⟩
      have r0 := bcell1 hb0
      have l0_0 : w.heap.size < w0.heap.size := blt hb0 (by first | (simp; done) | (simp; omega) | omega)
      have l0_1 : w.heap.size + 1 < w0.heap.size := blt hb0 (by first | (simp; done) | (simp; omega) | omega)
      have l0_2 : w.heap.size + 1 + 1 < w0.heap.size := blt hb0 (by first | (simp; done) | (simp; omega) | omega)
      go_wp2_with (fail)
      refine (c1 _).mono ?_
      rintro e w1 ⟨rfl, hb1⟩
      have r1 := bcell1 hb1
      have l1_0 : w.heap.size < w1.heap.size := blt hb1 (by first | (simp; done) | (simp; omega) | omega)
      have l1_1 : w.heap.size + 1 < w1.heap.size := blt hb1 (by first | (simp; done) | (simp; omega) | omega)
      have l1_2 : w.heap.size + 1 + 1 < w1.heap.size := blt hb1 (by first | (simp; done) | (simp; omega) | omega)
      have H : Has w1 (w.heap.size + 1 + 1) [.int .i64 0, .int .i64 0] := by
        repeat (first | ((with_reducible refine Has.new_at ?_ _ _ rfl); (first | rfl | (focus (simp; done)))) | (with_reducible refine Has.set_ ?_ ?_ _) | (with_reducible refine Has.alloc ?_ _) | (with_reducible refine Has.below ?_ (by assumption)) | (focus (simp; done)) | (focus (simp; omega)))
      obtain ⟨cH_0, fH_0⟩ := H.2 0 _ rfl
      obtain ⟨cH_1, fH_1⟩ := H.2 1 _ rfl
      go_wp2
      refine bodyPost_ret (v := .agg #[.int .i64 0, .int .i64 0]) (by simp [results, Try.results91, go_sem, cH_0, cH_1]) rfl ⟨by rw [hv.out]; rfl, ?_⟩
      repeat (first | (with_reducible exact Below.refl _ _) | (with_reducible assumption) | (with_reducible refine below_al ?_ _) | (with_reducible refine Below.drew ?_) | (with_reducible refine below_drewN ?_ _) | (with_reducible refine below_st ?_ ?_ _) | (with_reducible refine below_tr ?_ (by assumption)) | (with_reducible exact Nat.le_refl _) | (focus (simp; done)) | (focus (simp; omega)))
    · skip
      rw [e1] at c1
      have bd := ratioCmp_bd r s
      cases e2 : decide (0 ≤ ratioCmp r s)
      · skip
        have hv := Lib.hid (show ratioMax r s = s by simp only [decide_eq_false_iff_not] at e2; simp [ratioMax, e0, e1, e2])
        simp only [decide_eq_false_iff_not] at e2
        clear e0 e1
        generalize ratioCmp r s = q at *
        go_enter Try.func91, Try.ntmps91
        go_wp2_with (fail)
        refine (c0 _).mono ?_
        rintro e w0 ⟨rfl, hb0⟩
        have r0 := bcell1 hb0
        have l0_0 : w.heap.size < w0.heap.size := blt hb0 (by first | (simp; done) | (simp; omega) | omega)
        have l0_1 : w.heap.size + 1 < w0.heap.size := blt hb0 (by first | (simp; done) | (simp; omega) | omega)
        have l0_2 : w.heap.size + 1 + 1 < w0.heap.size := blt hb0 (by first | (simp; done) | (simp; omega) | omega)
        go_wp2_with (fail)
        refine (c1 _).mono ?_
        rintro e w1 ⟨rfl, hb1⟩
        have r1 := bcell1 hb1
        have l1_0 : w.heap.size < w1.heap.size := blt hb1 (by first | (simp; done) | (simp; omega) | omega)
        have l1_1 : w.heap.size + 1 < w1.heap.size := blt hb1 (by first | (simp; done) | (simp; omega) | omega)
        have l1_2 : w.heap.size + 1 + 1 < w1.heap.size := blt hb1 (by first | (simp; done) | (simp; omega) | omega)
        go_wp2_with (fail)
        refine (c2 _).mono ?_
        rintro e w2 ⟨rfl, hb2⟩
        have r2 := bcell1 hb2
        have l2_0 : w.heap.size < w2.heap.size := blt hb2 (by first | (simp; done) | (simp; omega) | omega)
        have l2_1 : w.heap.size + 1 < w2.heap.size := blt hb2 (by first | (simp; done) | (simp; omega) | omega)
        have l2_2 : w.heap.size + 1 + 1 < w2.heap.size := blt hb2 (by first | (simp; done) | (simp; omega) | omega)
        have H : Has w2 (w.heap.size + 1 + 1) [.int .i64 0, .int .i64 0] := by
          repeat (first | ((with_reducible refine Has.new_at ?_ _ _ rfl); (first | rfl | (focus (simp; done)))) | (with_reducible refine Has.set_ ?_ ?_ _) | (with_reducible refine Has.alloc ?_ _) | (with_reducible refine Has.below ?_ (by assumption)) | (focus (simp; done)) | (focus (simp; omega)))
        obtain ⟨cH_0, fH_0⟩ := H.2 0 _ rfl
        obtain ⟨cH_1, fH_1⟩ := H.2 1 _ rfl
        go_wp2
        refine bodyPost_ret (v := .agg #[.int .i64 s.n, .int .i64 s.d]) (by simp [results, Try.results91, go_sem, cH_0, cH_1]) rfl ⟨by rw [hv.out], ?_⟩
        repeat (first | (with_reducible exact Below.refl _ _) | (with_reducible assumption) | (with_reducible refine below_al ?_ _) | (with_reducible refine Below.drew ?_) | (with_reducible refine below_drewN ?_ _) | (with_reducible refine below_st ?_ ?_ _) | (with_reducible refine below_tr ?_ (by assumption)) | (with_reducible exact Nat.le_refl _) | (focus (simp; done)) | (focus (simp; omega)))
      · skip
        have hv := Lib.hid (show ratioMax r s = r by simp only [decide_eq_true_eq] at e2; simp [ratioMax, e0, e1, e2])
        simp only [decide_eq_true_eq] at e2
        clear e0 e1
        generalize ratioCmp r s = q at *
        go_enter Try.func91, Try.ntmps91
        go_wp2_with (fail)
        refine (c0 _).mono ?_
        rintro e w0 ⟨rfl, hb0⟩
        have r0 := bcell1 hb0
        have l0_0 : w.heap.size < w0.heap.size := blt hb0 (by first | (simp; done) | (simp; omega) | omega)
        have l0_1 : w.heap.size + 1 < w0.heap.size := blt hb0 (by first | (simp; done) | (simp; omega) | omega)
        have l0_2 : w.heap.size + 1 + 1 < w0.heap.size := blt hb0 (by first | (simp; done) | (simp; omega) | omega)
        go_wp2_with (fail)
        refine (c1 _).mono ?_
        rintro e w1 ⟨rfl, hb1⟩
        have r1 := bcell1 hb1
        have l1_0 : w.heap.size < w1.heap.size := blt hb1 (by first | (simp; done) | (simp; omega) | omega)
        have l1_1 : w.heap.size + 1 < w1.heap.size := blt hb1 (by first | (simp; done) | (simp; omega) | omega)
        have l1_2 : w.heap.size + 1 + 1 < w1.heap.size := blt hb1 (by first | (simp; done) | (simp; omega) | omega)
        go_wp2_with (fail)
        refine (c2 _).mono ?_
        rintro e w2 ⟨rfl, hb2⟩
        have r2 := bcell1 hb2
        have l2_0 : w.heap.size < w2.heap.size := blt hb2 (by first | (simp; done) | (simp; omega) | omega)
        have l2_1 : w.heap.size + 1 < w2.heap.size := blt hb2 (by first | (simp; done) | (simp; omega) | omega)
        have l2_2 : w.heap.size + 1 + 1 < w2.heap.size := blt hb2 (by first | (simp; done) | (simp; omega) | omega)
        have H : Has w2 (w.heap.size + 1 + 1) [.int .i64 0, .int .i64 0] := by
          repeat (first | ((with_reducible refine Has.new_at ?_ _ _ rfl); (first | rfl | (focus (simp; done)))) | (with_reducible refine Has.set_ ?_ ?_ _) | (with_reducible refine Has.alloc ?_ _) | (with_reducible refine Has.below ?_ (by assumption)) | (focus (simp; done)) | (focus (simp; omega)))
        obtain ⟨cH_0, fH_0⟩ := H.2 0 _ rfl
        obtain ⟨cH_1, fH_1⟩ := H.2 1 _ rfl
        go_wp2
        refine bodyPost_ret (v := .agg #[.int .i64 r.n, .int .i64 r.d]) (by simp [results, Try.results91, go_sem, cH_0, cH_1]) rfl ⟨by rw [hv.out], ?_⟩
        repeat (first | (with_reducible exact Below.refl _ _) | (with_reducible assumption) | (with_reducible refine below_al ?_ _) | (with_reducible refine Below.drew ?_) | (with_reducible refine below_drewN ?_ _) | (with_reducible refine below_st ?_ ?_ _) | (with_reducible refine below_tr ?_ (by assumption)) | (with_reducible exact Nat.le_refl _) | (focus (simp; done)) | (focus (simp; omega)))
set_option maxRecDepth 100000 in
set_option maxHeartbeats 1000000 in
theorem sSpanOk_c (x : Span) (w : World) (hx : x.In) :
    Calls Try.prog 101 #[spanV x] w fun e w' => e = .returned (.bool (spanOk x)) ∧ Below w.heap.size w w' := by
  have c0 := fun W => sRatioOk_c x.low W hx.1
  have c1 := fun W => sRatioOk_c x.high W hx.2
  have c2 := fun W => sRatioCmp_c x.low x.high W hx.1 hx.2
  cases e0 : ratioOk x.low
  · skip
    rw [e0] at c0
    have hv := Lib.hid (show spanOk x = false by simp [spanOk, e0])
    go_enter Try.func101, Try.ntmps101
    go_wp2_with (fail)
    refine (c0 _).mono ?_
    rintro e w0 ⟨rfl, hb0⟩
    have r0 := bcell1 hb0
    have l0_0 : w.heap.size < w0.heap.size := blt hb0 (by first | (simp; done) | (simp; omega) | omega)
    go_wp2
    go_ret
    refine ⟨?_, ?_⟩
    · first
      | exact ret_bool hv.out.symm
      | exact ret_bool (by rw [hv.out]; simp; omega)
    · repeat (first | (with_reducible exact Below.refl _ _) | (with_reducible assumption) | (with_reducible refine below_al ?_ _) | (with_reducible refine Below.drew ?_) | (with_reducible refine below_drewN ?_ _) | (with_reducible refine below_st ?_ ?_ _) | (with_reducible refine below_tr ?_ (by assumption)) | (with_reducible exact Nat.le_refl _) | (focus (simp; done)) | (focus (simp; omega)))
  · skip
    rw [e0] at c0
    cases e1 : ratioOk x.high
    · skip
      rw [e1] at c1
      have hv := Lib.hid (show spanOk x = false by simp [spanOk, e1])
      go_enter Try.func101, Try.ntmps101
      go_wp2_with (fail)
      refine (c0 _).mono ?_
      rintro e w0 ⟨rfl, hb0⟩
      have r0 := bcell1 hb0
      have l0_0 : w.heap.size < w0.heap.size := blt hb0 (by first | (simp; done) | (simp; omega) | omega)
      go_wp2_with (fail)
      refine (c1 _).mono ?_
      rintro e w1 ⟨rfl, hb1⟩
      have r1 := bcell1 hb1
      have l1_0 : w.heap.size < w1.heap.size := blt hb1 (by first | (simp; done) | (simp; omega) | omega)
      go_wp2
      go_ret
      refine ⟨?_, ?_⟩
      · first
        | exact ret_bool hv.out.symm
        | exact ret_bool (by rw [hv.out]; simp; omega)
      · repeat (first | (with_reducible exact Below.refl _ _) | (with_reducible assumption) | (with_reducible refine below_al ?_ _) | (with_reducible refine Below.drew ?_) | (with_reducible refine below_drewN ?_ _) | (with_reducible refine below_st ?_ ?_ _) | (with_reducible refine below_tr ?_ (by assumption)) | (with_reducible exact Nat.le_refl _) | (focus (simp; done)) | (focus (simp; omega)))
    · skip
      rw [e1] at c1
      cases e2 : decide (ratioCmp x.low x.high ≤ 0)
      · skip
        have hv := Lib.hid (show spanOk x = false by simp only [spanOk, e0, e1, e2]; rfl)
        simp only [decide_eq_false_iff_not] at e2
        have bd := ratioCmp_bd x.low x.high
        generalize ratioCmp x.low x.high = q at *
        go_enter Try.func101, Try.ntmps101
        go_wp2_with (fail)
        refine (c0 _).mono ?_
        rintro e w0 ⟨rfl, hb0⟩
        have r0 := bcell1 hb0
        have l0_0 : w.heap.size < w0.heap.size := blt hb0 (by first | (simp; done) | (simp; omega) | omega)
        go_wp2_with (fail)
        refine (c1 _).mono ?_
        rintro e w1 ⟨rfl, hb1⟩
        have r1 := bcell1 hb1
        have l1_0 : w.heap.size < w1.heap.size := blt hb1 (by first | (simp; done) | (simp; omega) | omega)
        go_wp2_with (fail)
        refine (c2 _).mono ?_
        rintro e w2 ⟨rfl, hb2⟩
        have r2 := bcell1 hb2
        have l2_0 : w.heap.size < w2.heap.size := blt hb2 (by first | (simp; done) | (simp; omega) | omega)
        go_wp2
        go_ret
        refine ⟨?_, ?_⟩
        · first
          | exact ret_bool hv.out.symm
          | exact ret_bool (by rw [hv.out]; simp; omega)
        · repeat (first | (with_reducible exact Below.refl _ _) | (with_reducible assumption) | (with_reducible refine below_al ?_ _) | (with_reducible refine Below.drew ?_) | (with_reducible refine below_drewN ?_ _) | (with_reducible refine below_st ?_ ?_ _) | (with_reducible refine below_tr ?_ (by assumption)) | (with_reducible exact Nat.le_refl _) | (focus (simp; done)) | (focus (simp; omega)))
      · skip
        have hv := Lib.hid (show spanOk x = true by simp only [spanOk, e0, e1, e2]; rfl)
        simp only [decide_eq_true_eq] at e2
        have bd := ratioCmp_bd x.low x.high
        generalize ratioCmp x.low x.high = q at *
        go_enter Try.func101, Try.ntmps101
        go_wp2_with (fail)
        refine (c0 _).mono ?_
        rintro e w0 ⟨rfl, hb0⟩
        have r0 := bcell1 hb0
        have l0_0 : w.heap.size < w0.heap.size := blt hb0 (by first | (simp; done) | (simp; omega) | omega)
        go_wp2_with (fail)
        refine (c1 _).mono ?_
        rintro e w1 ⟨rfl, hb1⟩
        have r1 := bcell1 hb1
        have l1_0 : w.heap.size < w1.heap.size := blt hb1 (by first | (simp; done) | (simp; omega) | omega)
        go_wp2_with (fail)
        refine (c2 _).mono ?_
        rintro e w2 ⟨rfl, hb2⟩
        have r2 := bcell1 hb2
        have l2_0 : w.heap.size < w2.heap.size := blt hb2 (by first | (simp; done) | (simp; omega) | omega)
        go_wp2
        go_ret
        refine ⟨?_, ?_⟩
        · first
          | exact ret_bool hv.out.symm
          | exact ret_bool (by rw [hv.out]; simp; omega)
        · repeat (first | (with_reducible exact Below.refl _ _) | (with_reducible assumption) | (with_reducible refine below_al ?_ _) | (with_reducible refine Below.drew ?_) | (with_reducible refine below_drewN ?_ _) | (with_reducible refine below_st ?_ ?_ _) | (with_reducible refine below_tr ?_ (by assumption)) | (with_reducible exact Nat.le_refl _) | (focus (simp; done)) | (focus (simp; omega)))
end Go.Proofs.Ytbdihgcjopbnjaa
