/-
  RatioCmp of the reference: fractions compared by continued remainders.
  Conditions: the numbers are ints of the machine.
-/
import Derived.Test.YtbdihgcjopbnjaaCmp2
namespace Go.Proofs.Ytbdihgcjopbnjaa
open Go.RowKit

theorem step_lt {A B C D : Int} (hB : 0 < B) (hD : 0 < D) (h : A / B < C / D) : cmpF A B C D = -1 := by
  apply sgn_of_neg
  have h1 := Int.emod_lt_of_pos A hB
  have h2 := Int.mul_ediv_add_emod A B
  have h3 := Int.emod_nonneg C (show D ≠ 0 by omega)
  have h4 := Int.mul_ediv_add_emod C D
  have h5 : A < B * (C / D) := by
    have : B * (A / B + 1) ≤ B * (C / D) := Int.mul_le_mul_of_nonneg_left (by omega) (by omega)
    rw [Int.mul_add, Int.mul_one] at this; omega
  have h6 : A * D < B * (C / D) * D := Int.mul_lt_mul_of_pos_right h5 hD
  have h7 : D * (C / D) * B ≤ C * B := Int.mul_le_mul_of_nonneg_right (by omega) (by omega)
  have h8 : B * (C / D) * D = D * (C / D) * B := by rw [Int.mul_comm (B * (C / D)) D, Int.mul_comm B (C / D), ← Int.mul_assoc]
  omega
theorem cmpF_swap (A B C D : Int) : cmpF C D A B = -cmpF A B C D := by
  unfold cmpF; rw [← sgn_neg]; congr 1; omega
theorem step_gt {A B C D : Int} (hB : 0 < B) (hD : 0 < D) (h : C / D < A / B) : cmpF A B C D = 1 := by
  have := step_lt hD hB h
  rw [cmpF_swap] at this; omega
theorem step_sub {A B C D : Int} (h : A / B = C / D) : cmpF A B C D = cmpF (A - A / B * B) B (C - C / D * D) D := by
  unfold cmpF
  congr 1
  rw [Int.sub_mul, Int.sub_mul, h]
  have : C / D * B * D = C / D * D * B := by rw [Int.mul_assoc, Int.mul_assoc, Int.mul_comm B D]
  omega
theorem step_turn (A B C D : Int) : cmpF A B C D = -cmpF B A D C := by
  unfold cmpF; rw [← sgn_neg]; congr 1; rw [Int.mul_comm B C, Int.mul_comm D A]; omega
theorem sub_mod (A B : Int) : A - A / B * B = A % B := by
  have := Int.mul_ediv_add_emod A B
  rw [Int.mul_comm] at this; omega
theorem cmpF_00 {B D : Int} : cmpF 0 B 0 D = 0 := by unfold cmpF; rw [Int.zero_mul, Int.zero_mul]; rfl
theorem cmpF_0p {B Y D : Int} (hB : 0 < B) (h : 0 < Y) : cmpF 0 B Y D = -1 := by
  apply sgn_of_neg; have := Int.mul_pos h hB; rw [Int.zero_mul]; omega
theorem cmpF_p0 {X B D : Int} (hD : 0 < D) (h : 0 < X) : cmpF X B 0 D = 1 := by
  apply sgn_of_pos; have := Int.mul_pos h hD; rw [Int.zero_mul]; omega

set_option maxHeartbeats 4000000 in
theorem sRatioCmp_c (r s : Ratio) (w : World) (hr : r.In) (hs : s.In) :
    Calls Try.prog 155 #[ratioV r, ratioV s] w fun e w' => e = .returned (.int .i64 (ratioCmp r s)) ∧ Below w.heap.size w w' := by
  have c0 := fun W => sRatioOk_c r W hr
  have c1 := fun W => sRatioOk_c s W hs
  cases e0 : ratioOk r
  · rw [e0] at c0
    go_enter Try.func155, Try.ntmps155
    go_wp2_with (fail)
    refine (c0 _).mono ?_
    rintro e w0 ⟨rfl, hb0⟩
    go_wp2
    go_ret
    refine ⟨ret_int (by simp [ratioCmp, e0]), ?_⟩
    repeat (first | (with_reducible exact Below.refl _ _) | (with_reducible assumption) | (with_reducible refine below_al ?_ _) | (with_reducible refine Below.drew ?_) | (with_reducible refine below_drewN ?_ _) | (with_reducible refine below_st ?_ ?_ _) | (with_reducible refine below_tr ?_ (by assumption)) | (with_reducible exact Nat.le_refl _) | (focus (simp; done)) | (focus (simp; omega)))
  · rw [e0] at c0
    cases e1 : ratioOk s
    · rw [e1] at c1
      go_enter Try.func155, Try.ntmps155
      go_wp2_with (fail)
      refine (c0 _).mono ?_
      rintro e w0 ⟨rfl, hb0⟩
      have r0 := bcell1 hb0
      have l0 : w.heap.size < w0.heap.size := blt hb0 (by first | (simp; done) | (simp; omega) | omega)
      have m0 : w.heap.size + 1 < w0.heap.size := blt hb0 (by first | (simp; done) | (simp; omega) | omega)
      go_wp2_with (fail)
      refine (c1 _).mono ?_
      rintro e w1 ⟨rfl, hb1⟩
      go_wp2
      go_ret
      refine ⟨ret_int (by simp [ratioCmp, e1]), ?_⟩
      repeat (first | (with_reducible exact Below.refl _ _) | (with_reducible assumption) | (with_reducible refine below_al ?_ _) | (with_reducible refine Below.drew ?_) | (with_reducible refine below_drewN ?_ _) | (with_reducible refine below_st ?_ ?_ _) | (with_reducible refine below_tr ?_ (by assumption)) | (with_reducible exact Nat.le_refl _) | (focus (simp; done)) | (focus (simp; omega)))
    · rw [e1] at c1
      have hv := Lib.hid (show ratioCmp r s = cmpF r.n r.d s.n s.d by simp [ratioCmp, e0, e1])
      obtain ⟨⟨b1, b2⟩, b3, b4⟩ := ratioOk_bd e0
      obtain ⟨⟨d1, d2⟩, d3, d4⟩ := ratioOk_bd e1
      clear e0 e1
      go_enter Try.func155, Try.ntmps155
      go_wp2_with (fail)
      refine (c0 _).mono ?_
      rintro e w0 ⟨rfl, hb0⟩
      have r0 := bcell1 hb0
      have l0 : w.heap.size < w0.heap.size := blt hb0 (by first | (simp; done) | (simp; omega) | omega)
      have m0 : w.heap.size + 1 < w0.heap.size := blt hb0 (by first | (simp; done) | (simp; omega) | omega)
      go_wp2_with (fail)
      refine (c1 _).mono ?_
      rintro e w1 ⟨rfl, hb1⟩
      have r1 := bcell1 hb1
      have l1 : w.heap.size < w1.heap.size := blt hb1 (by first | (simp; done) | (simp; omega) | omega)
      have m1 : w.heap.size + 1 < w1.heap.size := blt hb1 (by first | (simp; done) | (simp; omega) | omega)
      go_wp2
      have hbs : Below w.heap.size w w1 := by
        repeat (first | (with_reducible exact Below.refl _ _) | (with_reducible assumption) | (with_reducible refine below_al ?_ _) | (with_reducible refine Below.drew ?_) | (with_reducible refine below_drewN ?_ _) | (with_reducible refine below_st ?_ ?_ _) | (with_reducible refine below_tr ?_ (by assumption)) | (with_reducible exact Nat.le_refl _) | (focus (simp; done)) | (focus (simp; omega)))
      clear r0 r1 l0 m0 l1 m1 hb0 hb1 c0 c1
      go_loopw [5, 6, 7, 8, 9] (fun a b c d g wr => ∃ A B C D G : Int, a = .int .i64 A ∧ b = .int .i64 B ∧ c = .int .i64 C ∧ d = .int .i64 D ∧ g = .int .i64 G ∧ (-1000000000000000000 ≤ A ∧ A ≤ 1000000000000000000) ∧ (0 < B ∧ B ≤ 1000000000000000) ∧ (-1000000000000000000 ≤ C ∧ C ≤ 1000000000000000000) ∧ (0 < D ∧ D ≤ 1000000000000000) ∧ (-1 ≤ G ∧ G ≤ 1) ∧ Hid (ratioCmp r s = G * cmpF A B C D) ∧ Below w.heap.size w wr) (fun _ b _ _ _ _ => (intOf b).toNat)
      case atStart => exact ⟨_, _, _, _, 1, rfl, rfl, rfl, rfl, rfl, ⟨b3, b4⟩, ⟨by omega, b2⟩, ⟨d3, d4⟩, ⟨by omega, d2⟩, by omega, hv.out.trans (by rw [Int.one_mul]), hbs⟩
      case round =>
        obtain ⟨A, B, C, D, G, rfl, rfl, rfl, rfl, rfl, ⟨A1, A2⟩, ⟨B1, B2⟩, ⟨C1, C2⟩, ⟨D1, D2⟩, ⟨G1, G2⟩, hval, hbw⟩ := hrel
        clear hv hbs
        have f1 := fun W => l02Floor_c A B W (by omega) (by omega) (by omega) (by omega)
        have f2 := fun W => l02Floor_c C D W (by omega) (by omega) (by omega) (by omega)
        obtain ⟨p1, p2⟩ := floor_le (n := A) (d := B) B1 1000000000000000000 (by omega) (by omega) (by omega)
        obtain ⟨q1, q2⟩ := floor_le (n := C) (d := D) D1 1000000000000000000 (by omega) (by omega) (by omega)
        have SA := sub_mod A B
        have SC := sub_mod C D
        have M1 := Int.emod_nonneg A (show B ≠ 0 by omega)
        have M2 := Int.emod_lt_of_pos A B1
        have M3 := Int.emod_nonneg C (show D ≠ 0 by omega)
        have M4 := Int.emod_lt_of_pos C D1
        have LT := Lib.hid (fun h => @step_lt A B C D B1 D1 h)
        have GT := Lib.hid (fun h => @step_gt A B C D B1 D1 h)
        have EQ := Lib.hid (fun h => @step_sub A B C D h)
        obtain ⟨RB1, RB2⟩ : 0 ≤ A - A / B * B ∧ A - A / B * B < B := by omega
        obtain ⟨RD1, RD2⟩ : 0 ≤ C - C / D * D ∧ C - C / D * D < D := by omega
        obtain ⟨PA1, PA2⟩ : -1001000000000000000 ≤ A / B * B ∧ A / B * B ≤ 1001000000000000000 := by omega
        obtain ⟨PC1, PC2⟩ : -1001000000000000000 ≤ C / D * D ∧ C / D * D ≤ 1001000000000000000 := by omega
        clear SA SC M1 M2 M3 M4
        generalize A / B = p at *
        generalize C / D = q at *
        by_cases hlt : p < q
        · have hfin : Hid (ratioCmp r s = -G) := hval.out.trans (by rw [LT.out hlt]; omega)
          have hne : (p != q) = true := by simp; omega
          clear hval LT GT EQ
          go_wp2_with (fail)
          refine (f1 _).mono ?_
          rintro e w' ⟨rfl, n1, rfl⟩
          go_wp2_with (fail)
          refine (f2 _).mono ?_
          rintro e w' ⟨rfl, n2, rfl⟩
          go_wp2
          go_ret
          refine ⟨ret_int hfin.out.symm, ?_⟩
          repeat (first | (with_reducible exact Below.refl _ _) | (with_reducible assumption) | (with_reducible refine below_al ?_ _) | (with_reducible refine Below.drew ?_) | (with_reducible refine below_drewN ?_ _) | (with_reducible refine below_st ?_ ?_ _) | (with_reducible refine below_tr ?_ (by assumption)) | (with_reducible exact Nat.le_refl _) | (focus (simp; done)) | (focus (simp; omega)))
        · by_cases hgt : q < p
          · have hfin : Hid (ratioCmp r s = G) := hval.out.trans (by rw [GT.out hgt]; omega)
            have hne : (p != q) = true := by simp; omega
            clear hval LT GT EQ
            go_wp2_with (fail)
            refine (f1 _).mono ?_
            rintro e w' ⟨rfl, n1, rfl⟩
            go_wp2_with (fail)
            refine (f2 _).mono ?_
            rintro e w' ⟨rfl, n2, rfl⟩
            go_wp2
            go_ret
            refine ⟨ret_int hfin.out.symm, ?_⟩
            repeat (first | (with_reducible exact Below.refl _ _) | (with_reducible assumption) | (with_reducible refine below_al ?_ _) | (with_reducible refine Below.drew ?_) | (with_reducible refine below_drewN ?_ _) | (with_reducible refine below_st ?_ ?_ _) | (with_reducible refine below_tr ?_ (by assumption)) | (with_reducible exact Nat.le_refl _) | (focus (simp; done)) | (focus (simp; omega)))
          · obtain rfl : p = q := by omega
            have hval2 : Hid (ratioCmp r s = G * cmpF (A - p * B) B (C - p * D) D) := hval.out.trans (by rw [EQ.out rfl])
            have TU := Lib.hid (step_turn (A - p * B) B (C - p * D) D)
            clear hval LT GT EQ hlt hgt
            by_cases x0 : A - p * B = 0
            · by_cases y0 : C - p * D = 0
              · have hfin : Hid (ratioCmp r s = 0) := hval2.out.trans (by rw [x0, y0, cmpF_00]; omega)
                clear hval2 TU
                go_wp2_with (fail)
                refine (f1 _).mono ?_
                rintro e w' ⟨rfl, n1, rfl⟩
                go_wp2_with (fail)
                refine (f2 _).mono ?_
                rintro e w' ⟨rfl, n2, rfl⟩
                go_wp2
                go_ret
                refine ⟨ret_int hfin.out.symm, ?_⟩
                repeat (first | (with_reducible exact Below.refl _ _) | (with_reducible assumption) | (with_reducible refine below_al ?_ _) | (with_reducible refine Below.drew ?_) | (with_reducible refine below_drewN ?_ _) | (with_reducible refine below_st ?_ ?_ _) | (with_reducible refine below_tr ?_ (by assumption)) | (with_reducible exact Nat.le_refl _) | (focus (simp; done)) | (focus (simp; omega)))
              · have hfin : Hid (ratioCmp r s = -G) := hval2.out.trans (by rw [x0, cmpF_0p B1 (by omega)]; omega)
                have y1 : ((C - p * D : Int) == 0) = false := by simpa using y0
                clear hval2 TU
                go_wp2_with (fail)
                refine (f1 _).mono ?_
                rintro e w' ⟨rfl, n1, rfl⟩
                go_wp2_with (fail)
                refine (f2 _).mono ?_
                rintro e w' ⟨rfl, n2, rfl⟩
                go_wp2
                go_ret
                refine ⟨ret_int hfin.out.symm, ?_⟩
                repeat (first | (with_reducible exact Below.refl _ _) | (with_reducible assumption) | (with_reducible refine below_al ?_ _) | (with_reducible refine Below.drew ?_) | (with_reducible refine below_drewN ?_ _) | (with_reducible refine below_st ?_ ?_ _) | (with_reducible refine below_tr ?_ (by assumption)) | (with_reducible exact Nat.le_refl _) | (focus (simp; done)) | (focus (simp; omega)))
            · have x1 : ((A - p * B : Int) == 0) = false := by simpa using x0
              by_cases y0 : C - p * D = 0
              · have hfin : Hid (ratioCmp r s = G) := hval2.out.trans (by rw [y0, cmpF_p0 D1 (by omega)]; omega)
                clear hval2 TU
                go_wp2_with (fail)
                refine (f1 _).mono ?_
                rintro e w' ⟨rfl, n1, rfl⟩
                go_wp2_with (fail)
                refine (f2 _).mono ?_
                rintro e w' ⟨rfl, n2, rfl⟩
                go_wp2
                go_ret
                refine ⟨ret_int hfin.out.symm, ?_⟩
                repeat (first | (with_reducible exact Below.refl _ _) | (with_reducible assumption) | (with_reducible refine below_al ?_ _) | (with_reducible refine Below.drew ?_) | (with_reducible refine below_drewN ?_ _) | (with_reducible refine below_st ?_ ?_ _) | (with_reducible refine below_tr ?_ (by assumption)) | (with_reducible exact Nat.le_refl _) | (focus (simp; done)) | (focus (simp; omega)))
              · have hfin : Hid (ratioCmp r s = -G * cmpF B (A - p * B) D (C - p * D)) := hval2.out.trans (by rw [TU.out, Int.mul_neg, Int.neg_mul])
                have y1 : ((C - p * D : Int) == 0) = false := by simpa using y0
                clear hval2 TU
                go_wp2_with (fail)
                refine (f1 _).mono ?_
                rintro e w' ⟨rfl, n1, rfl⟩
                go_wp2_with (fail)
                refine (f2 _).mono ?_
                rintro e w' ⟨rfl, n2, rfl⟩
                go_wp2
                go_roundw
                case rel =>
                  refine ⟨_, _, _, _, _, rfl, rfl, rfl, rfl, rfl, ⟨by omega, by omega⟩, ⟨by omega, by omega⟩, ⟨by omega, by omega⟩, ⟨by omega, by omega⟩, ⟨by omega, by omega⟩, hfin, ?_⟩
                  repeat (first | (with_reducible exact Below.refl _ _) | (with_reducible assumption) | (with_reducible refine below_al ?_ _) | (with_reducible refine Below.drew ?_) | (with_reducible refine below_drewN ?_ _) | (with_reducible refine below_st ?_ ?_ _) | (with_reducible refine below_tr ?_ (by assumption)) | (with_reducible exact Nat.le_refl _) | (focus (simp; done)) | (focus (simp; omega)))
                case measure => simp [intOf]; omega
end Go.Proofs.Ytbdihgcjopbnjaa
