/-
  IsConsistent of the reference.
  Conditions: the slice reads as a list of at most 2^20 records.
-/
import Derived.Test.YtelkcmchokajaaaErr4
namespace Go.Proofs.Ytelkcmchokajaaa
open Go.RowKit

theorem sgn_le {x : Int} : sgn x ≤ 0 ↔ x ≤ 0 := by unfold sgn; split <;> (try split) <;> omega
theorem consCmp {m d e : Int} (hm : 0 ≤ m ∧ m ≤ 2100000000) (hd : 1 ≤ d ∧ d ≤ 1000) (he : 0 ≤ e ∧ e ≤ 1000) : decide (ratioCmp (ratioOf m (100 * d)) (ratioOf e 1) ≤ 0) = decide (m ≤ 100 * e * d) := by
  rw [ratioCmp_of ⟨by omega, by omega⟩ ⟨by omega, by omega⟩ ⟨by omega, by omega⟩ ⟨by omega, by omega⟩]
  unfold cmpF
  have h : e * (100 * d) = 100 * e * d := by rw [← Int.mul_assoc, Int.mul_comm e 100]
  rw [Int.mul_one, h]
  rw [Bool.eq_iff_iff, decide_eq_true_eq, decide_eq_true_eq, sgn_le]
  omega
set_option maxRecDepth 100000 in
set_option maxHeartbeats 4000000 in
theorem sIsConsistent_c (A : Option Addr) (xs : List Record) (cap : Nat) (err : Int) (s : Spot) (w : World) (hin : s.In) (hn : xs.length ≤ 1048576) (hs : Sl 3 recordC w A xs) :
    Calls Try.prog 38 #[.slice A xs.length cap, .int .i64 err, spotV s] w fun e w' => e = .returned (.bool (isConsistent xs err s)) ∧ Below w.heap.size w w' := by
  have c0 := fun W h => sLeastError_c A xs cap s W hin hn h
  have c1 := fun W => l01In_c err 0 1000 W
  cases e0 : leastOk xs s
  · have h1 := Lib.hid (show isConsistent xs err s = false by simp [isConsistent, e0])
    rw [e0] at c0
    generalize leastError xs s = R at *
    go_enter Try.func38, Try.ntmps38
    go_wp2_with (fail)
    refine (c0 _ (Sl.below hs (by (repeat (first | (with_reducible exact Below.refl _ _) | (with_reducible assumption) | (with_reducible refine below_al ?_ _) | (with_reducible refine Below.drew ?_) | (with_reducible refine below_drewN ?_ _) | (with_reducible refine below_st ?_ ?_ _) | (with_reducible refine below_tr ?_ (by assumption)) | (with_reducible exact Nat.le_refl _) | (focus (simp; done)) | (focus (simp; omega))))))).mono ?_
    rintro e w1 ⟨rfl, hb1⟩
    go_upto_region 2 with fail
    go_big_quiet (fail)
    go_wp2
    go_ret
    refine ⟨ret_bool h1.out.symm, ?_⟩
    repeat (first | (with_reducible exact Below.refl _ _) | (with_reducible assumption) | (with_reducible refine below_al ?_ _) | (with_reducible refine Below.drew ?_) | (with_reducible refine below_drewN ?_ _) | (with_reducible refine below_st ?_ ?_ _) | (with_reducible refine below_tr ?_ (by assumption)) | (with_reducible exact Nat.le_refl _) | (focus (simp; done)) | (focus (simp; omega)))
  · cases e1 : inR err 0 1000
    · have h1 := Lib.hid (show isConsistent xs err s = false by simp [isConsistent, e1])
      rw [e0] at c0
      clear c1
      generalize leastError xs s = R at *
      go_enter Try.func38, Try.ntmps38
      go_wp2_with (fail)
      refine (c0 _ (Sl.below hs (by (repeat (first | (with_reducible exact Below.refl _ _) | (with_reducible assumption) | (with_reducible refine below_al ?_ _) | (with_reducible refine Below.drew ?_) | (with_reducible refine below_drewN ?_ _) | (with_reducible refine below_st ?_ ?_ _) | (with_reducible refine below_tr ?_ (by assumption)) | (with_reducible exact Nat.le_refl _) | (focus (simp; done)) | (focus (simp; omega))))))).mono ?_
      rintro e w1 ⟨rfl, hb1⟩
      go_upto_region 2 with fail
      go_big_quiet ((go_at_call 73; exact quiet_l (l01In_v _ _ _ _ (by assumption) _)))
      go_wp2
      go_ret
      refine ⟨ret_bool h1.out.symm, ?_⟩
      repeat (first | (with_reducible exact Below.refl _ _) | (with_reducible assumption) | (with_reducible refine below_al ?_ _) | (with_reducible refine Below.drew ?_) | (with_reducible refine below_drewN ?_ _) | (with_reducible refine below_st ?_ ?_ _) | (with_reducible refine below_tr ?_ (by assumption)) | (with_reducible exact Nat.le_refl _) | (focus (simp; done)) | (focus (simp; omega)))
    · have hlo := e0
      simp only [leastOk, Bool.and_eq_true] at hlo
      obtain ⟨hd, _, _⟩ := parB hlo.2
      have he := inR_iff.1 e1
      have hm := maxDist_bd xs (leastOk_dis hlo.1 hlo.2)
      have hle : leastError xs s = ratioOf (maxDist xs s) (100 * s.d) := by simp [leastError, e0]
      have h1 := Lib.hid (show isConsistent xs err s = decide (ratioCmp (ratioOf (maxDist xs s) (100 * s.d)) (ratioOf err 1) ≤ 0) by rw [consCmp hm hd he]; simp [isConsistent, e0, e1])
      have i1 := ratioOf_in (n := maxDist xs s) (d := 100 * s.d) ⟨by omega, by omega⟩ ⟨by omega, by omega⟩
      have i2 := ratioOf_in (n := err) (d := 1) ⟨by omega, by omega⟩ ⟨by omega, by omega⟩
      have c2 := fun W => sRatioOf_c err 1 W ⟨by omega, by omega⟩ ⟨by decide, by decide⟩
      rw [e0, hle] at c0
      rw [e1] at c1
      have c3 := fun W => sRatioCmp_c (ratioOf (maxDist xs s) (100 * s.d)) (ratioOf err 1) W i1 i2
      obtain ⟨bd1, bd2⟩ := ratioCmp_bd (ratioOf (maxDist xs s) (100 * s.d)) (ratioOf err 1)
      clear hlo hm hle e0 e1 i1 i2 he
      generalize ratioCmp (ratioOf (maxDist xs s) (100 * s.d)) (ratioOf err 1) = q at *
      generalize ratioOf (maxDist xs s) (100 * s.d) = R at *
      generalize ratioOf err 1 = E at *
      go_enter Try.func38, Try.ntmps38
      go_wp2_with (fail)
      refine (c0 _ (Sl.below hs (by (repeat (first | (with_reducible exact Below.refl _ _) | (with_reducible assumption) | (with_reducible refine below_al ?_ _) | (with_reducible refine Below.drew ?_) | (with_reducible refine below_drewN ?_ _) | (with_reducible refine below_st ?_ ?_ _) | (with_reducible refine below_tr ?_ (by assumption)) | (with_reducible exact Nat.le_refl _) | (focus (simp; done)) | (focus (simp; omega))))))).mono ?_
      rintro e w1 ⟨rfl, hb1⟩
      go_upto_region 2 with fail
      go_region_held3 (fun w' => (∀ b o, b < w1.heap.size + 1 → w'.cell? ⟨b, o, none⟩ = (w1.alloc (.cells #[.int .i64 R.n, .int .i64 R.d] 74)).cell? ⟨b, o, none⟩) ∧ w1.heap.size + 1 ≤ w'.heap.size) (first | exact ⟨fun _ _ _ => rfl, by simp⟩ | assumption | exact kq_step2 (by assumption) (by assumption))
        (first
          | (go_at_call 73; go_must (refine (c1 _).mono ?_; rintro e w' ⟨rfl, rfl⟩))
          | (go_at_call 88; go_must (refine (c2 _).mono ?_; rintro e w2 ⟨rfl, hb2⟩))
          | (go_at_call 87; go_must (refine (c3 _).mono ?_; rintro e w3 ⟨rfl, hb3⟩)))
      go_wp2
      go_ret
      refine ⟨ret_bool h1.out.symm, ?_⟩
      repeat (first | (with_reducible exact Below.refl _ _) | (with_reducible assumption) | (with_reducible refine below_al ?_ _) | (with_reducible refine Below.drew ?_) | (with_reducible refine below_drewN ?_ _) | (with_reducible refine below_st ?_ ?_ _) | (with_reducible refine below_tr ?_ (by assumption)) | (with_reducible exact Nat.le_refl _) | (focus (simp; done)) | (focus (simp; omega)))
end Go.Proofs.Ytelkcmchokajaaa
