/-
  What the functions on fractions, spots, half planes and pieces return.
  Conditions: the numbers are ints of the machine.
-/
import Derived.Test.YtbdihgcjopbnjaaNum
import Derived.Test.YtbdihgcjopbnjaaMath2
namespace Go.Proofs.Ytbdihgcjopbnjaa
open Go.RowKit

theorem quiet_l {P : Program} {f : FuncId} {args : Array Value} {w : World} {n : Nat} {v : Value}
    (h : Calls P f args (w.drewN n) fun e w' => e = .returned v ∧ w.drewN n = w') : Calls P f args (w.drewN n) fun e w'' => e = .returned v ∧ ∃ m, w'' = w.drewN m :=
  h.mono fun _ _ ⟨he, hm⟩ => ⟨he, n, hm.symm⟩
theorem quiet_n {P : Program} {f : FuncId} {args : Array Value} {w : World} {n : Nat} {v : Value}
    (h : Calls P f args (w.drewN n) fun e w' => e = .returned v ∧ ∃ m, w' = (w.drewN n).drewN m) : Calls P f args (w.drewN n) fun e w'' => e = .returned v ∧ ∃ m, w'' = w.drewN m :=
  h.mono fun _ _ ⟨he, m, hm⟩ => ⟨he, n + m, by rw [hm, World.drewN_drewN]⟩

theorem l01In_v (a b c : Int) (v : Bool) (h : inR a b c = v) (w : World) :
    Calls Try.prog 78 #[.int .i64 a, .int .i64 b, .int .i64 c] w fun e w' => e = .returned (.bool v) ∧ w = w' := by
  rw [← h]; exact l01In_c a b c w

theorem inRange_v (a b c : Int) (v : Bool) (h : inR a b c = v) (w : World) :
    Calls Try.prog 112 #[.int .i64 a, .int .i64 b, .int .i64 c] w fun e w' => e = .returned (.bool v) ∧ w = w' := by
  rw [← h]; exact inRange_c a b c w

theorem isLeast_v (a : Int) (v : Bool) (h : isMin a = v) (ha : In64 a) (w : World) :
    Calls Try.prog 118 #[.int .i64 a] w fun e w' => e = .returned (.bool v) ∧ w = w' := by
  rw [← h]; exact isLeast_c a w ha

theorem iRatioOk_c (r : Ratio) (w : World) (hr : r.In) :
    Calls Try.prog 94 #[ratioV r] w fun e w' => e = .returned (.bool (ratioOk r)) ∧ Below w.heap.size w w' := by
  obtain ⟨h1, h2⟩ := hr
  cases e1 : inR r.d 1 1000000000000000
  · go_enter Try.func94, Try.ntmps94
    go_wp2_with (first | (go_at_call 112; refine (inRange_c _ _ _ _).mono ?_; rintro e w' ⟨rfl, rfl⟩))
    go_ret
    refine ⟨ret_bool (by simp [ratioOk, e1]), ?_⟩
    repeat (first | (with_reducible exact Below.refl _ _) | (with_reducible assumption) | (with_reducible refine below_al ?_ _) | (with_reducible refine Below.drew ?_) | (with_reducible refine below_drewN ?_ _) | (with_reducible refine below_st ?_ ?_ _) | (with_reducible refine below_tr ?_ (by assumption)) | (with_reducible exact Nat.le_refl _) | (focus (simp; done)) | (focus (simp; omega)))
  · cases e2 : inR r.n (-1000000000000000000) 1000000000000000000
    · go_enter Try.func94, Try.ntmps94
      go_wp2_with (first | (go_at_call 112; refine (inRange_c _ _ _ _).mono ?_; rintro e w' ⟨rfl, rfl⟩))
      go_ret
      refine ⟨ret_bool (by simp [ratioOk, e1, e2]), ?_⟩
      repeat (first | (with_reducible exact Below.refl _ _) | (with_reducible assumption) | (with_reducible refine below_al ?_ _) | (with_reducible refine Below.drew ?_) | (with_reducible refine below_drewN ?_ _) | (with_reducible refine below_st ?_ ?_ _) | (with_reducible refine below_tr ?_ (by assumption)) | (with_reducible exact Nat.le_refl _) | (focus (simp; done)) | (focus (simp; omega)))
    · cases e3 : (gcdOf r.n r.d == 1)
      all_goals
        go_enter Try.func94, Try.ntmps94
        go_wp2_with (go_at_call 112; refine (inRange_c _ _ _ _).mono ?_; rintro e w' ⟨rfl, rfl⟩)
        refine (iGcdOf_c _ _ _ h1 h2).mono ?_
        rintro e w1 ⟨rfl, hb1⟩
        go_wp2
        go_ret
        refine ⟨ret_bool (by rw [Bool.eq_iff_iff]; simp [ratioOk, e1, e2] at e3 ⊢; exact e3), ?_⟩
        exact below_tr (below_al (Below.refl _ _) _) hb1

theorem sRatioOk_c (r : Ratio) (w : World) (hr : r.In) :
    Calls Try.prog 89 #[ratioV r] w fun e w' => e = .returned (.bool (ratioOk r)) ∧ Below w.heap.size w w' := by
  obtain ⟨h1, h2⟩ := hr
  cases e1 : inR r.d 1 1000000000000000
  · go_enter Try.func89, Try.ntmps89
    go_wp2_with (first | (go_at_call 78; refine (l01In_c _ _ _ _).mono ?_; rintro e w' ⟨rfl, rfl⟩))
    go_ret
    refine ⟨ret_bool (by simp [ratioOk, e1]), ?_⟩
    repeat (first | (with_reducible exact Below.refl _ _) | (with_reducible assumption) | (with_reducible refine below_al ?_ _) | (with_reducible refine Below.drew ?_) | (with_reducible refine below_drewN ?_ _) | (with_reducible refine below_st ?_ ?_ _) | (with_reducible refine below_tr ?_ (by assumption)) | (with_reducible exact Nat.le_refl _) | (focus (simp; done)) | (focus (simp; omega)))
  · cases e2 : inR r.n (-1000000000000000000) 1000000000000000000
    · go_enter Try.func89, Try.ntmps89
      go_wp2_with (first | (go_at_call 78; refine (l01In_c _ _ _ _).mono ?_; rintro e w' ⟨rfl, rfl⟩))
      go_ret
      refine ⟨ret_bool (by simp [ratioOk, e1, e2]), ?_⟩
      repeat (first | (with_reducible exact Below.refl _ _) | (with_reducible assumption) | (with_reducible refine below_al ?_ _) | (with_reducible refine Below.drew ?_) | (with_reducible refine below_drewN ?_ _) | (with_reducible refine below_st ?_ ?_ _) | (with_reducible refine below_tr ?_ (by assumption)) | (with_reducible exact Nat.le_refl _) | (focus (simp; done)) | (focus (simp; omega)))
    · cases e3 : (gcdOf r.n r.d == 1)
      all_goals
        go_enter Try.func89, Try.ntmps89
        go_wp2_with (go_at_call 78; refine (l01In_c _ _ _ _).mono ?_; rintro e w' ⟨rfl, rfl⟩)
        refine (sGcdOf_q _ _ _ h1 h2).mono ?_
        rintro e w1 ⟨rfl, nd, rfl⟩
        go_wp2
        go_ret
        refine ⟨ret_bool (by rw [Bool.eq_iff_iff]; simp [ratioOk, e1, e2] at e3 ⊢; exact e3), ?_⟩
        exact below_drewN (below_al (Below.refl _ _) _) _

theorem iSpotOk_c (s : Spot) (w : World) (hs : s.In) :
    Calls Try.prog 104 #[spotV s] w fun e w' => e = .returned (.bool (spotOk s)) ∧ Below w.heap.size w w' := by
  cases e1 : inR s.d 1 5000000000
  · go_enter Try.func104, Try.ntmps104
    go_wp2_with (first | (go_at_call 112; refine (inRange_c _ _ _ _).mono ?_; rintro e w' ⟨rfl, rfl⟩))
    go_ret
    refine ⟨ret_bool (by simp [spotOk, e1]), ?_⟩
    repeat (first | (with_reducible exact Below.refl _ _) | (with_reducible assumption) | (with_reducible refine below_al ?_ _) | (with_reducible refine Below.drew ?_) | (with_reducible refine below_drewN ?_ _) | (with_reducible refine below_st ?_ ?_ _) | (with_reducible refine below_tr ?_ (by assumption)) | (with_reducible exact Nat.le_refl _) | (focus (simp; done)) | (focus (simp; omega)))
  · obtain ⟨d1, d2⟩ := inR_iff.1 e1
    cases e2 : inR s.x (-1000 * s.d) (1000 * s.d)
    · go_enter Try.func104, Try.ntmps104
      go_wp2_with (first | (go_at_call 112; refine (inRange_c _ _ _ _).mono ?_; rintro e w' ⟨rfl, rfl⟩))
      go_ret
      refine ⟨ret_bool (by simp [spotOk, e1, e2]), ?_⟩
      repeat (first | (with_reducible exact Below.refl _ _) | (with_reducible assumption) | (with_reducible refine below_al ?_ _) | (with_reducible refine Below.drew ?_) | (with_reducible refine below_drewN ?_ _) | (with_reducible refine below_st ?_ ?_ _) | (with_reducible refine below_tr ?_ (by assumption)) | (with_reducible exact Nat.le_refl _) | (focus (simp; done)) | (focus (simp; omega)))
    · cases e3 : inR s.y (-1000 * s.d) (1000 * s.d)
      · go_enter Try.func104, Try.ntmps104
        go_wp2_with (first | (go_at_call 112; refine (inRange_c _ _ _ _).mono ?_; rintro e w' ⟨rfl, rfl⟩))
        go_ret
        refine ⟨ret_bool (by simp [spotOk, e1, e2, e3]), ?_⟩
        repeat (first | (with_reducible exact Below.refl _ _) | (with_reducible assumption) | (with_reducible refine below_al ?_ _) | (with_reducible refine Below.drew ?_) | (with_reducible refine below_drewN ?_ _) | (with_reducible refine below_st ?_ ?_ _) | (with_reducible refine below_tr ?_ (by assumption)) | (with_reducible exact Nat.le_refl _) | (focus (simp; done)) | (focus (simp; omega)))
      · have hall : ∀ n ∈ [s.x, s.y, s.d], In64 n := by simpa [Spot.In] using hs
        have hfin : Hid (spotOk s = decide (gcdAll [s.x, s.y, s.d] = 1)) := by simp [Hid, spotOk, e1, e2, e3]
        have hg := gcdOfAll_c (some ⟨w.heap.size + 1, 0, none⟩) [s.x, s.y, s.d] 3 _ (by simp) hall (sl_new_at (T := 3) intC_len (w.alloc (.cells #[.int .i64 s.x, .int .i64 s.y, .int .i64 s.d] 65)) [s.x, s.y, s.d] #[.int .i64 s.x, .int .i64 s.y, .int .i64 s.d] rfl (by simp))
        have hle := gcdAll_le [s.x, s.y, s.d] hall
        generalize gcdAll [s.x, s.y, s.d] = G at *
        cases e4 : ((G : Int) == 1)
        all_goals
          go_enter Try.func104, Try.ntmps104
          go_wp2_with (go_at_call 112; refine (inRange_c _ _ _ _).mono ?_; rintro e w' ⟨rfl, rfl⟩)
          refine hg.mono ?_
          rintro e w1 ⟨rfl, hb1⟩
          go_wp2
          go_ret
          refine ⟨ret_bool (by rw [hfin.out, Bool.eq_iff_iff]; simp at e4 ⊢; omega), ?_⟩
          exact below_tr (below_al (below_al (Below.refl _ _) _) _) hb1

set_option maxHeartbeats 600000 in
theorem sSpotOk_c (s : Spot) (w : World) (hs : s.In) :
    Calls Try.prog 193 #[spotV s] w fun e w' => e = .returned (.bool (spotOk s)) ∧ Below w.heap.size w w' := by
  obtain ⟨h1, h2, h3⟩ := hs
  cases e1 : inR s.d 1 5000000000
  · go_enter Try.func193, Try.ntmps193
    go_wp2_with (first | (go_at_call 78; refine (l01In_c _ _ _ _).mono ?_; rintro e w' ⟨rfl, rfl⟩))
    go_ret
    refine ⟨ret_bool (by simp [spotOk, e1]), ?_⟩
    repeat (first | (with_reducible exact Below.refl _ _) | (with_reducible assumption) | (with_reducible refine below_al ?_ _) | (with_reducible refine Below.drew ?_) | (with_reducible refine below_drewN ?_ _) | (with_reducible refine below_st ?_ ?_ _) | (with_reducible refine below_tr ?_ (by assumption)) | (with_reducible exact Nat.le_refl _) | (focus (simp; done)) | (focus (simp; omega)))
  · obtain ⟨d1, d2⟩ := inR_iff.1 e1
    cases e2 : inR s.x (-(1000 * s.d)) (1000 * s.d)
    · have HW := Lib.hid (IntWalk.i64_in (-(1000 * s.d)) (by omega))
      go_enter Try.func193, Try.ntmps193
      go_wp2_with (first | (go_at_call 78; refine (l01In_c _ _ _ _).mono ?_; rintro e w' ⟨rfl, rfl⟩))
      go_big_quiet ((go_at_call 78; (try rw [HW.out]); exact quiet_l (l01In_v _ _ _ _ (by assumption) _)))
      go_wp2
      go_ret
      refine ⟨ret_bool (by rw [show -(1000 * s.d) = -1000 * s.d from by omega] at e2; simp [spotOk, e1, e2]), ?_⟩
      repeat (first | (with_reducible exact Below.refl _ _) | (with_reducible assumption) | (with_reducible refine below_al ?_ _) | (with_reducible refine Below.drew ?_) | (with_reducible refine below_drewN ?_ _) | (with_reducible refine below_st ?_ ?_ _) | (with_reducible refine below_tr ?_ (by assumption)) | (with_reducible exact Nat.le_refl _) | (focus (simp; done)) | (focus (simp; omega)))
    · cases e3 : inR s.y (-(1000 * s.d)) (1000 * s.d)
      · have HW := Lib.hid (IntWalk.i64_in (-(1000 * s.d)) (by omega))
        go_enter Try.func193, Try.ntmps193
        go_wp2_with (first | (go_at_call 78; refine (l01In_c _ _ _ _).mono ?_; rintro e w' ⟨rfl, rfl⟩))
        go_big_quiet ((go_at_call 78; (try rw [HW.out]); exact quiet_l (l01In_v _ _ _ _ (by assumption) _)))
        go_wp2
        go_ret
        refine ⟨ret_bool (by rw [show -(1000 * s.d) = -1000 * s.d from by omega] at e2 e3; simp [spotOk, e1, e2, e3]), ?_⟩
        repeat (first | (with_reducible exact Below.refl _ _) | (with_reducible assumption) | (with_reducible refine below_al ?_ _) | (with_reducible refine Below.drew ?_) | (with_reducible refine below_drewN ?_ _) | (with_reducible refine below_st ?_ ?_ _) | (with_reducible refine below_tr ?_ (by assumption)) | (with_reducible exact Nat.le_refl _) | (focus (simp; done)) | (focus (simp; omega)))
      · have hxy := gcdOf_In64 h1 h2
        obtain ⟨x1, x2⟩ := inR_iff.1 e2
        obtain ⟨y1, y2⟩ := inR_iff.1 e3
        have hfin : Hid (spotOk s = (gcdOf (gcdOf s.x s.y) s.d == 1)) := by
          have m1 := isMin_no (a := s.x) (by omega)
          have m2 := isMin_no (a := s.y) (by omega)
          have m3 := isMin_no (a := s.d) (by omega)
          have := gcdOf_in h1 h2
          have m4 := isMin_no (a := gcdOf s.x s.y) (by omega)
          show _ = _
          rw [gcdOf_no m4 m3, gcdOf_no m1 m2]
          rw [show -(1000 * s.d) = -1000 * s.d from by omega] at e2 e3
          rw [Bool.eq_iff_iff]; simp [spotOk, e1, e2, e3, gcd3]; omega
        have HW := Lib.hid (IntWalk.i64_in (-(1000 * s.d)) (by omega))
        cases e4 : (gcdOf (gcdOf s.x s.y) s.d == 1)
        all_goals
          go_enter Try.func193, Try.ntmps193
          go_wp2_with (first | (go_at_call 78; refine (l01In_c _ _ _ _).mono ?_; rintro e w' ⟨rfl, rfl⟩))
          go_big_quiet ((first | (go_at_call 78; (try rw [HW.out]); exact quiet_l (l01In_v _ _ _ _ (by assumption) _)) | (go_at_call 154; exact quiet_n (sGcdOf_q _ _ _ (by assumption) (by assumption)))))
          go_wp2
          go_ret
          refine ⟨ret_bool (by rw [hfin.out, e4]), ?_⟩
          repeat (first | (with_reducible exact Below.refl _ _) | (with_reducible assumption) | (with_reducible refine below_al ?_ _) | (with_reducible refine Below.drew ?_) | (with_reducible refine below_drewN ?_ _) | (with_reducible refine below_st ?_ ?_ _) | (with_reducible refine below_tr ?_ (by assumption)) | (with_reducible exact Nat.le_refl _) | (focus (simp; done)) | (focus (simp; omega)))

theorem isCoef_c (a : Int) (w : World) :
    Calls Try.prog 208 #[.int .i64 a] w fun e w' => e = .returned (.bool (inR a (-50000) 50000)) ∧ w = w' := by
  go_enter Try.func208, Try.ntmps208
  go_wp2_with (first | (go_at_call 112; refine (inRange_c _ _ _ _).mono ?_; rintro e w' ⟨rfl, rfl⟩))
  go_ret
  exact ⟨rfl, rfl⟩
theorem iHalfOk_c (h : Half) (w : World) (hh : h.In) :
    Calls Try.prog 174 #[halfV h] w fun e w' => e = .returned (.bool (halfOk h)) ∧ Below w.heap.size w w' := by
  cases e1 : inR h.a (-50000) 50000
  · go_enter Try.func174, Try.ntmps174
    go_wp2_with (first | (go_at_call 208; refine (isCoef_c _ _).mono ?_; rintro e w' ⟨rfl, rfl⟩))
    go_ret
    refine ⟨ret_bool (by simp [halfOk, e1]), ?_⟩
    repeat (first | (with_reducible exact Below.refl _ _) | (with_reducible assumption) | (with_reducible refine below_al ?_ _) | (with_reducible refine Below.drew ?_) | (with_reducible refine below_drewN ?_ _) | (with_reducible refine below_st ?_ ?_ _) | (with_reducible refine below_tr ?_ (by assumption)) | (with_reducible exact Nat.le_refl _) | (focus (simp; done)) | (focus (simp; omega)))
  · cases e2 : inR h.b (-50000) 50000
    · go_enter Try.func174, Try.ntmps174
      go_wp2_with (first | (go_at_call 208; refine (isCoef_c _ _).mono ?_; rintro e w' ⟨rfl, rfl⟩))
      go_ret
      refine ⟨ret_bool (by simp [halfOk, e1, e2]), ?_⟩
      repeat (first | (with_reducible exact Below.refl _ _) | (with_reducible assumption) | (with_reducible refine below_al ?_ _) | (with_reducible refine Below.drew ?_) | (with_reducible refine below_drewN ?_ _) | (with_reducible refine below_st ?_ ?_ _) | (with_reducible refine below_tr ?_ (by assumption)) | (with_reducible exact Nat.le_refl _) | (focus (simp; done)) | (focus (simp; omega)))
    · cases e3 : inR h.c (-100000000) 100000000
      · go_enter Try.func174, Try.ntmps174
        go_wp2_with (first | (go_at_call 208; refine (isCoef_c _ _).mono ?_; rintro e w' ⟨rfl, rfl⟩) | (go_at_call 112; refine (inRange_c _ _ _ _).mono ?_; rintro e w' ⟨rfl, rfl⟩))
        go_ret
        refine ⟨ret_bool (by simp [halfOk, e1, e2, e3]), ?_⟩
        repeat (first | (with_reducible exact Below.refl _ _) | (with_reducible assumption) | (with_reducible refine below_al ?_ _) | (with_reducible refine Below.drew ?_) | (with_reducible refine below_drewN ?_ _) | (with_reducible refine below_st ?_ ?_ _) | (with_reducible refine below_tr ?_ (by assumption)) | (with_reducible exact Nat.le_refl _) | (focus (simp; done)) | (focus (simp; omega)))
      · have hall : ∀ n ∈ [h.a, h.b, h.c], In64 n := by simpa [Half.In] using hh
        have hfin : Hid (halfOk h = (!(h.a == 0 && h.b == 0) && decide (gcdAll [h.a, h.b, h.c] = 1))) := by simp [Hid, halfOk, e1, e2, e3]; rfl
        have hg := gcdOfAll_c (some ⟨w.heap.size + 1, 0, none⟩) [h.a, h.b, h.c] 3 _ (by simp) hall (sl_new_at (T := 3) intC_len (w.alloc (.cells #[.int .i64 h.a, .int .i64 h.b, .int .i64 h.c] 177)) [h.a, h.b, h.c] #[.int .i64 h.a, .int .i64 h.b, .int .i64 h.c] rfl (by simp))
        have hle := gcdAll_le [h.a, h.b, h.c] hall
        generalize gcdAll [h.a, h.b, h.c] = G at *
        cases za : (h.a == 0)
        · cases e4 : ((G : Int) == 1)
          all_goals
            go_enter Try.func174, Try.ntmps174
            go_wp2_with (first | (go_at_call 208; refine (isCoef_c _ _).mono ?_; rintro e w' ⟨rfl, rfl⟩) | (go_at_call 112; refine (inRange_c _ _ _ _).mono ?_; rintro e w' ⟨rfl, rfl⟩))
            refine hg.mono ?_
            rintro e w1 ⟨rfl, hb1⟩
            go_wp2
            go_ret
            refine ⟨ret_bool (by rw [hfin.out, za, Bool.eq_iff_iff]; simp at e4 ⊢; omega), ?_⟩
            exact below_tr (below_al (below_al (Below.refl _ _) _) _) hb1
        · cases zb : (h.b == 0)
          · cases e4 : ((G : Int) == 1)
            all_goals
              go_enter Try.func174, Try.ntmps174
              go_wp2_with (first | (go_at_call 208; refine (isCoef_c _ _).mono ?_; rintro e w' ⟨rfl, rfl⟩) | (go_at_call 112; refine (inRange_c _ _ _ _).mono ?_; rintro e w' ⟨rfl, rfl⟩))
              refine hg.mono ?_
              rintro e w1 ⟨rfl, hb1⟩
              go_wp2
              go_ret
              refine ⟨ret_bool (by rw [hfin.out, za, zb, Bool.eq_iff_iff]; simp at e4 ⊢; omega), ?_⟩
              exact below_tr (below_al (below_al (Below.refl _ _) _) _) hb1
          · go_enter Try.func174, Try.ntmps174
            go_wp2_with (first | (go_at_call 208; refine (isCoef_c _ _).mono ?_; rintro e w' ⟨rfl, rfl⟩) | (go_at_call 112; refine (inRange_c _ _ _ _).mono ?_; rintro e w' ⟨rfl, rfl⟩))
            go_ret
            refine ⟨ret_bool (by rw [hfin.out, za, zb]; rfl), ?_⟩
            repeat (first | (with_reducible exact Below.refl _ _) | (with_reducible assumption) | (with_reducible refine below_al ?_ _) | (with_reducible refine Below.drew ?_) | (with_reducible refine below_drewN ?_ _) | (with_reducible refine below_st ?_ ?_ _) | (with_reducible refine below_tr ?_ (by assumption)) | (with_reducible exact Nat.le_refl _) | (focus (simp; done)) | (focus (simp; omega)))
end Go.Proofs.Ytbdihgcjopbnjaa
