/-
  What the functions on pieces return, and RatioOf.
  Conditions: the numbers are ints of the machine.
-/
import Derived.Test.YtbdihgcjopbnjaaNum3
import Derived.Deep.RegionHeld3
namespace Go.Proofs.Ytbdihgcjopbnjaa
open Go.RowKit

theorem isPart_c (a : Int) (w : World) :
    Calls Try.prog 223 #[.int .i64 a] w fun e w' => e = .returned (.bool (inR a (-1000000000000) 1000000000000)) ∧ w = w' := by
  go_enter Try.func223, Try.ntmps223
  go_wp2_with (first | (go_at_call 112; refine (inRange_c _ _ _ _).mono ?_; rintro e w' ⟨rfl, rfl⟩))
  go_ret
  exact ⟨rfl, rfl⟩
set_option maxHeartbeats 1000000 in
theorem iPieceOk_c (q : Piece) (w : World) (hq : q.In) :
    Calls Try.prog 194 #[pieceV q] w fun e w' => e = .returned (.bool (pieceOk q)) ∧ Below w.heap.size w w' := by
  cases e0 : inR q.d 1 1000000000000
  · go_enter Try.func194, Try.ntmps194
    go_wp2_with (first | (go_at_call 223; refine (isPart_c _ _).mono ?_; rintro e w' ⟨rfl, rfl⟩) | (go_at_call 112; refine (inRange_c _ _ _ _).mono ?_; rintro e w' ⟨rfl, rfl⟩))
    go_ret
    refine ⟨ret_bool (by simp [pieceOk, e0]), ?_⟩
    repeat (first | (with_reducible exact Below.refl _ _) | (with_reducible assumption) | (with_reducible refine below_al ?_ _) | (with_reducible refine Below.drew ?_) | (with_reducible refine below_drewN ?_ _) | (with_reducible refine below_st ?_ ?_ _) | (with_reducible refine below_tr ?_ (by assumption)) | (with_reducible exact Nat.le_refl _) | (focus (simp; done)) | (focus (simp; omega)))
  · cases e1 : inR q.a (-1000000000000) 1000000000000
    · go_enter Try.func194, Try.ntmps194
      go_wp2_with (first | (go_at_call 223; refine (isPart_c _ _).mono ?_; rintro e w' ⟨rfl, rfl⟩) | (go_at_call 112; refine (inRange_c _ _ _ _).mono ?_; rintro e w' ⟨rfl, rfl⟩))
      go_ret
      refine ⟨ret_bool (by simp [pieceOk, e0, e1]), ?_⟩
      repeat (first | (with_reducible exact Below.refl _ _) | (with_reducible assumption) | (with_reducible refine below_al ?_ _) | (with_reducible refine Below.drew ?_) | (with_reducible refine below_drewN ?_ _) | (with_reducible refine below_st ?_ ?_ _) | (with_reducible refine below_tr ?_ (by assumption)) | (with_reducible exact Nat.le_refl _) | (focus (simp; done)) | (focus (simp; omega)))
    · cases e2 : inR q.b (-1000000000000) 1000000000000
      · go_enter Try.func194, Try.ntmps194
        go_wp2_with (first | (go_at_call 223; refine (isPart_c _ _).mono ?_; rintro e w' ⟨rfl, rfl⟩) | (go_at_call 112; refine (inRange_c _ _ _ _).mono ?_; rintro e w' ⟨rfl, rfl⟩))
        go_ret
        refine ⟨ret_bool (by simp [pieceOk, e0, e1, e2]), ?_⟩
        repeat (first | (with_reducible exact Below.refl _ _) | (with_reducible assumption) | (with_reducible refine below_al ?_ _) | (with_reducible refine Below.drew ?_) | (with_reducible refine below_drewN ?_ _) | (with_reducible refine below_st ?_ ?_ _) | (with_reducible refine below_tr ?_ (by assumption)) | (with_reducible exact Nat.le_refl _) | (focus (simp; done)) | (focus (simp; omega)))
      · cases e3 : inR q.c (-1000000000000) 1000000000000
        · go_enter Try.func194, Try.ntmps194
          go_wp2_with (first | (go_at_call 223; refine (isPart_c _ _).mono ?_; rintro e w' ⟨rfl, rfl⟩) | (go_at_call 112; refine (inRange_c _ _ _ _).mono ?_; rintro e w' ⟨rfl, rfl⟩))
          go_ret
          refine ⟨ret_bool (by simp [pieceOk, e0, e1, e2, e3]), ?_⟩
          repeat (first | (with_reducible exact Below.refl _ _) | (with_reducible assumption) | (with_reducible refine below_al ?_ _) | (with_reducible refine Below.drew ?_) | (with_reducible refine below_drewN ?_ _) | (with_reducible refine below_st ?_ ?_ _) | (with_reducible refine below_tr ?_ (by assumption)) | (with_reducible exact Nat.le_refl _) | (focus (simp; done)) | (focus (simp; omega)))
        · have hall : ∀ n ∈ [q.a, q.b, q.c, q.d], In64 n := by simpa [Piece.In] using hq
          have hfin : Hid (pieceOk q = decide (gcdAll [q.a, q.b, q.c, q.d] = 1)) := by simp [Hid, pieceOk, e0, e1, e2, e3]
          have hg := gcdOfAll_c (some ⟨w.heap.size + 1, 0, none⟩) [q.a, q.b, q.c, q.d] 4 _ (by simp) hall (sl_new_at (T := 3) intC_len (w.alloc (.cells #[.int .i64 q.a, .int .i64 q.b, .int .i64 q.c, .int .i64 q.d] 193)) [q.a, q.b, q.c, q.d] #[.int .i64 q.a, .int .i64 q.b, .int .i64 q.c, .int .i64 q.d] rfl (by simp))
          have hle := gcdAll_le [q.a, q.b, q.c, q.d] hall
          generalize gcdAll [q.a, q.b, q.c, q.d] = G at *
          cases e4 : ((G : Int) == 1)
          all_goals
            go_enter Try.func194, Try.ntmps194
            go_wp2_with (first | (go_at_call 223; refine (isPart_c _ _).mono ?_; rintro e w' ⟨rfl, rfl⟩) | (go_at_call 112; refine (inRange_c _ _ _ _).mono ?_; rintro e w' ⟨rfl, rfl⟩))
            refine hg.mono ?_
            rintro e w1 ⟨rfl, hb1⟩
            go_wp2
            go_ret
            refine ⟨ret_bool (by rw [hfin.out, Bool.eq_iff_iff]; simp at e4 ⊢; omega), ?_⟩
            exact below_tr (below_al (below_al (Below.refl _ _) _) _) hb1

set_option maxHeartbeats 4000000 in
theorem sPieceOk_c (q : Piece) (w : World) (hq : q.In) :
    Calls Try.prog 192 #[pieceV q] w fun e w' => e = .returned (.bool (pieceOk q)) ∧ Below w.heap.size w w' := by
  obtain ⟨h1, h2, h3, h4⟩ := hq
  have hxy := gcdOf_In64 h1 h2
  have hcd := gcdOf_In64 h3 h4
  cases e0 : inR q.d 1 1000000000000
  · go_enter Try.func192, Try.ntmps192
    go_wp2
    go_big_quiet ((first | (go_at_call 78; exact quiet_l (l01In_v _ _ _ _ (by assumption) _)) | (go_at_call 154; exact quiet_n (sGcdOf_q _ _ _ (by assumption) (by assumption)))))
    go_wp2
    go_ret
    refine ⟨ret_bool (by simp [pieceOk, e0]), ?_⟩
    repeat (first | (with_reducible exact Below.refl _ _) | (with_reducible assumption) | (with_reducible refine below_al ?_ _) | (with_reducible refine Below.drew ?_) | (with_reducible refine below_drewN ?_ _) | (with_reducible refine below_st ?_ ?_ _) | (with_reducible refine below_tr ?_ (by assumption)) | (with_reducible exact Nat.le_refl _) | (focus (simp; done)) | (focus (simp; omega)))
  · cases e1 : inR q.a (-1000000000000) 1000000000000
    · go_enter Try.func192, Try.ntmps192
      go_wp2
      go_big_quiet ((first | (go_at_call 78; exact quiet_l (l01In_v _ _ _ _ (by assumption) _)) | (go_at_call 154; exact quiet_n (sGcdOf_q _ _ _ (by assumption) (by assumption)))))
      go_wp2
      go_ret
      refine ⟨ret_bool (by simp [pieceOk, e0, e1]), ?_⟩
      repeat (first | (with_reducible exact Below.refl _ _) | (with_reducible assumption) | (with_reducible refine below_al ?_ _) | (with_reducible refine Below.drew ?_) | (with_reducible refine below_drewN ?_ _) | (with_reducible refine below_st ?_ ?_ _) | (with_reducible refine below_tr ?_ (by assumption)) | (with_reducible exact Nat.le_refl _) | (focus (simp; done)) | (focus (simp; omega)))
    · cases e2 : inR q.b (-1000000000000) 1000000000000
      · go_enter Try.func192, Try.ntmps192
        go_wp2
        go_big_quiet ((first | (go_at_call 78; exact quiet_l (l01In_v _ _ _ _ (by assumption) _)) | (go_at_call 154; exact quiet_n (sGcdOf_q _ _ _ (by assumption) (by assumption)))))
        go_wp2
        go_ret
        refine ⟨ret_bool (by simp [pieceOk, e0, e1, e2]), ?_⟩
        repeat (first | (with_reducible exact Below.refl _ _) | (with_reducible assumption) | (with_reducible refine below_al ?_ _) | (with_reducible refine Below.drew ?_) | (with_reducible refine below_drewN ?_ _) | (with_reducible refine below_st ?_ ?_ _) | (with_reducible refine below_tr ?_ (by assumption)) | (with_reducible exact Nat.le_refl _) | (focus (simp; done)) | (focus (simp; omega)))
      · cases e3 : inR q.c (-1000000000000) 1000000000000
        · go_enter Try.func192, Try.ntmps192
          go_wp2
          go_big_quiet ((first | (go_at_call 78; exact quiet_l (l01In_v _ _ _ _ (by assumption) _)) | (go_at_call 154; exact quiet_n (sGcdOf_q _ _ _ (by assumption) (by assumption)))))
          go_wp2
          go_ret
          refine ⟨ret_bool (by simp [pieceOk, e0, e1, e2, e3]), ?_⟩
          repeat (first | (with_reducible exact Below.refl _ _) | (with_reducible assumption) | (with_reducible refine below_al ?_ _) | (with_reducible refine Below.drew ?_) | (with_reducible refine below_drewN ?_ _) | (with_reducible refine below_st ?_ ?_ _) | (with_reducible refine below_tr ?_ (by assumption)) | (with_reducible exact Nat.le_refl _) | (focus (simp; done)) | (focus (simp; omega)))
        · have hfin : Hid (pieceOk q = (gcdOf (gcdOf q.a q.b) (gcdOf q.c q.d) == 1)) := by
            have g1 := inR_iff.1 e0
            have g2 := inR_iff.1 e1
            have g3 := inR_iff.1 e2
            have g4 := inR_iff.1 e3
            have g5 := gcdOf_in h1 h2
            have g6 := gcdOf_in h3 h4
            show _ = _
            rw [gcdOf_no (isMin_no (a := gcdOf q.a q.b) (by omega)) (isMin_no (a := gcdOf q.c q.d) (by omega)), gcdOf_no (isMin_no (a := q.a) (by omega)) (isMin_no (a := q.b) (by omega)), gcdOf_no (isMin_no (a := q.c) (by omega)) (isMin_no (a := q.d) (by omega))]
            rw [Bool.eq_iff_iff]; simp [pieceOk, e0, e1, e2, e3, gcd4, Nat.gcd_assoc]; omega
          cases e4 : (gcdOf (gcdOf q.a q.b) (gcdOf q.c q.d) == 1)
          all_goals
            go_enter Try.func192, Try.ntmps192
            go_wp2
            go_big_quiet ((first | (go_at_call 78; exact quiet_l (l01In_v _ _ _ _ (by assumption) _)) | (go_at_call 154; exact quiet_n (sGcdOf_q _ _ _ (by assumption) (by assumption)))))
            go_wp2
            go_ret
            refine ⟨ret_bool (by rw [hfin.out, e4]), ?_⟩
            repeat (first | (with_reducible exact Below.refl _ _) | (with_reducible assumption) | (with_reducible refine below_al ?_ _) | (with_reducible refine Below.drew ?_) | (with_reducible refine below_drewN ?_ _) | (with_reducible refine below_st ?_ ?_ _) | (with_reducible refine below_tr ?_ (by assumption)) | (with_reducible exact Nat.le_refl _) | (focus (simp; done)) | (focus (simp; omega)))
end Go.Proofs.Ytbdihgcjopbnjaa
