/-
  What the functions on pieces return, and RatioOf.
  Conditions: the numbers are ints of the machine.
-/
import Derived.Test.YtbdihgcjopbnjaaGrD
import Derived.Deep.RegionHeld3
import Derived.Deep.RegionWith
import Derived.Test.YtbdihgcjopbnjaaGrA
section
namespace Go.Proofs.Ytbdihgcjopbnjaa
open Go.RowKit

theorem isPart_c (a : Int) (w : World) :
    Calls Try.prog 223 #[.int .i64 a] w fun e w' => e = .returned (.bool (inR a (-1000000000000) 1000000000000)) ∧ w = w' := by
  go_enter Try.func223, Try.ntmps223
  go_wp2_with (first | (go_at_call 112; refine (inRange_c _ _ _ _).mono ?_; rintro e w' ⟨rfl, rfl⟩))
  go_ret
  exact ⟨rfl, rfl⟩
set_option maxHeartbeats 1000000 in
theorem iPieceOk_c (q : Piece) (w : World) (hq : q.In) :
    Calls Try.prog 194 #[pieceV q] w fun e w' => e = .returned (.bool (pieceOk q)) ∧ Below w.heap.size w w' := by
  cases e0 : inR q.d 1 1000000000000
  · go_enter Try.func194, Try.ntmps194
    go_wp2_with (first | (go_at_call 223; refine (isPart_c _ _).mono ?_; rintro e w' ⟨rfl, rfl⟩) | (go_at_call 112; refine (inRange_c _ _ _ _).mono ?_; rintro e w' ⟨rfl, rfl⟩))
    go_ret
    refine ⟨ret_bool (by simp [pieceOk, e0]), ?_⟩
    repeat (first | (with_reducible exact Below.refl _ _) | (with_reducible assumption) | (with_reducible refine below_al ?_ _) | (with_reducible refine Below.drew ?_) | (with_reducible refine below_drewN ?_ _) | (with_reducible refine below_st ?_ ?_ _) | (with_reducible refine below_tr ?_ (by assumption)) | (with_reducible exact Nat.le_refl _) | (focus (simp; done)) | (focus (simp; omega)))
  · cases e1 : inR q.a (-1000000000000) 1000000000000
    · go_enter Try.func194, Try.ntmps194
      go_wp2_with (first | (go_at_call 223; refine (isPart_c _ _).mono ?_; rintro e w' ⟨rfl, rfl⟩) | (go_at_call 112; refine (inRange_c _ _ _ _).mono ?_; rintro e w' ⟨rfl, rfl⟩))
      go_ret
      refine ⟨ret_bool (by simp [pieceOk, e0, e1]), ?_⟩
      repeat (first | (with_reducible exact Below.refl _ _) | (with_reducible assumption) | (with_reducible refine below_al ?_ _) | (with_reducible refine Below.drew ?_) | (with_reducible refine below_drewN ?_ _) | (with_reducible refine below_st ?_ ?_ _) | (with_reducible refine below_tr ?_ (by assumption)) | (with_reducible exact Nat.le_refl _) | (focus (simp; done)) | (focus (simp; omega)))
    · cases e2 : inR q.b (-1000000000000) 1000000000000
      · go_enter Try.func194, Try.ntmps194
        go_wp2_with (first | (go_at_call 223; refine (isPart_c _ _).mono ?_; rintro e w' ⟨rfl, rfl⟩) | (go_at_call 112; refine (inRange_c _ _ _ _).mono ?_; rintro e w' ⟨rfl, rfl⟩))
        go_ret
        refine ⟨ret_bool (by simp [pieceOk, e0, e1, e2]), ?_⟩
        repeat (first | (with_reducible exact Below.refl _ _) | (with_reducible assumption) | (with_reducible refine below_al ?_ _) | (with_reducible refine Below.drew ?_) | (with_reducible refine below_drewN ?_ _) | (with_reducible refine below_st ?_ ?_ _) | (with_reducible refine below_tr ?_ (by assumption)) | (with_reducible exact Nat.le_refl _) | (focus (simp; done)) | (focus (simp; omega)))
      · cases e3 : inR q.c (-1000000000000) 1000000000000
        · go_enter Try.func194, Try.ntmps194
          go_wp2_with (first | (go_at_call 223; refine (isPart_c _ _).mono ?_; rintro e w' ⟨rfl, rfl⟩) | (go_at_call 112; refine (inRange_c _ _ _ _).mono ?_; rintro e w' ⟨rfl, rfl⟩))
          go_ret
          refine ⟨ret_bool (by simp [pieceOk, e0, e1, e2, e3]), ?_⟩
          repeat (first | (with_reducible exact Below.refl _ _) | (with_reducible assumption) | (with_reducible refine below_al ?_ _) | (with_reducible refine Below.drew ?_) | (with_reducible refine below_drewN ?_ _) | (with_reducible refine below_st ?_ ?_ _) | (with_reducible refine below_tr ?_ (by assumption)) | (with_reducible exact Nat.le_refl _) | (focus (simp; done)) | (focus (simp; omega)))
        · have hall : ∀ n ∈ [q.a, q.b, q.c, q.d], In64 n := by simpa [Piece.In] using hq
          have hfin : Hid (pieceOk q = decide (gcdAll [q.a, q.b, q.c, q.d] = 1)) := by simp [Hid, pieceOk, e0, e1, e2, e3]
          have hg := gcdOfAll_c (some ⟨w.heap.size + 1, 0, none⟩) [q.a, q.b, q.c, q.d] 4 _ (by simp) hall (sl_new_at (T := 3) intC_len (w.alloc (.cells #[.int .i64 q.a, .int .i64 q.b, .int .i64 q.c, .int .i64 q.d] 193)) [q.a, q.b, q.c, q.d] #[.int .i64 q.a, .int .i64 q.b, .int .i64 q.c, .int .i64 q.d] rfl (by simp))
          have hle := gcdAll_le [q.a, q.b, q.c, q.d] hall
          generalize gcdAll [q.a, q.b, q.c, q.d] = G at *
          cases e4 : ((G : Int) == 1)
          all_goals
            go_enter Try.func194, Try.ntmps194
            go_wp2_with (first | (go_at_call 223; refine (isPart_c _ _).mono ?_; rintro e w' ⟨rfl, rfl⟩) | (go_at_call 112; refine (inRange_c _ _ _ _).mono ?_; rintro e w' ⟨rfl, rfl⟩))
            refine hg.mono ?_
            rintro e w1 ⟨rfl, hb1⟩
            go_wp2
            go_ret
            refine ⟨ret_bool (by rw [hfin.out, Bool.eq_iff_iff]; simp at e4 ⊢; omega), ?_⟩
            exact below_tr (below_al (below_al (Below.refl _ _) _) _) hb1

set_option maxHeartbeats 4000000 in
theorem sPieceOk_c (q : Piece) (w : World) (hq : q.In) :
    Calls Try.prog 192 #[pieceV q] w fun e w' => e = .returned (.bool (pieceOk q)) ∧ Below w.heap.size w w' := by
  obtain ⟨h1, h2, h3, h4⟩ := hq
  have hxy := gcdOf_In64 h1 h2
  have hcd := gcdOf_In64 h3 h4
  cases e0 : inR q.d 1 1000000000000
  · go_enter Try.func192, Try.ntmps192
    go_wp2
    go_big_quiet ((first | (go_at_call 78; exact quiet_l (l01In_v _ _ _ _ (by assumption) _)) | (go_at_call 154; exact quiet_n (sGcdOf_q _ _ _ (by assumption) (by assumption)))))
    go_wp2
    go_ret
    refine ⟨ret_bool (by simp [pieceOk, e0]), ?_⟩
    repeat (first | (with_reducible exact Below.refl _ _) | (with_reducible assumption) | (with_reducible refine below_al ?_ _) | (with_reducible refine Below.drew ?_) | (with_reducible refine below_drewN ?_ _) | (with_reducible refine below_st ?_ ?_ _) | (with_reducible refine below_tr ?_ (by assumption)) | (with_reducible exact Nat.le_refl _) | (focus (simp; done)) | (focus (simp; omega)))
  · cases e1 : inR q.a (-1000000000000) 1000000000000
    · go_enter Try.func192, Try.ntmps192
      go_wp2
      go_big_quiet ((first | (go_at_call 78; exact quiet_l (l01In_v _ _ _ _ (by assumption) _)) | (go_at_call 154; exact quiet_n (sGcdOf_q _ _ _ (by assumption) (by assumption)))))
      go_wp2
      go_ret
      refine ⟨ret_bool (by simp [pieceOk, e0, e1]), ?_⟩
      repeat (first | (with_reducible exact Below.refl _ _) | (with_reducible assumption) | (with_reducible refine below_al ?_ _) | (with_reducible refine Below.drew ?_) | (with_reducible refine below_drewN ?_ _) | (with_reducible refine below_st ?_ ?_ _) | (with_reducible refine below_tr ?_ (by assumption)) | (with_reducible exact Nat.le_refl _) | (focus (simp; done)) | (focus (simp; omega)))
    · cases e2 : inR q.b (-1000000000000) 1000000000000
      · go_enter Try.func192, Try.ntmps192
        go_wp2
        go_big_quiet ((first | (go_at_call 78; exact quiet_l (l01In_v _ _ _ _ (by assumption) _)) | (go_at_call 154; exact quiet_n (sGcdOf_q _ _ _ (by assumption) (by assumption)))))
        go_wp2
        go_ret
        refine ⟨ret_bool (by simp [pieceOk, e0, e1, e2]), ?_⟩
        repeat (first | (with_reducible exact Below.refl _ _) | (with_reducible assumption) | (with_reducible refine below_al ?_ _) | (with_reducible refine Below.drew ?_) | (with_reducible refine below_drewN ?_ _) | (with_reducible refine below_st ?_ ?_ _) | (with_reducible refine below_tr ?_ (by assumption)) | (with_reducible exact Nat.le_refl _) | (focus (simp; done)) | (focus (simp; omega)))
      · cases e3 : inR q.c (-1000000000000) 1000000000000
        · go_enter Try.func192, Try.ntmps192
          go_wp2
          go_big_quiet ((first | (go_at_call 78; exact quiet_l (l01In_v _ _ _ _ (by assumption) _)) | (go_at_call 154; exact quiet_n (sGcdOf_q _ _ _ (by assumption) (by assumption)))))
          go_wp2
          go_ret
          refine ⟨ret_bool (by simp [pieceOk, e0, e1, e2, e3]), ?_⟩
          repeat (first | (with_reducible exact Below.refl _ _) | (with_reducible assumption) | (with_reducible refine below_al ?_ _) | (with_reducible refine Below.drew ?_) | (with_reducible refine below_drewN ?_ _) | (with_reducible refine below_st ?_ ?_ _) | (with_reducible refine below_tr ?_ (by assumption)) | (with_reducible exact Nat.le_refl _) | (focus (simp; done)) | (focus (simp; omega)))
        · have hfin : Hid (pieceOk q = (gcdOf (gcdOf q.a q.b) (gcdOf q.c q.d) == 1)) := by
            have g1 := inR_iff.1 e0
            have g2 := inR_iff.1 e1
            have g3 := inR_iff.1 e2
            have g4 := inR_iff.1 e3
            have g5 := gcdOf_in h1 h2
            have g6 := gcdOf_in h3 h4
            show _ = _
            rw [gcdOf_no (isMin_no (a := gcdOf q.a q.b) (by omega)) (isMin_no (a := gcdOf q.c q.d) (by omega)), gcdOf_no (isMin_no (a := q.a) (by omega)) (isMin_no (a := q.b) (by omega)), gcdOf_no (isMin_no (a := q.c) (by omega)) (isMin_no (a := q.d) (by omega))]
            rw [Bool.eq_iff_iff]; simp [pieceOk, e0, e1, e2, e3, gcd4, Nat.gcd_assoc]; omega
          cases e4 : (gcdOf (gcdOf q.a q.b) (gcdOf q.c q.d) == 1)
          all_goals
            go_enter Try.func192, Try.ntmps192
            go_wp2
            go_big_quiet ((first | (go_at_call 78; exact quiet_l (l01In_v _ _ _ _ (by assumption) _)) | (go_at_call 154; exact quiet_n (sGcdOf_q _ _ _ (by assumption) (by assumption)))))
            go_wp2
            go_ret
            refine ⟨ret_bool (by rw [hfin.out, e4]), ?_⟩
            repeat (first | (with_reducible exact Below.refl _ _) | (with_reducible assumption) | (with_reducible refine below_al ?_ _) | (with_reducible refine Below.drew ?_) | (with_reducible refine below_drewN ?_ _) | (with_reducible refine below_st ?_ ?_ _) | (with_reducible refine below_tr ?_ (by assumption)) | (with_reducible exact Nat.le_refl _) | (focus (simp; done)) | (focus (simp; omega)))
end Go.Proofs.Ytbdihgcjopbnjaa
end

section
namespace Go.Proofs.Ytbdihgcjopbnjaa
open Go.RowKit

set_option maxHeartbeats 4000000 in
theorem iRatioOf_c (n d : Int) (w : World) (hn : In64 n) (hd : In64 d) :
    Calls Try.prog 41 #[.int .i64 n, .int .i64 d] w fun e w' => e = .returned (ratioV (ratioOf n d)) ∧ Below w.heap.size w w' := by
  have m1 := fun v h => isLeast_v n v h hn
  have m2 := fun v h => isLeast_v d v h hd
  by_cases hz : d = 0
  · have hfin : ratioOf n d = ratio0 := by simp [ratioOf, hz]
    rw [hfin]
    subst hz
    clear m1 m2
    go_enter Try.func41, Try.ntmps41
    go_wp2
    refine bodyPost_ret (v := .agg #[.int .i64 0, .int .i64 0]) (by simp [results, Try.results41, go_sem]) rfl ⟨rfl, ?_⟩
    repeat (first | (with_reducible exact Below.refl _ _) | (with_reducible assumption) | (with_reducible refine below_al ?_ _) | (with_reducible refine Below.drew ?_) | (with_reducible refine below_drewN ?_ _) | (with_reducible refine below_st ?_ ?_ _) | (with_reducible refine below_tr ?_ (by assumption)) | (with_reducible exact Nat.le_refl _) | (focus (simp; done)) | (focus (simp; omega)))
  · have hz2 : (d == 0) = false := by simpa using hz
    cases mn : isMin n
    · have n1 := m1 _ mn
      cases md : isMin d
      · have n2 := m2 _ md
        have hall : ∀ k ∈ [n, d], In64 k := by simp [hn, hd]
        have hg := gcdOfAll_c (some ⟨w.heap.size + 1, 0, none⟩) [n, d] 2 _ (by simp) hall (sl_new_at (T := 3) intC_len (w.alloc (.cells #[.int .i64 0, .int .i64 0] 41)) [n, d] #[.int .i64 n, .int .i64 d] rfl (by simp))
        have hle := gcdAll_le [n, d] hall
        have hpos : 0 < gcdAll [n, d] := by rw [gcd_pair]; exact Nat.gcd_pos_of_pos_right _ (by omega)
        have hfin : Hid (ratioOf n d = if 1000000000000000000 < n.natAbs / gcdAll [n, d] ∨ 1000000000000000 < d.natAbs / gcdAll [n, d] then ratio0
            else if decide (n < 0) = decide (d < 0) then ⟨((n.natAbs / gcdAll [n, d] : Nat) : Int), ((d.natAbs / gcdAll [n, d] : Nat) : Int)⟩
            else ⟨-((n.natAbs / gcdAll [n, d] : Nat) : Int), ((d.natAbs / gcdAll [n, d] : Nat) : Int)⟩) := by
          show _ = _
          rw [ratioOf, if_neg (by simp [hz, mn, md])]
        have c1 := fun W => magnitude_c n W hn
        have c2 := fun W => magnitude_c d W hd
        have a1 := natAbs_le hn
        have a2 := natAbs_le hd
        generalize gcdAll [n, d] = G at *
        have l1 := Nat.div_le_self n.natAbs G
        have l2 := Nat.div_le_self d.natAbs G
        have q1 : IntKind.u64.wrap ((n.natAbs : Int).tdiv (G : Int)) = ((n.natAbs / G : Nat) : Int) := by rw [tdiv_nat]; exact IntWalk.u64_in _ ⟨Int.natCast_nonneg _, by omega⟩
        have q2 : IntKind.u64.wrap ((d.natAbs : Int).tdiv (G : Int)) = ((d.natAbs / G : Nat) : Int) := by rw [tdiv_nat]; exact IntWalk.u64_in _ ⟨Int.natCast_nonneg _, by omega⟩
        have q3 : IntKind.u64.wrap ((n.natAbs : Int) / (G : Int)) = ((n.natAbs / G : Nat) : Int) := by rw [← Int.natCast_ediv]; exact IntWalk.u64_in _ ⟨Int.natCast_nonneg _, by omega⟩
        have q4 : IntKind.u64.wrap ((d.natAbs : Int) / (G : Int)) = ((d.natAbs / G : Nat) : Int) := by rw [← Int.natCast_ediv]; exact IntWalk.u64_in _ ⟨Int.natCast_nonneg _, by omega⟩
        have hG1 : ¬ (G = 0) := by omega
        have hG2 : ¬ ((G : Int) = 0) := by omega
        generalize n.natAbs / G = top at *
        generalize d.natAbs / G = bel at *
        clear hn hd m1 m2 hall mn md hz
        generalize hsn : decide (n < 0) = sn at *
        generalize hsd : decide (d < 0) = sd at *
        go_enter Try.func41, Try.ntmps41
        go_wp2_with (first | (go_at_call_of 118 (Value.int IntKind.i64 n); refine (n1 _).mono ?_; rintro e w' ⟨rfl, rfl⟩) | (go_at_call 118; refine (n2 _).mono ?_; rintro e w' ⟨rfl, rfl⟩))
        refine hg.mono ?_
        rintro e w1 ⟨rfl, hb1⟩
        have H1 := ((Has.new w #[.int .i64 0, .int .i64 0] 41).alloc _).below hb1
        have hbw := below_tr (below_al (below_al (Below.refl w.heap.size w) _) _) hb1
        go_wp2
        go_big_quiet ((first | (go_at_call_of 120 (Value.int IntKind.i64 n); exact quiet_l (c1 _)) | (go_at_call 120; exact quiet_l (c2 _))))
        have H2 := H1.drewN nq
        have hbw2 := below_drewN hbw nq
        generalize w1.drewN nq = w2 at *
        obtain ⟨cH2_0, fH2_0⟩ := H2.2 0 _ rfl
        obtain ⟨cH2_1, fH2_1⟩ := H2.2 1 _ rfl
        have hlt2 := H2.1
        clear q1 q2 q3 q4 hbw H1 hb1 hg
        by_cases b1 : 1000000000000000000 < top
        · have hf : Hid (ratioOf n d = ratio0) := by show _ = _; rw [hfin.out, if_pos (.inl b1)]
          go_wp2
          refine bodyPost_ret (v := .agg #[.int .i64 0, .int .i64 0]) (by simp [results, Try.results41, go_sem, *]) rfl ⟨by rw [hf.out]; rfl, ?_⟩
          repeat (first | (with_reducible exact Below.refl _ _) | (with_reducible assumption) | (with_reducible refine below_al ?_ _) | (with_reducible refine Below.drew ?_) | (with_reducible refine below_drewN ?_ _) | (with_reducible refine below_st ?_ ?_ _) | (with_reducible refine below_tr ?_ (by assumption)) | (with_reducible exact Nat.le_refl _) | (focus (simp; done)) | (focus (simp; omega)))
        · by_cases b2 : 1000000000000000 < bel
          · have hf : Hid (ratioOf n d = ratio0) := by show _ = _; rw [hfin.out, if_pos (.inr b2)]
            go_wp2
            refine bodyPost_ret (v := .agg #[.int .i64 0, .int .i64 0]) (by simp [results, Try.results41, go_sem, *]) rfl ⟨by rw [hf.out]; rfl, ?_⟩
            repeat (first | (with_reducible exact Below.refl _ _) | (with_reducible assumption) | (with_reducible refine below_al ?_ _) | (with_reducible refine Below.drew ?_) | (with_reducible refine below_drewN ?_ _) | (with_reducible refine below_st ?_ ?_ _) | (with_reducible refine below_tr ?_ (by assumption)) | (with_reducible exact Nat.le_refl _) | (focus (simp; done)) | (focus (simp; omega)))
          · have hf : Hid (ratioOf n d = if sn = sd then ⟨(top : Int), (bel : Int)⟩ else ⟨-(top : Int), (bel : Int)⟩) := by show _ = _; rw [hfin.out, if_neg (by omega)]
            cases sn <;> cases sd
            · go_wp2
              refine bodyPost_ret (v := .agg #[.int .i64 (top : Int), .int .i64 (bel : Int)]) (by simp [results, Try.results41, go_sem, *]) rfl ⟨by rw [hf.out]; rfl, ?_⟩
              repeat (first | (with_reducible exact Below.refl _ _) | (with_reducible assumption) | (with_reducible refine below_al ?_ _) | (with_reducible refine Below.drew ?_) | (with_reducible refine below_drewN ?_ _) | (with_reducible refine below_st ?_ ?_ _) | (with_reducible refine below_tr ?_ (by assumption)) | (with_reducible exact Nat.le_refl _) | (focus (simp; done)) | (focus (simp; omega)))
            · go_wp2
              refine bodyPost_ret (v := .agg #[.int .i64 (-(top : Int)), .int .i64 (bel : Int)]) (by simp [results, Try.results41, go_sem, *]) rfl ⟨by rw [hf.out]; rfl, ?_⟩
              repeat (first | (with_reducible exact Below.refl _ _) | (with_reducible assumption) | (with_reducible refine below_al ?_ _) | (with_reducible refine Below.drew ?_) | (with_reducible refine below_drewN ?_ _) | (with_reducible refine below_st ?_ ?_ _) | (with_reducible refine below_tr ?_ (by assumption)) | (with_reducible exact Nat.le_refl _) | (focus (simp; done)) | (focus (simp; omega)))
            · go_wp2
              refine bodyPost_ret (v := .agg #[.int .i64 (-(top : Int)), .int .i64 (bel : Int)]) (by simp [results, Try.results41, go_sem, *]) rfl ⟨by rw [hf.out]; rfl, ?_⟩
              repeat (first | (with_reducible exact Below.refl _ _) | (with_reducible assumption) | (with_reducible refine below_al ?_ _) | (with_reducible refine Below.drew ?_) | (with_reducible refine below_drewN ?_ _) | (with_reducible refine below_st ?_ ?_ _) | (with_reducible refine below_tr ?_ (by assumption)) | (with_reducible exact Nat.le_refl _) | (focus (simp; done)) | (focus (simp; omega)))
            · go_wp2
              refine bodyPost_ret (v := .agg #[.int .i64 (top : Int), .int .i64 (bel : Int)]) (by simp [results, Try.results41, go_sem, *]) rfl ⟨by rw [hf.out]; rfl, ?_⟩
              repeat (first | (with_reducible exact Below.refl _ _) | (with_reducible assumption) | (with_reducible refine below_al ?_ _) | (with_reducible refine Below.drew ?_) | (with_reducible refine below_drewN ?_ _) | (with_reducible refine below_st ?_ ?_ _) | (with_reducible refine below_tr ?_ (by assumption)) | (with_reducible exact Nat.le_refl _) | (focus (simp; done)) | (focus (simp; omega)))
      · have hfin : ratioOf n d = ratio0 := by simp [ratioOf, md]
        rw [hfin]
        have n2 := m2 _ md
        clear m1 m2 mn md
        go_enter Try.func41, Try.ntmps41
        go_wp2_with (first | (go_at_call_of 118 (Value.int IntKind.i64 n); refine (n1 _).mono ?_; rintro e w' ⟨rfl, rfl⟩) | (go_at_call 118; refine (n2 _).mono ?_; rintro e w' ⟨rfl, rfl⟩))
        refine bodyPost_ret (v := .agg #[.int .i64 0, .int .i64 0]) (by simp [results, Try.results41, go_sem]) rfl ⟨rfl, ?_⟩
        repeat (first | (with_reducible exact Below.refl _ _) | (with_reducible assumption) | (with_reducible refine below_al ?_ _) | (with_reducible refine Below.drew ?_) | (with_reducible refine below_drewN ?_ _) | (with_reducible refine below_st ?_ ?_ _) | (with_reducible refine below_tr ?_ (by assumption)) | (with_reducible exact Nat.le_refl _) | (focus (simp; done)) | (focus (simp; omega)))
    · have hfin : ratioOf n d = ratio0 := by simp [ratioOf, mn]
      rw [hfin]
      have n1 := m1 _ mn
      clear m1 m2 mn
      go_enter Try.func41, Try.ntmps41
      go_wp2_with (fail)
      refine (n1 _).mono ?_
      rintro e w' ⟨rfl, rfl⟩
      go_wp2
      refine bodyPost_ret (v := .agg #[.int .i64 0, .int .i64 0]) (by simp [results, Try.results41, go_sem]) rfl ⟨rfl, ?_⟩
      repeat (first | (with_reducible exact Below.refl _ _) | (with_reducible assumption) | (with_reducible refine below_al ?_ _) | (with_reducible refine Below.drew ?_) | (with_reducible refine below_drewN ?_ _) | (with_reducible refine below_st ?_ ?_ _) | (with_reducible refine below_tr ?_ (by assumption)) | (with_reducible exact Nat.le_refl _) | (focus (simp; done)) | (focus (simp; omega)))

theorem gcdOf_zero_iff {n d : Int} : gcdOf n d = 0 ↔ isMin n = true ∨ isMin d = true ∨ (n = 0 ∧ d = 0) := by
  unfold gcdOf
  cases isMin n <;> cases isMin d <;> simp [Nat.gcd_eq_zero_iff]
set_option maxRecDepth 100000 in
set_option maxHeartbeats 1000000 in
theorem sRatioOf_c (n d : Int) (w : World) (hn : In64 n) (hd : In64 d) :
    Calls Try.prog 148 #[.int .i64 n, .int .i64 d] w fun e w' => e = .returned (ratioV (ratioOf n d)) ∧ Below w.heap.size w w' := by
  have hgi := gcdOf_in hn hd
  obtain ⟨g0, g1⟩ := hgi
  by_cases hz : gcdOf n d = 0 ∨ d = 0
  · have hfin : ratioOf n d = ratio0 := by
      rw [gcdOf_zero_iff] at hz
      unfold ratioOf
      rw [if_pos]
      rcases hz with (h | h | ⟨_, h⟩) | h <;> simp [h]
    rw [hfin]
    have hzz : (gcdOf n d == 0) = true ∨ ((gcdOf n d == 0) = false ∧ (d == 0) = true) := by
      cases h : (gcdOf n d == 0)
      · right; refine ⟨rfl, ?_⟩; simp at h ⊢; omega
      · left; rfl
    clear hz
    rcases hzz with hz | ⟨hz, hz2⟩
    all_goals
      go_enter Try.func148, Try.ntmps148
      go_wp2_with (go_at_call 154; refine (sGcdOf_q _ _ _ (by assumption) (by assumption)).mono ?_; rintro e wc ⟨rfl, nc, rfl⟩)
      refine bodyPost_ret (v := .agg #[.int .i64 0, .int .i64 0]) (by simp [results, Try.results148, go_sem]) rfl ⟨rfl, ?_⟩
      repeat (first | (with_reducible exact Below.refl _ _) | (with_reducible assumption) | (with_reducible refine below_al ?_ _) | (with_reducible refine Below.drew ?_) | (with_reducible refine below_drewN ?_ _) | (with_reducible refine below_st ?_ ?_ _) | (with_reducible refine below_tr ?_ (by assumption)) | (with_reducible exact Nat.le_refl _) | (focus (simp; done)) | (focus (simp; omega)))
  · have h1 : ¬ gcdOf n d = 0 := fun h => hz (.inl h)
    have h2 : ¬ d = 0 := fun h => hz (.inr h)
    have h3 : ¬ (isMin n = true ∨ isMin d = true ∨ (n = 0 ∧ d = 0)) := fun h => h1 (gcdOf_zero_iff.2 h)
    have mn : isMin n = false := by cases h : isMin n; · rfl
                                    · exact absurd (Or.inl h) h3
    have md : isMin d = false := by cases h : isMin d; · rfl
                                    · exact absurd (Or.inr (Or.inl h)) h3
    have alt := Lib.hid (ratioOf_alt mn md h2)
    have eg : gcdOf n d = ((gcdAll [n, d] : Nat) : Int) := by rw [gcdOf_no mn md, gcd_pair]
    have hpos : 0 < gcdAll [n, d] := by rw [gcd_pair]; exact Nat.gcd_pos_of_pos_right _ (by omega)
    rw [eg] at g1
    clear h3 g0 h1 hz
    generalize gcdAll [n, d] = G at *
    have i1 := tdiv_In64 hn mn G
    have i2 := tdiv_In64 hd md G
    have b1 := isMin_false hn mn
    have b2 := isMin_false hd md
    have t1 := tdiv_le n G 9223372036854775807 b1.1 b1.2
    have t2 := tdiv_le d G 9223372036854775807 b2.1 b2.2
    have hG1 : ¬ (G = 0) := by omega
    have hG2 : ¬ ((G : Int) = 0) := by omega
    have hG3 : ((G : Int) == 0) = false := by simp; omega
    have hd0 : (d == 0) = false := by simpa using h2
    rcases Int.lt_or_le d 0 with hneg | hnn
    · have c5 := fun W => sRatioOk_c ⟨-(n.tdiv (G : Int)), -(d.tdiv (G : Int))⟩ W ⟨⟨by dsimp only; omega, by dsimp only; omega⟩, ⟨by dsimp only; omega, by dsimp only; omega⟩⟩
      have u1 : IntKind.i64.wrap (-(n.tdiv (G : Int))) = -(n.tdiv (G : Int)) := IntWalk.i64_in _ (by omega)
      have u2 : IntKind.i64.wrap (-(d.tdiv (G : Int))) = -(d.tdiv (G : Int)) := IntWalk.i64_in _ (by omega)
      have hfin : Hid (ratioOf n d = if ratioOk ⟨-(n.tdiv (G : Int)), -(d.tdiv (G : Int))⟩ = true then ⟨-(n.tdiv (G : Int)), -(d.tdiv (G : Int))⟩ else ratio0) := by
        have := alt.out
        rw [if_pos hneg, Int.tdiv_neg, Int.tdiv_neg] at this
        exact this
      clear alt mn md b1 b2 t1 t2 i1 i2 h2
      generalize ratioOk ⟨-(n.tdiv (G : Int)), -(d.tdiv (G : Int))⟩ = ok at *
      generalize hnt : n.tdiv (G : Int) = nt at *
      generalize hdt : d.tdiv (G : Int) = dt at *
      go_enter Try.func148, Try.ntmps148
      go_wp2_with (go_at_call 154; refine (sGcdOf_q _ _ _ (by assumption) (by assumption)).mono ?_; rintro e wc ⟨rfl, nc, rfl⟩)
      go_region_held3 (fun _ => True) (exact True.intro) (fail)
      go_wp2_with (fail)
      refine (c5 _).mono ?_
      rintro e w9 ⟨rfl, hb9⟩
      have hbw : Below w.heap.size w w9 := by
        refine below_tr ?_ hb9
        repeat (first | (with_reducible exact Below.refl _ _) | (with_reducible assumption) | (with_reducible refine below_al ?_ _) | (with_reducible refine Below.drew ?_) | (with_reducible refine below_drewN ?_ _) | (with_reducible refine below_st ?_ ?_ _) | (with_reducible refine below_tr ?_ (by assumption)) | (with_reducible exact Nat.le_refl _) | (focus (simp; done)) | (focus (simp; omega)))
      have H2 : Has w9 w.heap.size [.int .i64 0, .int .i64 0] := by
        refine Has.below ?_ hb9
        exact (Has.new w _ _).alloc _
      have H3 : Has w9 (w.heap.size + 1) [.int .i64 (-nt), .int .i64 (-dt)] := by
        refine Has.below ?_ hb9
        have := Has.new (w.alloc (.cells #[.int .i64 0, .int .i64 0] 41)) #[.int .i64 (-nt), .int .i64 (-dt)] 41
        simp only [World.size_alloc] at this
        exact this
      obtain ⟨cH2_0, fH2_0⟩ := H2.2 0 _ rfl
      obtain ⟨cH2_1, fH2_1⟩ := H2.2 1 _ rfl
      obtain ⟨cH3_0, fH3_0⟩ := H3.2 0 _ rfl
      obtain ⟨cH3_1, fH3_1⟩ := H3.2 1 _ rfl
      cases ok
      · go_wp2
        refine bodyPost_ret (v := .agg #[.int .i64 0, .int .i64 0]) (by simp [results, Try.results148, go_sem, *]) rfl ⟨by rw [hfin.out]; rfl, ?_⟩
        repeat (first | (with_reducible exact Below.refl _ _) | (with_reducible assumption) | (with_reducible refine below_al ?_ _) | (with_reducible refine Below.drew ?_) | (with_reducible refine below_drewN ?_ _) | (with_reducible refine below_st ?_ ?_ _) | (with_reducible refine below_tr ?_ (by assumption)) | (with_reducible exact Nat.le_refl _) | (focus (simp; done)) | (focus (simp; omega)))
      · go_wp2
        refine bodyPost_ret (v := .agg #[.int .i64 (-nt), .int .i64 (-dt)]) (by simp [results, Try.results148, go_sem, *]) rfl ⟨by rw [hfin.out]; rfl, ?_⟩
        repeat (first | (with_reducible exact Below.refl _ _) | (with_reducible assumption) | (with_reducible refine below_al ?_ _) | (with_reducible refine Below.drew ?_) | (with_reducible refine below_drewN ?_ _) | (with_reducible refine below_st ?_ ?_ _) | (with_reducible refine below_tr ?_ (by assumption)) | (with_reducible exact Nat.le_refl _) | (focus (simp; done)) | (focus (simp; omega)))
    · have c5 := fun W => sRatioOk_c ⟨n.tdiv (G : Int), d.tdiv (G : Int)⟩ W ⟨i1, i2⟩
      have u1 : IntKind.i64.wrap (n.tdiv (G : Int)) = n.tdiv (G : Int) := IntWalk.i64_in _ (by omega)
      have u2 : IntKind.i64.wrap (d.tdiv (G : Int)) = d.tdiv (G : Int) := IntWalk.i64_in _ (by omega)
      have u3 : IntKind.i64.wrap (d / (G : Int)) = d.tdiv (G : Int) := by rw [← Int.tdiv_eq_ediv_of_nonneg hnn]; exact u2
      have u4 : 0 ≤ n → IntKind.i64.wrap (n / (G : Int)) = n.tdiv (G : Int) := fun h => by rw [← Int.tdiv_eq_ediv_of_nonneg h]; exact u1
      have hfin : Hid (ratioOf n d = if ratioOk ⟨n.tdiv (G : Int), d.tdiv (G : Int)⟩ = true then ⟨n.tdiv (G : Int), d.tdiv (G : Int)⟩ else ratio0) := by
        have := alt.out
        rw [if_neg (Int.not_lt.2 hnn)] at this
        exact this
      have hdpos : 0 < d := by omega
      have hdle : d ≤ 9223372036854775807 := b2.2
      clear alt mn md b1 b2 t1 t2 i1 i2 h2 hnn
      generalize ratioOk ⟨n.tdiv (G : Int), d.tdiv (G : Int)⟩ = ok at *
      generalize hnt : n.tdiv (G : Int) = nt at *
      generalize hdt : d.tdiv (G : Int) = dt at *
      go_enter Try.func148, Try.ntmps148
      go_wp2_with (go_at_call 154; refine (sGcdOf_q _ _ _ (by assumption) (by assumption)).mono ?_; rintro e wc ⟨rfl, nc, rfl⟩)
      go_region_held3 (fun _ => True) (exact True.intro) (fail)
      go_wp2_with (fail)
      refine (c5 _).mono ?_
      rintro e w9 ⟨rfl, hb9⟩
      have hbw : Below w.heap.size w w9 := by
        refine below_tr ?_ hb9
        repeat (first | (with_reducible exact Below.refl _ _) | (with_reducible assumption) | (with_reducible refine below_al ?_ _) | (with_reducible refine Below.drew ?_) | (with_reducible refine below_drewN ?_ _) | (with_reducible refine below_st ?_ ?_ _) | (with_reducible refine below_tr ?_ (by assumption)) | (with_reducible exact Nat.le_refl _) | (focus (simp; done)) | (focus (simp; omega)))
      have H2 : Has w9 w.heap.size [.int .i64 0, .int .i64 0] := by
        refine Has.below ?_ hb9
        exact (Has.new w _ _).alloc _
      have H3 : Has w9 (w.heap.size + 1) [.int .i64 (nt), .int .i64 (dt)] := by
        refine Has.below ?_ hb9
        have := Has.new (w.alloc (.cells #[.int .i64 0, .int .i64 0] 41)) #[.int .i64 (nt), .int .i64 (dt)] 41
        simp only [World.size_alloc] at this
        exact this
      obtain ⟨cH2_0, fH2_0⟩ := H2.2 0 _ rfl
      obtain ⟨cH2_1, fH2_1⟩ := H2.2 1 _ rfl
      obtain ⟨cH3_0, fH3_0⟩ := H3.2 0 _ rfl
      obtain ⟨cH3_1, fH3_1⟩ := H3.2 1 _ rfl
      cases ok
      · go_wp2
        refine bodyPost_ret (v := .agg #[.int .i64 0, .int .i64 0]) (by simp [results, Try.results148, go_sem, *]) rfl ⟨by rw [hfin.out]; rfl, ?_⟩
        repeat (first | (with_reducible exact Below.refl _ _) | (with_reducible assumption) | (with_reducible refine below_al ?_ _) | (with_reducible refine Below.drew ?_) | (with_reducible refine below_drewN ?_ _) | (with_reducible refine below_st ?_ ?_ _) | (with_reducible refine below_tr ?_ (by assumption)) | (with_reducible exact Nat.le_refl _) | (focus (simp; done)) | (focus (simp; omega)))
      · go_wp2
        refine bodyPost_ret (v := .agg #[.int .i64 (nt), .int .i64 (dt)]) (by simp [results, Try.results148, go_sem, *]) rfl ⟨by rw [hfin.out]; rfl, ?_⟩
        repeat (first | (with_reducible exact Below.refl _ _) | (with_reducible assumption) | (with_reducible refine below_al ?_ _) | (with_reducible refine Below.drew ?_) | (with_reducible refine below_drewN ?_ _) | (with_reducible refine below_st ?_ ?_ _) | (with_reducible refine below_tr ?_ (by assumption)) | (with_reducible exact Nat.le_refl _) | (focus (simp; done)) | (focus (simp; omega)))
end Go.Proofs.Ytbdihgcjopbnjaa
end

section
namespace Go.Proofs.Ytbdihgcjopbnjaa
open Go.RowKit

theorem mul_bd_ {a b A B : Int} (ha : -A ≤ a ∧ a ≤ A) (hb : -B ≤ b ∧ b ≤ B) : -(A * B) ≤ a * b ∧ a * b ≤ A * B := by
  have hA : a.natAbs ≤ A.natAbs := by omega
  have hB : b.natAbs ≤ B.natAbs := by omega
  have hm := Nat.mul_le_mul hA hB
  rw [← Int.natAbs_mul, ← Int.natAbs_mul] at hm
  have hAB : 0 ≤ A * B := Int.mul_nonneg (by omega) (by omega)
  omega

/-- A fraction, and whether it is valid. -/
abbrev ratV (r : Ratio) (ok : Bool) : Value := .tuple #[.agg #[.int .i64 r.n, .int .i64 r.d], .bool ok]

theorem ratioOf_In (n d : Int) : (ratioOf n d).In := by
  by_cases h : ratioOk (ratioOf n d) = true
  · have := ratioOk_iff.1 h
    exact ⟨⟨by omega, by omega⟩, ⟨by omega, by omega⟩⟩
  · have : ratioOf n d = ratio0 := by
      apply Classical.byContradiction
      intro h2
      exact h (ratioOf_ok.2 h2)
    rw [this]
    exact ⟨⟨by decide, by decide⟩, ⟨by decide, by decide⟩⟩

structure PB (q : Piece) (s : Spot) : Prop where
  a : -1000000000000000000 ≤ q.a * s.x ∧ q.a * s.x ≤ 1000000000000000000
  b : -1000000000000000000 ≤ q.b * s.y ∧ q.b * s.y ≤ 1000000000000000000
  c : -1000000000000000 ≤ q.c * s.d ∧ q.c * s.d ≤ 1000000000000000
  d : -1000000000000000 ≤ q.d * s.d ∧ q.d * s.d ≤ 1000000000000000
theorem pieceBounds {q : Piece} {s : Spot} (hq : pieceOk q = true) (hs : spotOk s = true) (hd : s.d ≤ 1000) : PB q s := by
  obtain ⟨q1, q2, q3, q4, _⟩ := pieceOk_iff.1 hq
  obtain ⟨s1, s2, s3, _⟩ := spotOk_iff.1 hs
  have a := mul_bd_ (A := 1000000000000) (B := 1000000) (a := q.a) (b := s.x) (by omega) (by omega)
  have b := mul_bd_ (A := 1000000000000) (B := 1000000) (a := q.b) (b := s.y) (by omega) (by omega)
  have c := mul_bd_ (A := 1000000000000) (B := 1000) (a := q.c) (b := s.d) (by omega) (by omega)
  have d := mul_bd_ (A := 1000000000000) (B := 1000) (a := q.d) (b := s.d) (by omega) (by omega)
  exact ⟨by omega, by omega, by omega, by omega⟩

theorem heap_size_setCells (b : Nat) : ∀ (vs : List Value) (o : Nat) (w : World), (w.setCells b o vs).heap.size = w.heap.size
  | [], _, _ => rfl
  | v :: r, o, w => by rw [World.setCells, heap_size_setCells b r]; simp [World.setCell]
/-- A block written over. -/
theorem Has.stored {w : World} {g : Nat} {vs : List Value} (h : Has w g vs) (us : List Value) (hl : us.length = vs.length) : Has (w.setCells g 0 us) g us := by
  refine ⟨by rw [heap_size_setCells]; exact h.1, fun j v hv => ?_⟩
  have hj : j < us.length := by
    rcases Nat.lt_or_ge j us.length with h | h
    · exact h
    · rw [List.getElem?_eq_none h] at hv; cases hv
  constructor
  · have := World.cell?_setCells_in g us 0 w (fun k hk => by rw [Nat.zero_add, (h.2 k _ (List.getElem?_eq_getElem (by omega))).1]; rfl) j hj
    rw [Nat.zero_add] at this
    rw [this, ← hv, List.getElem?_eq_getElem hj]
  · rw [World.frozen?_setCells]
    exact (h.2 j _ (List.getElem?_eq_getElem (by omega))).2

set_option maxRecDepth 100000 in
set_option maxHeartbeats 2000000 in
theorem ipieceAt_c (q : Piece) (s : Spot) (w : World) (hq : pieceOk q = true) (hs : spotOk s = true) :
    Calls Try.prog 162 #[pieceV q, spotV s] w fun e w' => e = .returned (ratV (pieceVal q s) (ratioOk (pieceVal q s))) ∧ Below w.heap.size w w' := by
  by_cases hd : 1000 < s.d
  · have hfin : pieceVal q s = ratio0 := by simp [pieceVal, hd]
    rw [hfin, ratioOk_zero]
    go_enter Try.func162, Try.ntmps162
    go_wp2
    refine bodyPost_ret (v := .tuple #[.agg #[.int .i64 0, .int .i64 0], .bool false]) (by simp [results, Try.results162, go_sem]) rfl ⟨rfl, ?_⟩
    repeat (first | (with_reducible exact Below.refl _ _) | (with_reducible assumption) | (with_reducible refine below_al ?_ _) | (with_reducible refine Below.drew ?_) | (with_reducible refine below_drewN ?_ _) | (with_reducible refine below_st ?_ ?_ _) | (with_reducible refine below_tr ?_ (by assumption)) | (with_reducible exact Nat.le_refl _) | (focus (simp; done)) | (focus (simp; omega)))
  · have hfin : pieceVal q s = ratioOf (q.a * s.x + q.b * s.y + q.c * s.d) (q.d * s.d) := by simp [pieceVal, hd]
    rw [hfin]
    obtain ⟨⟨a1, a2⟩, ⟨b1, b2⟩, ⟨c1, c2⟩, ⟨d1, d2⟩⟩ := pieceBounds hq hs (by omega)
    have k1 := fun W => iRatioOf_c (q.a * s.x + q.b * s.y + q.c * s.d) (q.d * s.d) W ⟨by omega, by omega⟩ ⟨by omega, by omega⟩
    have hin := ratioOf_In (q.a * s.x + q.b * s.y + q.c * s.d) (q.d * s.d)
    have k2 := fun W => iRatioOk_c (ratioOf (q.a * s.x + q.b * s.y + q.c * s.d) (q.d * s.d)) W hin
    clear hfin hin hq hs
    revert k1 k2
    generalize ratioOf (q.a * s.x + q.b * s.y + q.c * s.d) (q.d * s.d) = r
    generalize ratioOk r = ok
    intro k1 k2
    go_enter Try.func162, Try.ntmps162
    go_wp2_with (fail)
    refine (k1 _).mono ?_
    rintro e w1 ⟨rfl, hb1⟩
    have H1 : Has w1 (w.heap.size + 1 + 1) [.int .i64 0, .int .i64 0] := by
      refine Has.below ?_ hb1
      have := Has.new ((w.alloc (.cells #[.int .i64 q.a, .int .i64 q.b, .int .i64 q.c, .int .i64 q.d] 193)).alloc (.cells #[.int .i64 s.x, .int .i64 s.y, .int .i64 s.d] 65)) #[.int .i64 0, .int .i64 0] 41
      simp only [World.size_alloc] at this
      exact this
    have hbw := below_tr (below_al (below_al (below_al (Below.refl w.heap.size w) _) _) _) hb1
    have hlt1 := H1.1
    go_wp2
    have H2 := H1.alloc (.cells #[.int .i64 r.n, .int .i64 r.d] 41)
    have hbw2 := below_al hbw (.cells #[.int .i64 r.n, .int .i64 r.d] 41)
    have H3 := Has.new w1 #[.int .i64 r.n, .int .i64 r.d] 41
    generalize hg6 : w1.heap.size = g6 at *
    generalize hW : w1.alloc (.cells #[.int .i64 r.n, .int .i64 r.d] 41) = W at *
    clear hW hg6 hb1 H1 hbw
    obtain ⟨cH2_0, fH2_0⟩ := H2.2 0 _ rfl
    obtain ⟨cH2_1, fH2_1⟩ := H2.2 1 _ rfl
    obtain ⟨cH3_0, fH3_0⟩ := H3.2 0 _ rfl
    obtain ⟨cH3_1, fH3_1⟩ := H3.2 1 _ rfl
    have hlt6 := H3.1
    have hlt4 := H2.1
    have H2' := Lib.hid H2
    have H3' := Lib.hid H3
    have hne : w.heap.size + 1 + 1 ≠ g6 := by omega
    clear H2 H3
    go_region_held3 (fun w' => w'.cell? ⟨g6, 0, none⟩ = some (.int .i64 r.n) ∧ w'.cell? ⟨g6, 1, none⟩ = some (.int .i64 r.d)) (first | go_keep | (refine ⟨(hb2.cell (p := ⟨g6, 0, none⟩) (by simpa [World.setCell] using hlt6)).trans ?_, (hb2.cell (p := ⟨g6, 1, none⟩) (by simpa [World.setCell] using hlt6)).trans ?_⟩ <;> go_keep))
      (first | (go_at_call 94; refine (k2 _).mono ?_; rintro e w2 ⟨rfl, hb2⟩; first | (have T4 : Has w2 (w.heap.size + 1 + 1) [.int .i64 0, .int .i64 0] := Has.below (by exact H2'.out) hb2; obtain ⟨c20, f20⟩ := T4.2 0 _ rfl; obtain ⟨c21, f21⟩ := T4.2 1 _ rfl) | (have T4 : Has w2 (w.heap.size + 1 + 1) [.int .i64 r.n, .int .i64 r.d] := Has.below (by exact H2'.out.stored [.int .i64 r.n, .int .i64 r.d] rfl) hb2; obtain ⟨c20, f20⟩ := T4.2 0 _ rfl; obtain ⟨c21, f21⟩ := T4.2 1 _ rfl)))
    all_goals go_wp2
    refine bodyPost_ret (v := .tuple #[.agg #[.int .i64 r.n, .int .i64 r.d], .bool ok]) (by simp [results, Try.results162, go_sem, *]) rfl ⟨rfl, ?_⟩
    have hbw3 := below_tr hbw2.drew hb2
    repeat (first | (with_reducible exact Below.refl _ _) | (with_reducible assumption) | (with_reducible refine below_al ?_ _) | (with_reducible refine Below.drew ?_) | (with_reducible refine below_drewN ?_ _) | (with_reducible refine below_st ?_ ?_ _) | (with_reducible refine below_tr ?_ (by assumption)) | (with_reducible exact Nat.le_refl _) | (focus (simp; done)) | (focus (simp; omega)))

set_option maxRecDepth 100000 in
set_option maxHeartbeats 4000000 in
theorem sPieceAt_c (q : Piece) (s : Spot) (w : World) (hq : q.In) (hs : s.In) :
    Calls Try.prog 159 #[pieceV q, spotV s] w fun e w' => e = .returned (ratV (pieceAt q s) (ratioOk (pieceAt q s))) ∧ Below w.heap.size w w' := by
  have k1 := fun W => sPieceOk_c q W hq
  have k2 := fun W => sSpotOk_c s W hs
  have hpb := fun h1 h2 => @pieceBounds q s h1 h2
  have hfin : Hid (pieceAt q s = if pieceOk q = true ∧ spotOk s = true then pieceVal q s else ratio0) := rfl
  have HA := Has.new w #[.int .i64 q.a, .int .i64 q.b, .int .i64 q.c, .int .i64 q.d] 193
  have HB := Has.new (w.alloc (.cells #[.int .i64 q.a, .int .i64 q.b, .int .i64 q.c, .int .i64 q.d] 193)) #[.int .i64 s.x, .int .i64 s.y, .int .i64 s.d] 65
  have HC := Has.new ((w.alloc (.cells #[.int .i64 q.a, .int .i64 q.b, .int .i64 q.c, .int .i64 q.d] 193)).alloc (.cells #[.int .i64 s.x, .int .i64 s.y, .int .i64 s.d] 65)) #[.int .i64 0, .int .i64 0] 41
  simp only [World.size_alloc] at HB HC
  generalize pieceOk q = b1 at *
  generalize spotOk s = b2 at *
  cases b1
  · clear hpb
    go_enter Try.func159, Try.ntmps159
    go_wp2_with (fail)
    refine (k1 _).mono ?_
    rintro e w1 ⟨rfl, hb1⟩
    have H1 := HC.below hb1
    have hbw := below_tr (below_al (below_al (below_al (Below.refl w.heap.size w) _) _) _) hb1
    obtain ⟨cH1_0, fH1_0⟩ := H1.2 0 _ rfl
    obtain ⟨cH1_1, fH1_1⟩ := H1.2 1 _ rfl
    go_wp2
    refine bodyPost_ret (v := .tuple #[.agg #[.int .i64 0, .int .i64 0], .bool false]) (by simp [results, Try.results159, go_sem, *]) rfl ⟨by rw [hfin.out]; rfl, ?_⟩
    repeat (first | (with_reducible exact Below.refl _ _) | (with_reducible assumption) | (with_reducible refine below_al ?_ _) | (with_reducible refine Below.drew ?_) | (with_reducible refine below_drewN ?_ _) | (with_reducible refine below_st ?_ ?_ _) | (with_reducible refine below_tr ?_ (by assumption)) | (with_reducible exact Nat.le_refl _) | (focus (simp; done)) | (focus (simp; omega)))
  · cases b2
    · clear hpb
      go_enter Try.func159, Try.ntmps159
      go_wp2_with (fail)
      refine (k1 _).mono ?_
      rintro e w1 ⟨rfl, hb1⟩
      have H1 := HC.below hb1
      have H2 := ((HB.alloc _).below hb1)
      have hbw := below_tr (below_al (below_al (below_al (Below.refl w.heap.size w) _) _) _) hb1
      obtain ⟨cH2_0, fH2_0⟩ := H2.2 0 _ rfl
      obtain ⟨cH2_1, fH2_1⟩ := H2.2 1 _ rfl
      obtain ⟨cH2_2, fH2_2⟩ := H2.2 2 _ rfl
      go_wp2_with (fail)
      refine (k2 _).mono ?_
      rintro e w2 ⟨rfl, hb2⟩
      have H3 := H1.below hb2
      have hbw2 := below_tr hbw hb2
      obtain ⟨cH3_0, fH3_0⟩ := H3.2 0 _ rfl
      obtain ⟨cH3_1, fH3_1⟩ := H3.2 1 _ rfl
      go_wp2
      refine bodyPost_ret (v := .tuple #[.agg #[.int .i64 0, .int .i64 0], .bool false]) (by simp [results, Try.results159, go_sem, *]) rfl ⟨by rw [hfin.out]; rfl, ?_⟩
      repeat (first | (with_reducible exact Below.refl _ _) | (with_reducible assumption) | (with_reducible refine below_al ?_ _) | (with_reducible refine Below.drew ?_) | (with_reducible refine below_drewN ?_ _) | (with_reducible refine below_st ?_ ?_ _) | (with_reducible refine below_tr ?_ (by assumption)) | (with_reducible exact Nat.le_refl _) | (focus (simp; done)) | (focus (simp; omega)))
    · have hfin2 : Hid (pieceAt q s = pieceVal q s) := hfin.out
      rw [hfin2.out]
      clear hfin hfin2
      by_cases hd : 1000 < s.d
      · have hv : pieceVal q s = ratio0 := by simp [pieceVal, hd]
        rw [hv, ratioOk_zero]
        clear hpb hv
        go_enter Try.func159, Try.ntmps159
        go_wp2_with (fail)
        refine (k1 _).mono ?_
        rintro e w1 ⟨rfl, hb1⟩
        have H1 := HC.below hb1
        have H2 := ((HB.alloc _).below hb1)
        have hbw := below_tr (below_al (below_al (below_al (Below.refl w.heap.size w) _) _) _) hb1
        obtain ⟨cH2_0, fH2_0⟩ := H2.2 0 _ rfl
        obtain ⟨cH2_1, fH2_1⟩ := H2.2 1 _ rfl
        obtain ⟨cH2_2, fH2_2⟩ := H2.2 2 _ rfl
        go_wp2_with (fail)
        refine (k2 _).mono ?_
        rintro e w2 ⟨rfl, hb2⟩
        have H3 := H1.below hb2
        have H4 := H2.below hb2
        have hbw2 := below_tr hbw hb2
        clear cH2_0 cH2_1 cH2_2 fH2_0 fH2_1 fH2_2
        obtain ⟨cH3_0, fH3_0⟩ := H3.2 0 _ rfl
        obtain ⟨cH3_1, fH3_1⟩ := H3.2 1 _ rfl
        obtain ⟨cH4_0, fH4_0⟩ := H4.2 0 _ rfl
        obtain ⟨cH4_1, fH4_1⟩ := H4.2 1 _ rfl
        obtain ⟨cH4_2, fH4_2⟩ := H4.2 2 _ rfl
        go_wp2
        refine bodyPost_ret (v := .tuple #[.agg #[.int .i64 0, .int .i64 0], .bool false]) (by simp [results, Try.results159, go_sem, *]) rfl ⟨rfl, ?_⟩
        repeat (first | (with_reducible exact Below.refl _ _) | (with_reducible assumption) | (with_reducible refine below_al ?_ _) | (with_reducible refine Below.drew ?_) | (with_reducible refine below_drewN ?_ _) | (with_reducible refine below_st ?_ ?_ _) | (with_reducible refine below_tr ?_ (by assumption)) | (with_reducible exact Nat.le_refl _) | (focus (simp; done)) | (focus (simp; omega)))
      · have hv : pieceVal q s = ratioOf (q.a * s.x + q.b * s.y + q.c * s.d) (q.d * s.d) := by simp [pieceVal, hd]
        rw [hv]
        obtain ⟨⟨a1, a2⟩, ⟨b1, b2⟩, ⟨c1, c2⟩, ⟨d1, d2⟩⟩ := hpb rfl rfl (by omega)
        have k3 := fun W => sRatioOf_c (q.a * s.x + q.b * s.y + q.c * s.d) (q.d * s.d) W ⟨by omega, by omega⟩ ⟨by omega, by omega⟩
        have hin := ratioOf_In (q.a * s.x + q.b * s.y + q.c * s.d) (q.d * s.d)
        have k4 := fun W => sRatioOk_c (ratioOf (q.a * s.x + q.b * s.y + q.c * s.d) (q.d * s.d)) W hin
        clear hv hin hq hs hpb
        revert k3 k4
        generalize ratioOf (q.a * s.x + q.b * s.y + q.c * s.d) (q.d * s.d) = r
        generalize ratioOk r = ok
        intro k3 k4
        go_enter Try.func159, Try.ntmps159
        go_wp2_with (fail)
        refine (k1 _).mono ?_
        rintro e w1 ⟨rfl, hb1⟩
        have H1 := HC.below hb1
        have H2 := ((HB.alloc _).below hb1)
        have H3 := (((HA.alloc _).alloc _).below hb1)
        have hbw := below_tr (below_al (below_al (below_al (Below.refl w.heap.size w) _) _) _) hb1
        obtain ⟨cH2_0, fH2_0⟩ := H2.2 0 _ rfl
        obtain ⟨cH2_1, fH2_1⟩ := H2.2 1 _ rfl
        obtain ⟨cH2_2, fH2_2⟩ := H2.2 2 _ rfl
        go_wp2_with (fail)
        refine (k2 _).mono ?_
        rintro e w2 ⟨rfl, hb2⟩
        have H4 := H1.below hb2
        have H5 := H2.below hb2
        have H6 := H3.below hb2
        have hbw2 := below_tr hbw hb2
        clear cH2_0 cH2_1 cH2_2 fH2_0 fH2_1 fH2_2
        obtain ⟨cH5_0, fH5_0⟩ := H5.2 0 _ rfl
        obtain ⟨cH5_1, fH5_1⟩ := H5.2 1 _ rfl
        obtain ⟨cH5_2, fH5_2⟩ := H5.2 2 _ rfl
        obtain ⟨cH6_0, fH6_0⟩ := H6.2 0 _ rfl
        obtain ⟨cH6_1, fH6_1⟩ := H6.2 1 _ rfl
        obtain ⟨cH6_2, fH6_2⟩ := H6.2 2 _ rfl
        obtain ⟨cH6_3, fH6_3⟩ := H6.2 3 _ rfl
        go_wp2_with (fail)
        refine (k3 _).mono ?_
        rintro e w3 ⟨rfl, hb3⟩
        have H7 := H4.below hb3
        have hbw3 := below_tr hbw2 hb3
        clear cH5_0 cH5_1 cH5_2 fH5_0 fH5_1 fH5_2 cH6_0 cH6_1 cH6_2 fH6_0 fH6_1 fH6_2 cH6_3 fH6_3
        have hlt1 := H7.1
        go_wp2
        have H8 := H7.alloc (.cells #[.int .i64 r.n, .int .i64 r.d] 41)
        have hbw4 := below_al hbw3 (.cells #[.int .i64 r.n, .int .i64 r.d] 41)
        have H9 := Has.new w3 #[.int .i64 r.n, .int .i64 r.d] 41
        clear H1 H2 H3 H4 H5 H6 H7 hb1 hb2 hbw hbw2 hbw3 HA HB HC hb3
        generalize hg6 : w3.heap.size = g6 at *
        generalize hW : w3.alloc (.cells #[.int .i64 r.n, .int .i64 r.d] 41) = W at *
        clear hW hg6
        obtain ⟨cH8_0, fH8_0⟩ := H8.2 0 _ rfl
        obtain ⟨cH8_1, fH8_1⟩ := H8.2 1 _ rfl
        obtain ⟨cH9_0, fH9_0⟩ := H9.2 0 _ rfl
        obtain ⟨cH9_1, fH9_1⟩ := H9.2 1 _ rfl
        have hlt6 := H9.1
        have hlt4 := H8.1
        have H2' := Lib.hid H8
        have H3' := Lib.hid H9
        have hne : w.heap.size + 1 + 1 ≠ g6 := by omega
        clear H8 H9
        go_region_held3 (fun w' => w'.cell? ⟨g6, 0, none⟩ = some (.int .i64 r.n) ∧ w'.cell? ⟨g6, 1, none⟩ = some (.int .i64 r.d)) (first | go_keep | (refine ⟨(hb2.cell (p := ⟨g6, 0, none⟩) (by simpa [World.setCell] using hlt6)).trans ?_, (hb2.cell (p := ⟨g6, 1, none⟩) (by simpa [World.setCell] using hlt6)).trans ?_⟩ <;> go_keep))
          (first | (go_at_call 89; refine (k4 _).mono ?_; rintro e w2 ⟨rfl, hb2⟩; first | (have T4 : Has w2 (w.heap.size + 1 + 1) [.int .i64 0, .int .i64 0] := Has.below (by exact H2'.out) hb2; obtain ⟨c20, f20⟩ := T4.2 0 _ rfl; obtain ⟨c21, f21⟩ := T4.2 1 _ rfl) | (have T4 : Has w2 (w.heap.size + 1 + 1) [.int .i64 r.n, .int .i64 r.d] := Has.below (by exact H2'.out.stored [.int .i64 r.n, .int .i64 r.d] rfl) hb2; obtain ⟨c20, f20⟩ := T4.2 0 _ rfl; obtain ⟨c21, f21⟩ := T4.2 1 _ rfl)))
        all_goals go_wp2
        refine bodyPost_ret (v := .tuple #[.agg #[.int .i64 r.n, .int .i64 r.d], .bool ok]) (by simp [results, Try.results159, go_sem, *]) rfl ⟨rfl, ?_⟩
        have hbw5 := below_tr hbw4.drew hb2
        repeat (first | (with_reducible exact Below.refl _ _) | (with_reducible assumption) | (with_reducible refine below_al ?_ _) | (with_reducible refine Below.drew ?_) | (with_reducible refine below_drewN ?_ _) | (with_reducible refine below_st ?_ ?_ _) | (with_reducible refine below_tr ?_ (by assumption)) | (with_reducible exact Nat.le_refl _) | (focus (simp; done)) | (focus (simp; omega)))
end Go.Proofs.Ytbdihgcjopbnjaa
end

section
namespace Go.Proofs.Ytbdihgcjopbnjaa
open Go.RowKit

theorem kq_drew {a w : World} {n : Nat} (h : (∀ b o, b < n → w.cell? ⟨b, o, none⟩ = a.cell? ⟨b, o, none⟩) ∧ n ≤ w.heap.size) :
    (∀ b o', b < n → w.drew.cell? ⟨b, o', none⟩ = a.cell? ⟨b, o', none⟩) ∧ n ≤ w.drew.heap.size := h
theorem kq_self (a : World) {n : Nat} (h : n ≤ a.heap.size) : (∀ b o', b < n → a.cell? ⟨b, o', none⟩ = a.cell? ⟨b, o', none⟩) ∧ n ≤ a.heap.size := ⟨fun _ _ _ => rfl, h⟩
end Go.Proofs.Ytbdihgcjopbnjaa
end
