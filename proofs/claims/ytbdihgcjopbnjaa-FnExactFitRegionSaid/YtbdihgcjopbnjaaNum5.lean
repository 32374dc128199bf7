/-
  What the reference's HalfOf returns.
  Conditions: the numbers are ints of the machine.
-/
import Derived.Test.YtbdihgcjopbnjaaNum4
import Derived.Deep.RegionHeld3
namespace Go.Proofs.Ytbdihgcjopbnjaa
open Go.RowKit

theorem gcdOf_one (a : Int) : gcdOf a 1 = if isMin a then 0 else 1 := by
  unfold gcdOf
  cases isMin a <;> simp [isMin]
set_option maxRecDepth 100000 in
set_option maxHeartbeats 4000000 in
theorem sHalfOf_c (a b c : Int) (w : World) (ha : In64 a) (hb : In64 b) (hc : In64 c) :
    Calls Try.prog 176 #[.int .i64 a, .int .i64 b, .int .i64 c] w fun e w' => e = .returned (optHalfV (halfOf a b c)) ∧ Below w.heap.size w w' := by
  have hone : In64 1 := ⟨by omega, by omega⟩
  have hxy := gcdOf_In64 ha hb
  have k1 := gcdOf_one a
  have k2 := gcdOf_one b
  have k3 := gcdOf_one c
  cases ma : isMin a
  · rw [ma] at k1
    cases mb : isMin b
    · rw [mb] at k2
      cases mc : isMin c
      · rw [mc] at k3
        simp only [Bool.false_eq_true, if_false] at k1 k2 k3
        by_cases hz : a = 0 ∧ b = 0
        · have hfin : halfOf a b c = none := by
            unfold halfOf
            split
            · rfl
            · rw [if_neg]
              obtain ⟨rfl, rfl⟩ := hz
              simp [halfOk, redHalf]
          rw [hfin]
          obtain ⟨rfl, rfl⟩ := hz
          clear ma mb mc hfin
          go_enter Try.func176, Try.ntmps176
          go_wp2_with (go_at_call 154; refine (sGcdOf_q _ _ _ (by assumption) (by assumption)).mono ?_; rintro e wc ⟨rfl, nc, rfl⟩)
          refine bodyPost_ret (v := .tuple #[.agg #[.int .i64 0, .int .i64 0, .int .i64 0], .bool false]) (by simp [results, Try.results176, go_sem]) rfl ⟨rfl, ?_⟩
          repeat (first | (with_reducible exact Below.refl _ _) | (with_reducible assumption) | (with_reducible refine below_al ?_ _) | (with_reducible refine Below.drew ?_) | (with_reducible refine below_drewN ?_ _) | (with_reducible refine below_st ?_ ?_ _) | (with_reducible refine below_tr ?_ (by assumption)) | (with_reducible exact Nat.le_refl _) | (focus (simp; done)) | (focus (simp; omega)))
        · have hpos : 0 < gcdAll [a, b, c] := by
            rw [gcd3]
            apply Nat.gcd_pos_of_pos_left
            rcases Nat.eq_zero_or_pos (Nat.gcd a.natAbs b.natAbs) with h | h
            · rw [Nat.gcd_eq_zero_iff] at h; omega
            · exact h
          have hfin : Hid (halfOf a b c = if halfOk ⟨a.tdiv (gcdAll [a, b, c]), b.tdiv (gcdAll [a, b, c]), c.tdiv (gcdAll [a, b, c])⟩ = true then some ⟨a.tdiv (gcdAll [a, b, c]), b.tdiv (gcdAll [a, b, c]), c.tdiv (gcdAll [a, b, c])⟩ else none) := by
            show _ = _
            rw [halfOf, if_neg (by simp [ma, mb, mc]; omega)]; rfl
          have hG : gcdOf (gcdOf a b) c = ((gcdAll [a, b, c] : Nat) : Int) := by
            have := gcdOf_in ha hb
            rw [gcdOf_no (isMin_no (by omega)) mc, gcdOf_no ma mb, gcd3]; simp
          have hle : gcdAll [a, b, c] ≤ 9223372036854775807 := by
            have := (gcdOf_in hxy hc).2
            rw [hG] at this; omega
          generalize gcdAll [a, b, c] = G at *
          have i1 := tdiv_In64 ha ma G
          have i2 := tdiv_In64 hb mb G
          have i3 := tdiv_In64 hc mc G
          have c5 := fun W => sHalfOk_c ⟨a.tdiv G, b.tdiv G, c.tdiv G⟩ W ⟨i1, i2, i3⟩
          obtain ⟨q1, r1⟩ := i1
          obtain ⟨q2, r2⟩ := i2
          obtain ⟨q3, r3⟩ := i3
          have w1 : IntKind.i64.wrap (a.tdiv G) = a.tdiv G := IntWalk.i64_in _ ⟨q1, r1⟩
          have w2 : IntKind.i64.wrap (b.tdiv G) = b.tdiv G := IntWalk.i64_in _ ⟨q2, r2⟩
          have w3 : IntKind.i64.wrap (c.tdiv G) = c.tdiv G := IntWalk.i64_in _ ⟨q3, r3⟩
          have hG1 : ¬ (G = 0) := by omega
          have hG2 : ¬ ((G : Int) = 0) := by omega
          have hz2 : ((a == 0) && (b == 0)) = false := by
            rw [Bool.and_eq_false_iff]
            simp; omega
          clear ma mb mc hz
          generalize halfOk ⟨a.tdiv G, b.tdiv G, c.tdiv G⟩ = ok at *
          generalize hba : (a == 0) = za at *
          generalize hbb : (b == 0) = zb at *
          have hz3 : za = true → zb = false := by intro h; subst h; simpa using hz2
          clear hz2
          cases za
          all_goals
            first | (have hzb := hz3 rfl; subst hzb) | skip
            clear hz3
            go_enter Try.func176, Try.ntmps176
            go_wp2_with (go_at_call 154; refine (sGcdOf_q _ _ _ (by assumption) (by assumption)).mono ?_; rintro e wc ⟨rfl, nc, rfl⟩)
            all_goals go_region_held3 (fun _ => True) (exact True.intro) (fail)
            all_goals
              go_wp2_with (fail)
              refine (c5 _).mono ?_
              rintro e w9 ⟨rfl, hb9⟩
              have hbw : Below w.heap.size w w9 := by
                refine below_tr ?_ hb9
                repeat (first | (with_reducible exact Below.refl _ _) | (with_reducible assumption) | (with_reducible refine below_al ?_ _) | (with_reducible refine Below.drew ?_) | (with_reducible refine below_drewN ?_ _) | (with_reducible refine below_st ?_ ?_ _) | (with_reducible refine below_tr ?_ (by assumption)) | (with_reducible exact Nat.le_refl _) | (focus (simp; done)) | (focus (simp; omega)))
              have H2 : Has w9 w.heap.size [.int .i64 0, .int .i64 0, .int .i64 0] := by
                refine Has.below ?_ hb9
                exact (Has.new w _ _).alloc _
              have H3 : Has w9 (w.heap.size + 1) [.int .i64 (a.tdiv G), .int .i64 (b.tdiv G), .int .i64 (c.tdiv G)] := by
                refine Has.below ?_ hb9
                have := Has.new (w.alloc (.cells #[.int .i64 0, .int .i64 0, .int .i64 0] 177)) #[.int .i64 (a.tdiv G), .int .i64 (b.tdiv G), .int .i64 (c.tdiv G)] 177
                simp only [World.size_alloc] at this
                exact this
              obtain ⟨cH2_0, fH2_0⟩ := H2.2 0 _ rfl
              obtain ⟨cH2_1, fH2_1⟩ := H2.2 1 _ rfl
              obtain ⟨cH2_2, fH2_2⟩ := H2.2 2 _ rfl
              obtain ⟨cH3_0, fH3_0⟩ := H3.2 0 _ rfl
              obtain ⟨cH3_1, fH3_1⟩ := H3.2 1 _ rfl
              obtain ⟨cH3_2, fH3_2⟩ := H3.2 2 _ rfl
              cases ok
              · go_wp2
                refine bodyPost_ret (v := .tuple #[.agg #[.int .i64 0, .int .i64 0, .int .i64 0], .bool false]) (by simp [results, Try.results176, go_sem, *]) rfl ⟨by rw [hfin.out]; rfl, ?_⟩
                repeat (first | (with_reducible exact Below.refl _ _) | (with_reducible assumption) | (with_reducible refine below_al ?_ _) | (with_reducible refine Below.drew ?_) | (with_reducible refine below_drewN ?_ _) | (with_reducible refine below_st ?_ ?_ _) | (with_reducible refine below_tr ?_ (by assumption)) | (with_reducible exact Nat.le_refl _) | (focus (simp; done)) | (focus (simp; omega)))
              · go_wp2
                refine bodyPost_ret (v := .tuple #[.agg #[.int .i64 (a.tdiv G), .int .i64 (b.tdiv G), .int .i64 (c.tdiv G)], .bool true]) (by simp [results, Try.results176, go_sem, *]) rfl ⟨by rw [hfin.out]; rfl, ?_⟩
                repeat (first | (with_reducible exact Below.refl _ _) | (with_reducible assumption) | (with_reducible refine below_al ?_ _) | (with_reducible refine Below.drew ?_) | (with_reducible refine below_drewN ?_ _) | (with_reducible refine below_st ?_ ?_ _) | (with_reducible refine below_tr ?_ (by assumption)) | (with_reducible exact Nat.le_refl _) | (focus (simp; done)) | (focus (simp; omega)))
      · rw [mc] at k3
        simp only [Bool.false_eq_true, if_false, if_true] at k1 k2 k3
        have hfin : halfOf a b c = none := by simp [halfOf, mc]
        rw [hfin]
        clear ma mb mc
        go_enter Try.func176, Try.ntmps176
        go_wp2_with (go_at_call 154; refine (sGcdOf_q _ _ _ (by assumption) (by assumption)).mono ?_; rintro e wc ⟨rfl, nc, rfl⟩)
        refine bodyPost_ret (v := .tuple #[.agg #[.int .i64 0, .int .i64 0, .int .i64 0], .bool false]) (by simp [results, Try.results176, go_sem]) rfl ⟨rfl, ?_⟩
        repeat (first | (with_reducible exact Below.refl _ _) | (with_reducible assumption) | (with_reducible refine below_al ?_ _) | (with_reducible refine Below.drew ?_) | (with_reducible refine below_drewN ?_ _) | (with_reducible refine below_st ?_ ?_ _) | (with_reducible refine below_tr ?_ (by assumption)) | (with_reducible exact Nat.le_refl _) | (focus (simp; done)) | (focus (simp; omega)))
    · rw [mb] at k2
      simp only [Bool.false_eq_true, if_false, if_true] at k1 k2
      have hfin : halfOf a b c = none := by simp [halfOf, mb]
      rw [hfin]
      clear ma mb k3
      go_enter Try.func176, Try.ntmps176
      go_wp2_with (go_at_call 154; refine (sGcdOf_q _ _ _ (by assumption) (by assumption)).mono ?_; rintro e wc ⟨rfl, nc, rfl⟩)
      refine bodyPost_ret (v := .tuple #[.agg #[.int .i64 0, .int .i64 0, .int .i64 0], .bool false]) (by simp [results, Try.results176, go_sem]) rfl ⟨rfl, ?_⟩
      repeat (first | (with_reducible exact Below.refl _ _) | (with_reducible assumption) | (with_reducible refine below_al ?_ _) | (with_reducible refine Below.drew ?_) | (with_reducible refine below_drewN ?_ _) | (with_reducible refine below_st ?_ ?_ _) | (with_reducible refine below_tr ?_ (by assumption)) | (with_reducible exact Nat.le_refl _) | (focus (simp; done)) | (focus (simp; omega)))
  · rw [ma] at k1
    simp only [if_true] at k1
    have hfin : halfOf a b c = none := by simp [halfOf, ma]
    rw [hfin]
    clear ma k2 k3
    go_enter Try.func176, Try.ntmps176
    go_wp2_with (go_at_call 154; refine (sGcdOf_q _ _ _ (by assumption) (by assumption)).mono ?_; rintro e wc ⟨rfl, nc, rfl⟩)
    refine bodyPost_ret (v := .tuple #[.agg #[.int .i64 0, .int .i64 0, .int .i64 0], .bool false]) (by simp [results, Try.results176, go_sem]) rfl ⟨rfl, ?_⟩
    repeat (first | (with_reducible exact Below.refl _ _) | (with_reducible assumption) | (with_reducible refine below_al ?_ _) | (with_reducible refine Below.drew ?_) | (with_reducible refine below_drewN ?_ _) | (with_reducible refine below_st ?_ ?_ _) | (with_reducible refine below_tr ?_ (by assumption)) | (with_reducible exact Nat.le_refl _) | (focus (simp; done)) | (focus (simp; omega)))
end Go.Proofs.Ytbdihgcjopbnjaa
