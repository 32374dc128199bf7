/-
  IsConsistent of the program.
  Conditions: the slice reads as a list of at most 2^20 records.
-/
import Derived.Test.YtelkcmchokajaaaErr
import Derived.Test.YtelkcmchokajaaaPiece
namespace Go.Proofs.Ytelkcmchokajaaa
open Go.RowKit

theorem isError2_c (a : Int) (w : World) :
    Calls Try.prog 91 #[.int .i64 a] w fun e w' => e = .returned (.bool (inR a 0 1000)) ∧ w = w' := by
  go_enter Try.func91, Try.ntmps91
  go_wp2_with (first | (go_at_call 108; refine (inRange_c _ _ _ _).mono ?_; rintro e w' ⟨rfl, rfl⟩))
  go_ret
  exact ⟨rfl, rfl⟩
set_option maxRecDepth 100000 in
set_option maxHeartbeats 4000000 in
theorem iIsConsistent_c (A : Option Addr) (xs : List Record) (cap : Nat) (err : Int) (s : Spot) (w : World) (hin : s.In) (hn : xs.length ≤ 1048576) (hs : Sl 3 recordC w A xs) :
    Calls Try.prog 40 #[.slice A xs.length cap, .int .i64 err, spotV s] w fun e w' => e = .returned (.bool (isConsistent xs err s)) ∧ Below w.heap.size w w' := by
  have c0 := fun W h => iRecordsOk_c A xs cap W hn h
  have c1 := fun W => isError2_c err W
  have c2 := fun W => areParameters_c s W hin
  cases e0 : recordsOk xs
  · rw [e0] at c0
    have h1 := Lib.hid (show isConsistent xs err s = false by simp [isConsistent, leastOk, e0])
    go_enter Try.func40, Try.ntmps40
    go_wp2_with (fail)
    refine (c0 _ (Sl.below hs (by (repeat (first | (with_reducible exact Below.refl _ _) | (with_reducible assumption) | (with_reducible refine below_al ?_ _) | (with_reducible refine Below.drew ?_) | (with_reducible refine below_drewN ?_ _) | (with_reducible refine below_st ?_ ?_ _) | (with_reducible refine below_tr ?_ (by assumption)) | (with_reducible exact Nat.le_refl _) | (focus (simp; done)) | (focus (simp; omega))))))).mono ?_
    rintro e w0 ⟨rfl, hb0⟩
    go_wp2
    go_ret
    refine ⟨ret_bool h1.out.symm, ?_⟩
    repeat (first | (with_reducible exact Below.refl _ _) | (with_reducible assumption) | (with_reducible refine below_al ?_ _) | (with_reducible refine Below.drew ?_) | (with_reducible refine below_drewN ?_ _) | (with_reducible refine below_st ?_ ?_ _) | (with_reducible refine below_tr ?_ (by assumption)) | (with_reducible exact Nat.le_refl _) | (focus (simp; done)) | (focus (simp; omega)))
  · rw [e0] at c0
    cases e1 : inR err 0 1000
    · rw [e1] at c1
      have h1 := Lib.hid (show isConsistent xs err s = false by simp [isConsistent, e1])
      go_enter Try.func40, Try.ntmps40
      go_wp2_with (fail)
      refine (c0 _ (Sl.below hs (by (repeat (first | (with_reducible exact Below.refl _ _) | (with_reducible assumption) | (with_reducible refine below_al ?_ _) | (with_reducible refine Below.drew ?_) | (with_reducible refine below_drewN ?_ _) | (with_reducible refine below_st ?_ ?_ _) | (with_reducible refine below_tr ?_ (by assumption)) | (with_reducible exact Nat.le_refl _) | (focus (simp; done)) | (focus (simp; omega))))))).mono ?_
      rintro e w0 ⟨rfl, hb0⟩
      go_wp2_with (fail)
      refine (c1 _).mono ?_
      rintro e w' ⟨rfl, rfl⟩
      go_wp2
      go_ret
      refine ⟨ret_bool h1.out.symm, ?_⟩
      repeat (first | (with_reducible exact Below.refl _ _) | (with_reducible assumption) | (with_reducible refine below_al ?_ _) | (with_reducible refine Below.drew ?_) | (with_reducible refine below_drewN ?_ _) | (with_reducible refine below_st ?_ ?_ _) | (with_reducible refine below_tr ?_ (by assumption)) | (with_reducible exact Nat.le_refl _) | (focus (simp; done)) | (focus (simp; omega)))
    · rw [e1] at c1
      cases e2 : areParams s
      · rw [e2] at c2
        have h1 := Lib.hid (show isConsistent xs err s = false by simp [isConsistent, leastOk, e2])
        go_enter Try.func40, Try.ntmps40
        go_wp2_with (fail)
        refine (c0 _ (Sl.below hs (by (repeat (first | (with_reducible exact Below.refl _ _) | (with_reducible assumption) | (with_reducible refine below_al ?_ _) | (with_reducible refine Below.drew ?_) | (with_reducible refine below_drewN ?_ _) | (with_reducible refine below_st ?_ ?_ _) | (with_reducible refine below_tr ?_ (by assumption)) | (with_reducible exact Nat.le_refl _) | (focus (simp; done)) | (focus (simp; omega))))))).mono ?_
        rintro e w0 ⟨rfl, hb0⟩
        have r0 := bcell1 hb0
        have l0 : w.heap.size < w0.heap.size := blt hb0 (by first | (simp; done) | (simp; omega) | omega)
        go_wp2_with (fail)
        refine (c1 _).mono ?_
        rintro e w' ⟨rfl, rfl⟩
        go_wp2_with (fail)
        refine (c2 _).mono ?_
        rintro e w1 ⟨rfl, hb1⟩
        go_wp2
        go_ret
        refine ⟨ret_bool h1.out.symm, ?_⟩
        repeat (first | (with_reducible exact Below.refl _ _) | (with_reducible assumption) | (with_reducible refine below_al ?_ _) | (with_reducible refine Below.drew ?_) | (with_reducible refine below_drewN ?_ _) | (with_reducible refine below_st ?_ ?_ _) | (with_reducible refine below_tr ?_ (by assumption)) | (with_reducible exact Nat.le_refl _) | (focus (simp; done)) | (focus (simp; omega)))
      · rw [e2] at c2
        obtain ⟨er1, er2⟩ := inR_iff.1 e1
        obtain ⟨⟨d1, d2⟩, _, _⟩ := parB e2
        have hT : 0 ≤ 100 * err * s.d ∧ 100 * err * s.d ≤ 100000000 := by
          have h1 : 0 ≤ 100 * err * s.d := Int.mul_nonneg (by omega) (by omega)
          have h2 : 100 * err * s.d ≤ 100000 * s.d := Int.mul_le_mul_of_nonneg_right (by omega) (by omega)
          omega
        obtain ⟨T1, T2⟩ := hT
        have hv := Lib.hid (show isConsistent xs err s = decide (maxDist xs s ≤ 100 * err * s.d) by simp [isConsistent, leastOk, e0, e1, e2])
        have hle := Lib.hid (maxDist_le (s := s) (100 * err * s.d) xs T1)
        have hall := Lib.hid (leastOk_dis e0 e2)
        have hrec := Lib.hid (recordsOk_all e0)
        clear e0 e1 e2
        go_enter Try.func40, Try.ntmps40
        go_wp2_with (fail)
        refine (c0 _ (Sl.below hs (by (repeat (first | (with_reducible exact Below.refl _ _) | (with_reducible assumption) | (with_reducible refine below_al ?_ _) | (with_reducible refine Below.drew ?_) | (with_reducible refine below_drewN ?_ _) | (with_reducible refine below_st ?_ ?_ _) | (with_reducible refine below_tr ?_ (by assumption)) | (with_reducible exact Nat.le_refl _) | (focus (simp; done)) | (focus (simp; omega))))))).mono ?_
        rintro e w0 ⟨rfl, hb0⟩
        have r0 := bcell1 hb0
        have l0 : w.heap.size < w0.heap.size := blt hb0 (by first | (simp; done) | (simp; omega) | omega)
        go_wp2_with (fail)
        refine (c1 _).mono ?_
        rintro e w' ⟨rfl, rfl⟩
        go_wp2_with (fail)
        refine (c2 _).mono ?_
        rintro e w1 ⟨rfl, hb1⟩
        have HS : Has w1 w.heap.size [.int .i64 s.x, .int .i64 s.y, .int .i64 s.d] := by
          repeat (first | ((with_reducible refine Has.new_at ?_ _ _ rfl); (first | rfl | (focus (simp; done)))) | (with_reducible refine Has.set_ ?_ ?_ _) | (with_reducible refine Has.alloc ?_ _) | (with_reducible refine Has.below ?_ (by assumption)) | (focus (simp; done)) | (focus (simp; omega)))
        have hsw : Sl 3 recordC w1 A xs := Sl.below hs (by (repeat (first | (with_reducible exact Below.refl _ _) | (with_reducible assumption) | (with_reducible refine below_al ?_ _) | (with_reducible refine Below.drew ?_) | (with_reducible refine below_drewN ?_ _) | (with_reducible refine below_st ?_ ?_ _) | (with_reducible refine below_tr ?_ (by assumption)) | (with_reducible exact Nat.le_refl _) | (focus (simp; done)) | (focus (simp; omega)))))
        have hbw : Below w.heap.size w w1 := by
          repeat (first | (with_reducible exact Below.refl _ _) | (with_reducible assumption) | (with_reducible refine below_al ?_ _) | (with_reducible refine Below.drew ?_) | (with_reducible refine below_drewN ?_ _) | (with_reducible refine below_st ?_ ?_ _) | (with_reducible refine below_tr ?_ (by assumption)) | (with_reducible exact Nat.le_refl _) | (focus (simp; done)) | (focus (simp; omega)))
        go_wp2
        clear r0 l0 hb0 hb1 c0 c1 c2 hs
        go_loopw [8, 24] (fun _ i wr => ∃ k : Nat, k ≤ xs.length ∧ i = .int .i64 k ∧ Hid (∀ x ∈ xs.take k, distR x s ≤ 100 * err * s.d) ∧ Below w1.heap.size w1 wr) (fun _ i _ => xs.length - (intOf i).toNat)
        case atStart => exact ⟨0, Nat.zero_le _, rfl, by simp [Hid], Below.refl _ _⟩
        case round =>
          obtain ⟨k, hk, rfl, htk, hbr⟩ := hrel
          have HR := HS.below hbr
          have lR := HR.1
          obtain ⟨cHR_0, fHR_0⟩ := HR.2 0 _ rfl
          obtain ⟨cHR_1, fHR_1⟩ := HR.2 1 _ rfl
          obtain ⟨cHR_2, fHR_2⟩ := HR.2 2 _ rfl
          by_cases hlt : k < xs.length
          · obtain ⟨b, off, rfl, hblt, hc⟩ := (hsw.below hbr).at_ hlt
            have g0 := hc 0 _ rfl
            have g1 := hc 1 _ rfl
            have g2 := hc 2 _ rfl
            have hd := hall.out xs[k] (List.getElem_mem hlt)
            have ha := (hrec.out xs[k] (List.getElem_mem hlt)).2.2
            obtain ⟨q1, q2⟩ := distR_bd hd
            have c2 := fun W => distanceOf_c xs[k] s W hd ha
            have hyes := Lib.hid (fun (h : distR xs[k] s ≤ 100 * err * s.d) => show ∀ x ∈ xs.take (k + 1), distR x s ≤ 100 * err * s.d from by
              intro x hx; rw [take_succ' xs k hlt] at hx; simp only [List.mem_append, List.mem_singleton] at hx
              rcases hx with hx | rfl
              · exact htk.out x hx
              · exact h)
            have hno := Lib.hid (fun (h : ¬ distR xs[k] s ≤ 100 * err * s.d) => show isConsistent xs err s = false from by
              rw [hv.out, decide_eq_false_iff_not, hle.out]; intro hh; exact h (hh _ (List.getElem_mem hlt)))
            clear hc hd ha htk
            simp only [Nat.add_zero] at g0
            generalize xs[k] = x at *
            generalize distR x s = D at *
            have i1 : (k : Int) < (xs.length : Int) := by omega
            go_upto_region 6 with fail
            have wr1 : IntKind.i64.wrap (100 * err) = 100 * err := IntWalk.i64_in _ (by omega)
            have wr2 : IntKind.i64.wrap (100 * err * s.d) = 100 * err * s.d := IntWalk.i64_in _ (by omega)
            go_region_held3 (fun w' => (∀ b o, b < wr.heap.size + 1 → w'.cell? ⟨b, o, none⟩ = (wr.alloc (.cells #[.int .i64 x.before, .int .i64 x.input, .int .i64 x.after] 130)).cell? ⟨b, o, none⟩) ∧ wr.heap.size + 1 ≤ w'.heap.size) (first | exact ⟨fun _ _ _ => rfl, by simp⟩ | exact kq_step2 (by assumption) (by assumption))
              (first
                | (go_at_call 93; go_must (refine (c2 _).mono ?_; rintro e w2 ⟨rfl, hb2⟩)))
            clear wr1 wr2
            have hbz := below_tr (below_al hbr (.cells #[.int .i64 x.before, .int .i64 x.input, .int .i64 x.after] 130)).drew hb2
            by_cases hle2 : D ≤ 100 * err * s.d
            · have hy := Lib.hid (hyes.out hle2)
              clear hyes hno
              have hg : ¬ 100 * err * s.d < D := by omega
              go_wp2
              go_roundw
              case rel => exact ⟨k + 1, by omega, by go_num, hy, hbz⟩
              case measure => simp [intOf]; omega
            · have hy := Lib.hid (hno.out (by omega))
              clear hyes hno
              have hg : 100 * err * s.d < D := by omega
              go_wp2
              go_ret
              refine ⟨ret_bool hy.out.symm, ?_⟩
              exact below_tr hbw hbz
          · obtain rfl : k = xs.length := by omega
            rw [List.take_length] at htk
            have hy := Lib.hid (show isConsistent xs err s = true by rw [hv.out, decide_eq_true_eq, hle.out]; exact htk.out)
            clear htk
            go_wp2
            go_ret
            refine ⟨ret_bool hy.out.symm, ?_⟩
            exact below_tr hbw hbr
end Go.Proofs.Ytelkcmchokajaaa
