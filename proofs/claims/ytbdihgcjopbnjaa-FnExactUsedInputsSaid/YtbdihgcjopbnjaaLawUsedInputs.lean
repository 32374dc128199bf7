/-
  For every input FnExactUsedInputs returns true: the program's UsedInputs and the reference's agree.
  Conditions: none.
-/
import Derived.Test.YtbdihgcjopbnjaaUse
import Derived.Test.YtbdihgcjopbnjaaGrN
import Derived.Test.YtbdihgcjopbnjaaGrO
import Derived.Test.YtbdihgcjopbnjaaGrA
import Derived.Deep.RegionHeld3
import Derived.Deep.DeepCutAuto
import Derived.Deep.DeepMust
namespace Go.Proofs.Ytbdihgcjopbnjaa
open Go.RowKit Go.ChangeShapes Go.WideShapes Go.ChangeAt Go.Deep

set_option maxRecDepth 100000 in
set_option maxHeartbeats 8000000 in
theorem walkUsedInputs (w : World) (x : Track) (x_a : TrackA) (hin_x : TrackIn x) (hl_x : List.length x.spots ≤ 9223372036854775807 ∧ List.length x.inputs ≤ 9223372036854775807) (hs_x : TrackSl w x x_a) :
    Calls Try.prog 4 #[trackV x x_a] w fun e w' => e = .returned (.bool true) ∧ Below w.heap.size w w' := by
  by_cases c0 : 1048576 - ((trackLen x : Nat) : Int) < 0
  · skip
    go_enter Try.func4, Try.ntmps4
    go_wp2_with (fail)
    refine (szTrack_c x x_a (1048576) _ hl_x (by omega) (by omega)).mono ?_
    rw [if_pos (by omega)]
    rintro e w1 ⟨rfl, hb1⟩
    have r1 := bcell1 hb1
    have l1_0 : w.heap.size < w1.heap.size := blt hb1 (by first | (simp; done) | (simp; omega) | omega)
    go_wp2
    go_ret
    refine ⟨rfl, ?_⟩
    repeat (first | (with_reducible exact Below.refl _ _) | (with_reducible assumption) | (with_reducible refine below_al ?_ _) | (with_reducible refine Below.drew ?_) | (with_reducible refine below_drewN ?_ _) | (with_reducible refine below_st ?_ ?_ _) | (with_reducible refine below_tr ?_ (by assumption)) | (with_reducible exact Nat.le_refl _) | (focus (simp; done)) | (focus (simp; omega)))
  have hn_x : trackLen x ≤ 1048576 := by omega
  have k1 := fun W a' h => sUsed_c x a' W hn_x hin_x h
  have k2 := fun W a' h => iUsed_c x a' W hn_x hin_x h
  revert k1 k2
  generalize (used x.inputs).1 = lo
  generalize (used x.inputs).2 = hi
  generalize useOk x.inputs = c
  intro k1 k2
  go_enter Try.func4, Try.ntmps4
  go_wp2_with (fail)
  refine (szTrack_c x x_a (1048576) _ hl_x (by omega) (by omega)).mono ?_
  rw [if_neg (by omega)]
  rintro e w1 ⟨rfl, hb1⟩
  have r1 := bcell1 hb1
  have l1_0 : w.heap.size < w1.heap.size := blt hb1 (by first | (simp; done) | (simp; omega) | omega)
  go_wp2_with (fail)
  refine (toTrack_c x x_a _ hn_x (TrackSl.below hs_x (by (repeat (first | (with_reducible exact Below.refl _ _) | (with_reducible assumption) | (with_reducible refine below_al ?_ _) | (with_reducible refine Below.drew ?_) | (with_reducible refine below_drewN ?_ _) | (with_reducible refine below_st ?_ ?_ _) | (with_reducible refine below_tr ?_ (by assumption)) | (with_reducible exact Nat.le_refl _) | (focus (simp; done)) | (focus (simp; omega))))))).mono ?_
  rintro e w2 ⟨a2, rfl, N2, hb2⟩
  have r2 := bcell1 hb2
  have l2_0 : w.heap.size < w2.heap.size := blt hb2 (by first | (simp; done) | (simp; omega) | omega)
  go_wp2_with (fail)
  refine (k1 _ _ (TrackSl.below N2.sl (by (repeat (first | (with_reducible exact Below.refl _ _) | (with_reducible assumption) | (with_reducible refine below_al ?_ _) | (with_reducible refine Below.drew ?_) | (with_reducible refine below_drewN ?_ _) | (with_reducible refine below_st ?_ ?_ _) | (with_reducible refine below_tr ?_ (by assumption)) | (with_reducible exact Nat.le_refl _) | (focus (simp; done)) | (focus (simp; omega))))))).mono ?_
  rintro e w3 ⟨rfl, hb3⟩
  have r3 := bcell1 hb3
  have l3_0 : w.heap.size < w3.heap.size := blt hb3 (by first | (simp; done) | (simp; omega) | omega)
  have m3_0 : w.heap.size < w3.heap.size + 1 + 1 := by omega
  go_wp2_with (fail)
  refine (toTrack_c x x_a _ hn_x (TrackSl.below hs_x (by (repeat (first | (with_reducible exact Below.refl _ _) | (with_reducible assumption) | (with_reducible refine below_al ?_ _) | (with_reducible refine Below.drew ?_) | (with_reducible refine below_drewN ?_ _) | (with_reducible refine below_st ?_ ?_ _) | (with_reducible refine below_tr ?_ (by assumption)) | (with_reducible exact Nat.le_refl _) | (focus (simp; done)) | (focus (simp; omega))))))).mono ?_
  rintro e w4 ⟨a4, rfl, N4, hb4⟩
  have r4 := bcell1 hb4
  have l4_0 : w.heap.size < w4.heap.size := blt hb4 (by first | (simp; done) | (simp; omega) | omega)
  have l4_1 : w3.heap.size < w4.heap.size := blt hb4 (by first | (simp; done) | (simp; omega) | omega)
  have l4_2 : w3.heap.size + 1 < w4.heap.size := blt hb4 (by first | (simp; done) | (simp; omega) | omega)
  go_wp2_with (fail)
  refine (k2 _ _ (TrackSl.below N4.sl (by (repeat (first | (with_reducible exact Below.refl _ _) | (with_reducible assumption) | (with_reducible refine below_al ?_ _) | (with_reducible refine Below.drew ?_) | (with_reducible refine below_drewN ?_ _) | (with_reducible refine below_st ?_ ?_ _) | (with_reducible refine below_tr ?_ (by assumption)) | (with_reducible exact Nat.le_refl _) | (focus (simp; done)) | (focus (simp; omega))))))).mono ?_
  rintro e w5 ⟨rfl, hb5⟩
  have r5 := bcell1 hb5
  have l5_0 : w.heap.size < w5.heap.size := blt hb5 (by first | (simp; done) | (simp; omega) | omega)
  have l5_1 : w3.heap.size < w5.heap.size := blt hb5 (by first | (simp; done) | (simp; omega) | omega)
  have l5_2 : w3.heap.size + 1 < w5.heap.size := blt hb5 (by first | (simp; done) | (simp; omega) | omega)
  have l5_3 : w4.heap.size < w5.heap.size := blt hb5 (by first | (simp; done) | (simp; omega) | omega)
  have m5_0 : w.heap.size < w5.heap.size + 1 + 1 := by omega
  have m5_1 : w4.heap.size < w5.heap.size + 1 + 1 := by omega
  go_wp2_with (fail)
  refine (eqRatio_t lo _).mono ?_
  rintro e w6 ⟨rfl, hb6⟩
  have r6 := bcell1 hb6
  have l6_0 : w.heap.size < w6.heap.size := blt hb6 (by first | (simp; done) | (simp; omega) | omega)
  have l6_1 : w3.heap.size < w6.heap.size := blt hb6 (by first | (simp; done) | (simp; omega) | omega)
  have l6_2 : w3.heap.size + 1 < w6.heap.size := blt hb6 (by first | (simp; done) | (simp; omega) | omega)
  have l6_3 : w4.heap.size < w6.heap.size := blt hb6 (by first | (simp; done) | (simp; omega) | omega)
  have l6_4 : w5.heap.size < w6.heap.size := blt hb6 (by first | (simp; done) | (simp; omega) | omega)
  have l6_5 : w5.heap.size + 1 < w6.heap.size := blt hb6 (by first | (simp; done) | (simp; omega) | omega)
  go_wp2_with (fail)
  refine (eqRatio_t hi _).mono ?_
  rintro e w7 ⟨rfl, hb7⟩
  have r7 := bcell1 hb7
  have l7_0 : w.heap.size < w7.heap.size := blt hb7 (by first | (simp; done) | (simp; omega) | omega)
  have l7_1 : w3.heap.size < w7.heap.size := blt hb7 (by first | (simp; done) | (simp; omega) | omega)
  have l7_2 : w3.heap.size + 1 < w7.heap.size := blt hb7 (by first | (simp; done) | (simp; omega) | omega)
  have l7_3 : w4.heap.size < w7.heap.size := blt hb7 (by first | (simp; done) | (simp; omega) | omega)
  have l7_4 : w5.heap.size < w7.heap.size := blt hb7 (by first | (simp; done) | (simp; omega) | omega)
  have l7_5 : w5.heap.size + 1 < w7.heap.size := blt hb7 (by first | (simp; done) | (simp; omega) | omega)
  go_upto_region 10 with fail
  go_region_held3 (fun w' => (∀ b o, b < w7.heap.size → w'.cell? ⟨b, o, none⟩ = w7.cell? ⟨b, o, none⟩) ∧ w7.heap.size ≤ w'.heap.size) (first | exact ⟨fun _ _ _ => rfl, by simp⟩ | exact kq_step2 (by assumption) (by assumption))
    (first
      | (go_at_call 24; go_must (refine (toTrack_c x x_a _ hn_x (TrackSl.below hs_x (by (repeat (first | (with_reducible exact Below.refl _ _) | (with_reducible assumption) | (with_reducible refine below_al ?_ _) | (with_reducible refine Below.drew ?_) | (with_reducible refine below_drewN ?_ _) | (with_reducible refine below_st ?_ ?_ _) | (with_reducible refine below_tr ?_ (by assumption)) | (with_reducible exact Nat.le_refl _) | (focus (simp; done)) | (focus (simp; omega))))))).mono ?_; rintro e w8 ⟨a8, rfl, N8, hb8⟩))
      | (go_at_call 27; go_must (refine (eqTrack_t x a4 a8 _ hn_x (TrackSl.below N4.sl (by (repeat (first | (with_reducible exact Below.refl _ _) | (with_reducible assumption) | (with_reducible refine below_al ?_ _) | (with_reducible refine Below.drew ?_) | (with_reducible refine below_drewN ?_ _) | (with_reducible refine below_st ?_ ?_ _) | (with_reducible refine below_tr ?_ (by assumption)) | (with_reducible exact Nat.le_refl _) | (focus (simp; done)) | (focus (simp; omega)))))) (TrackSl.below N8.sl (by (repeat (first | (with_reducible exact Below.refl _ _) | (with_reducible assumption) | (with_reducible refine below_al ?_ _) | (with_reducible refine Below.drew ?_) | (with_reducible refine below_drewN ?_ _) | (with_reducible refine below_st ?_ ?_ _) | (with_reducible refine below_tr ?_ (by assumption)) | (with_reducible exact Nat.le_refl _) | (focus (simp; done)) | (focus (simp; omega))))))).mono ?_; rintro e w9 ⟨rfl, hb9⟩)))
  have B9 : Below w7.heap.size w7 w9 := by (repeat (first | (with_reducible exact Below.refl _ _) | (with_reducible assumption) | (with_reducible refine below_al ?_ _) | (with_reducible refine Below.drew ?_) | (with_reducible refine below_drewN ?_ _) | (with_reducible refine below_st ?_ ?_ _) | (with_reducible refine below_tr ?_ (by assumption)) | (with_reducible exact Nat.le_refl _) | (focus (simp; done)) | (focus (simp; omega))))
  have r9 := bcell1 B9
  have l9_0 : w.heap.size < w9.heap.size := blt B9 (by first | (simp; done) | (simp; omega) | omega)
  have l9_1 : w3.heap.size < w9.heap.size := blt B9 (by first | (simp; done) | (simp; omega) | omega)
  have l9_2 : w3.heap.size + 1 < w9.heap.size := blt B9 (by first | (simp; done) | (simp; omega) | omega)
  have l9_3 : w4.heap.size < w9.heap.size := blt B9 (by first | (simp; done) | (simp; omega) | omega)
  have l9_4 : w5.heap.size < w9.heap.size := blt B9 (by first | (simp; done) | (simp; omega) | omega)
  have l9_5 : w5.heap.size + 1 < w9.heap.size := blt B9 (by first | (simp; done) | (simp; omega) | omega)
  go_wp2
  go_ret
  refine ⟨rfl, ?_⟩
  repeat (first | (with_reducible exact Below.refl _ _) | (with_reducible assumption) | (with_reducible refine below_al ?_ _) | (with_reducible refine Below.drew ?_) | (with_reducible refine below_drewN ?_ _) | (with_reducible refine below_st ?_ ?_ _) | (with_reducible refine below_tr ?_ (by assumption)) | (with_reducible exact Nat.le_refl _) | (focus (simp; done)) | (focus (simp; omega)))

set_option maxRecDepth 100000 in
theorem lifted_UsedInputs (os : Os) (started : os.Started) (H : Type) (enc : TypeId × Value → H) :
    ReturnsInHanded {} Try.checked os 4 .any (Rows.fnExactUsedInputsSpec.pre6 enc Try.prog Try.f4 Rows.fnExactUsedInputsRow.domain false) (Rows.fnExactUsedInputsSpec.post enc Try.prog Try.f4 false true false false) := by
  refine returnsInHanded_of_change (C := Try.checked) own_ started (by kernel_rfl) Try.func4
    (ChangeSpec.witness6 (enc := enc) (C := Try.checked) false ⟨#[], #[.agg #[.slice none 0 0, .slice none 0 0]], []⟩ 8 (by kernel_rfl) (by kernel_rfl) (by kernel_rfl) (by kernel_rfl)) ?_
  intro W base args ds gs before hval0 hW hcnd _
  have hval : ∀ (j : Nat) t v, Try.f4.params[j]? = some t → args[j]? = some v → Value.okWide Try.prog W .any base t v := hval0
  have hW' := hW
  obtain ⟨p, q, hA0, hV, rfl, hfz, hnd⟩ := hW
  have hA : DataW.TrodAll enc Try.prog W 0 (fun _ => true) true Try.f4.params.toList args.toList ds p := hA0
  rw [Try.params4] at hA hval
  obtain ⟨v0, vs0, d0, ds0, p0, q0, hargs, rfl, rfl, h0, r0⟩ := trodAll_cons hA
  obtain ⟨rfl, rfl, rfl⟩ := trodAll_nil r0
  obtain rfl : args = #[v0] := by cases args; simp_all
  obtain ⟨rfl, rfl⟩ := trodVars_none hV
  have k0 := h0
  have lt0 : ∀ x ∈ p0, x.block < W.heap.size := by obtain ⟨m, hm⟩ := k0; exact DataW.trod_lt m _ _ _ hm
  have ok0 := hval 0 38 v0 rfl rfl
  obtain ⟨x, x_a, hin_x, rfl, hl_x, hs_x⟩ := openTrack ok0 h0
  refine (walkUsedInputs W x x_a hin_x hl_x hs_x).mono fun e W' ⟨he, bel⟩ => ?_
  subst he
  exact ⟨_, rfl, _, _, _, [], _, [], hW', trodAll_mk1 (shut_bool Try.underlying4 _), (trodAll_cons_mk (Below.trod laidOut_ (by kernel_rfl) (of_decide_eq_true (by kernel_rfl)) k0 bel lt0) trodAll_mk0), rfl, bel.frame _, fun h => by cases h⟩

/-- The statement. -/
theorem law_UsedInputs : Rows.FnExactUsedInputsSaid :=
  OpenClaim.holds_of_wide 4 Try.f4 rfl rfl rfl rfl rfl rfl rfl ⟨rfl, rfl, rfl, rfl, rfl⟩ rfl rfl rfl rfl rfl (by kernel_rfl) Try.func4 (by kernel_rfl)
    (of_decide_eq_true (by kernel_rfl)) (by unfold Func.isWrapper; first | (rw [if_pos (by decide +kernel)]; kernel_rfl) | (rw [if_neg (by decide +kernel)]; exact ⟨rfl, rfl⟩))
    (fun os started H enc _ => lifted_UsedInputs os started H enc)
#print axioms law_UsedInputs
end Go.Proofs.Ytbdihgcjopbnjaa
