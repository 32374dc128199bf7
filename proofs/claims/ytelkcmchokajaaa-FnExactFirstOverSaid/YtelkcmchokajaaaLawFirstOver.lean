/-
  For every input FnExactFirstOver returns true: the program's FirstOver and the reference's agree.
  Conditions: none.
-/
import Derived.Test.YtelkcmchokajaaaWat
import Derived.Test.YtelkcmchokajaaaCompC
import Derived.Test.YtelkcmchokajaaaCompO
import Derived.Test.YtelkcmchokajaaaOpen2
import Derived.Test.YtelkcmchokajaaaBel
import Derived.Test.YtelkcmchokajaaaConv
import Derived.Deep.RegionHeld3
import Derived.Deep.DeepCutAuto
import Derived.Deep.DeepMust
namespace Go.Proofs.Ytelkcmchokajaaa
open Go.RowKit Go.ChangeShapes Go.WideShapes Go.ChangeAt Go.Deep

set_option maxRecDepth 100000 in
set_option maxHeartbeats 8000000 in
theorem walkFirstOver (w : World) (x : Watch) (x_a : WatchA) (_ : WatchIn x) (hl_x : List.length x.room.map ≤ 9223372036854775807 ∧ List.length x.room.noise ≤ 9223372036854775807 ∧ List.length x.room.limits ≤ 9223372036854775807 ∧ List.length x.reg ≤ 9223372036854775807 ∧ List.length x.log ≤ 9223372036854775807) (hs_x : WatchSl w x x_a) :
    Calls Try.prog 6 #[watchV x x_a] w fun e w' => e = .returned (.bool true) ∧ Below w.heap.size w w' := by
  by_cases c0 : 1048576 - ((watchLen x : Nat) : Int) < 0
  · skip
    go_enter Try.func6, Try.ntmps6
    go_wp2_with (fail)
    refine (szWatch_c x x_a (1048576) _ hl_x (by omega) (by omega)).mono ?_
    rw [if_pos (by omega)]
    rintro e w1 ⟨rfl, hb1⟩
    have r1 := bcell1 hb1
    have l1_0 : w.heap.size < w1.heap.size := blt hb1 (by first | (simp; done) | (simp; omega) | omega)
    go_wp2
    go_ret
    refine ⟨rfl, ?_⟩
    repeat (first | (with_reducible exact Below.refl _ _) | (with_reducible assumption) | (with_reducible refine below_al ?_ _) | (with_reducible refine Below.drew ?_) | (with_reducible refine below_drewN ?_ _) | (with_reducible refine below_st ?_ ?_ _) | (with_reducible refine below_tr ?_ (by assumption)) | (with_reducible exact Nat.le_refl _) | (focus (simp; done)) | (focus (simp; omega)))
  have hn_x : watchLen x ≤ 1048576 := by omega
  have k1 := fun W a' h => sFirstOver_c x a' W hn_x h
  have k2 := fun W a' h => iFirstOver_c x a' W hn_x h
  generalize firstOver x.log = c at *
  go_enter Try.func6, Try.ntmps6
  go_wp2_with (fail)
  refine (szWatch_c x x_a (1048576) _ hl_x (by omega) (by omega)).mono ?_
  rw [if_neg (by omega)]
  rintro e w1 ⟨rfl, hb1⟩
  have r1 := bcell1 hb1
  have l1_0 : w.heap.size < w1.heap.size := blt hb1 (by first | (simp; done) | (simp; omega) | omega)
  go_wp2_with (fail)
  refine (toWatch_c x x_a _ hn_x (WatchSl.below hs_x (by (repeat (first | (with_reducible exact Below.refl _ _) | (with_reducible assumption) | (with_reducible refine below_al ?_ _) | (with_reducible refine Below.drew ?_) | (with_reducible refine below_drewN ?_ _) | (with_reducible refine below_st ?_ ?_ _) | (with_reducible refine below_tr ?_ (by assumption)) | (with_reducible exact Nat.le_refl _) | (focus (simp; done)) | (focus (simp; omega))))))).mono ?_
  rintro e w2 ⟨a2, rfl, N2, hb2⟩
  have r2 := bcell1 hb2
  have l2_0 : w.heap.size < w2.heap.size := blt hb2 (by first | (simp; done) | (simp; omega) | omega)
  go_wp2_with (fail)
  refine (k1 _ _ (WatchSl.below N2.sl (by (repeat (first | (with_reducible exact Below.refl _ _) | (with_reducible assumption) | (with_reducible refine below_al ?_ _) | (with_reducible refine Below.drew ?_) | (with_reducible refine below_drewN ?_ _) | (with_reducible refine below_st ?_ ?_ _) | (with_reducible refine below_tr ?_ (by assumption)) | (with_reducible exact Nat.le_refl _) | (focus (simp; done)) | (focus (simp; omega))))))).mono ?_
  rintro e w3 ⟨rfl, hb3⟩
  have r3 := bcell1 hb3
  have l3_0 : w.heap.size < w3.heap.size := blt hb3 (by first | (simp; done) | (simp; omega) | omega)
  go_wp2_with (fail)
  refine (toWatch_c x x_a _ hn_x (WatchSl.below hs_x (by (repeat (first | (with_reducible exact Below.refl _ _) | (with_reducible assumption) | (with_reducible refine below_al ?_ _) | (with_reducible refine Below.drew ?_) | (with_reducible refine below_drewN ?_ _) | (with_reducible refine below_st ?_ ?_ _) | (with_reducible refine below_tr ?_ (by assumption)) | (with_reducible exact Nat.le_refl _) | (focus (simp; done)) | (focus (simp; omega))))))).mono ?_
  rintro e w4 ⟨a4, rfl, N4, hb4⟩
  have r4 := bcell1 hb4
  have l4_0 : w.heap.size < w4.heap.size := blt hb4 (by first | (simp; done) | (simp; omega) | omega)
  go_wp2_with (fail)
  refine (k2 _ _ (WatchSl.below N4.sl (by (repeat (first | (with_reducible exact Below.refl _ _) | (with_reducible assumption) | (with_reducible refine below_al ?_ _) | (with_reducible refine Below.drew ?_) | (with_reducible refine below_drewN ?_ _) | (with_reducible refine below_st ?_ ?_ _) | (with_reducible refine below_tr ?_ (by assumption)) | (with_reducible exact Nat.le_refl _) | (focus (simp; done)) | (focus (simp; omega))))))).mono ?_
  rintro e w5 ⟨rfl, hb5⟩
  have r5 := bcell1 hb5
  have l5_0 : w.heap.size < w5.heap.size := blt hb5 (by first | (simp; done) | (simp; omega) | omega)
  have l5_1 : w4.heap.size < w5.heap.size := blt hb5 (by first | (simp; done) | (simp; omega) | omega)
  go_upto_region 10 with fail
  go_region_held3 (fun w' => (∀ b o, b < w5.heap.size → w'.cell? ⟨b, o, none⟩ = w5.cell? ⟨b, o, none⟩) ∧ w5.heap.size ≤ w'.heap.size) (first | exact ⟨fun _ _ _ => rfl, by simp⟩ | exact kq_step2 (by assumption) (by assumption))
    (first
      | (go_at_call 30; go_must (refine (toWatch_c x x_a _ hn_x (WatchSl.below hs_x (by (repeat (first | (with_reducible exact Below.refl _ _) | (with_reducible assumption) | (with_reducible refine below_al ?_ _) | (with_reducible refine Below.drew ?_) | (with_reducible refine below_drewN ?_ _) | (with_reducible refine below_st ?_ ?_ _) | (with_reducible refine below_tr ?_ (by assumption)) | (with_reducible exact Nat.le_refl _) | (focus (simp; done)) | (focus (simp; omega))))))).mono ?_; rintro e w6 ⟨a6, rfl, N6, hb6⟩))
      | (go_at_call 32; go_must (refine (eqWatch_t x a4 a6 _ hn_x (WatchSl.below N4.sl (by (repeat (first | (with_reducible exact Below.refl _ _) | (with_reducible assumption) | (with_reducible refine below_al ?_ _) | (with_reducible refine Below.drew ?_) | (with_reducible refine below_drewN ?_ _) | (with_reducible refine below_st ?_ ?_ _) | (with_reducible refine below_tr ?_ (by assumption)) | (with_reducible exact Nat.le_refl _) | (focus (simp; done)) | (focus (simp; omega)))))) (WatchSl.below N6.sl (by (repeat (first | (with_reducible exact Below.refl _ _) | (with_reducible assumption) | (with_reducible refine below_al ?_ _) | (with_reducible refine Below.drew ?_) | (with_reducible refine below_drewN ?_ _) | (with_reducible refine below_st ?_ ?_ _) | (with_reducible refine below_tr ?_ (by assumption)) | (with_reducible exact Nat.le_refl _) | (focus (simp; done)) | (focus (simp; omega))))))).mono ?_; rintro e w7 ⟨rfl, hb7⟩)))
  have B7 : Below w5.heap.size w5 w7 := by (repeat (first | (with_reducible exact Below.refl _ _) | (with_reducible assumption) | (with_reducible refine below_al ?_ _) | (with_reducible refine Below.drew ?_) | (with_reducible refine below_drewN ?_ _) | (with_reducible refine below_st ?_ ?_ _) | (with_reducible refine below_tr ?_ (by assumption)) | (with_reducible exact Nat.le_refl _) | (focus (simp; done)) | (focus (simp; omega))))
  have r7 := bcell1 B7
  have l7_0 : w.heap.size < w7.heap.size := blt B7 (by first | (simp; done) | (simp; omega) | omega)
  have l7_1 : w4.heap.size < w7.heap.size := blt B7 (by first | (simp; done) | (simp; omega) | omega)
  go_wp2
  go_ret
  refine ⟨rfl, ?_⟩
  repeat (first | (with_reducible exact Below.refl _ _) | (with_reducible assumption) | (with_reducible refine below_al ?_ _) | (with_reducible refine Below.drew ?_) | (with_reducible refine below_drewN ?_ _) | (with_reducible refine below_st ?_ ?_ _) | (with_reducible refine below_tr ?_ (by assumption)) | (with_reducible exact Nat.le_refl _) | (focus (simp; done)) | (focus (simp; omega)))

set_option maxRecDepth 100000 in
theorem lifted_FirstOver (os : Os) (started : os.Started) (H : Type) (enc : TypeId × Value → H) :
    ReturnsInHanded {} Try.checked os 6 .any (Rows.fnExactFirstOverSpec.pre6 enc Try.prog Try.f6 Rows.fnExactFirstOverRow.domain false) (Rows.fnExactFirstOverSpec.post enc Try.prog Try.f6 false true false false) := by
  refine returnsInHanded_of_change (C := Try.checked) own_ started (by kernel_rfl) Try.func6
    (ChangeSpec.witness6 (enc := enc) (C := Try.checked) false ⟨#[], #[.agg #[.slice none 0 0, .int .i64 0, .int .i64 0, .int .i64 0, .int .i64 0, .int .i64 0, .slice none 0 0, .slice none 0 0, .slice none 0 0, .slice none 0 0]], []⟩ 8 (by kernel_rfl) (by kernel_rfl) (by kernel_rfl) (by kernel_rfl)) ?_
  intro W base args ds gs before hval0 hW hcnd _
  have hval : ∀ (j : Nat) t v, Try.f6.params[j]? = some t → args[j]? = some v → Value.okWide Try.prog W .any base t v := hval0
  have hW' := hW
  obtain ⟨p, q, hA0, hV, rfl, hfz, hnd⟩ := hW
  have hA : DataW.TrodAll enc Try.prog W 0 (fun _ => true) true Try.f6.params.toList args.toList ds p := hA0
  rw [Try.params6] at hA hval
  obtain ⟨v0, vs0, d0, ds0, p0, q0, hargs, rfl, rfl, h0, r0⟩ := trodAll_cons hA
  obtain ⟨rfl, rfl, rfl⟩ := trodAll_nil r0
  obtain rfl : args = #[v0] := by cases args; simp_all
  obtain ⟨rfl, rfl⟩ := trodVars_none hV
  have k0 := h0
  have lt0 : ∀ x ∈ p0, x.block < W.heap.size := by obtain ⟨m, hm⟩ := k0; exact DataW.trod_lt m _ _ _ hm
  have ok0 := hval 0 48 v0 rfl rfl
  obtain ⟨x, x_a, hin_x, rfl, hl_x, hs_x⟩ := openWatch ok0 h0
  refine (walkFirstOver W x x_a hin_x hl_x hs_x).mono fun e W' ⟨he, bel⟩ => ?_
  subst he
  exact ⟨_, rfl, _, _, _, [], _, [], hW', trodAll_mk1 (shut_bool Try.underlying4 _), (trodAll_cons_mk (Below.trod laidOut_ (by kernel_rfl) (of_decide_eq_true (by kernel_rfl)) k0 bel lt0) trodAll_mk0), rfl, bel.frame _, fun h => by cases h⟩

/-- The statement. -/
theorem law_FirstOver : Rows.FnExactFirstOverSaid :=
  OpenClaim.holds_of_wide 6 Try.f6 rfl rfl rfl rfl rfl rfl rfl ⟨rfl, rfl, rfl, rfl, rfl⟩ rfl rfl rfl rfl rfl (by kernel_rfl) Try.func6 (by kernel_rfl)
    (of_decide_eq_true (by kernel_rfl)) (by unfold Func.isWrapper; first | (rw [if_pos (by decide +kernel)]; kernel_rfl) | (rw [if_neg (by decide +kernel)]; exact ⟨rfl, rfl⟩))
    (fun os started H enc _ => lifted_FirstOver os started H enc)
#print axioms law_FirstOver
end Go.Proofs.Ytelkcmchokajaaa
