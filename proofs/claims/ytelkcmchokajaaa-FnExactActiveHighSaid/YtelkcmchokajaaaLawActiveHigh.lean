/-
  For every input FnExactActiveHigh returns true: the program's ActiveHigh and the reference's agree.
  Conditions: none.
-/
import Derived.Test.YtelkcmchokajaaaAct
import Derived.Test.YtelkcmchokajaaaCompC
import Derived.Test.YtelkcmchokajaaaCompO
import Derived.Test.YtelkcmchokajaaaOpen2
import Derived.Test.YtelkcmchokajaaaBel
import Derived.Test.YtelkcmchokajaaaConv
import Derived.Deep.RegionHeld3
import Derived.Deep.DeepCutAuto
import Derived.Deep.DeepMust
namespace Go.Proofs.Ytelkcmchokajaaa
open Go.RowKit Go.ChangeShapes Go.WideShapes Go.ChangeAt Go.Deep

set_option maxRecDepth 100000 in
set_option maxHeartbeats 8000000 in
theorem walkActiveHigh (w : World) (x : Law) (x_a : LawA) (hin_x : LawIn x) (hl_x : List.length x.lows ≤ 9223372036854775807 ∧ List.length x.highs ≤ 9223372036854775807) (hs_x : LawSl w x x_a) (s : Spot) (hin_s : s.In) :
    Calls Try.prog 13 #[lawV x x_a, spotV s] w fun e w' => e = .returned (.bool true) ∧ Below w.heap.size w w' := by
  by_cases c0 : 1048576 - ((lawLen x : Nat) : Int) < 0
  · skip
    go_enter Try.func13, Try.ntmps13
    go_wp2_with (fail)
    refine (szLaw_c x x_a (1048576) _ hl_x (by omega) (by omega)).mono ?_
    rw [if_pos (by omega)]
    rintro e w1 ⟨rfl, hb1⟩
    have r1 := bcell1 hb1
    have l1_0 : w.heap.size < w1.heap.size := blt hb1 (by first | (simp; done) | (simp; omega) | omega)
    have l1_1 : w.heap.size + 1 < w1.heap.size := blt hb1 (by first | (simp; done) | (simp; omega) | omega)
    go_wp2
    go_ret
    refine ⟨rfl, ?_⟩
    repeat (first | (with_reducible exact Below.refl _ _) | (with_reducible assumption) | (with_reducible refine below_al ?_ _) | (with_reducible refine Below.drew ?_) | (with_reducible refine below_drewN ?_ _) | (with_reducible refine below_st ?_ ?_ _) | (with_reducible refine below_tr ?_ (by assumption)) | (with_reducible exact Nat.le_refl _) | (focus (simp; done)) | (focus (simp; omega)))
  have hn_x : lawLen x ≤ 1048576 := by omega
  have k1 := fun W a' h => sActiveHigh_c x a' s W hn_x hin_x hin_s h
  have k2 := fun W a' h => iActiveHigh_c x a' s W hn_x hin_x hin_s h
  generalize (actH x s).1 = c at *
  go_enter Try.func13, Try.ntmps13
  go_wp2_with (fail)
  refine (szLaw_c x x_a (1048576) _ hl_x (by omega) (by omega)).mono ?_
  rw [if_neg (by omega)]
  rintro e w1 ⟨rfl, hb1⟩
  have r1 := bcell1 hb1
  have l1_0 : w.heap.size < w1.heap.size := blt hb1 (by first | (simp; done) | (simp; omega) | omega)
  have l1_1 : w.heap.size + 1 < w1.heap.size := blt hb1 (by first | (simp; done) | (simp; omega) | omega)
  go_upto_region 5 with fail
  go_region_held3 (fun w' => (∀ b o, b < w1.heap.size → w'.cell? ⟨b, o, none⟩ = w1.cell? ⟨b, o, none⟩) ∧ w1.heap.size ≤ w'.heap.size) (first | exact ⟨fun _ _ _ => rfl, by simp⟩ | exact kq_step2 (by assumption) (by assumption))
    (first
      | (go_at_call 56; go_must (refine (toLaw_c x x_a _ hn_x (LawSl.below hs_x (by (repeat (first | (with_reducible exact Below.refl _ _) | (with_reducible assumption) | (with_reducible refine below_al ?_ _) | (with_reducible refine Below.drew ?_) | (with_reducible refine below_drewN ?_ _) | (with_reducible refine below_st ?_ ?_ _) | (with_reducible refine below_tr ?_ (by assumption)) | (with_reducible exact Nat.le_refl _) | (focus (simp; done)) | (focus (simp; omega))))))).mono ?_; rintro e w2 ⟨a2, rfl, N2, hb2⟩))
      | (go_at_call 19; go_must (refine (toSpot_c s _).mono ?_; rintro e w3 ⟨rfl, hb3⟩))
      | (go_at_call 55; go_must (refine (k1 _ _ (LawSl.below N2.sl (by (repeat (first | (with_reducible exact Below.refl _ _) | (with_reducible assumption) | (with_reducible refine below_al ?_ _) | (with_reducible refine Below.drew ?_) | (with_reducible refine below_drewN ?_ _) | (with_reducible refine below_st ?_ ?_ _) | (with_reducible refine below_tr ?_ (by assumption)) | (with_reducible exact Nat.le_refl _) | (focus (simp; done)) | (focus (simp; omega))))))).mono ?_; rintro e w4 ⟨rfl, hb4⟩)))
  have B4 : Below w1.heap.size w1 w4 := by (repeat (first | (with_reducible exact Below.refl _ _) | (with_reducible assumption) | (with_reducible refine below_al ?_ _) | (with_reducible refine Below.drew ?_) | (with_reducible refine below_drewN ?_ _) | (with_reducible refine below_st ?_ ?_ _) | (with_reducible refine below_tr ?_ (by assumption)) | (with_reducible exact Nat.le_refl _) | (focus (simp; done)) | (focus (simp; omega))))
  have r4 := bcell1 B4
  have l4_0 : w.heap.size < w4.heap.size := blt B4 (by first | (simp; done) | (simp; omega) | omega)
  have l4_1 : w.heap.size + 1 < w4.heap.size := blt B4 (by first | (simp; done) | (simp; omega) | omega)
  go_wp2_with (fail)
  refine (toLaw_c x x_a _ hn_x (LawSl.below hs_x (by (repeat (first | (with_reducible exact Below.refl _ _) | (with_reducible assumption) | (with_reducible refine below_al ?_ _) | (with_reducible refine Below.drew ?_) | (with_reducible refine below_drewN ?_ _) | (with_reducible refine below_st ?_ ?_ _) | (with_reducible refine below_tr ?_ (by assumption)) | (with_reducible exact Nat.le_refl _) | (focus (simp; done)) | (focus (simp; omega))))))).mono ?_
  rintro e w5 ⟨a5, rfl, N5, hb5⟩
  have r5 := bcell1 hb5
  have l5_0 : w.heap.size < w5.heap.size := blt hb5 (by first | (simp; done) | (simp; omega) | omega)
  have l5_1 : w.heap.size + 1 < w5.heap.size := blt hb5 (by first | (simp; done) | (simp; omega) | omega)
  go_upto_region 7 with fail
  go_region_held3 (fun w' => (∀ b o, b < w5.heap.size + 1 → w'.cell? ⟨b, o, none⟩ = (w5.alloc (.cells #[.slice a5.lows.A (List.length x.lows) a5.lows.c, .slice a5.highs.A (List.length x.highs) a5.highs.c] 101)).cell? ⟨b, o, none⟩) ∧ w5.heap.size + 1 ≤ w'.heap.size) (first | exact ⟨fun _ _ _ => rfl, by simp⟩ | exact kq_step2 (by assumption) (by assumption))
    (first
      | (go_at_call 19; go_must (refine (toSpot_c s _).mono ?_; rintro e w6 ⟨rfl, hb6⟩))
      | (go_at_call 57; go_must (refine (k2 _ _ (LawSl.below N5.sl (by (repeat (first | (with_reducible exact Below.refl _ _) | (with_reducible assumption) | (with_reducible refine below_al ?_ _) | (with_reducible refine Below.drew ?_) | (with_reducible refine below_drewN ?_ _) | (with_reducible refine below_st ?_ ?_ _) | (with_reducible refine below_tr ?_ (by assumption)) | (with_reducible exact Nat.le_refl _) | (focus (simp; done)) | (focus (simp; omega))))))).mono ?_; rintro e w7 ⟨rfl, hb7⟩)))
  have B7 : Below (w5.alloc (.cells #[.slice a5.lows.A (List.length x.lows) a5.lows.c, .slice a5.highs.A (List.length x.highs) a5.highs.c] 101)).heap.size (w5.alloc (.cells #[.slice a5.lows.A (List.length x.lows) a5.lows.c, .slice a5.highs.A (List.length x.highs) a5.highs.c] 101)) w7 := by (repeat (first | (with_reducible exact Below.refl _ _) | (with_reducible assumption) | (with_reducible refine below_al ?_ _) | (with_reducible refine Below.drew ?_) | (with_reducible refine below_drewN ?_ _) | (with_reducible refine below_st ?_ ?_ _) | (with_reducible refine below_tr ?_ (by assumption)) | (with_reducible exact Nat.le_refl _) | (focus (simp; done)) | (focus (simp; omega))))
  have r7 := bcell1 B7
  have l7_0 : w.heap.size < w7.heap.size := blt B7 (by first | (simp; done) | (simp; omega) | omega)
  have l7_1 : w.heap.size + 1 < w7.heap.size := blt B7 (by first | (simp; done) | (simp; omega) | omega)
  have l7_2 : w5.heap.size < w7.heap.size := blt B7 (by first | (simp; done) | (simp; omega) | omega)
  go_upto_region 10 with fail
  go_region_held3 (fun w' => (∀ b o, b < w7.heap.size → w'.cell? ⟨b, o, none⟩ = w7.cell? ⟨b, o, none⟩) ∧ w7.heap.size ≤ w'.heap.size) (first | exact ⟨fun _ _ _ => rfl, by simp⟩ | exact kq_step2 (by assumption) (by assumption))
    (first
      | (go_at_call 56; go_must (refine (toLaw_c x x_a _ hn_x (LawSl.below hs_x (by (repeat (first | (with_reducible exact Below.refl _ _) | (with_reducible assumption) | (with_reducible refine below_al ?_ _) | (with_reducible refine Below.drew ?_) | (with_reducible refine below_drewN ?_ _) | (with_reducible refine below_st ?_ ?_ _) | (with_reducible refine below_tr ?_ (by assumption)) | (with_reducible exact Nat.le_refl _) | (focus (simp; done)) | (focus (simp; omega))))))).mono ?_; rintro e w8 ⟨a8, rfl, N8, hb8⟩))
      | (go_at_call 58; go_must (refine (eqLaw_t x a5 a8 _ hn_x (LawSl.below N5.sl (by (repeat (first | (with_reducible exact Below.refl _ _) | (with_reducible assumption) | (with_reducible refine below_al ?_ _) | (with_reducible refine Below.drew ?_) | (with_reducible refine below_drewN ?_ _) | (with_reducible refine below_st ?_ ?_ _) | (with_reducible refine below_tr ?_ (by assumption)) | (with_reducible exact Nat.le_refl _) | (focus (simp; done)) | (focus (simp; omega)))))) (LawSl.below N8.sl (by (repeat (first | (with_reducible exact Below.refl _ _) | (with_reducible assumption) | (with_reducible refine below_al ?_ _) | (with_reducible refine Below.drew ?_) | (with_reducible refine below_drewN ?_ _) | (with_reducible refine below_st ?_ ?_ _) | (with_reducible refine below_tr ?_ (by assumption)) | (with_reducible exact Nat.le_refl _) | (focus (simp; done)) | (focus (simp; omega))))))).mono ?_; rintro e w9 ⟨rfl, hb9⟩)))
  have B9 : Below w7.heap.size w7 w9 := by (repeat (first | (with_reducible exact Below.refl _ _) | (with_reducible assumption) | (with_reducible refine below_al ?_ _) | (with_reducible refine Below.drew ?_) | (with_reducible refine below_drewN ?_ _) | (with_reducible refine below_st ?_ ?_ _) | (with_reducible refine below_tr ?_ (by assumption)) | (with_reducible exact Nat.le_refl _) | (focus (simp; done)) | (focus (simp; omega))))
  have r9 := bcell1 B9
  have l9_0 : w.heap.size < w9.heap.size := blt B9 (by first | (simp; done) | (simp; omega) | omega)
  have l9_1 : w.heap.size + 1 < w9.heap.size := blt B9 (by first | (simp; done) | (simp; omega) | omega)
  have l9_2 : w5.heap.size < w9.heap.size := blt B9 (by first | (simp; done) | (simp; omega) | omega)
  go_wp2
  go_ret
  refine ⟨rfl, ?_⟩
  repeat (first | (with_reducible exact Below.refl _ _) | (with_reducible assumption) | (with_reducible refine below_al ?_ _) | (with_reducible refine Below.drew ?_) | (with_reducible refine below_drewN ?_ _) | (with_reducible refine below_st ?_ ?_ _) | (with_reducible refine below_tr ?_ (by assumption)) | (with_reducible exact Nat.le_refl _) | (focus (simp; done)) | (focus (simp; omega)))

set_option maxRecDepth 100000 in
theorem lifted_ActiveHigh (os : Os) (started : os.Started) (H : Type) (enc : TypeId × Value → H) :
    ReturnsInHanded {} Try.checked os 13 .any (Rows.fnExactActiveHighSpec.pre6 enc Try.prog Try.f13 Rows.fnExactActiveHighRow.domain false) (Rows.fnExactActiveHighSpec.post enc Try.prog Try.f13 false true false false) := by
  refine returnsInHanded_of_change (C := Try.checked) own_ started (by kernel_rfl) Try.func13
    (ChangeSpec.witness6 (enc := enc) (C := Try.checked) false ⟨#[], #[.agg #[.slice none 0 0, .slice none 0 0], .agg #[.int .i64 0, .int .i64 0, .int .i64 0]], []⟩ 8 (by kernel_rfl) (by kernel_rfl) (by kernel_rfl) (by kernel_rfl)) ?_
  intro W base args ds gs before hval0 hW hcnd _
  have hval : ∀ (j : Nat) t v, Try.f13.params[j]? = some t → args[j]? = some v → Value.okWide Try.prog W .any base t v := hval0
  have hW' := hW
  obtain ⟨p, q, hA0, hV, rfl, hfz, hnd⟩ := hW
  have hA : DataW.TrodAll enc Try.prog W 0 (fun _ => true) true Try.f13.params.toList args.toList ds p := hA0
  rw [Try.params13] at hA hval
  obtain ⟨v0, vs0, d0, ds0, p0, q0, hargs, rfl, rfl, h0, r0⟩ := trodAll_cons hA
  obtain ⟨v1, vs1, d1, ds1, p1, q1, rfl, rfl, rfl, h1, r1⟩ := trodAll_cons r0
  obtain ⟨rfl, rfl, rfl⟩ := trodAll_nil r1
  obtain rfl : args = #[v0, v1] := by cases args; simp_all
  obtain ⟨rfl, rfl⟩ := trodVars_none hV
  have k0 := h0
  have lt0 : ∀ x ∈ p0, x.block < W.heap.size := by obtain ⟨m, hm⟩ := k0; exact DataW.trod_lt m _ _ _ hm
  have ok0 := hval 0 96 v0 rfl rfl
  have k1 := h1
  have lt1 : ∀ x ∈ p1, x.block < W.heap.size := by obtain ⟨m, hm⟩ := k1; exact DataW.trod_lt m _ _ _ hm
  have ok1 := hval 1 26 v1 rfl rfl
  obtain ⟨x, x_a, hin_x, rfl, hl_x, hs_x⟩ := openLaw ok0 h0
  obtain ⟨s, hin_s, rfl⟩ := openSpot ok1 h1
  refine (walkActiveHigh W x x_a hin_x hl_x hs_x s hin_s).mono fun e W' ⟨he, bel⟩ => ?_
  subst he
  exact ⟨_, rfl, _, _, _, [], _, [], hW', trodAll_mk1 (shut_bool Try.underlying4 _), (trodAll_cons_mk (Below.trod laidOut_ (by kernel_rfl) (of_decide_eq_true (by kernel_rfl)) k0 bel lt0) (trodAll_cons_mk (Below.trod laidOut_ (by kernel_rfl) (of_decide_eq_true (by kernel_rfl)) k1 bel lt1) trodAll_mk0)), rfl, bel.frame _, fun h => by cases h⟩

/-- The statement. -/
theorem law_ActiveHigh : Rows.FnExactActiveHighSaid :=
  OpenClaim.holds_of_wide 13 Try.f13 rfl rfl rfl rfl rfl rfl rfl ⟨rfl, rfl, rfl, rfl, rfl⟩ rfl rfl rfl rfl rfl (by kernel_rfl) Try.func13 (by kernel_rfl)
    (of_decide_eq_true (by kernel_rfl)) (by unfold Func.isWrapper; first | (rw [if_pos (by decide +kernel)]; kernel_rfl) | (rw [if_neg (by decide +kernel)]; exact ⟨rfl, rfl⟩))
    (fun os started H enc _ => lifted_ActiveHigh os started H enc)
#print axioms law_ActiveHigh
end Go.Proofs.Ytelkcmchokajaaa
