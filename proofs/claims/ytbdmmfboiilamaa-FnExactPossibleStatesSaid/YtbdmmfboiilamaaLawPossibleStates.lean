/-
  For every input FnExactPossibleStates returns true: the program's PossibleStates and the reference's agree, and the results share no memory.
  Conditions: none.
-/
import Derived.Test.YtbdmmfboiilamaaPoss
import Derived.Test.YtbdmmfboiilamaaConvS
import Derived.Test.YtbdmmfboiilamaaMark
import Derived.Test.YtbdmmfboiilamaaOpen2
namespace Go.Proofs.Ytbdmmfboiilamaa
open Go.RowKit Go.ChangeShapes Go.WideShapes Go.ChangeAt Go.Deep

theorem below_at {a w w' : World} {B : Nat} (h : Below a.heap.size a w) (hb : Below B w w') (hle : a.heap.size ≤ B) : Below a.heap.size a w' := h.trans (hb.mono hle)

set_option maxHeartbeats 4000000 in
theorem walkPossibleStates (x : Spot) (dx dy : Int) (w : World) (hs : x.In) :
    Calls Try.prog 8 #[spotV x, .int .i64 dx, .int .i64 dy] w fun e w' => e = .returned (.bool true) ∧ Below w.heap.size w w' := by
  have hlen := @poss_len x dx dy
  have c1 := fun W => sPossibleStates_c x dx dy W hs
  have c2 := fun W => iPossibleStates_c x dx dy W hs
  generalize (possStates x dx dy).getD [] = ys at *
  generalize (possStates x dx dy).isSome = ok at *
  have H0 := Has.new w #[.int .i64 x.x, .int .i64 x.y, .int .i64 x.d] 42
  have B0 := below_al (Below.refl w.heap.size w) (.cells #[.int .i64 x.x, .int .i64 x.y, .int .i64 x.d] 42)
  go_enter Try.func8, Try.ntmps8
  go_wp2_with (fail)
  refine (toSpot_c x _).mono ?_
  rintro e w1 ⟨rfl, hb1⟩
  have B1 := below_tr B0 hb1
  have H1 := H0.below hb1
  go_wp2_with (fail)
  refine (c1 _).mono ?_
  rintro e w2 ⟨v2, rfl, N2, hb2⟩
  have B2 := below_tr B1 hb2
  have H2 := H1.below hb2
  obtain ⟨cH2_0, fH2_0⟩ := H2.2 0 _ rfl
  obtain ⟨cH2_1, fH2_1⟩ := H2.2 1 _ rfl
  obtain ⟨cH2_2, fH2_2⟩ := H2.2 2 _ rfl
  go_wp2_with (fail)
  refine (toSpot_c x _).mono ?_
  rintro e w3 ⟨rfl, hb3⟩
  have B3 := below_tr B2 hb3
  have H3 := H2.below hb3
  have D3 := hb3
  go_wp2_with (fail)
  refine (c2 _).mono ?_
  rintro e w4 ⟨v4, rfl, N4, hb4⟩
  have B4 := below_tr B3 hb4
  have H4 := H3.below hb4
  have D4 := below_tr D3 hb4
  obtain ⟨A2, k2, rfl, S2⟩ := N2.sl spotC_len
  obtain ⟨A4, k4, e4, S4⟩ := N4.sl spotC_len
  subst e4
  go_wp2_with (fail)
  refine (eqSpotS_t A4 A2 ys k4 k2 _ (by omega) S4 (S2.below D4)).mono ?_
  rintro e w5 ⟨rfl, hb5⟩
  have B5 := below_tr B4 hb5
  have H5 := H4.below hb5
  have D5 := below_tr D4 hb5
  have N5 := N4.below hb5 (Nat.le_refl _)
  have z3 : w3.heap.size ≤ w5.heap.size := Nat.le_trans hb4.size hb5.size
  go_wp2_with (fail)
  refine (markSpotS_c _ ys 1 w3.heap.size _ (by omega) (by omega) (by omega) N5 z3).mono ?_
  rintro e w6 ⟨rfl, N6, hb6⟩
  have B6 := below_at B5 hb6 B3.size
  have D6 := below_at D5 hb6 hb3.size
  obtain ⟨A6, k6, e6, S6⟩ := N6.sl spotC_len
  have hml : (markSpots 1 ys.length).length = ys.length := by simp [markSpots]
  rw [hml] at e6
  injection e6 with e6a _ e6c
  subst e6a e6c
  have H6 : Has w6 w.heap.size [.int .i64 x.x, .int .i64 x.y, .int .i64 x.d] := by
    refine ⟨Nat.lt_of_lt_of_le H5.1 hb6.size, fun j v hv => ?_⟩
    have hl3 : w.heap.size < w3.heap.size := H3.1
    exact ⟨((bcell hb6).1 _ j hl3).trans (H5.2 j v hv).1, ((bcell hb6).2 _ j hl3).trans (H5.2 j v hv).2⟩
  clear cH2_0 cH2_1 cH2_2 fH2_0 fH2_1 fH2_2
  obtain ⟨cH6_0, fH6_0⟩ := H6.2 0 _ rfl
  obtain ⟨cH6_1, fH6_1⟩ := H6.2 1 _ rfl
  obtain ⟨cH6_2, fH6_2⟩ := H6.2 2 _ rfl
  have c5 := fun W h => heldSpotS_c A4 ys.length k4 1 W (by omega) (by omega) (by omega) h
  go_wp2_with (fail)
  refine (c5 _ S6).mono ?_
  rintro e w' ⟨rfl, rfl⟩
  have e0 : ¬ (1 + (ys.length : Int) * 3 < 0) := by omega
  go_wp2_with (fail)
  refine (toSpot_c x _).mono ?_
  rintro e w7 ⟨rfl, hb7⟩
  have B7 := below_tr B6 hb7
  have D7 := below_tr D6 hb7
  have S7 := S6.below hb7
  go_wp2_with (fail)
  refine (c2 _).mono ?_
  rintro e w8 ⟨v8, rfl, N8, hb8⟩
  have B8 := below_tr B7 hb8
  have D8 := below_tr D7 hb8
  have S8 := S7.below hb8
  obtain ⟨A8, k8, rfl, T8⟩ := N8.sl spotC_len
  go_wp2_with (fail)
  refine (eqSpotS_t A8 A2 ys k8 k2 _ (by omega) T8 (S2.below D8)).mono ?_
  rintro e w9 ⟨rfl, hb9⟩
  have B9 := below_tr B8 hb9
  have S9 := S8.below hb9
  go_wp2_with (fail)
  refine (c5 _ S9).mono ?_
  rintro e w' ⟨rfl, rfl⟩
  go_wp2
  go_ret
  exact ⟨rfl, B9⟩

set_option maxRecDepth 100000 in
theorem lifted_PossibleStates (os : Os) (started : os.Started) (H : Type) (enc : TypeId × Value → H) :
    ReturnsInHanded {} Try.checked os 8 .any (Rows.fnExactPossibleStatesSpec.pre6 enc Try.prog Try.f8 Rows.fnExactPossibleStatesRow.domain false) (Rows.fnExactPossibleStatesSpec.post enc Try.prog Try.f8 false true false false) := by
  refine returnsInHanded_of_change (C := Try.checked) own_ started (by kernel_rfl) Try.func8
    (ChangeSpec.witness6 (enc := enc) (C := Try.checked) false ⟨#[], #[.agg #[.int .i64 0, .int .i64 0, .int .i64 0], .int .i64 0, .int .i64 0], []⟩ 8 (by kernel_rfl) (by kernel_rfl) (by kernel_rfl) (by kernel_rfl)) ?_
  intro W base args ds gs before hval0 hW hcnd _
  have hval : ∀ (j : Nat) t v, Try.f8.params[j]? = some t → args[j]? = some v → Value.okWide Try.prog W .any base t v := hval0
  have hW' := hW
  obtain ⟨p, q, hA0, hV, rfl, hfz, hnd⟩ := hW
  have hA : DataW.TrodAll enc Try.prog W 0 (fun _ => true) true Try.f8.params.toList args.toList ds p := hA0
  rw [Try.params8] at hA hval
  obtain ⟨v0, vs0, d0, ds0, p0, q0, hargs, rfl, rfl, h0, r0⟩ := trodAll_cons hA
  obtain ⟨v1, vs1, d1, ds1, p1, q1, rfl, rfl, rfl, h1, r1⟩ := trodAll_cons r0
  obtain ⟨v2, vs2, d2, ds2, p2, q2, rfl, rfl, rfl, h2, r2⟩ := trodAll_cons r1
  obtain ⟨rfl, rfl, rfl⟩ := trodAll_nil r2
  obtain rfl : args = #[v0, v1, v2] := by cases args; simp_all
  obtain ⟨rfl, rfl⟩ := trodVars_none hV
  have k0 := h0
  have lt0 : ∀ x ∈ p0, x.block < W.heap.size := by obtain ⟨m, hm⟩ := k0; exact DataW.trod_lt m _ _ _ hm
  have ok0 := hval 0 42 v0 rfl rfl
  have k1 := h1
  have lt1 : ∀ x ∈ p1, x.block < W.heap.size := by obtain ⟨m, hm⟩ := k1; exact DataW.trod_lt m _ _ _ hm
  have ok1 := hval 1 3 v1 rfl rfl
  have k2 := h2
  have lt2 : ∀ x ∈ p2, x.block < W.heap.size := by obtain ⟨m, hm⟩ := k2; exact DataW.trod_lt m _ _ _ hm
  have ok2 := hval 2 3 v2 rfl rfl
  obtain ⟨x, hx, rfl⟩ := openSpot ok0 h0
  obtain ⟨dx, hdx, rfl⟩ := open_int1 Try.underlying3 ok1 h1
  obtain ⟨dy, hdy, rfl⟩ := open_int1 Try.underlying3 ok2 h2
  refine (walkPossibleStates x dx dy W hx).mono fun e W' ⟨he, bel⟩ => ?_
  subst he
  exact ⟨_, rfl, _, _, _, [], _, [], hW', trodAll_mk1 (shut_bool Try.underlying4 _), (trodAll_cons_mk (Below.trod laidOut_ (by kernel_rfl) (of_decide_eq_true (by kernel_rfl)) k0 bel lt0) (trodAll_cons_mk (Below.trod laidOut_ (by kernel_rfl) (of_decide_eq_true (by kernel_rfl)) k1 bel lt1) (trodAll_cons_mk (Below.trod laidOut_ (by kernel_rfl) (of_decide_eq_true (by kernel_rfl)) k2 bel lt2) trodAll_mk0))), rfl, bel.frame _, fun h => by cases h⟩

/-- The statement. -/
theorem law_PossibleStates : Rows.FnExactPossibleStatesSaid :=
  OpenClaim.holds_of_wide 8 Try.f8 rfl rfl rfl rfl rfl rfl rfl ⟨rfl, rfl, rfl, rfl, rfl⟩ rfl rfl rfl rfl rfl (by kernel_rfl) Try.func8 (by kernel_rfl)
    (of_decide_eq_true (by kernel_rfl)) (by unfold Func.isWrapper; first | (rw [if_pos (by decide +kernel)]; kernel_rfl) | (rw [if_neg (by decide +kernel)]; exact ⟨rfl, rfl⟩))
    (fun os started H enc _ => lifted_PossibleStates os started H enc)
#print axioms law_PossibleStates
end Go.Proofs.Ytbdmmfboiilamaa
