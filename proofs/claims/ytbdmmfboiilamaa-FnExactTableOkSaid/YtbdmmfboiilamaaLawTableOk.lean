/-
  For every input FnExactTableOk returns true: the program's TableOk and the reference's agree.
  Conditions: none.
-/
import Derived.Test.YtbdmmfboiilamaaTab
import Derived.Test.YtbdmmfboiilamaaConvT
import Derived.Test.YtbdmmfboiilamaaOpenT
import Derived.Deep.RegionHeld3
namespace Go.Proofs.Ytbdmmfboiilamaa
open Go.RowKit Go.ChangeShapes Go.WideShapes Go.ChangeAt Go.Deep

set_option maxRecDepth 100000 in
set_option maxHeartbeats 4000000 in
theorem walkTableOk (t : Tab) (A : Option Addr) (cap : Nat) (w : World) (ht : t.In) (hn : t.cells.length ≤ 9223372036854775807) (hs : Sl 1 intC w A t.cells) :
    Calls Try.prog 4 #[tabV t A cap] w fun e w' => e = .returned (.bool true) ∧ Below w.heap.size w w' := by
  have c0 := fun W => szTable_c t A cap 1048576 W hn (by omega) (by omega)
  by_cases hbig : 1048576 < t.cells.length
  · rw [if_pos (by omega)] at c0
    go_enter Try.func4, Try.ntmps4
    go_wp2_with (fail)
    refine (c0 _).mono ?_
    rintro e w1 ⟨rfl, hb1⟩
    have hbw := below_tr (below_al (Below.refl w.heap.size w) _) hb1
    go_wp2
    go_ret
    exact ⟨rfl, hbw⟩
  · rw [if_neg (by omega)] at c0
    have hn2 : t.cells.length ≤ 1048576 := by omega
    have H0 := Has.new w #[.int .i64 t.x0, .int .i64 t.y0, .int .i64 t.step, .int .i64 t.nx, .int .i64 t.ny, .slice A t.cells.length cap] 31
    have B0 := below_al (Below.refl w.heap.size w) (.cells #[.int .i64 t.x0, .int .i64 t.y0, .int .i64 t.step, .int .i64 t.nx, .int .i64 t.ny, .slice A t.cells.length cap] 31)
    have S0 := hs.alloc (.cells #[.int .i64 t.x0, .int .i64 t.y0, .int .i64 t.step, .int .i64 t.nx, .int .i64 t.ny, .slice A t.cells.length cap] 31)
    clear hbig
    go_enter Try.func4, Try.ntmps4
    go_wp2_with (fail)
    refine (c0 _).mono ?_
    rintro e w1 ⟨rfl, hb1⟩
    have H1 := H0.below hb1
    have B1 := below_tr B0 hb1
    have S1 := S0.below hb1
    obtain ⟨cH1_0, fH1_0⟩ := H1.2 0 _ rfl
    obtain ⟨cH1_1, fH1_1⟩ := H1.2 1 _ rfl
    obtain ⟨cH1_2, fH1_2⟩ := H1.2 2 _ rfl
    obtain ⟨cH1_3, fH1_3⟩ := H1.2 3 _ rfl
    obtain ⟨cH1_4, fH1_4⟩ := H1.2 4 _ rfl
    obtain ⟨cH1_5, fH1_5⟩ := H1.2 5 _ rfl
    go_wp2_with (fail)
    refine (toTable_c t A cap _ hn2 S1).mono ?_
    rintro e w2 ⟨A2, k2, rfl, N2, hb2⟩
    have H2 := H1.below hb2
    have B2 := below_tr B1 hb2
    have S2 := S1.below hb2
    obtain ⟨A2', k2', e2, T2⟩ := N2.sl intC_len
    injection e2 with e2a _ e2c
    subst e2a e2c
    go_wp2_with (fail)
    refine (sTableOk_c t A2 k2 _ ht hn2 T2).mono ?_
    rintro e w3 ⟨rfl, hb3⟩
    have H3 := H2.below hb3
    have B3 := below_tr B2 hb3
    have S3 := S2.below hb3
    clear cH1_0 cH1_1 cH1_2 cH1_3 cH1_4 cH1_5 fH1_0 fH1_1 fH1_2 fH1_3 fH1_4 fH1_5
    obtain ⟨cH3_0, fH3_0⟩ := H3.2 0 _ rfl
    obtain ⟨cH3_1, fH3_1⟩ := H3.2 1 _ rfl
    obtain ⟨cH3_2, fH3_2⟩ := H3.2 2 _ rfl
    obtain ⟨cH3_3, fH3_3⟩ := H3.2 3 _ rfl
    obtain ⟨cH3_4, fH3_4⟩ := H3.2 4 _ rfl
    obtain ⟨cH3_5, fH3_5⟩ := H3.2 5 _ rfl
    go_wp2_with (fail)
    refine (toTable_c t A cap _ hn2 S3).mono ?_
    rintro e w4 ⟨A4, k4, rfl, N4, hb4⟩
    have H4 := (H3.below hb4).alloc (.cells #[.int .i64 t.x0, .int .i64 t.y0, .int .i64 t.step, .int .i64 t.nx, .int .i64 t.ny, .slice A4 t.cells.length k4] 34)
    have B4 := below_al (below_tr B3 hb4) (.cells #[.int .i64 t.x0, .int .i64 t.y0, .int .i64 t.step, .int .i64 t.nx, .int .i64 t.ny, .slice A4 t.cells.length k4] 34)
    have S4 := (S3.below hb4).alloc (.cells #[.int .i64 t.x0, .int .i64 t.y0, .int .i64 t.step, .int .i64 t.nx, .int .i64 t.ny, .slice A4 t.cells.length k4] 34)
    obtain ⟨A4', k4', e4, T4⟩ := N4.sl intC_len
    injection e4 with e4a _ e4c
    subst e4a e4c
    have T4 := T4.alloc (.cells #[.int .i64 t.x0, .int .i64 t.y0, .int .i64 t.step, .int .i64 t.nx, .int .i64 t.ny, .slice A4 t.cells.length k4] 34)
    have X4 := Has.new w4 #[.int .i64 t.x0, .int .i64 t.y0, .int .i64 t.step, .int .i64 t.nx, .int .i64 t.ny, .slice A4 t.cells.length k4] 34
    go_wp2_with (fail)
    refine (iTableOk_c t A4 k4 _ ht hn2 T4).mono ?_
    rintro e w5 ⟨rfl, hb5⟩
    have H5 := H4.below hb5
    have B5 := below_tr B4 hb5
    have S5 := S4.below hb5
    have T5 := T4.below hb5
    have X5 := X4.below hb5
    generalize w4.heap.size = g4 at *
    clear cH3_0 cH3_1 cH3_2 cH3_3 cH3_4 cH3_5 fH3_0 fH3_1 fH3_2 fH3_3 fH3_4 fH3_5 H0 H1 H2 H3 H4 X4 S0 S1 S2 S3 S4 B0 B1 B2 B3 B4 N2 N4 T2 T4 hb1 hb2 hb3 hb4 hb5 c0
    obtain ⟨cH5_0, fH5_0⟩ := H5.2 0 _ rfl
    obtain ⟨cH5_1, fH5_1⟩ := H5.2 1 _ rfl
    obtain ⟨cH5_2, fH5_2⟩ := H5.2 2 _ rfl
    obtain ⟨cH5_3, fH5_3⟩ := H5.2 3 _ rfl
    obtain ⟨cH5_4, fH5_4⟩ := H5.2 4 _ rfl
    obtain ⟨cH5_5, fH5_5⟩ := H5.2 5 _ rfl
    obtain ⟨cX5_0, fX5_0⟩ := X5.2 0 _ rfl
    obtain ⟨cX5_1, fX5_1⟩ := X5.2 1 _ rfl
    obtain ⟨cX5_2, fX5_2⟩ := X5.2 2 _ rfl
    obtain ⟨cX5_3, fX5_3⟩ := X5.2 3 _ rfl
    obtain ⟨cX5_4, fX5_4⟩ := X5.2 4 _ rfl
    obtain ⟨cX5_5, fX5_5⟩ := X5.2 5 _ rfl
    have HH := Lib.hid H5
    have HX := Lib.hid X5
    clear H5 X5
    go_wp2
    go_region_held3 (fun w' => w'.cell? ⟨w.heap.size, 0, none⟩ = some (.int .i64 t.x0) ∧ w'.cell? ⟨w.heap.size, 1, none⟩ = some (.int .i64 t.y0) ∧ w'.cell? ⟨w.heap.size, 2, none⟩ = some (.int .i64 t.step) ∧ w'.cell? ⟨w.heap.size, 3, none⟩ = some (.int .i64 t.nx) ∧ w'.cell? ⟨w.heap.size, 4, none⟩ = some (.int .i64 t.ny) ∧ w'.cell? ⟨w.heap.size, 5, none⟩ = some (.slice A t.cells.length cap) ∧ w'.cell? ⟨g4, 0, none⟩ = some (.int .i64 t.x0) ∧ w'.cell? ⟨g4, 1, none⟩ = some (.int .i64 t.y0) ∧ w'.cell? ⟨g4, 2, none⟩ = some (.int .i64 t.step) ∧ w'.cell? ⟨g4, 3, none⟩ = some (.int .i64 t.nx) ∧ w'.cell? ⟨g4, 4, none⟩ = some (.int .i64 t.ny) ∧ w'.cell? ⟨g4, 5, none⟩ = some (.slice A4 t.cells.length k4)) (first | go_keep)
      (first
        | (go_at_call 16; refine (toTable_c t A cap _ hn2 (by exact S5)).mono ?_; rintro e w6 ⟨A6, k6, rfl, N6, hb6⟩; obtain ⟨A6', k6', e6, T6⟩ := N6.sl intC_len; injection e6 with e6a _ e6c; subst e6a e6c; have U6 := (HH.out.drew).below hb6; have V6 := (HX.out.drew).below hb6; obtain ⟨x0, _⟩ := U6.2 0 _ rfl; obtain ⟨x1, _⟩ := U6.2 1 _ rfl; obtain ⟨x2, _⟩ := U6.2 2 _ rfl; obtain ⟨x3, _⟩ := U6.2 3 _ rfl; obtain ⟨x4, _⟩ := U6.2 4 _ rfl; obtain ⟨x5, _⟩ := U6.2 5 _ rfl; obtain ⟨y0, _⟩ := V6.2 0 _ rfl; obtain ⟨y1, _⟩ := V6.2 1 _ rfl; obtain ⟨y2, _⟩ := V6.2 2 _ rfl; obtain ⟨y3, _⟩ := V6.2 3 _ rfl; obtain ⟨y4, _⟩ := V6.2 4 _ rfl; obtain ⟨y5, _⟩ := V6.2 5 _ rfl)
        | (go_at_call 18; refine (eqTable_t t A4 A6 k4 k6 _ hn2 (by exact (T5.drew).below hb6) T6).mono ?_; rintro e w7 ⟨rfl, hb7⟩; have U7 := U6.below hb7; have V7 := V6.below hb7; obtain ⟨x0, _⟩ := U7.2 0 _ rfl; obtain ⟨x1, _⟩ := U7.2 1 _ rfl; obtain ⟨x2, _⟩ := U7.2 2 _ rfl; obtain ⟨x3, _⟩ := U7.2 3 _ rfl; obtain ⟨x4, _⟩ := U7.2 4 _ rfl; obtain ⟨x5, _⟩ := U7.2 5 _ rfl; obtain ⟨y0, _⟩ := V7.2 0 _ rfl; obtain ⟨y1, _⟩ := V7.2 1 _ rfl; obtain ⟨y2, _⟩ := V7.2 2 _ rfl; obtain ⟨y3, _⟩ := V7.2 3 _ rfl; obtain ⟨y4, _⟩ := V7.2 4 _ rfl; obtain ⟨y5, _⟩ := V7.2 5 _ rfl))
    all_goals
      go_wp2
      go_ret
      exact ⟨rfl, below_tr (below_tr B5.drew hb6) hb7⟩

set_option maxRecDepth 100000 in
theorem lifted_TableOk (os : Os) (started : os.Started) (H : Type) (enc : TypeId × Value → H) :
    ReturnsInHanded {} Try.checked os 4 .any (Rows.fnExactTableOkSpec.pre6 enc Try.prog Try.f4 Rows.fnExactTableOkRow.domain false) (Rows.fnExactTableOkSpec.post enc Try.prog Try.f4 false true false false) := by
  refine returnsInHanded_of_change (C := Try.checked) own_ started (by kernel_rfl) Try.func4
    (ChangeSpec.witness6 (enc := enc) (C := Try.checked) false ⟨#[], #[.agg #[.int .i64 0, .int .i64 0, .int .i64 0, .int .i64 0, .int .i64 0, .slice none 0 0]], []⟩ 8 (by kernel_rfl) (by kernel_rfl) (by kernel_rfl) (by kernel_rfl)) ?_
  intro W base args ds gs before hval0 hW hcnd _
  have hval : ∀ (j : Nat) t v, Try.f4.params[j]? = some t → args[j]? = some v → Value.okWide Try.prog W .any base t v := hval0
  have hW' := hW
  obtain ⟨p, q, hA0, hV, rfl, hfz, hnd⟩ := hW
  have hA : DataW.TrodAll enc Try.prog W 0 (fun _ => true) true Try.f4.params.toList args.toList ds p := hA0
  rw [Try.params4] at hA hval
  obtain ⟨v0, vs0, d0, ds0, p0, q0, hargs, rfl, rfl, h0, r0⟩ := trodAll_cons hA
  obtain ⟨rfl, rfl, rfl⟩ := trodAll_nil r0
  obtain rfl : args = #[v0] := by cases args; simp_all
  obtain ⟨rfl, rfl⟩ := trodVars_none hV
  have k0 := h0
  have lt0 : ∀ x ∈ p0, x.block < W.heap.size := by obtain ⟨m, hm⟩ := k0; exact DataW.trod_lt m _ _ _ hm
  have ok0 := hval 0 31 v0 rfl rfl
  obtain ⟨t, A, cap, ht, rfl, hn, _, hs⟩ := openTab ok0 h0
  refine (walkTableOk t A cap W ht hn hs).mono fun e W' ⟨he, bel⟩ => ?_
  subst he
  exact ⟨_, rfl, _, _, _, [], _, [], hW', trodAll_mk1 (shut_bool Try.underlying4 _), (trodAll_cons_mk (Below.trod laidOut_ (by kernel_rfl) (of_decide_eq_true (by kernel_rfl)) k0 bel lt0) trodAll_mk0), rfl, bel.frame _, fun h => by cases h⟩

/-- The statement. -/
theorem law_TableOk : Rows.FnExactTableOkSaid :=
  OpenClaim.holds_of_wide 4 Try.f4 rfl rfl rfl rfl rfl rfl rfl ⟨rfl, rfl, rfl, rfl, rfl⟩ rfl rfl rfl rfl rfl (by kernel_rfl) Try.func4 (by kernel_rfl)
    (of_decide_eq_true (by kernel_rfl)) (by unfold Func.isWrapper; first | (rw [if_pos (by decide +kernel)]; kernel_rfl) | (rw [if_neg (by decide +kernel)]; exact ⟨rfl, rfl⟩))
    (fun os started H enc _ => lifted_TableOk os started H enc)
#print axioms law_TableOk
end Go.Proofs.Ytbdmmfboiilamaa
