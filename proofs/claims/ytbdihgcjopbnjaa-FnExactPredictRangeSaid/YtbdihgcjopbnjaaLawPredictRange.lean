/-
  For every input FnExactPredictRange returns true: the program's PredictRange and the reference's agree.
  Conditions: none.
-/
import Derived.Test.YtbdihgcjopbnjaaPred
import Derived.Test.YtbdihgcjopbnjaaGrO
import Derived.Test.YtbdihgcjopbnjaaGrA
import Derived.Test.YtbdihgcjopbnjaaGrN
import Derived.Deep.RegionHeld3
import Derived.Deep.DeepCutAuto
import Derived.Deep.DeepMust
namespace Go.Proofs.Ytbdihgcjopbnjaa
open Go.RowKit Go.ChangeShapes Go.WideShapes Go.ChangeAt Go.Deep

set_option maxRecDepth 100000 in
set_option maxHeartbeats 8000000 in
theorem walkPredictRange (w : World) (l_A : Option Addr) (l : List Record) (l_c : Nat) (_ : ∀ y ∈ l, Record.In y) (hl_l : List.length l ≤ 9223372036854775807) (hs_l : Sl 3 recordC w l_A l) (err : Int) (hin_err : In64 err) (before : Int) (hin_before : In64 before) (input : Int) (hin_input : In64 input) :
    Calls Try.prog 11 #[.slice l_A (List.length l) l_c, .int .i64 err, .int .i64 before, .int .i64 input] w fun e w' => e = .returned (.bool true) ∧ Below w.heap.size w w' := by
  by_cases c0 : 1048576 - ((List.length l : Nat) : Int) < 0
  · skip
    go_enter Try.func11, Try.ntmps11
    go_wp2_with (fail)
    refine (szRecordS_c l_A (List.length l) l_c (1048576) _ hl_l (by omega) (by omega)).mono ?_
    rw [if_pos (by omega)]
    rintro e w' ⟨rfl, rfl⟩
    go_wp2
    go_ret
    refine ⟨rfl, ?_⟩
    repeat (first | (with_reducible exact Below.refl _ _) | (with_reducible assumption) | (with_reducible refine below_al ?_ _) | (with_reducible refine Below.drew ?_) | (with_reducible refine below_drewN ?_ _) | (with_reducible refine below_st ?_ ?_ _) | (with_reducible refine below_tr ?_ (by assumption)) | (with_reducible exact Nat.le_refl _) | (focus (simp; done)) | (focus (simp; omega)))
  have hn_l : List.length l ≤ 1048576 := by omega
  have k1 := fun W A' c' h => sPred_c A' l c' err before input W (by omega) hin_err hin_before hin_input h
  have k2 := fun W A' c' h => iPred_c A' l c' err before input W (by omega) hin_err hin_before hin_input h
  revert k1 k2
  generalize (predR l err before input).1 = lo
  generalize (predR l err before input).2 = hi
  generalize predOk l err before input = c
  intro k1 k2
  go_enter Try.func11, Try.ntmps11
  go_wp2_with (fail)
  refine (szRecordS_c l_A (List.length l) l_c (1048576) _ hl_l (by omega) (by omega)).mono ?_
  rw [if_neg (by omega)]
  rintro e w' ⟨rfl, rfl⟩
  go_wp2_with (fail)
  refine (toRecordS_c l_A l l_c _ hn_l (Sl.below hs_l (by (repeat (first | (with_reducible exact Below.refl _ _) | (with_reducible assumption) | (with_reducible refine below_al ?_ _) | (with_reducible refine Below.drew ?_) | (with_reducible refine below_drewN ?_ _) | (with_reducible refine below_st ?_ ?_ _) | (with_reducible refine below_tr ?_ (by assumption)) | (with_reducible exact Nat.le_refl _) | (focus (simp; done)) | (focus (simp; omega))))))).mono ?_
  rintro e w1 ⟨v1, rfl, M1, hb1⟩
  obtain ⟨A1, c1, rfl, ho1⟩ := M1
  have N1 : New 95 3 recordC w1 _ (.slice A1 (List.length l) c1) l := ⟨A1, c1, rfl, ho1⟩
  clear ho1
  have r1 := bcell1 hb1
  go_wp2_with (fail)
  refine (k1 _ _ _ (Sl.below (N1.out recordC_len) (by (repeat (first | (with_reducible exact Below.refl _ _) | (with_reducible assumption) | (with_reducible refine below_al ?_ _) | (with_reducible refine Below.drew ?_) | (with_reducible refine below_drewN ?_ _) | (with_reducible refine below_st ?_ ?_ _) | (with_reducible refine below_tr ?_ (by assumption)) | (with_reducible exact Nat.le_refl _) | (focus (simp; done)) | (focus (simp; omega))))))).mono ?_
  rintro e w2 ⟨rfl, hb2⟩
  have r2 := bcell1 hb2
  go_wp2_with (fail)
  refine (toRecordS_c l_A l l_c _ hn_l (Sl.below hs_l (by (repeat (first | (with_reducible exact Below.refl _ _) | (with_reducible assumption) | (with_reducible refine below_al ?_ _) | (with_reducible refine Below.drew ?_) | (with_reducible refine below_drewN ?_ _) | (with_reducible refine below_st ?_ ?_ _) | (with_reducible refine below_tr ?_ (by assumption)) | (with_reducible exact Nat.le_refl _) | (focus (simp; done)) | (focus (simp; omega))))))).mono ?_
  rintro e w3 ⟨v3, rfl, M3, hb3⟩
  obtain ⟨A3, c3, rfl, ho3⟩ := M3
  have N3 : New 95 3 recordC w3 _ (.slice A3 (List.length l) c3) l := ⟨A3, c3, rfl, ho3⟩
  clear ho3
  have r3 := bcell1 hb3
  have l3_0 : w2.heap.size < w3.heap.size := blt hb3 (by first | (simp; done) | (simp; omega) | omega)
  have l3_1 : w2.heap.size + 1 < w3.heap.size := blt hb3 (by first | (simp; done) | (simp; omega) | omega)
  go_wp2_with (fail)
  refine (k2 _ _ _ (Sl.below (N3.out recordC_len) (by (repeat (first | (with_reducible exact Below.refl _ _) | (with_reducible assumption) | (with_reducible refine below_al ?_ _) | (with_reducible refine Below.drew ?_) | (with_reducible refine below_drewN ?_ _) | (with_reducible refine below_st ?_ ?_ _) | (with_reducible refine below_tr ?_ (by assumption)) | (with_reducible exact Nat.le_refl _) | (focus (simp; done)) | (focus (simp; omega))))))).mono ?_
  rintro e w4 ⟨rfl, hb4⟩
  have r4 := bcell1 hb4
  have l4_0 : w2.heap.size < w4.heap.size := blt hb4 (by first | (simp; done) | (simp; omega) | omega)
  have l4_1 : w2.heap.size + 1 < w4.heap.size := blt hb4 (by first | (simp; done) | (simp; omega) | omega)
  go_wp2_with (fail)
  refine (eqRatio_t lo _).mono ?_
  rintro e w5 ⟨rfl, hb5⟩
  have r5 := bcell1 hb5
  have l5_0 : w2.heap.size < w5.heap.size := blt hb5 (by first | (simp; done) | (simp; omega) | omega)
  have l5_1 : w2.heap.size + 1 < w5.heap.size := blt hb5 (by first | (simp; done) | (simp; omega) | omega)
  have l5_2 : w4.heap.size < w5.heap.size := blt hb5 (by first | (simp; done) | (simp; omega) | omega)
  have l5_3 : w4.heap.size + 1 < w5.heap.size := blt hb5 (by first | (simp; done) | (simp; omega) | omega)
  go_wp2_with (fail)
  refine (eqRatio_t hi _).mono ?_
  rintro e w6 ⟨rfl, hb6⟩
  have r6 := bcell1 hb6
  have l6_0 : w2.heap.size < w6.heap.size := blt hb6 (by first | (simp; done) | (simp; omega) | omega)
  have l6_1 : w2.heap.size + 1 < w6.heap.size := blt hb6 (by first | (simp; done) | (simp; omega) | omega)
  have l6_2 : w4.heap.size < w6.heap.size := blt hb6 (by first | (simp; done) | (simp; omega) | omega)
  have l6_3 : w4.heap.size + 1 < w6.heap.size := blt hb6 (by first | (simp; done) | (simp; omega) | omega)
  go_wp2_with (fail)
  refine (toRecordS_c l_A l l_c _ hn_l (Sl.below hs_l (by (repeat (first | (with_reducible exact Below.refl _ _) | (with_reducible assumption) | (with_reducible refine below_al ?_ _) | (with_reducible refine Below.drew ?_) | (with_reducible refine below_drewN ?_ _) | (with_reducible refine below_st ?_ ?_ _) | (with_reducible refine below_tr ?_ (by assumption)) | (with_reducible exact Nat.le_refl _) | (focus (simp; done)) | (focus (simp; omega))))))).mono ?_
  rintro e w7 ⟨v7, rfl, M7, hb7⟩
  obtain ⟨A7, c7, rfl, ho7⟩ := M7
  have N7 : New 95 3 recordC w7 _ (.slice A7 (List.length l) c7) l := ⟨A7, c7, rfl, ho7⟩
  clear ho7
  have r7 := bcell1 hb7
  have l7_0 : w2.heap.size < w7.heap.size := blt hb7 (by first | (simp; done) | (simp; omega) | omega)
  have l7_1 : w2.heap.size + 1 < w7.heap.size := blt hb7 (by first | (simp; done) | (simp; omega) | omega)
  have l7_2 : w4.heap.size < w7.heap.size := blt hb7 (by first | (simp; done) | (simp; omega) | omega)
  have l7_3 : w4.heap.size + 1 < w7.heap.size := blt hb7 (by first | (simp; done) | (simp; omega) | omega)
  go_wp2_with (fail)
  refine (eqRecordS_t A3 A7 l c3 c7 _ hn_l (Sl.below (N3.out recordC_len) (by (repeat (first | (with_reducible exact Below.refl _ _) | (with_reducible assumption) | (with_reducible refine below_al ?_ _) | (with_reducible refine Below.drew ?_) | (with_reducible refine below_drewN ?_ _) | (with_reducible refine below_st ?_ ?_ _) | (with_reducible refine below_tr ?_ (by assumption)) | (with_reducible exact Nat.le_refl _) | (focus (simp; done)) | (focus (simp; omega)))))) (Sl.below (N7.out recordC_len) (by (repeat (first | (with_reducible exact Below.refl _ _) | (with_reducible assumption) | (with_reducible refine below_al ?_ _) | (with_reducible refine Below.drew ?_) | (with_reducible refine below_drewN ?_ _) | (with_reducible refine below_st ?_ ?_ _) | (with_reducible refine below_tr ?_ (by assumption)) | (with_reducible exact Nat.le_refl _) | (focus (simp; done)) | (focus (simp; omega))))))).mono ?_
  rintro e w8 ⟨rfl, hb8⟩
  have r8 := bcell1 hb8
  have l8_0 : w2.heap.size < w8.heap.size := blt hb8 (by first | (simp; done) | (simp; omega) | omega)
  have l8_1 : w2.heap.size + 1 < w8.heap.size := blt hb8 (by first | (simp; done) | (simp; omega) | omega)
  have l8_2 : w4.heap.size < w8.heap.size := blt hb8 (by first | (simp; done) | (simp; omega) | omega)
  have l8_3 : w4.heap.size + 1 < w8.heap.size := blt hb8 (by first | (simp; done) | (simp; omega) | omega)
  go_wp2
  go_ret
  refine ⟨rfl, ?_⟩
  repeat (first | (with_reducible exact Below.refl _ _) | (with_reducible assumption) | (with_reducible refine below_al ?_ _) | (with_reducible refine Below.drew ?_) | (with_reducible refine below_drewN ?_ _) | (with_reducible refine below_st ?_ ?_ _) | (with_reducible refine below_tr ?_ (by assumption)) | (with_reducible exact Nat.le_refl _) | (focus (simp; done)) | (focus (simp; omega)))

set_option maxRecDepth 100000 in
theorem lifted_PredictRange (os : Os) (started : os.Started) (H : Type) (enc : TypeId × Value → H) :
    ReturnsInHanded {} Try.checked os 11 .any (Rows.fnExactPredictRangeSpec.pre6 enc Try.prog Try.f11 Rows.fnExactPredictRangeRow.domain false) (Rows.fnExactPredictRangeSpec.post enc Try.prog Try.f11 false true false false) := by
  refine returnsInHanded_of_change (C := Try.checked) own_ started (by kernel_rfl) Try.func11
    (ChangeSpec.witness6 (enc := enc) (C := Try.checked) false ⟨#[], #[.slice none 0 0, .int .i64 0, .int .i64 0, .int .i64 0], []⟩ 8 (by kernel_rfl) (by kernel_rfl) (by kernel_rfl) (by kernel_rfl)) ?_
  intro W base args ds gs before hval0 hW hcnd _
  have hval : ∀ (j : Nat) t v, Try.f11.params[j]? = some t → args[j]? = some v → Value.okWide Try.prog W .any base t v := hval0
  have hW' := hW
  obtain ⟨p, q, hA0, hV, rfl, hfz, hnd⟩ := hW
  have hA : DataW.TrodAll enc Try.prog W 0 (fun _ => true) true Try.f11.params.toList args.toList ds p := hA0
  rw [Try.params11] at hA hval
  obtain ⟨v0, vs0, d0, ds0, p0, q0, hargs, rfl, rfl, h0, r0⟩ := trodAll_cons hA
  obtain ⟨v1, vs1, d1, ds1, p1, q1, rfl, rfl, rfl, h1, r1⟩ := trodAll_cons r0
  obtain ⟨v2, vs2, d2, ds2, p2, q2, rfl, rfl, rfl, h2, r2⟩ := trodAll_cons r1
  obtain ⟨v3, vs3, d3, ds3, p3, q3, rfl, rfl, rfl, h3, r3⟩ := trodAll_cons r2
  obtain ⟨rfl, rfl, rfl⟩ := trodAll_nil r3
  obtain rfl : args = #[v0, v1, v2, v3] := by cases args; simp_all
  obtain ⟨rfl, rfl⟩ := trodVars_none hV
  have k0 := h0
  have lt0 : ∀ x ∈ p0, x.block < W.heap.size := by obtain ⟨m, hm⟩ := k0; exact DataW.trod_lt m _ _ _ hm
  have ok0 := hval 0 98 v0 rfl rfl
  have k1 := h1
  have lt1 : ∀ x ∈ p1, x.block < W.heap.size := by obtain ⟨m, hm⟩ := k1; exact DataW.trod_lt m _ _ _ hm
  have ok1 := hval 1 3 v1 rfl rfl
  have k2 := h2
  have lt2 : ∀ x ∈ p2, x.block < W.heap.size := by obtain ⟨m, hm⟩ := k2; exact DataW.trod_lt m _ _ _ hm
  have ok2 := hval 2 3 v2 rfl rfl
  have k3 := h3
  have lt3 : ∀ x ∈ p3, x.block < W.heap.size := by obtain ⟨m, hm⟩ := k3; exact DataW.trod_lt m _ _ _ hm
  have ok3 := hval 3 3 v3 rfl rfl
  obtain ⟨l_A, l_c, l, rfl, hl_l, hin_l, hs_l⟩ := openRecordSV ok0 h0
  obtain ⟨err, hin_err, rfl⟩ := open_int1 Try.underlying3 ok1 h1
  obtain ⟨before, hin_before, rfl⟩ := open_int1 Try.underlying3 ok2 h2
  obtain ⟨input, hin_input, rfl⟩ := open_int1 Try.underlying3 ok3 h3
  refine (walkPredictRange W l_A l l_c hin_l hl_l hs_l err hin_err before hin_before input hin_input).mono fun e W' ⟨he, bel⟩ => ?_
  subst he
  exact ⟨_, rfl, _, _, _, [], _, [], hW', trodAll_mk1 (shut_bool Try.underlying4 _), (trodAll_cons_mk (Below.trod laidOut_ (by kernel_rfl) (of_decide_eq_true (by kernel_rfl)) k0 bel lt0) (trodAll_cons_mk (Below.trod laidOut_ (by kernel_rfl) (of_decide_eq_true (by kernel_rfl)) k1 bel lt1) (trodAll_cons_mk (Below.trod laidOut_ (by kernel_rfl) (of_decide_eq_true (by kernel_rfl)) k2 bel lt2) (trodAll_cons_mk (Below.trod laidOut_ (by kernel_rfl) (of_decide_eq_true (by kernel_rfl)) k3 bel lt3) trodAll_mk0)))), rfl, bel.frame _, fun h => by cases h⟩

/-- The statement. -/
theorem law_PredictRange : Rows.FnExactPredictRangeSaid :=
  OpenClaim.holds_of_wide 11 Try.f11 rfl rfl rfl rfl rfl rfl rfl ⟨rfl, rfl, rfl, rfl, rfl⟩ rfl rfl rfl rfl rfl (by kernel_rfl) Try.func11 (by kernel_rfl)
    (of_decide_eq_true (by kernel_rfl)) (by unfold Func.isWrapper; first | (rw [if_pos (by decide +kernel)]; kernel_rfl) | (rw [if_neg (by decide +kernel)]; exact ⟨rfl, rfl⟩))
    (fun os started H enc _ => lifted_PredictRange os started H enc)
#print axioms law_PredictRange
end Go.Proofs.Ytbdihgcjopbnjaa
