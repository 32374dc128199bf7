/-
  For every input FnExactNewRecord returns true: the program's NewRecord and the reference's agree.
  Conditions: none.
-/
import Derived.Test.YtbdihgcjopbnjaaNewR
import Derived.Test.YtbdihgcjopbnjaaGrO
import Derived.Test.YtbdihgcjopbnjaaGrA
import Derived.Test.YtbdihgcjopbnjaaGrN
import Derived.Deep.RegionHeld3
import Derived.Deep.DeepCutAuto
import Derived.Deep.DeepMust
namespace Go.Proofs.Ytbdihgcjopbnjaa
open Go.RowKit Go.ChangeShapes Go.WideShapes Go.ChangeAt Go.Deep

set_option maxRecDepth 100000 in
set_option maxHeartbeats 8000000 in
theorem walkNewRecord (w : World) (l_A : Option Addr) (l : List Record) (l_c : Nat) (_ : ∀ y ∈ l, Record.In y) (hl_l : List.length l ≤ 9223372036854775807) (hs_l : Sl 3 recordC w l_A l) (err : Int) (hin_err : In64 err) (x : Record) (_ : x.In) :
    Calls Try.prog 8 #[.slice l_A (List.length l) l_c, .int .i64 err, recordV x] w fun e w' => e = .returned (.bool true) ∧ Below w.heap.size w w' := by
  by_cases c0 : 1048576 - ((List.length l : Nat) : Int) < 0
  · skip
    go_enter Try.func8, Try.ntmps8
    go_wp2_with (fail)
    refine (szRecordS_c l_A (List.length l) l_c (1048576) _ hl_l (by omega) (by omega)).mono ?_
    rw [if_pos (by omega)]
    rintro e w' ⟨rfl, rfl⟩
    go_wp2
    go_ret
    refine ⟨rfl, ?_⟩
    repeat (first | (with_reducible exact Below.refl _ _) | (with_reducible assumption) | (with_reducible refine below_al ?_ _) | (with_reducible refine Below.drew ?_) | (with_reducible refine below_drewN ?_ _) | (with_reducible refine below_st ?_ ?_ _) | (with_reducible refine below_tr ?_ (by assumption)) | (with_reducible exact Nat.le_refl _) | (focus (simp; done)) | (focus (simp; omega)))
  have hn_l : List.length l ≤ 1048576 := by omega
  have k1 := fun W A' c' h h' => sNew_c A' l c' err x W hn_l hin_err h h'
  have k2 := fun W A' c' h => iNew_c A' l c' err x W hn_l hin_err h
  generalize newRec l err x = c at *
  go_enter Try.func8, Try.ntmps8
  go_wp2_with (fail)
  refine (szRecordS_c l_A (List.length l) l_c (1048576) _ hl_l (by omega) (by omega)).mono ?_
  rw [if_neg (by omega)]
  rintro e w' ⟨rfl, rfl⟩
  go_upto_region 5 with fail
  go_region_held3 (fun w' => (∀ b o, b < w.heap.size + 1 → w'.cell? ⟨b, o, none⟩ = (w.alloc (.cells #[.int .i64 x.before, .int .i64 x.input, .int .i64 x.after] 99)).cell? ⟨b, o, none⟩) ∧ w.heap.size + 1 ≤ w'.heap.size) (first | exact ⟨fun _ _ _ => rfl, by simp⟩ | exact kq_step2 (by assumption) (by assumption))
    (first
      | (go_at_call 54; go_must (refine (toRecordS_c l_A l l_c _ hn_l (Sl.below hs_l (by (repeat (first | (with_reducible exact Below.refl _ _) | (with_reducible assumption) | (with_reducible refine below_al ?_ _) | (with_reducible refine Below.drew ?_) | (with_reducible refine below_drewN ?_ _) | (with_reducible refine below_st ?_ ?_ _) | (with_reducible refine below_tr ?_ (by assumption)) | (with_reducible exact Nat.le_refl _) | (focus (simp; done)) | (focus (simp; omega))))))).mono ?_; rintro e w1 ⟨v1, rfl, M1, hb1⟩; obtain ⟨A1, c1, rfl, ho1⟩ := M1; have N1 : New 95 3 recordC w1 _ (.slice A1 (List.length l) c1) l := ⟨A1, c1, rfl, ho1⟩; clear ho1))
      | (go_at_call 55; go_must (refine (toRecord_c x _).mono ?_; rintro e w2 ⟨rfl, hb2⟩))
      | (go_at_call 53; go_must (refine (k1 _ _ _ (Sl.below (N1.out recordC_len) (by (repeat (first | (with_reducible exact Below.refl _ _) | (with_reducible assumption) | (with_reducible refine below_al ?_ _) | (with_reducible refine Below.drew ?_) | (with_reducible refine below_drewN ?_ _) | (with_reducible refine below_st ?_ ?_ _) | (with_reducible refine below_tr ?_ (by assumption)) | (with_reducible exact Nat.le_refl _) | (focus (simp; done)) | (focus (simp; omega)))))) N1.nilcap).mono ?_; rintro e w3 ⟨rfl, hb3⟩)))
  have B3 : Below (w.alloc (.cells #[.int .i64 x.before, .int .i64 x.input, .int .i64 x.after] 99)).heap.size (w.alloc (.cells #[.int .i64 x.before, .int .i64 x.input, .int .i64 x.after] 99)) w3 := by (repeat (first | (with_reducible exact Below.refl _ _) | (with_reducible assumption) | (with_reducible refine below_al ?_ _) | (with_reducible refine Below.drew ?_) | (with_reducible refine below_drewN ?_ _) | (with_reducible refine below_st ?_ ?_ _) | (with_reducible refine below_tr ?_ (by assumption)) | (with_reducible exact Nat.le_refl _) | (focus (simp; done)) | (focus (simp; omega))))
  have r3 := bcell1 B3
  have l3_0 : w.heap.size < w3.heap.size := blt B3 (by first | (simp; done) | (simp; omega) | omega)
  go_wp2_with (fail)
  refine (toRecordS_c l_A l l_c _ hn_l (Sl.below hs_l (by (repeat (first | (with_reducible exact Below.refl _ _) | (with_reducible assumption) | (with_reducible refine below_al ?_ _) | (with_reducible refine Below.drew ?_) | (with_reducible refine below_drewN ?_ _) | (with_reducible refine below_st ?_ ?_ _) | (with_reducible refine below_tr ?_ (by assumption)) | (with_reducible exact Nat.le_refl _) | (focus (simp; done)) | (focus (simp; omega))))))).mono ?_
  rintro e w4 ⟨v4, rfl, M4, hb4⟩
  obtain ⟨A4, c4, rfl, ho4⟩ := M4
  have N4 : New 95 3 recordC w4 _ (.slice A4 (List.length l) c4) l := ⟨A4, c4, rfl, ho4⟩
  clear ho4
  have r4 := bcell1 hb4
  have l4_0 : w.heap.size < w4.heap.size := blt hb4 (by first | (simp; done) | (simp; omega) | omega)
  go_wp2_with (fail)
  refine (toRecord_c x _).mono ?_
  rintro e w5 ⟨rfl, hb5⟩
  have r5 := bcell1 hb5
  have l5_0 : w.heap.size < w5.heap.size := blt hb5 (by first | (simp; done) | (simp; omega) | omega)
  go_wp2_with (fail)
  refine (k2 _ _ _ (Sl.below (N4.out recordC_len) (by (repeat (first | (with_reducible exact Below.refl _ _) | (with_reducible assumption) | (with_reducible refine below_al ?_ _) | (with_reducible refine Below.drew ?_) | (with_reducible refine below_drewN ?_ _) | (with_reducible refine below_st ?_ ?_ _) | (with_reducible refine below_tr ?_ (by assumption)) | (with_reducible exact Nat.le_refl _) | (focus (simp; done)) | (focus (simp; omega))))))).mono ?_
  rintro e w6 ⟨rfl, hb6⟩
  have r6 := bcell1 hb6
  have l6_0 : w.heap.size < w6.heap.size := blt hb6 (by first | (simp; done) | (simp; omega) | omega)
  go_wp2_with (fail)
  refine (toRecordS_c l_A l l_c _ hn_l (Sl.below hs_l (by (repeat (first | (with_reducible exact Below.refl _ _) | (with_reducible assumption) | (with_reducible refine below_al ?_ _) | (with_reducible refine Below.drew ?_) | (with_reducible refine below_drewN ?_ _) | (with_reducible refine below_st ?_ ?_ _) | (with_reducible refine below_tr ?_ (by assumption)) | (with_reducible exact Nat.le_refl _) | (focus (simp; done)) | (focus (simp; omega))))))).mono ?_
  rintro e w7 ⟨v7, rfl, M7, hb7⟩
  obtain ⟨A7, c7, rfl, ho7⟩ := M7
  have N7 : New 95 3 recordC w7 _ (.slice A7 (List.length l) c7) l := ⟨A7, c7, rfl, ho7⟩
  clear ho7
  have r7 := bcell1 hb7
  have l7_0 : w.heap.size < w7.heap.size := blt hb7 (by first | (simp; done) | (simp; omega) | omega)
  go_wp2_with (fail)
  refine (eqRecordS_t A4 A7 l c4 c7 _ hn_l (Sl.below (N4.out recordC_len) (by (repeat (first | (with_reducible exact Below.refl _ _) | (with_reducible assumption) | (with_reducible refine below_al ?_ _) | (with_reducible refine Below.drew ?_) | (with_reducible refine below_drewN ?_ _) | (with_reducible refine below_st ?_ ?_ _) | (with_reducible refine below_tr ?_ (by assumption)) | (with_reducible exact Nat.le_refl _) | (focus (simp; done)) | (focus (simp; omega)))))) (Sl.below (N7.out recordC_len) (by (repeat (first | (with_reducible exact Below.refl _ _) | (with_reducible assumption) | (with_reducible refine below_al ?_ _) | (with_reducible refine Below.drew ?_) | (with_reducible refine below_drewN ?_ _) | (with_reducible refine below_st ?_ ?_ _) | (with_reducible refine below_tr ?_ (by assumption)) | (with_reducible exact Nat.le_refl _) | (focus (simp; done)) | (focus (simp; omega))))))).mono ?_
  rintro e w8 ⟨rfl, hb8⟩
  have r8 := bcell1 hb8
  have l8_0 : w.heap.size < w8.heap.size := blt hb8 (by first | (simp; done) | (simp; omega) | omega)
  go_wp2
  go_ret
  refine ⟨rfl, ?_⟩
  repeat (first | (with_reducible exact Below.refl _ _) | (with_reducible assumption) | (with_reducible refine below_al ?_ _) | (with_reducible refine Below.drew ?_) | (with_reducible refine below_drewN ?_ _) | (with_reducible refine below_st ?_ ?_ _) | (with_reducible refine below_tr ?_ (by assumption)) | (with_reducible exact Nat.le_refl _) | (focus (simp; done)) | (focus (simp; omega)))

set_option maxRecDepth 100000 in
theorem lifted_NewRecord (os : Os) (started : os.Started) (H : Type) (enc : TypeId × Value → H) :
    ReturnsInHanded {} Try.checked os 8 .any (Rows.fnExactNewRecordSpec.pre6 enc Try.prog Try.f8 Rows.fnExactNewRecordRow.domain false) (Rows.fnExactNewRecordSpec.post enc Try.prog Try.f8 false true false false) := by
  refine returnsInHanded_of_change (C := Try.checked) own_ started (by kernel_rfl) Try.func8
    (ChangeSpec.witness6 (enc := enc) (C := Try.checked) false ⟨#[], #[.slice none 0 0, .int .i64 0, .agg #[.int .i64 0, .int .i64 0, .int .i64 0]], []⟩ 8 (by kernel_rfl) (by kernel_rfl) (by kernel_rfl) (by kernel_rfl)) ?_
  intro W base args ds gs before hval0 hW hcnd _
  have hval : ∀ (j : Nat) t v, Try.f8.params[j]? = some t → args[j]? = some v → Value.okWide Try.prog W .any base t v := hval0
  have hW' := hW
  obtain ⟨p, q, hA0, hV, rfl, hfz, hnd⟩ := hW
  have hA : DataW.TrodAll enc Try.prog W 0 (fun _ => true) true Try.f8.params.toList args.toList ds p := hA0
  rw [Try.params8] at hA hval
  obtain ⟨v0, vs0, d0, ds0, p0, q0, hargs, rfl, rfl, h0, r0⟩ := trodAll_cons hA
  obtain ⟨v1, vs1, d1, ds1, p1, q1, rfl, rfl, rfl, h1, r1⟩ := trodAll_cons r0
  obtain ⟨v2, vs2, d2, ds2, p2, q2, rfl, rfl, rfl, h2, r2⟩ := trodAll_cons r1
  obtain ⟨rfl, rfl, rfl⟩ := trodAll_nil r2
  obtain rfl : args = #[v0, v1, v2] := by cases args; simp_all
  obtain ⟨rfl, rfl⟩ := trodVars_none hV
  have k0 := h0
  have lt0 : ∀ x ∈ p0, x.block < W.heap.size := by obtain ⟨m, hm⟩ := k0; exact DataW.trod_lt m _ _ _ hm
  have ok0 := hval 0 98 v0 rfl rfl
  have k1 := h1
  have lt1 : ∀ x ∈ p1, x.block < W.heap.size := by obtain ⟨m, hm⟩ := k1; exact DataW.trod_lt m _ _ _ hm
  have ok1 := hval 1 3 v1 rfl rfl
  have k2 := h2
  have lt2 : ∀ x ∈ p2, x.block < W.heap.size := by obtain ⟨m, hm⟩ := k2; exact DataW.trod_lt m _ _ _ hm
  have ok2 := hval 2 99 v2 rfl rfl
  obtain ⟨l_A, l_c, l, rfl, hl_l, hin_l, hs_l⟩ := openRecordSV ok0 h0
  obtain ⟨err, hin_err, rfl⟩ := open_int1 Try.underlying3 ok1 h1
  obtain ⟨x, hin_x, rfl⟩ := openRecord ok2 h2
  refine (walkNewRecord W l_A l l_c hin_l hl_l hs_l err hin_err x hin_x).mono fun e W' ⟨he, bel⟩ => ?_
  subst he
  exact ⟨_, rfl, _, _, _, [], _, [], hW', trodAll_mk1 (shut_bool Try.underlying4 _), (trodAll_cons_mk (Below.trod laidOut_ (by kernel_rfl) (of_decide_eq_true (by kernel_rfl)) k0 bel lt0) (trodAll_cons_mk (Below.trod laidOut_ (by kernel_rfl) (of_decide_eq_true (by kernel_rfl)) k1 bel lt1) (trodAll_cons_mk (Below.trod laidOut_ (by kernel_rfl) (of_decide_eq_true (by kernel_rfl)) k2 bel lt2) trodAll_mk0))), rfl, bel.frame _, fun h => by cases h⟩

/-- The statement. -/
theorem law_NewRecord : Rows.FnExactNewRecordSaid :=
  OpenClaim.holds_of_wide 8 Try.f8 rfl rfl rfl rfl rfl rfl rfl ⟨rfl, rfl, rfl, rfl, rfl⟩ rfl rfl rfl rfl rfl (by kernel_rfl) Try.func8 (by kernel_rfl)
    (of_decide_eq_true (by kernel_rfl)) (by unfold Func.isWrapper; first | (rw [if_pos (by decide +kernel)]; kernel_rfl) | (rw [if_neg (by decide +kernel)]; exact ⟨rfl, rfl⟩))
    (fun os started H enc _ => lifted_NewRecord os started H enc)
#print axioms law_NewRecord
end Go.Proofs.Ytbdihgcjopbnjaa
