/-
  For every input FnExactModesOk returns true: the program's ModesOk and the reference's agree.
  Conditions: none.
-/
import Derived.Test.YtbdihgcjopbnjaaModes
import Derived.Test.YtbdihgcjopbnjaaGrN
import Derived.Test.YtbdihgcjopbnjaaGrO
import Derived.Test.YtbdihgcjopbnjaaGrA
import Derived.Deep.RegionHeld3
import Derived.Deep.DeepCutAuto
import Derived.Deep.DeepMust
namespace Go.Proofs.Ytbdihgcjopbnjaa
open Go.RowKit Go.ChangeShapes Go.WideShapes Go.ChangeAt Go.Deep

set_option maxRecDepth 100000 in
set_option maxHeartbeats 8000000 in
theorem walkModesOk (w : World) (r : Room) (r_a : RoomA) (hin_r : RoomIn r) (hl_r : List.length r.map ≤ 9223372036854775807 ∧ List.length r.noise ≤ 9223372036854775807 ∧ List.length r.limits ≤ 9223372036854775807) (hs_r : RoomSl w r r_a) (ms_A : Option Addr) (ms : List Mode) (ms_c : Nat) (_ : ∀ y ∈ ms, Mode.In y) (hl_ms : List.length ms ≤ 9223372036854775807) (hs_ms : Sl 2 modeC w ms_A ms) :
    Calls Try.prog 10 #[roomV r r_a, .slice ms_A (List.length ms) ms_c] w fun e w' => e = .returned (.bool true) ∧ Below w.heap.size w w' := by
  by_cases c0 : 1048576 - ((roomLen r : Nat) : Int) < 0
  · skip
    go_enter Try.func10, Try.ntmps10
    go_wp2_with (fail)
    refine (szRoom_c r r_a (1048576) _ hl_r (by omega) (by omega)).mono ?_
    rw [if_pos (by omega)]
    rintro e w1 ⟨rfl, hb1⟩
    have r1 := bcell1 hb1
    have l1_0 : w.heap.size < w1.heap.size := blt hb1 (by first | (simp; done) | (simp; omega) | omega)
    go_wp2
    go_ret
    refine ⟨rfl, ?_⟩
    repeat (first | (with_reducible exact Below.refl _ _) | (with_reducible assumption) | (with_reducible refine below_al ?_ _) | (with_reducible refine Below.drew ?_) | (with_reducible refine below_drewN ?_ _) | (with_reducible refine below_st ?_ ?_ _) | (with_reducible refine below_tr ?_ (by assumption)) | (with_reducible exact Nat.le_refl _) | (focus (simp; done)) | (focus (simp; omega)))
  have hn_r : roomLen r ≤ 1048576 := by omega
  by_cases c1 : 1048576 - ((roomLen r : Nat) : Int) - ((List.length ms : Nat) : Int) < 0
  · skip
    go_enter Try.func10, Try.ntmps10
    go_wp2_with (fail)
    refine (szRoom_c r r_a (1048576) _ hl_r (by omega) (by omega)).mono ?_
    rw [if_neg (by omega)]
    rintro e w1 ⟨rfl, hb1⟩
    have r1 := bcell1 hb1
    have l1_0 : w.heap.size < w1.heap.size := blt hb1 (by first | (simp; done) | (simp; omega) | omega)
    go_wp2_with (fail)
    refine (szModeS_c ms_A (List.length ms) ms_c (1048576 - ((roomLen r : Nat) : Int)) _ hl_ms (by omega) (by omega)).mono ?_
    rw [if_pos (by omega)]
    rintro e w' ⟨rfl, rfl⟩
    go_wp2
    go_ret
    refine ⟨rfl, ?_⟩
    repeat (first | (with_reducible exact Below.refl _ _) | (with_reducible assumption) | (with_reducible refine below_al ?_ _) | (with_reducible refine Below.drew ?_) | (with_reducible refine below_drewN ?_ _) | (with_reducible refine below_st ?_ ?_ _) | (with_reducible refine below_tr ?_ (by assumption)) | (with_reducible exact Nat.le_refl _) | (focus (simp; done)) | (focus (simp; omega)))
  have hn_ms : List.length ms ≤ 1048576 := by omega
  have k1 := fun W a' A' c' h h' h2 => sModesOk_c r a' A' ms c' W hn_r hin_r hn_ms h h' h2
  have k2 := fun W a' A' c' h h' h2 => iModesOk_c r a' A' ms c' W hn_r hin_r hn_ms h h' h2
  generalize modesOk r ms = c at *
  go_enter Try.func10, Try.ntmps10
  go_wp2_with (fail)
  refine (szRoom_c r r_a (1048576) _ hl_r (by omega) (by omega)).mono ?_
  rw [if_neg (by omega)]
  rintro e w1 ⟨rfl, hb1⟩
  have r1 := bcell1 hb1
  have l1_0 : w.heap.size < w1.heap.size := blt hb1 (by first | (simp; done) | (simp; omega) | omega)
  go_wp2_with (fail)
  refine (szModeS_c ms_A (List.length ms) ms_c (1048576 - ((roomLen r : Nat) : Int)) _ hl_ms (by omega) (by omega)).mono ?_
  rw [if_neg (by omega)]
  rintro e w' ⟨rfl, rfl⟩
  go_wp2_with (fail)
  refine (toRoom_c r r_a _ hn_r (RoomSl.below hs_r (by (repeat (first | (with_reducible exact Below.refl _ _) | (with_reducible assumption) | (with_reducible refine below_al ?_ _) | (with_reducible refine Below.drew ?_) | (with_reducible refine below_drewN ?_ _) | (with_reducible refine below_st ?_ ?_ _) | (with_reducible refine below_tr ?_ (by assumption)) | (with_reducible exact Nat.le_refl _) | (focus (simp; done)) | (focus (simp; omega))))))).mono ?_
  rintro e w2 ⟨a2, rfl, N2, hb2⟩
  have r2 := bcell1 hb2
  have l2_0 : w.heap.size < w2.heap.size := blt hb2 (by first | (simp; done) | (simp; omega) | omega)
  go_wp2_with (fail)
  refine (toModeS_c ms_A ms ms_c _ hn_ms (Sl.below hs_ms (by (repeat (first | (with_reducible exact Below.refl _ _) | (with_reducible assumption) | (with_reducible refine below_al ?_ _) | (with_reducible refine Below.drew ?_) | (with_reducible refine below_drewN ?_ _) | (with_reducible refine below_st ?_ ?_ _) | (with_reducible refine below_tr ?_ (by assumption)) | (with_reducible exact Nat.le_refl _) | (focus (simp; done)) | (focus (simp; omega))))))).mono ?_
  rintro e w3 ⟨v3, rfl, M3, hb3⟩
  obtain ⟨A3, c3, rfl, ho3⟩ := M3
  have N3 : New 130 2 modeC w3 _ (.slice A3 (List.length ms) c3) ms := ⟨A3, c3, rfl, ho3⟩
  clear ho3
  have r3 := bcell1 hb3
  have l3_0 : w.heap.size < w3.heap.size := blt hb3 (by first | (simp; done) | (simp; omega) | omega)
  go_wp2_with (fail)
  refine (k1 _ _ _ _ (RoomSl.below N2.sl (by (repeat (first | (with_reducible exact Below.refl _ _) | (with_reducible assumption) | (with_reducible refine below_al ?_ _) | (with_reducible refine Below.drew ?_) | (with_reducible refine below_drewN ?_ _) | (with_reducible refine below_st ?_ ?_ _) | (with_reducible refine below_tr ?_ (by assumption)) | (with_reducible exact Nat.le_refl _) | (focus (simp; done)) | (focus (simp; omega)))))) N2.nil (Sl.below (N3.out modeC_len) (by (repeat (first | (with_reducible exact Below.refl _ _) | (with_reducible assumption) | (with_reducible refine below_al ?_ _) | (with_reducible refine Below.drew ?_) | (with_reducible refine below_drewN ?_ _) | (with_reducible refine below_st ?_ ?_ _) | (with_reducible refine below_tr ?_ (by assumption)) | (with_reducible exact Nat.le_refl _) | (focus (simp; done)) | (focus (simp; omega))))))).mono ?_
  rintro e w4 ⟨rfl, hb4⟩
  have r4 := bcell1 hb4
  have l4_0 : w.heap.size < w4.heap.size := blt hb4 (by first | (simp; done) | (simp; omega) | omega)
  go_wp2_with (fail)
  refine (toRoom_c r r_a _ hn_r (RoomSl.below hs_r (by (repeat (first | (with_reducible exact Below.refl _ _) | (with_reducible assumption) | (with_reducible refine below_al ?_ _) | (with_reducible refine Below.drew ?_) | (with_reducible refine below_drewN ?_ _) | (with_reducible refine below_st ?_ ?_ _) | (with_reducible refine below_tr ?_ (by assumption)) | (with_reducible exact Nat.le_refl _) | (focus (simp; done)) | (focus (simp; omega))))))).mono ?_
  rintro e w5 ⟨a5, rfl, N5, hb5⟩
  have r5 := bcell1 hb5
  have l5_0 : w.heap.size < w5.heap.size := blt hb5 (by first | (simp; done) | (simp; omega) | omega)
  go_wp2_with (fail)
  refine (toModeS_c ms_A ms ms_c _ hn_ms (Sl.below hs_ms (by (repeat (first | (with_reducible exact Below.refl _ _) | (with_reducible assumption) | (with_reducible refine below_al ?_ _) | (with_reducible refine Below.drew ?_) | (with_reducible refine below_drewN ?_ _) | (with_reducible refine below_st ?_ ?_ _) | (with_reducible refine below_tr ?_ (by assumption)) | (with_reducible exact Nat.le_refl _) | (focus (simp; done)) | (focus (simp; omega))))))).mono ?_
  rintro e w6 ⟨v6, rfl, M6, hb6⟩
  obtain ⟨A6, c6, rfl, ho6⟩ := M6
  have N6 : New 130 2 modeC w6 _ (.slice A6 (List.length ms) c6) ms := ⟨A6, c6, rfl, ho6⟩
  clear ho6
  have r6 := bcell1 hb6
  have l6_0 : w.heap.size < w6.heap.size := blt hb6 (by first | (simp; done) | (simp; omega) | omega)
  have l6_1 : w5.heap.size < w6.heap.size := blt hb6 (by first | (simp; done) | (simp; omega) | omega)
  go_wp2_with (fail)
  refine (k2 _ _ _ _ (RoomSl.below N5.sl (by (repeat (first | (with_reducible exact Below.refl _ _) | (with_reducible assumption) | (with_reducible refine below_al ?_ _) | (with_reducible refine Below.drew ?_) | (with_reducible refine below_drewN ?_ _) | (with_reducible refine below_st ?_ ?_ _) | (with_reducible refine below_tr ?_ (by assumption)) | (with_reducible exact Nat.le_refl _) | (focus (simp; done)) | (focus (simp; omega)))))) N5.nil (Sl.below (N6.out modeC_len) (by (repeat (first | (with_reducible exact Below.refl _ _) | (with_reducible assumption) | (with_reducible refine below_al ?_ _) | (with_reducible refine Below.drew ?_) | (with_reducible refine below_drewN ?_ _) | (with_reducible refine below_st ?_ ?_ _) | (with_reducible refine below_tr ?_ (by assumption)) | (with_reducible exact Nat.le_refl _) | (focus (simp; done)) | (focus (simp; omega))))))).mono ?_
  rintro e w7 ⟨rfl, hb7⟩
  have r7 := bcell1 hb7
  have l7_0 : w.heap.size < w7.heap.size := blt hb7 (by first | (simp; done) | (simp; omega) | omega)
  have l7_1 : w5.heap.size < w7.heap.size := blt hb7 (by first | (simp; done) | (simp; omega) | omega)
  go_upto_region 14 with fail
  go_region_held3 (fun w' => (∀ b o, b < w7.heap.size → w'.cell? ⟨b, o, none⟩ = w7.cell? ⟨b, o, none⟩) ∧ w7.heap.size ≤ w'.heap.size) (first | exact ⟨fun _ _ _ => rfl, by simp⟩ | exact kq_step2 (by assumption) (by assumption))
    (first
      | (go_at_call 65; go_must (refine (toRoom_c r r_a _ hn_r (RoomSl.below hs_r (by (repeat (first | (with_reducible exact Below.refl _ _) | (with_reducible assumption) | (with_reducible refine below_al ?_ _) | (with_reducible refine Below.drew ?_) | (with_reducible refine below_drewN ?_ _) | (with_reducible refine below_st ?_ ?_ _) | (with_reducible refine below_tr ?_ (by assumption)) | (with_reducible exact Nat.le_refl _) | (focus (simp; done)) | (focus (simp; omega))))))).mono ?_; rintro e w8 ⟨a8, rfl, N8, hb8⟩))
      | (go_at_call 68; go_must (refine (eqRoom_t r a5 a8 _ hn_r (RoomSl.below N5.sl (by (repeat (first | (with_reducible exact Below.refl _ _) | (with_reducible assumption) | (with_reducible refine below_al ?_ _) | (with_reducible refine Below.drew ?_) | (with_reducible refine below_drewN ?_ _) | (with_reducible refine below_st ?_ ?_ _) | (with_reducible refine below_tr ?_ (by assumption)) | (with_reducible exact Nat.le_refl _) | (focus (simp; done)) | (focus (simp; omega)))))) (RoomSl.below N8.sl (by (repeat (first | (with_reducible exact Below.refl _ _) | (with_reducible assumption) | (with_reducible refine below_al ?_ _) | (with_reducible refine Below.drew ?_) | (with_reducible refine below_drewN ?_ _) | (with_reducible refine below_st ?_ ?_ _) | (with_reducible refine below_tr ?_ (by assumption)) | (with_reducible exact Nat.le_refl _) | (focus (simp; done)) | (focus (simp; omega))))))).mono ?_; rintro e w9 ⟨rfl, hb9⟩)))
  have B9 : Below w7.heap.size w7 w9 := by (repeat (first | (with_reducible exact Below.refl _ _) | (with_reducible assumption) | (with_reducible refine below_al ?_ _) | (with_reducible refine Below.drew ?_) | (with_reducible refine below_drewN ?_ _) | (with_reducible refine below_st ?_ ?_ _) | (with_reducible refine below_tr ?_ (by assumption)) | (with_reducible exact Nat.le_refl _) | (focus (simp; done)) | (focus (simp; omega))))
  have r9 := bcell1 B9
  have l9_0 : w.heap.size < w9.heap.size := blt B9 (by first | (simp; done) | (simp; omega) | omega)
  have l9_1 : w5.heap.size < w9.heap.size := blt B9 (by first | (simp; done) | (simp; omega) | omega)
  go_wp2_with (fail)
  refine (toModeS_c ms_A ms ms_c _ hn_ms (Sl.below hs_ms (by (repeat (first | (with_reducible exact Below.refl _ _) | (with_reducible assumption) | (with_reducible refine below_al ?_ _) | (with_reducible refine Below.drew ?_) | (with_reducible refine below_drewN ?_ _) | (with_reducible refine below_st ?_ ?_ _) | (with_reducible refine below_tr ?_ (by assumption)) | (with_reducible exact Nat.le_refl _) | (focus (simp; done)) | (focus (simp; omega))))))).mono ?_
  rintro e w10 ⟨v10, rfl, M10, hb10⟩
  obtain ⟨A10, c10, rfl, ho10⟩ := M10
  have N10 : New 130 2 modeC w10 _ (.slice A10 (List.length ms) c10) ms := ⟨A10, c10, rfl, ho10⟩
  clear ho10
  have r10 := bcell1 hb10
  have l10_0 : w.heap.size < w10.heap.size := blt hb10 (by first | (simp; done) | (simp; omega) | omega)
  have l10_1 : w5.heap.size < w10.heap.size := blt hb10 (by first | (simp; done) | (simp; omega) | omega)
  go_wp2_with (fail)
  refine (eqModeS_t A6 A10 ms c6 c10 _ hn_ms (Sl.below (N6.out modeC_len) (by (repeat (first | (with_reducible exact Below.refl _ _) | (with_reducible assumption) | (with_reducible refine below_al ?_ _) | (with_reducible refine Below.drew ?_) | (with_reducible refine below_drewN ?_ _) | (with_reducible refine below_st ?_ ?_ _) | (with_reducible refine below_tr ?_ (by assumption)) | (with_reducible exact Nat.le_refl _) | (focus (simp; done)) | (focus (simp; omega)))))) (Sl.below (N10.out modeC_len) (by (repeat (first | (with_reducible exact Below.refl _ _) | (with_reducible assumption) | (with_reducible refine below_al ?_ _) | (with_reducible refine Below.drew ?_) | (with_reducible refine below_drewN ?_ _) | (with_reducible refine below_st ?_ ?_ _) | (with_reducible refine below_tr ?_ (by assumption)) | (with_reducible exact Nat.le_refl _) | (focus (simp; done)) | (focus (simp; omega))))))).mono ?_
  rintro e w11 ⟨rfl, hb11⟩
  have r11 := bcell1 hb11
  have l11_0 : w.heap.size < w11.heap.size := blt hb11 (by first | (simp; done) | (simp; omega) | omega)
  have l11_1 : w5.heap.size < w11.heap.size := blt hb11 (by first | (simp; done) | (simp; omega) | omega)
  go_wp2
  go_ret
  refine ⟨rfl, ?_⟩
  repeat (first | (with_reducible exact Below.refl _ _) | (with_reducible assumption) | (with_reducible refine below_al ?_ _) | (with_reducible refine Below.drew ?_) | (with_reducible refine below_drewN ?_ _) | (with_reducible refine below_st ?_ ?_ _) | (with_reducible refine below_tr ?_ (by assumption)) | (with_reducible exact Nat.le_refl _) | (focus (simp; done)) | (focus (simp; omega)))

set_option maxRecDepth 100000 in
theorem lifted_ModesOk (os : Os) (started : os.Started) (H : Type) (enc : TypeId × Value → H) :
    ReturnsInHanded {} Try.checked os 10 .any (Rows.fnExactModesOkSpec.pre6 enc Try.prog Try.f10 Rows.fnExactModesOkRow.domain false) (Rows.fnExactModesOkSpec.post enc Try.prog Try.f10 false true false false) := by
  refine returnsInHanded_of_change (C := Try.checked) own_ started (by kernel_rfl) Try.func10
    (ChangeSpec.witness6 (enc := enc) (C := Try.checked) false ⟨#[], #[.agg #[.slice none 0 0, .int .i64 0, .int .i64 0, .int .i64 0, .int .i64 0, .int .i64 0, .slice none 0 0, .slice none 0 0], .slice none 0 0], []⟩ 8 (by kernel_rfl) (by kernel_rfl) (by kernel_rfl) (by kernel_rfl)) ?_
  intro W base args ds gs before hval0 hW hcnd _
  have hval : ∀ (j : Nat) t v, Try.f10.params[j]? = some t → args[j]? = some v → Value.okWide Try.prog W .any base t v := hval0
  have hW' := hW
  obtain ⟨p, q, hA0, hV, rfl, hfz, hnd⟩ := hW
  have hA : DataW.TrodAll enc Try.prog W 0 (fun _ => true) true Try.f10.params.toList args.toList ds p := hA0
  rw [Try.params10] at hA hval
  obtain ⟨v0, vs0, d0, ds0, p0, q0, hargs, rfl, rfl, h0, r0⟩ := trodAll_cons hA
  obtain ⟨v1, vs1, d1, ds1, p1, q1, rfl, rfl, rfl, h1, r1⟩ := trodAll_cons r0
  obtain ⟨rfl, rfl, rfl⟩ := trodAll_nil r1
  obtain rfl : args = #[v0, v1] := by cases args; simp_all
  obtain ⟨rfl, rfl⟩ := trodVars_none hV
  have k0 := h0
  have lt0 : ∀ x ∈ p0, x.block < W.heap.size := by obtain ⟨m, hm⟩ := k0; exact DataW.trod_lt m _ _ _ hm
  have ok0 := hval 0 112 v0 rfl rfl
  have k1 := h1
  have lt1 : ∀ x ∈ p1, x.block < W.heap.size := by obtain ⟨m, hm⟩ := k1; exact DataW.trod_lt m _ _ _ hm
  have ok1 := hval 1 113 v1 rfl rfl
  obtain ⟨r, r_a, hin_r, rfl, hl_r, hs_r⟩ := openRoom ok0 h0
  obtain ⟨ms_A, ms_c, ms, rfl, hl_ms, hin_ms, hs_ms⟩ := openModeSV ok1 h1
  refine (walkModesOk W r r_a hin_r hl_r hs_r ms_A ms ms_c hin_ms hl_ms hs_ms).mono fun e W' ⟨he, bel⟩ => ?_
  subst he
  exact ⟨_, rfl, _, _, _, [], _, [], hW', trodAll_mk1 (shut_bool Try.underlying4 _), (trodAll_cons_mk (Below.trod laidOut_ (by kernel_rfl) (of_decide_eq_true (by kernel_rfl)) k0 bel lt0) (trodAll_cons_mk (Below.trod laidOut_ (by kernel_rfl) (of_decide_eq_true (by kernel_rfl)) k1 bel lt1) trodAll_mk0)), rfl, bel.frame _, fun h => by cases h⟩

/-- The statement. -/
theorem law_ModesOk : Rows.FnExactModesOkSaid :=
  OpenClaim.holds_of_wide 10 Try.f10 rfl rfl rfl rfl rfl rfl rfl ⟨rfl, rfl, rfl, rfl, rfl⟩ rfl rfl rfl rfl rfl (by kernel_rfl) Try.func10 (by kernel_rfl)
    (of_decide_eq_true (by kernel_rfl)) (by unfold Func.isWrapper; first | (rw [if_pos (by decide +kernel)]; kernel_rfl) | (rw [if_neg (by decide +kernel)]; exact ⟨rfl, rfl⟩))
    (fun os started H enc _ => lifted_ModesOk os started H enc)
#print axioms law_ModesOk
end Go.Proofs.Ytbdihgcjopbnjaa
