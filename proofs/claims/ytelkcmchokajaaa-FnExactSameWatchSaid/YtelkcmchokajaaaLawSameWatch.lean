/-
  For every input FnExactSameWatch returns true: the program's SameWatch and the reference's agree.
  Conditions: none.
-/
import Derived.Test.YtelkcmchokajaaaSame2
import Derived.Test.YtelkcmchokajaaaWat
import Derived.Test.YtelkcmchokajaaaCompC
import Derived.Test.YtelkcmchokajaaaCompO
import Derived.Test.YtelkcmchokajaaaOpen2
import Derived.Test.YtelkcmchokajaaaBel
import Derived.Test.YtelkcmchokajaaaConv
import Derived.Deep.RegionHeld3
import Derived.Deep.DeepCutAuto
import Derived.Deep.DeepMust
namespace Go.Proofs.Ytelkcmchokajaaa
open Go.RowKit Go.ChangeShapes Go.WideShapes Go.ChangeAt Go.Deep

set_option maxRecDepth 100000 in
set_option maxHeartbeats 8000000 in
theorem walkSameWatch (w : World) (x : Watch) (x_a : WatchA) (_ : WatchIn x) (hl_x : List.length x.room.map ≤ 9223372036854775807 ∧ List.length x.room.noise ≤ 9223372036854775807 ∧ List.length x.room.limits ≤ 9223372036854775807 ∧ List.length x.reg ≤ 9223372036854775807 ∧ List.length x.log ≤ 9223372036854775807) (hs_x : WatchSl w x x_a) (y : Watch) (y_a : WatchA) (_ : WatchIn y) (hl_y : List.length y.room.map ≤ 9223372036854775807 ∧ List.length y.room.noise ≤ 9223372036854775807 ∧ List.length y.room.limits ≤ 9223372036854775807 ∧ List.length y.reg ≤ 9223372036854775807 ∧ List.length y.log ≤ 9223372036854775807) (hs_y : WatchSl w y y_a) :
    Calls Try.prog 9 #[watchV x x_a, watchV y y_a] w fun e w' => e = .returned (.bool true) ∧ Below w.heap.size w w' := by
  by_cases c0 : 1048576 - ((watchLen x : Nat) : Int) < 0
  · skip
    go_enter Try.func9, Try.ntmps9
    go_wp2_with (fail)
    refine (szWatch_c x x_a (1048576) _ hl_x (by omega) (by omega)).mono ?_
    rw [if_pos (by omega)]
    rintro e w1 ⟨rfl, hb1⟩
    have r1 := bcell1 hb1
    have l1_0 : w.heap.size < w1.heap.size := blt hb1 (by first | (simp; done) | (simp; omega) | omega)
    have l1_1 : w.heap.size + 1 < w1.heap.size := blt hb1 (by first | (simp; done) | (simp; omega) | omega)
    go_wp2
    go_ret
    refine ⟨rfl, ?_⟩
    repeat (first | (with_reducible exact Below.refl _ _) | (with_reducible assumption) | (with_reducible refine below_al ?_ _) | (with_reducible refine Below.drew ?_) | (with_reducible refine below_drewN ?_ _) | (with_reducible refine below_st ?_ ?_ _) | (with_reducible refine below_tr ?_ (by assumption)) | (with_reducible exact Nat.le_refl _) | (focus (simp; done)) | (focus (simp; omega)))
  have hn_x : watchLen x ≤ 1048576 := by omega
  by_cases c1 : 1048576 - ((watchLen x : Nat) : Int) - ((watchLen y : Nat) : Int) < 0
  · skip
    go_enter Try.func9, Try.ntmps9
    go_wp2_with (fail)
    refine (szWatch_c x x_a (1048576) _ hl_x (by omega) (by omega)).mono ?_
    rw [if_neg (by omega)]
    rintro e w1 ⟨rfl, hb1⟩
    have r1 := bcell1 hb1
    have l1_0 : w.heap.size < w1.heap.size := blt hb1 (by first | (simp; done) | (simp; omega) | omega)
    have l1_1 : w.heap.size + 1 < w1.heap.size := blt hb1 (by first | (simp; done) | (simp; omega) | omega)
    go_wp2_with (fail)
    refine (szWatch_c y y_a (1048576 - ((watchLen x : Nat) : Int)) _ hl_y (by omega) (by omega)).mono ?_
    rw [if_pos (by omega)]
    rintro e w2 ⟨rfl, hb2⟩
    have r2 := bcell1 hb2
    have l2_0 : w.heap.size < w2.heap.size := blt hb2 (by first | (simp; done) | (simp; omega) | omega)
    have l2_1 : w.heap.size + 1 < w2.heap.size := blt hb2 (by first | (simp; done) | (simp; omega) | omega)
    go_wp2
    go_ret
    refine ⟨rfl, ?_⟩
    repeat (first | (with_reducible exact Below.refl _ _) | (with_reducible assumption) | (with_reducible refine below_al ?_ _) | (with_reducible refine Below.drew ?_) | (with_reducible refine below_drewN ?_ _) | (with_reducible refine below_st ?_ ?_ _) | (with_reducible refine below_tr ?_ (by assumption)) | (with_reducible exact Nat.le_refl _) | (focus (simp; done)) | (focus (simp; omega)))
  have hn_y : watchLen y ≤ 1048576 := by omega
  have k1 := fun W a' b' h1 h2 => sSameWatch_c x y a' b' W hn_x hn_y h1 h2
  have k2 := fun W a' b' h1 h2 => iSameWatch_c x y a' b' W hn_x hn_y h1 h2
  generalize sameWatch x y = c at *
  go_enter Try.func9, Try.ntmps9
  go_wp2_with (fail)
  refine (szWatch_c x x_a (1048576) _ hl_x (by omega) (by omega)).mono ?_
  rw [if_neg (by omega)]
  rintro e w1 ⟨rfl, hb1⟩
  have r1 := bcell1 hb1
  have l1_0 : w.heap.size < w1.heap.size := blt hb1 (by first | (simp; done) | (simp; omega) | omega)
  have l1_1 : w.heap.size + 1 < w1.heap.size := blt hb1 (by first | (simp; done) | (simp; omega) | omega)
  go_wp2_with (fail)
  refine (szWatch_c y y_a (1048576 - ((watchLen x : Nat) : Int)) _ hl_y (by omega) (by omega)).mono ?_
  rw [if_neg (by omega)]
  rintro e w2 ⟨rfl, hb2⟩
  have r2 := bcell1 hb2
  have l2_0 : w.heap.size < w2.heap.size := blt hb2 (by first | (simp; done) | (simp; omega) | omega)
  have l2_1 : w.heap.size + 1 < w2.heap.size := blt hb2 (by first | (simp; done) | (simp; omega) | omega)
  go_upto_region 8 with fail
  go_region_held3 (fun w' => (∀ b o, b < w2.heap.size → w'.cell? ⟨b, o, none⟩ = w2.cell? ⟨b, o, none⟩) ∧ w2.heap.size ≤ w'.heap.size) (first | exact ⟨fun _ _ _ => rfl, by simp⟩ | exact kq_step2 (by assumption) (by assumption))
    (first
      | (go_at_call 30; ((with_reducible refine (toWatch_c x x_a _ hn_x (WatchSl.below hs_x (by (repeat (first | (with_reducible exact Below.refl _ _) | (with_reducible assumption) | (with_reducible refine below_al ?_ _) | (with_reducible refine Below.drew ?_) | (with_reducible refine below_drewN ?_ _) | (with_reducible refine below_st ?_ ?_ _) | (with_reducible refine below_tr ?_ (by assumption)) | (with_reducible exact Nat.le_refl _) | (focus (simp; done)) | (focus (simp; omega))))))).mono ?_); rintro e w3 ⟨a3, rfl, N3, hb3⟩))
      | (go_at_call 30; ((with_reducible refine (toWatch_c y y_a _ hn_y (WatchSl.below hs_y (by (repeat (first | (with_reducible exact Below.refl _ _) | (with_reducible assumption) | (with_reducible refine below_al ?_ _) | (with_reducible refine Below.drew ?_) | (with_reducible refine below_drewN ?_ _) | (with_reducible refine below_st ?_ ?_ _) | (with_reducible refine below_tr ?_ (by assumption)) | (with_reducible exact Nat.le_refl _) | (focus (simp; done)) | (focus (simp; omega))))))).mono ?_); rintro e w4 ⟨a4, rfl, N4, hb4⟩))
      | (go_at_call 42; go_must (refine (k1 _ _ _ (WatchSl.below N3.sl (by (repeat (first | (with_reducible exact Below.refl _ _) | (with_reducible assumption) | (with_reducible refine below_al ?_ _) | (with_reducible refine Below.drew ?_) | (with_reducible refine below_drewN ?_ _) | (with_reducible refine below_st ?_ ?_ _) | (with_reducible refine below_tr ?_ (by assumption)) | (with_reducible exact Nat.le_refl _) | (focus (simp; done)) | (focus (simp; omega)))))) (WatchSl.below N4.sl (by (repeat (first | (with_reducible exact Below.refl _ _) | (with_reducible assumption) | (with_reducible refine below_al ?_ _) | (with_reducible refine Below.drew ?_) | (with_reducible refine below_drewN ?_ _) | (with_reducible refine below_st ?_ ?_ _) | (with_reducible refine below_tr ?_ (by assumption)) | (with_reducible exact Nat.le_refl _) | (focus (simp; done)) | (focus (simp; omega))))))).mono ?_; rintro e w5 ⟨rfl, hb5⟩)))
  have B5 : Below w2.heap.size w2 w5 := by (repeat (first | (with_reducible exact Below.refl _ _) | (with_reducible assumption) | (with_reducible refine below_al ?_ _) | (with_reducible refine Below.drew ?_) | (with_reducible refine below_drewN ?_ _) | (with_reducible refine below_st ?_ ?_ _) | (with_reducible refine below_tr ?_ (by assumption)) | (with_reducible exact Nat.le_refl _) | (focus (simp; done)) | (focus (simp; omega))))
  have r5 := bcell1 B5
  have l5_0 : w.heap.size < w5.heap.size := blt B5 (by first | (simp; done) | (simp; omega) | omega)
  have l5_1 : w.heap.size + 1 < w5.heap.size := blt B5 (by first | (simp; done) | (simp; omega) | omega)
  go_wp2_with (fail)
  refine (toWatch_c x x_a _ hn_x (WatchSl.below hs_x (by (repeat (first | (with_reducible exact Below.refl _ _) | (with_reducible assumption) | (with_reducible refine below_al ?_ _) | (with_reducible refine Below.drew ?_) | (with_reducible refine below_drewN ?_ _) | (with_reducible refine below_st ?_ ?_ _) | (with_reducible refine below_tr ?_ (by assumption)) | (with_reducible exact Nat.le_refl _) | (focus (simp; done)) | (focus (simp; omega))))))).mono ?_
  rintro e w6 ⟨a6, rfl, N6, hb6⟩
  have r6 := bcell1 hb6
  have l6_0 : w.heap.size < w6.heap.size := blt hb6 (by first | (simp; done) | (simp; omega) | omega)
  have l6_1 : w.heap.size + 1 < w6.heap.size := blt hb6 (by first | (simp; done) | (simp; omega) | omega)
  go_wp2_with (fail)
  refine (toWatch_c y y_a _ hn_y (WatchSl.below hs_y (by (repeat (first | (with_reducible exact Below.refl _ _) | (with_reducible assumption) | (with_reducible refine below_al ?_ _) | (with_reducible refine Below.drew ?_) | (with_reducible refine below_drewN ?_ _) | (with_reducible refine below_st ?_ ?_ _) | (with_reducible refine below_tr ?_ (by assumption)) | (with_reducible exact Nat.le_refl _) | (focus (simp; done)) | (focus (simp; omega))))))).mono ?_
  rintro e w7 ⟨a7, rfl, N7, hb7⟩
  have r7 := bcell1 hb7
  have l7_0 : w.heap.size < w7.heap.size := blt hb7 (by first | (simp; done) | (simp; omega) | omega)
  have l7_1 : w.heap.size + 1 < w7.heap.size := blt hb7 (by first | (simp; done) | (simp; omega) | omega)
  have l7_2 : w6.heap.size < w7.heap.size := blt hb7 (by first | (simp; done) | (simp; omega) | omega)
  go_wp2_with (fail)
  refine (k2 _ _ _ (WatchSl.below N6.sl (by (repeat (first | (with_reducible exact Below.refl _ _) | (with_reducible assumption) | (with_reducible refine below_al ?_ _) | (with_reducible refine Below.drew ?_) | (with_reducible refine below_drewN ?_ _) | (with_reducible refine below_st ?_ ?_ _) | (with_reducible refine below_tr ?_ (by assumption)) | (with_reducible exact Nat.le_refl _) | (focus (simp; done)) | (focus (simp; omega)))))) (WatchSl.below N7.sl (by (repeat (first | (with_reducible exact Below.refl _ _) | (with_reducible assumption) | (with_reducible refine below_al ?_ _) | (with_reducible refine Below.drew ?_) | (with_reducible refine below_drewN ?_ _) | (with_reducible refine below_st ?_ ?_ _) | (with_reducible refine below_tr ?_ (by assumption)) | (with_reducible exact Nat.le_refl _) | (focus (simp; done)) | (focus (simp; omega))))))).mono ?_
  rintro e w8 ⟨rfl, hb8⟩
  have r8 := bcell1 hb8
  have l8_0 : w.heap.size < w8.heap.size := blt hb8 (by first | (simp; done) | (simp; omega) | omega)
  have l8_1 : w.heap.size + 1 < w8.heap.size := blt hb8 (by first | (simp; done) | (simp; omega) | omega)
  have l8_2 : w6.heap.size < w8.heap.size := blt hb8 (by first | (simp; done) | (simp; omega) | omega)
  have l8_3 : w7.heap.size < w8.heap.size := blt hb8 (by first | (simp; done) | (simp; omega) | omega)
  go_upto_region 14 with fail
  go_region_held3 (fun w' => (∀ b o, b < w8.heap.size → w'.cell? ⟨b, o, none⟩ = w8.cell? ⟨b, o, none⟩) ∧ w8.heap.size ≤ w'.heap.size) (first | exact ⟨fun _ _ _ => rfl, by simp⟩ | exact kq_step2 (by assumption) (by assumption))
    (first
      | (go_at_call 30; go_must (refine (toWatch_c x x_a _ hn_x (WatchSl.below hs_x (by (repeat (first | (with_reducible exact Below.refl _ _) | (with_reducible assumption) | (with_reducible refine below_al ?_ _) | (with_reducible refine Below.drew ?_) | (with_reducible refine below_drewN ?_ _) | (with_reducible refine below_st ?_ ?_ _) | (with_reducible refine below_tr ?_ (by assumption)) | (with_reducible exact Nat.le_refl _) | (focus (simp; done)) | (focus (simp; omega))))))).mono ?_; rintro e w9 ⟨a9, rfl, N9, hb9⟩))
      | (go_at_call 32; go_must (refine (eqWatch_t x a6 a9 _ hn_x (WatchSl.below N6.sl (by (repeat (first | (with_reducible exact Below.refl _ _) | (with_reducible assumption) | (with_reducible refine below_al ?_ _) | (with_reducible refine Below.drew ?_) | (with_reducible refine below_drewN ?_ _) | (with_reducible refine below_st ?_ ?_ _) | (with_reducible refine below_tr ?_ (by assumption)) | (with_reducible exact Nat.le_refl _) | (focus (simp; done)) | (focus (simp; omega)))))) (WatchSl.below N9.sl (by (repeat (first | (with_reducible exact Below.refl _ _) | (with_reducible assumption) | (with_reducible refine below_al ?_ _) | (with_reducible refine Below.drew ?_) | (with_reducible refine below_drewN ?_ _) | (with_reducible refine below_st ?_ ?_ _) | (with_reducible refine below_tr ?_ (by assumption)) | (with_reducible exact Nat.le_refl _) | (focus (simp; done)) | (focus (simp; omega))))))).mono ?_; rintro e w10 ⟨rfl, hb10⟩)))
  have B10 : Below w8.heap.size w8 w10 := by (repeat (first | (with_reducible exact Below.refl _ _) | (with_reducible assumption) | (with_reducible refine below_al ?_ _) | (with_reducible refine Below.drew ?_) | (with_reducible refine below_drewN ?_ _) | (with_reducible refine below_st ?_ ?_ _) | (with_reducible refine below_tr ?_ (by assumption)) | (with_reducible exact Nat.le_refl _) | (focus (simp; done)) | (focus (simp; omega))))
  have r10 := bcell1 B10
  have l10_0 : w.heap.size < w10.heap.size := blt B10 (by first | (simp; done) | (simp; omega) | omega)
  have l10_1 : w.heap.size + 1 < w10.heap.size := blt B10 (by first | (simp; done) | (simp; omega) | omega)
  have l10_2 : w6.heap.size < w10.heap.size := blt B10 (by first | (simp; done) | (simp; omega) | omega)
  have l10_3 : w7.heap.size < w10.heap.size := blt B10 (by first | (simp; done) | (simp; omega) | omega)
  go_upto_region 16 with fail
  go_region_held3 (fun w' => (∀ b o, b < w10.heap.size → w'.cell? ⟨b, o, none⟩ = w10.cell? ⟨b, o, none⟩) ∧ w10.heap.size ≤ w'.heap.size) (first | exact ⟨fun _ _ _ => rfl, by simp⟩ | exact kq_step2 (by assumption) (by assumption))
    (first
      | (go_at_call 30; go_must (refine (toWatch_c y y_a _ hn_y (WatchSl.below hs_y (by (repeat (first | (with_reducible exact Below.refl _ _) | (with_reducible assumption) | (with_reducible refine below_al ?_ _) | (with_reducible refine Below.drew ?_) | (with_reducible refine below_drewN ?_ _) | (with_reducible refine below_st ?_ ?_ _) | (with_reducible refine below_tr ?_ (by assumption)) | (with_reducible exact Nat.le_refl _) | (focus (simp; done)) | (focus (simp; omega))))))).mono ?_; rintro e w11 ⟨a11, rfl, N11, hb11⟩))
      | (go_at_call 32; go_must (refine (eqWatch_t y a7 a11 _ hn_y (WatchSl.below N7.sl (by (repeat (first | (with_reducible exact Below.refl _ _) | (with_reducible assumption) | (with_reducible refine below_al ?_ _) | (with_reducible refine Below.drew ?_) | (with_reducible refine below_drewN ?_ _) | (with_reducible refine below_st ?_ ?_ _) | (with_reducible refine below_tr ?_ (by assumption)) | (with_reducible exact Nat.le_refl _) | (focus (simp; done)) | (focus (simp; omega)))))) (WatchSl.below N11.sl (by (repeat (first | (with_reducible exact Below.refl _ _) | (with_reducible assumption) | (with_reducible refine below_al ?_ _) | (with_reducible refine Below.drew ?_) | (with_reducible refine below_drewN ?_ _) | (with_reducible refine below_st ?_ ?_ _) | (with_reducible refine below_tr ?_ (by assumption)) | (with_reducible exact Nat.le_refl _) | (focus (simp; done)) | (focus (simp; omega))))))).mono ?_; rintro e w12 ⟨rfl, hb12⟩)))
  have B12 : Below w10.heap.size w10 w12 := by (repeat (first | (with_reducible exact Below.refl _ _) | (with_reducible assumption) | (with_reducible refine below_al ?_ _) | (with_reducible refine Below.drew ?_) | (with_reducible refine below_drewN ?_ _) | (with_reducible refine below_st ?_ ?_ _) | (with_reducible refine below_tr ?_ (by assumption)) | (with_reducible exact Nat.le_refl _) | (focus (simp; done)) | (focus (simp; omega))))
  have r12 := bcell1 B12
  have l12_0 : w.heap.size < w12.heap.size := blt B12 (by first | (simp; done) | (simp; omega) | omega)
  have l12_1 : w.heap.size + 1 < w12.heap.size := blt B12 (by first | (simp; done) | (simp; omega) | omega)
  have l12_2 : w6.heap.size < w12.heap.size := blt B12 (by first | (simp; done) | (simp; omega) | omega)
  have l12_3 : w7.heap.size < w12.heap.size := blt B12 (by first | (simp; done) | (simp; omega) | omega)
  go_wp2
  go_ret
  refine ⟨rfl, ?_⟩
  repeat (first | (with_reducible exact Below.refl _ _) | (with_reducible assumption) | (with_reducible refine below_al ?_ _) | (with_reducible refine Below.drew ?_) | (with_reducible refine below_drewN ?_ _) | (with_reducible refine below_st ?_ ?_ _) | (with_reducible refine below_tr ?_ (by assumption)) | (with_reducible exact Nat.le_refl _) | (focus (simp; done)) | (focus (simp; omega)))

set_option maxRecDepth 100000 in
theorem lifted_SameWatch (os : Os) (started : os.Started) (H : Type) (enc : TypeId × Value → H) :
    ReturnsInHanded {} Try.checked os 9 .any (Rows.fnExactSameWatchSpec.pre6 enc Try.prog Try.f9 Rows.fnExactSameWatchRow.domain false) (Rows.fnExactSameWatchSpec.post enc Try.prog Try.f9 false true false false) := by
  refine returnsInHanded_of_change (C := Try.checked) own_ started (by kernel_rfl) Try.func9
    (ChangeSpec.witness6 (enc := enc) (C := Try.checked) false ⟨#[], #[.agg #[.slice none 0 0, .int .i64 0, .int .i64 0, .int .i64 0, .int .i64 0, .int .i64 0, .slice none 0 0, .slice none 0 0, .slice none 0 0, .slice none 0 0], .agg #[.slice none 0 0, .int .i64 0, .int .i64 0, .int .i64 0, .int .i64 0, .int .i64 0, .slice none 0 0, .slice none 0 0, .slice none 0 0, .slice none 0 0]], []⟩ 8 (by kernel_rfl) (by kernel_rfl) (by kernel_rfl) (by kernel_rfl)) ?_
  intro W base args ds gs before hval0 hW hcnd _
  have hval : ∀ (j : Nat) t v, Try.f9.params[j]? = some t → args[j]? = some v → Value.okWide Try.prog W .any base t v := hval0
  have hW' := hW
  obtain ⟨p, q, hA0, hV, rfl, hfz, hnd⟩ := hW
  have hA : DataW.TrodAll enc Try.prog W 0 (fun _ => true) true Try.f9.params.toList args.toList ds p := hA0
  rw [Try.params9] at hA hval
  obtain ⟨v0, vs0, d0, ds0, p0, q0, hargs, rfl, rfl, h0, r0⟩ := trodAll_cons hA
  obtain ⟨v1, vs1, d1, ds1, p1, q1, rfl, rfl, rfl, h1, r1⟩ := trodAll_cons r0
  obtain ⟨rfl, rfl, rfl⟩ := trodAll_nil r1
  obtain rfl : args = #[v0, v1] := by cases args; simp_all
  obtain ⟨rfl, rfl⟩ := trodVars_none hV
  have k0 := h0
  have lt0 : ∀ x ∈ p0, x.block < W.heap.size := by obtain ⟨m, hm⟩ := k0; exact DataW.trod_lt m _ _ _ hm
  have ok0 := hval 0 48 v0 rfl rfl
  have k1 := h1
  have lt1 : ∀ x ∈ p1, x.block < W.heap.size := by obtain ⟨m, hm⟩ := k1; exact DataW.trod_lt m _ _ _ hm
  have ok1 := hval 1 48 v1 rfl rfl
  obtain ⟨x, x_a, hin_x, rfl, hl_x, hs_x⟩ := openWatch ok0 h0
  obtain ⟨y, y_a, hin_y, rfl, hl_y, hs_y⟩ := openWatch ok1 h1
  refine (walkSameWatch W x x_a hin_x hl_x hs_x y y_a hin_y hl_y hs_y).mono fun e W' ⟨he, bel⟩ => ?_
  subst he
  exact ⟨_, rfl, _, _, _, [], _, [], hW', trodAll_mk1 (shut_bool Try.underlying4 _), (trodAll_cons_mk (Below.trod laidOut_ (by kernel_rfl) (of_decide_eq_true (by kernel_rfl)) k0 bel lt0) (trodAll_cons_mk (Below.trod laidOut_ (by kernel_rfl) (of_decide_eq_true (by kernel_rfl)) k1 bel lt1) trodAll_mk0)), rfl, bel.frame _, fun h => by cases h⟩

/-- The statement. -/
theorem law_SameWatch : Rows.FnExactSameWatchSaid :=
  OpenClaim.holds_of_wide 9 Try.f9 rfl rfl rfl rfl rfl rfl rfl ⟨rfl, rfl, rfl, rfl, rfl⟩ rfl rfl rfl rfl rfl (by kernel_rfl) Try.func9 (by kernel_rfl)
    (of_decide_eq_true (by kernel_rfl)) (by unfold Func.isWrapper; first | (rw [if_pos (by decide +kernel)]; kernel_rfl) | (rw [if_neg (by decide +kernel)]; exact ⟨rfl, rfl⟩))
    (fun os started H enc _ => lifted_SameWatch os started H enc)
#print axioms law_SameWatch
end Go.Proofs.Ytelkcmchokajaaa
