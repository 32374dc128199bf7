/-
  For every input FnExactLawAt returns true: the program's LawAt and the reference's agree.
  Conditions: none.
-/
import Derived.Test.YtbdihgcjopbnjaaLat
import Derived.Test.YtbdihgcjopbnjaaAct
import Derived.Test.YtbdihgcjopbnjaaCompC
import Derived.Test.YtbdihgcjopbnjaaCompO
import Derived.Test.YtbdihgcjopbnjaaOpen2
import Derived.Test.YtbdihgcjopbnjaaBel
import Derived.Test.YtbdihgcjopbnjaaConv
import Derived.Test.YtbdihgcjopbnjaaKeep
import Derived.Deep.RegionHeld3
import Derived.Deep.DeepCutAuto
import Derived.Deep.DeepMust
namespace Go.Proofs.Ytbdihgcjopbnjaa
open Go.RowKit Go.ChangeShapes Go.WideShapes Go.ChangeAt Go.Deep

/-- What a statement that calls LawAt leaves. -/
def LeftLawAt (B : World) (r : Span) (c : Bool) (x0 x1 : Value) (wx : World) : Prop :=
  ∃ (W : World) (g0 : Nat), W = wx ∧ x0 = .pointer (some ⟨g0, 0, none⟩) ∧ x1 = .bool c ∧ Has wx g0 [.int .i64 r.low.n, .int .i64 r.low.d, .int .i64 r.high.n, .int .i64 r.high.d] ∧ Below B.heap.size B wx

set_option maxRecDepth 100000 in
set_option maxHeartbeats 60000000 in
theorem walkLawAt (w : World) (x : Law) (x_a : LawA) (hin_x : LawIn x) (hl_x : List.length x.lows ≤ 9223372036854775807 ∧ List.length x.highs ≤ 9223372036854775807) (hs_x : LawSl w x x_a) (s : Spot) (hin_s : s.In) :
    Calls Try.prog 5 #[lawV x x_a, spotV s] w fun e w' => e = .returned (.bool true) ∧ Below w.heap.size w w' := by
  by_cases c0 : 1048576 - ((lawLen x : Nat) : Int) < 0
  · skip
    go_enter Try.func5, Try.ntmps5
    go_wp2_with (fail)
    refine (szLaw_c x x_a (1048576) _ hl_x (by omega) (by omega)).mono ?_
    rw [if_pos (by omega)]
    rintro e w1 ⟨rfl, hb1⟩
    have r1 := bcell1 hb1
    have l1_0 : w.heap.size < w1.heap.size := blt hb1 (by first | (simp; done) | (simp; omega) | omega)
    have l1_1 : w.heap.size + 1 < w1.heap.size := blt hb1 (by first | (simp; done) | (simp; omega) | omega)
    go_wp2
    go_ret
    refine ⟨rfl, ?_⟩
    repeat (first | (with_reducible exact Below.refl _ _) | (with_reducible assumption) | (with_reducible refine below_al ?_ _) | (with_reducible refine Below.drew ?_) | (with_reducible refine below_drewN ?_ _) | (with_reducible refine below_st ?_ ?_ _) | (with_reducible refine below_tr ?_ (by assumption)) | (with_reducible exact Nat.le_refl _) | (focus (simp; done)) | (focus (simp; omega)))
  have hn_x : lawLen x ≤ 1048576 := by omega
  have k1 := fun W a' h => sLawAt_c x a' s W hn_x hin_x hin_s h
  have k2 := fun W a' h => iLawAt_c x a' s W hn_x hin_x hin_s h
  revert k1 k2
  generalize lawAt x s = r
  generalize lawAtOk x s = c
  intro k1 k2
  go_enter Try.func5, Try.ntmps5
  go_wp2_with (fail)
  refine (szLaw_c x x_a (1048576) _ hl_x (by omega) (by omega)).mono ?_
  rw [if_neg (by omega)]
  rintro e w1 ⟨rfl, hb1⟩
  have r1 := bcell1 hb1
  have l1_0 : w.heap.size < w1.heap.size := blt hb1 (by first | (simp; done) | (simp; omega) | omega)
  have l1_1 : w.heap.size + 1 < w1.heap.size := blt hb1 (by first | (simp; done) | (simp; omega) | omega)
  go_upto_region 5 with fail
  go_cut [6, 7] (fun x0 x1 wx => LeftLawAt w1 r c x0 x1 wx)
  case first =>
    go_region_held3 (fun w' => (∀ b o, b < w1.heap.size → w'.cell? ⟨b, o, none⟩ = w1.cell? ⟨b, o, none⟩) ∧ w1.heap.size ≤ w'.heap.size) (first | exact ⟨fun _ _ _ => rfl, by simp⟩ | exact kq_step2 (by assumption) (by assumption) | (repeat (first | (with_reducible assumption) | (with_reducible refine kq_self _ ?_) | (with_reducible refine kq_drew ?_) | (with_reducible refine kq_alloc ?_ _) | (with_reducible refine kq_set ?_ ?_ _) | (focus (simp; done)) | (focus (simp; omega)) | (focus omega))))
      (first
        | (go_at_call 30; go_must (refine (toLaw_c x x_a _ hn_x (LawSl.below hs_x (by (repeat (first | (with_reducible exact Below.refl _ _) | (with_reducible assumption) | (with_reducible refine below_al ?_ _) | (with_reducible refine Below.drew ?_) | (with_reducible refine below_drewN ?_ _) | (with_reducible refine below_st ?_ ?_ _) | (with_reducible refine below_tr ?_ (by assumption)) | (with_reducible exact Nat.le_refl _) | (focus (simp; done)) | (focus (simp; omega))))))).mono ?_; rintro e w2 ⟨a2, rfl, N2, hb2⟩; have r2 := bcell1 hb2; have f2 := (bcell hb2).2; have Q2 := kq_step2 (by assumption) hb2; have q2 := Q2.2; have z2 := hb2.size; (try simp only [World.size_drew] at z2); (try simp only [World.size_alloc] at z2); (try have y2 := Nat.lt_of_succ_le z2)))
        | (go_at_call 31; go_must (refine (toSpot_c s _).mono ?_; rintro e w3 ⟨rfl, hb3⟩; have r3 := bcell1 hb3; have f3 := (bcell hb3).2; have Q3 := kq_step2 (by assumption) hb3; have q3 := Q3.2; have z3 := hb3.size; (try simp only [World.size_drew] at z3); (try simp only [World.size_alloc] at z3); (try have y3 := Nat.lt_of_succ_le z3); (try have y2_3 := Nat.lt_of_lt_of_le y2 z3); (try have y2_3 := Nat.lt_of_lt_of_le y2 (Nat.le_of_succ_le z3))))
        | (go_at_call 29; go_must (refine (k1 _ _ (LawSl.below N2.sl (by (repeat (first | (with_reducible exact Below.refl _ _) | (with_reducible assumption) | (with_reducible refine below_al ?_ _) | (with_reducible refine Below.drew ?_) | (with_reducible refine below_drewN ?_ _) | (with_reducible refine below_st ?_ ?_ _) | (with_reducible refine below_tr ?_ (by assumption)) | (with_reducible exact Nat.le_refl _) | (focus (simp; done)) | (focus (simp; omega))))))).mono ?_; rintro e w4 ⟨rfl, hb4⟩; have r4 := bcell1 hb4; have f4 := (bcell hb4).2; have Q4 := kq_step2 (by assumption) hb4; have q4 := Q4.2; have z4 := hb4.size; (try simp only [World.size_drew] at z4); (try simp only [World.size_alloc] at z4); (try have y4 := Nat.lt_of_succ_le z4); (try have y2_4 := Nat.lt_of_lt_of_le y2_3 z4); (try have y2_4 := Nat.lt_of_lt_of_le y2_3 (Nat.le_of_succ_le z4)); (try have y3_4 := Nat.lt_of_lt_of_le y3 z4); (try have y3_4 := Nat.lt_of_lt_of_le y3 (Nat.le_of_succ_le z4)))))
    all_goals
      go_wp2_with fail
      go_meet
      refine ⟨_, _, rfl, rfl, rfl, ?_, ?_⟩
      · repeat (first | ((with_reducible exact Has.new _ _ _)) | (refine Has.stored (vs := [.int .i64 0, .int .i64 0, .int .i64 0, .int .i64 0]) ?_ [_, _, _, _] rfl) | (with_reducible refine Has.drew ?_) | ((with_reducible refine Has.new_at ?_ _ _ rfl); (first | rfl | (focus (simp; done)))) | (with_reducible refine Has.set_ ?_ ?_ _) | (with_reducible refine Has.alloc ?_ _) | (with_reducible refine Has.below ?_ (by assumption)) | (focus (simp; done)) | (focus (simp; omega)) | (focus omega))
      · repeat (first | (with_reducible exact Below.refl _ _) | (with_reducible assumption) | (with_reducible refine below_al ?_ _) | (with_reducible refine Below.drew ?_) | (with_reducible refine below_drewN ?_ _) | (with_reducible refine below_st ?_ ?_ _) | (with_reducible refine below_tr ?_ (by assumption)) | (with_reducible exact Nat.le_refl _) | (focus (simp; done)) | (focus (simp; omega)))
  case rest =>
    obtain ⟨w5, g5_0, rfl, rfl, rfl, H5_0, hb5⟩ := hcut
    have r5 := bcell1 hb5
    have l5_0 : w.heap.size < w5.heap.size := blt hb5 (by first | (simp; done) | (simp; omega) | omega)
    have l5_1 : w.heap.size + 1 < w5.heap.size := blt hb5 (by first | (simp; done) | (simp; omega) | omega)
    have lH5_0 := H5_0.1
    obtain ⟨cH5_0_0, _⟩ := H5_0.2 0 _ rfl
    obtain ⟨cH5_0_1, _⟩ := H5_0.2 1 _ rfl
    obtain ⟨cH5_0_2, _⟩ := H5_0.2 2 _ rfl
    obtain ⟨cH5_0_3, _⟩ := H5_0.2 3 _ rfl
    go_wp2_with (fail)
    refine (toLaw_c x x_a _ hn_x (LawSl.below hs_x (by (repeat (first | (with_reducible exact Below.refl _ _) | (with_reducible assumption) | (with_reducible refine below_al ?_ _) | (with_reducible refine Below.drew ?_) | (with_reducible refine below_drewN ?_ _) | (with_reducible refine below_st ?_ ?_ _) | (with_reducible refine below_tr ?_ (by assumption)) | (with_reducible exact Nat.le_refl _) | (focus (simp; done)) | (focus (simp; omega))))))).mono ?_
    rintro e w6 ⟨a6, rfl, N6, hb6⟩
    have r6 := bcell1 hb6
    have l6_0 : w.heap.size < w6.heap.size := blt hb6 (by first | (simp; done) | (simp; omega) | omega)
    have l6_1 : w.heap.size + 1 < w6.heap.size := blt hb6 (by first | (simp; done) | (simp; omega) | omega)
    have l6_2 : g5_0 < w6.heap.size := blt hb6 (by first | (simp; done) | (simp; omega) | omega)
    go_upto_region 7 with fail
    go_cut [9, 10] (fun x0 x1 wx => LeftLawAt (w6.alloc (.cells #[.slice a6.lows.A (List.length x.lows) a6.lows.c, .slice a6.highs.A (List.length x.highs) a6.highs.c] 63)) r c x0 x1 wx)
    case first =>
      go_region_held3 (fun w' => (∀ b o, b < w6.heap.size + 1 → w'.cell? ⟨b, o, none⟩ = (w6.alloc (.cells #[.slice a6.lows.A (List.length x.lows) a6.lows.c, .slice a6.highs.A (List.length x.highs) a6.highs.c] 63)).cell? ⟨b, o, none⟩) ∧ w6.heap.size + 1 ≤ w'.heap.size) (first | exact ⟨fun _ _ _ => rfl, by simp⟩ | exact kq_step2 (by assumption) (by assumption) | (repeat (first | (with_reducible assumption) | (with_reducible refine kq_self _ ?_) | (with_reducible refine kq_drew ?_) | (with_reducible refine kq_alloc ?_ _) | (with_reducible refine kq_set ?_ ?_ _) | (focus (simp; done)) | (focus (simp; omega)) | (focus omega))))
        (first
          | (go_at_call 31; go_must (refine (toSpot_c s _).mono ?_; rintro e w7 ⟨rfl, hb7⟩; have r7 := bcell1 hb7; have f7 := (bcell hb7).2; have Q7 := kq_step2 (by assumption) hb7; have q7 := Q7.2; have z7 := hb7.size; (try simp only [World.size_drew] at z7); (try simp only [World.size_alloc] at z7); (try have y7 := Nat.lt_of_succ_le z7)))
          | (go_at_call 32; go_must (refine (k2 _ _ (LawSl.below N6.sl (by (repeat (first | (with_reducible exact Below.refl _ _) | (with_reducible assumption) | (with_reducible refine below_al ?_ _) | (with_reducible refine Below.drew ?_) | (with_reducible refine below_drewN ?_ _) | (with_reducible refine below_st ?_ ?_ _) | (with_reducible refine below_tr ?_ (by assumption)) | (with_reducible exact Nat.le_refl _) | (focus (simp; done)) | (focus (simp; omega))))))).mono ?_; rintro e w8 ⟨rfl, hb8⟩; have r8 := bcell1 hb8; have f8 := (bcell hb8).2; have Q8 := kq_step2 (by assumption) hb8; have q8 := Q8.2; have z8 := hb8.size; (try simp only [World.size_drew] at z8); (try simp only [World.size_alloc] at z8); (try have y8 := Nat.lt_of_succ_le z8); (try have y7_8 := Nat.lt_of_lt_of_le y7 z8); (try have y7_8 := Nat.lt_of_lt_of_le y7 (Nat.le_of_succ_le z8)))))
      all_goals
        go_wp2_with fail
        go_meet
        refine ⟨_, _, rfl, rfl, rfl, ?_, ?_⟩
        · repeat (first | ((with_reducible exact Has.new _ _ _)) | (refine Has.stored (vs := [.int .i64 0, .int .i64 0, .int .i64 0, .int .i64 0]) ?_ [_, _, _, _] rfl) | (with_reducible refine Has.drew ?_) | ((with_reducible refine Has.new_at ?_ _ _ rfl); (first | rfl | (focus (simp; done)))) | (with_reducible refine Has.set_ ?_ ?_ _) | (with_reducible refine Has.alloc ?_ _) | (with_reducible refine Has.below ?_ (by assumption)) | (focus (simp; done)) | (focus (simp; omega)) | (focus omega))
        · repeat (first | (with_reducible exact Below.refl _ _) | (with_reducible assumption) | (with_reducible refine below_al ?_ _) | (with_reducible refine Below.drew ?_) | (with_reducible refine below_drewN ?_ _) | (with_reducible refine below_st ?_ ?_ _) | (with_reducible refine below_tr ?_ (by assumption)) | (with_reducible exact Nat.le_refl _) | (focus (simp; done)) | (focus (simp; omega)))
    case rest =>
      obtain ⟨w9, g9_0, rfl, rfl, rfl, H9_0, hb9⟩ := hcut
      have r9 := bcell1 hb9
      have l9_0 : w.heap.size < w9.heap.size := blt hb9 (by first | (simp; done) | (simp; omega) | omega)
      have l9_1 : w.heap.size + 1 < w9.heap.size := blt hb9 (by first | (simp; done) | (simp; omega) | omega)
      have l9_2 : g5_0 < w9.heap.size := blt hb9 (by first | (simp; done) | (simp; omega) | omega)
      have l9_3 : w6.heap.size < w9.heap.size := blt hb9 (by first | (simp; done) | (simp; omega) | omega)
      have lH9_0 := H9_0.1
      obtain ⟨cH9_0_0, _⟩ := H9_0.2 0 _ rfl
      obtain ⟨cH9_0_1, _⟩ := H9_0.2 1 _ rfl
      obtain ⟨cH9_0_2, _⟩ := H9_0.2 2 _ rfl
      obtain ⟨cH9_0_3, _⟩ := H9_0.2 3 _ rfl
      go_wp2_with (fail)
      refine (eqSpan_t r _).mono ?_
      rintro e w10 ⟨rfl, hb10⟩
      have r10 := bcell1 hb10
      have l10_0 : w.heap.size < w10.heap.size := blt hb10 (by first | (simp; done) | (simp; omega) | omega)
      have l10_1 : w.heap.size + 1 < w10.heap.size := blt hb10 (by first | (simp; done) | (simp; omega) | omega)
      have l10_2 : g5_0 < w10.heap.size := blt hb10 (by first | (simp; done) | (simp; omega) | omega)
      have l10_3 : w6.heap.size < w10.heap.size := blt hb10 (by first | (simp; done) | (simp; omega) | omega)
      have l10_4 : g9_0 < w10.heap.size := blt hb10 (by first | (simp; done) | (simp; omega) | omega)
      go_upto_region 10 with fail
      go_region_held3 (fun w' => (∀ b o, b < w10.heap.size → w'.cell? ⟨b, o, none⟩ = w10.cell? ⟨b, o, none⟩) ∧ w10.heap.size ≤ w'.heap.size) (first | exact ⟨fun _ _ _ => rfl, by simp⟩ | exact kq_step2 (by assumption) (by assumption))
        (first
          | (go_at_call 30; go_must (refine (toLaw_c x x_a _ hn_x (LawSl.below hs_x (by (repeat (first | (with_reducible exact Below.refl _ _) | (with_reducible assumption) | (with_reducible refine below_al ?_ _) | (with_reducible refine Below.drew ?_) | (with_reducible refine below_drewN ?_ _) | (with_reducible refine below_st ?_ ?_ _) | (with_reducible refine below_tr ?_ (by assumption)) | (with_reducible exact Nat.le_refl _) | (focus (simp; done)) | (focus (simp; omega))))))).mono ?_; rintro e w11 ⟨a11, rfl, N11, hb11⟩))
          | (go_at_call 34; go_must (refine (eqLaw_t x a6 a11 _ hn_x (LawSl.below N6.sl (by (repeat (first | (with_reducible exact Below.refl _ _) | (with_reducible assumption) | (with_reducible refine below_al ?_ _) | (with_reducible refine Below.drew ?_) | (with_reducible refine below_drewN ?_ _) | (with_reducible refine below_st ?_ ?_ _) | (with_reducible refine below_tr ?_ (by assumption)) | (with_reducible exact Nat.le_refl _) | (focus (simp; done)) | (focus (simp; omega)))))) (LawSl.below N11.sl (by (repeat (first | (with_reducible exact Below.refl _ _) | (with_reducible assumption) | (with_reducible refine below_al ?_ _) | (with_reducible refine Below.drew ?_) | (with_reducible refine below_drewN ?_ _) | (with_reducible refine below_st ?_ ?_ _) | (with_reducible refine below_tr ?_ (by assumption)) | (with_reducible exact Nat.le_refl _) | (focus (simp; done)) | (focus (simp; omega))))))).mono ?_; rintro e w12 ⟨rfl, hb12⟩)))
      have B12 : Below w10.heap.size w10 w12 := by (repeat (first | (with_reducible exact Below.refl _ _) | (with_reducible assumption) | (with_reducible refine below_al ?_ _) | (with_reducible refine Below.drew ?_) | (with_reducible refine below_drewN ?_ _) | (with_reducible refine below_st ?_ ?_ _) | (with_reducible refine below_tr ?_ (by assumption)) | (with_reducible exact Nat.le_refl _) | (focus (simp; done)) | (focus (simp; omega))))
      have r12 := bcell1 B12
      have l12_0 : w.heap.size < w12.heap.size := blt B12 (by first | (simp; done) | (simp; omega) | omega)
      have l12_1 : w.heap.size + 1 < w12.heap.size := blt B12 (by first | (simp; done) | (simp; omega) | omega)
      have l12_2 : g5_0 < w12.heap.size := blt B12 (by first | (simp; done) | (simp; omega) | omega)
      have l12_3 : w6.heap.size < w12.heap.size := blt B12 (by first | (simp; done) | (simp; omega) | omega)
      have l12_4 : g9_0 < w12.heap.size := blt B12 (by first | (simp; done) | (simp; omega) | omega)
      go_wp2
      go_ret
      refine ⟨rfl, ?_⟩
      repeat (first | (with_reducible exact Below.refl _ _) | (with_reducible assumption) | (with_reducible refine below_al ?_ _) | (with_reducible refine Below.drew ?_) | (with_reducible refine below_drewN ?_ _) | (with_reducible refine below_st ?_ ?_ _) | (with_reducible refine below_tr ?_ (by assumption)) | (with_reducible exact Nat.le_refl _) | (focus (simp; done)) | (focus (simp; omega)))

set_option maxRecDepth 100000 in
theorem lifted_LawAt (os : Os) (started : os.Started) (H : Type) (enc : TypeId × Value → H) :
    ReturnsInHanded {} Try.checked os 5 .any (Rows.fnExactLawAtSpec.pre6 enc Try.prog Try.f5 Rows.fnExactLawAtRow.domain false) (Rows.fnExactLawAtSpec.post enc Try.prog Try.f5 false true false false) := by
  refine returnsInHanded_of_change (C := Try.checked) own_ started (by kernel_rfl) Try.func5
    (ChangeSpec.witness6 (enc := enc) (C := Try.checked) false ⟨#[], #[.agg #[.slice none 0 0, .slice none 0 0], .agg #[.int .i64 0, .int .i64 0, .int .i64 0]], []⟩ 8 (by kernel_rfl) (by kernel_rfl) (by kernel_rfl) (by kernel_rfl)) ?_
  intro W base args ds gs before hval0 hW hcnd _
  have hval : ∀ (j : Nat) t v, Try.f5.params[j]? = some t → args[j]? = some v → Value.okWide Try.prog W .any base t v := hval0
  have hW' := hW
  obtain ⟨p, q, hA0, hV, rfl, hfz, hnd⟩ := hW
  have hA : DataW.TrodAll enc Try.prog W 0 (fun _ => true) true Try.f5.params.toList args.toList ds p := hA0
  rw [Try.params5] at hA hval
  obtain ⟨v0, vs0, d0, ds0, p0, q0, hargs, rfl, rfl, h0, r0⟩ := trodAll_cons hA
  obtain ⟨v1, vs1, d1, ds1, p1, q1, rfl, rfl, rfl, h1, r1⟩ := trodAll_cons r0
  obtain ⟨rfl, rfl, rfl⟩ := trodAll_nil r1
  obtain rfl : args = #[v0, v1] := by cases args; simp_all
  obtain ⟨rfl, rfl⟩ := trodVars_none hV
  have k0 := h0
  have lt0 : ∀ x ∈ p0, x.block < W.heap.size := by obtain ⟨m, hm⟩ := k0; exact DataW.trod_lt m _ _ _ hm
  have ok0 := hval 0 53 v0 rfl rfl
  have k1 := h1
  have lt1 : ∀ x ∈ p1, x.block < W.heap.size := by obtain ⟨m, hm⟩ := k1; exact DataW.trod_lt m _ _ _ hm
  have ok1 := hval 1 55 v1 rfl rfl
  obtain ⟨x, x_a, hin_x, rfl, hl_x, hs_x⟩ := openLaw ok0 h0
  obtain ⟨s, hin_s, rfl⟩ := openSpot ok1 h1
  refine (walkLawAt W x x_a hin_x hl_x hs_x s hin_s).mono fun e W' ⟨he, bel⟩ => ?_
  subst he
  exact ⟨_, rfl, _, _, _, [], _, [], hW', trodAll_mk1 (shut_bool Try.underlying4 _), (trodAll_cons_mk (Below.trod laidOut_ (by kernel_rfl) (of_decide_eq_true (by kernel_rfl)) k0 bel lt0) (trodAll_cons_mk (Below.trod laidOut_ (by kernel_rfl) (of_decide_eq_true (by kernel_rfl)) k1 bel lt1) trodAll_mk0)), rfl, bel.frame _, fun h => by cases h⟩

/-- The statement. -/
theorem law_LawAt : Rows.FnExactLawAtSaid :=
  OpenClaim.holds_of_wide 5 Try.f5 rfl rfl rfl rfl rfl rfl rfl ⟨rfl, rfl, rfl, rfl, rfl⟩ rfl rfl rfl rfl rfl (by kernel_rfl) Try.func5 (by kernel_rfl)
    (of_decide_eq_true (by kernel_rfl)) (by unfold Func.isWrapper; first | (rw [if_pos (by decide +kernel)]; kernel_rfl) | (rw [if_neg (by decide +kernel)]; exact ⟨rfl, rfl⟩))
    (fun os started H enc _ => lifted_LawAt os started H enc)
#print axioms law_LawAt
end Go.Proofs.Ytbdihgcjopbnjaa
