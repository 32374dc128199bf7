/-
  For every input FnExactLeastError returns true: the program's LeastError and the reference's agree.
  Conditions: none.
-/
import Derived.Test.YtelkcmchokajaaaErr2
import Derived.Test.YtelkcmchokajaaaErr4
import Derived.Test.YtelkcmchokajaaaCompO
import Derived.Test.YtelkcmchokajaaaOpen2
import Derived.Test.YtelkcmchokajaaaBel
import Derived.Test.YtelkcmchokajaaaConv
import Derived.Test.YtelkcmchokajaaaConvS
import Derived.Test.YtelkcmchokajaaaKeep
import Derived.Deep.RegionHeld3
import Derived.Deep.DeepCutAuto
import Derived.Deep.DeepMust
namespace Go.Proofs.Ytelkcmchokajaaa
open Go.RowKit Go.ChangeShapes Go.WideShapes Go.ChangeAt Go.Deep

/-- What a statement that calls LeastError leaves. -/
def LeftLeastError (B : World) (r : Ratio) (c : Bool) (x0 x1 : Value) (wx : World) : Prop :=
  ∃ (W : World) (g0 : Nat), W = wx ∧ x0 = .pointer (some ⟨g0, 0, none⟩) ∧ x1 = .bool c ∧ Has wx g0 [.int .i64 r.n, .int .i64 r.d] ∧ Below B.heap.size B wx

set_option maxRecDepth 100000 in
set_option maxHeartbeats 8000000 in
theorem walkLeastError (w : World) (l_A : Option Addr) (l : List Record) (l_c : Nat) (_ : ∀ y ∈ l, Record.In y) (hl_l : List.length l ≤ 9223372036854775807) (hs_l : Sl 3 recordC w l_A l) (s : Spot) (hin_s : s.In) :
    Calls Try.prog 10 #[.slice l_A (List.length l) l_c, spotV s] w fun e w' => e = .returned (.bool true) ∧ Below w.heap.size w w' := by
  by_cases c0 : 1048576 - ((List.length l : Nat) : Int) < 0
  · skip
    go_enter Try.func10, Try.ntmps10
    go_wp2_with (fail)
    refine (szRecordS_c l_A (List.length l) l_c (1048576) _ hl_l (by omega) (by omega)).mono ?_
    rw [if_pos (by omega)]
    rintro e w' ⟨rfl, rfl⟩
    go_wp2
    go_ret
    refine ⟨rfl, ?_⟩
    repeat (first | (with_reducible exact Below.refl _ _) | (with_reducible assumption) | (with_reducible refine below_al ?_ _) | (with_reducible refine Below.drew ?_) | (with_reducible refine below_drewN ?_ _) | (with_reducible refine below_st ?_ ?_ _) | (with_reducible refine below_tr ?_ (by assumption)) | (with_reducible exact Nat.le_refl _) | (focus (simp; done)) | (focus (simp; omega)))
  have hn_l : List.length l ≤ 1048576 := by omega
  have k1 := fun W A' c' h => sLeastError_c A' l c' s W hin_s hn_l h
  have k2 := fun W A' c' h => iLeastError_c A' l c' s W hin_s hn_l h
  revert k1 k2
  generalize leastError l s = r
  generalize leastOk l s = c
  intro k1 k2
  go_enter Try.func10, Try.ntmps10
  go_wp2_with (fail)
  refine (szRecordS_c l_A (List.length l) l_c (1048576) _ hl_l (by omega) (by omega)).mono ?_
  rw [if_neg (by omega)]
  rintro e w' ⟨rfl, rfl⟩
  go_upto_region 5 with fail
  go_cut [6, 7] (fun x0 x1 wx => LeftLeastError (w.alloc (.cells #[.int .i64 s.x, .int .i64 s.y, .int .i64 s.d] 26)) r c x0 x1 wx)
  case first =>
    go_region_held3 (fun w' => (∀ b o, b < w.heap.size + 1 → w'.cell? ⟨b, o, none⟩ = (w.alloc (.cells #[.int .i64 s.x, .int .i64 s.y, .int .i64 s.d] 26)).cell? ⟨b, o, none⟩) ∧ w.heap.size + 1 ≤ w'.heap.size) (first | exact ⟨fun _ _ _ => rfl, by simp⟩ | exact kq_step2 (by assumption) (by assumption) | (repeat (first | (with_reducible assumption) | (with_reducible refine kq_self _ ?_) | (with_reducible refine kq_drew ?_) | (with_reducible refine kq_alloc ?_ _) | (with_reducible refine kq_set ?_ ?_ _) | (focus (simp; done)) | (focus (simp; omega)) | (focus omega))))
      (first
        | (go_at_call 39; go_must (refine (toRecordS_c l_A l l_c _ hn_l (Sl.below hs_l (by (repeat (first | (with_reducible exact Below.refl _ _) | (with_reducible assumption) | (with_reducible refine below_al ?_ _) | (with_reducible refine Below.drew ?_) | (with_reducible refine below_drewN ?_ _) | (with_reducible refine below_st ?_ ?_ _) | (with_reducible refine below_tr ?_ (by assumption)) | (with_reducible exact Nat.le_refl _) | (focus (simp; done)) | (focus (simp; omega))))))).mono ?_; rintro e w1 ⟨v1, rfl, M1, hb1⟩; obtain ⟨A1, c1, rfl, ho1⟩ := M1; have N1 : New 130 3 recordC w1 _ (.slice A1 (List.length l) c1) l := ⟨A1, c1, rfl, ho1⟩; clear ho1; have r1 := bcell1 hb1; have f1 := (bcell hb1).2; have Q1 := kq_step2 (by assumption) hb1; have q1 := Q1.2; have z1 := hb1.size; (try simp only [World.size_drew] at z1); (try simp only [World.size_alloc] at z1); (try have y1 := Nat.lt_of_succ_le z1)))
        | (go_at_call 19; go_must (refine (toSpot_c s _).mono ?_; rintro e w2 ⟨rfl, hb2⟩; have r2 := bcell1 hb2; have f2 := (bcell hb2).2; have Q2 := kq_step2 (by assumption) hb2; have q2 := Q2.2; have z2 := hb2.size; (try simp only [World.size_drew] at z2); (try simp only [World.size_alloc] at z2); (try have y2 := Nat.lt_of_succ_le z2); (try have y1_2 := Nat.lt_of_lt_of_le y1 z2); (try have y1_2 := Nat.lt_of_lt_of_le y1 (Nat.le_of_succ_le z2))))
        | (go_at_call 44; go_must (refine (k1 _ _ _ (Sl.below (N1.out recordC_len) (by (repeat (first | (with_reducible exact Below.refl _ _) | (with_reducible assumption) | (with_reducible refine below_al ?_ _) | (with_reducible refine Below.drew ?_) | (with_reducible refine below_drewN ?_ _) | (with_reducible refine below_st ?_ ?_ _) | (with_reducible refine below_tr ?_ (by assumption)) | (with_reducible exact Nat.le_refl _) | (focus (simp; done)) | (focus (simp; omega))))))).mono ?_; rintro e w3 ⟨rfl, hb3⟩; have r3 := bcell1 hb3; have f3 := (bcell hb3).2; have Q3 := kq_step2 (by assumption) hb3; have q3 := Q3.2; have z3 := hb3.size; (try simp only [World.size_drew] at z3); (try simp only [World.size_alloc] at z3); (try have y3 := Nat.lt_of_succ_le z3); (try have y1_3 := Nat.lt_of_lt_of_le y1_2 z3); (try have y1_3 := Nat.lt_of_lt_of_le y1_2 (Nat.le_of_succ_le z3)); (try have y2_3 := Nat.lt_of_lt_of_le y2 z3); (try have y2_3 := Nat.lt_of_lt_of_le y2 (Nat.le_of_succ_le z3)))))
    all_goals
      go_wp2_with fail
      go_meet
      refine ⟨_, _, rfl, rfl, rfl, ?_, ?_⟩
      · repeat (first | ((with_reducible exact Has.new _ _ _)) | (refine Has.stored (vs := [.int .i64 0, .int .i64 0]) ?_ [_, _] rfl) | (with_reducible refine Has.drew ?_) | ((with_reducible refine Has.new_at ?_ _ _ rfl); (first | rfl | (focus (simp; done)))) | (with_reducible refine Has.set_ ?_ ?_ _) | (with_reducible refine Has.alloc ?_ _) | (with_reducible refine Has.below ?_ (by assumption)) | (focus (simp; done)) | (focus (simp; omega)) | (focus omega))
      · repeat (first | (with_reducible exact Below.refl _ _) | (with_reducible assumption) | (with_reducible refine below_al ?_ _) | (with_reducible refine Below.drew ?_) | (with_reducible refine below_drewN ?_ _) | (with_reducible refine below_st ?_ ?_ _) | (with_reducible refine below_tr ?_ (by assumption)) | (with_reducible exact Nat.le_refl _) | (focus (simp; done)) | (focus (simp; omega)))
  case rest =>
    obtain ⟨w4, g4_0, rfl, rfl, rfl, H4_0, hb4⟩ := hcut
    have r4 := bcell1 hb4
    have l4_0 : w.heap.size < w4.heap.size := blt hb4 (by first | (simp; done) | (simp; omega) | omega)
    have lH4_0 := H4_0.1
    obtain ⟨cH4_0_0, _⟩ := H4_0.2 0 _ rfl
    obtain ⟨cH4_0_1, _⟩ := H4_0.2 1 _ rfl
    go_wp2_with (fail)
    refine (toRecordS_c l_A l l_c _ hn_l (Sl.below hs_l (by (repeat (first | (with_reducible exact Below.refl _ _) | (with_reducible assumption) | (with_reducible refine below_al ?_ _) | (with_reducible refine Below.drew ?_) | (with_reducible refine below_drewN ?_ _) | (with_reducible refine below_st ?_ ?_ _) | (with_reducible refine below_tr ?_ (by assumption)) | (with_reducible exact Nat.le_refl _) | (focus (simp; done)) | (focus (simp; omega))))))).mono ?_
    rintro e w5 ⟨v5, rfl, M5, hb5⟩
    obtain ⟨A5, c5, rfl, ho5⟩ := M5
    have N5 : New 130 3 recordC w5 _ (.slice A5 (List.length l) c5) l := ⟨A5, c5, rfl, ho5⟩
    clear ho5
    have r5 := bcell1 hb5
    have l5_0 : w.heap.size < w5.heap.size := blt hb5 (by first | (simp; done) | (simp; omega) | omega)
    have l5_1 : g4_0 < w5.heap.size := blt hb5 (by first | (simp; done) | (simp; omega) | omega)
    go_wp2_with (fail)
    refine (toSpot_c s _).mono ?_
    rintro e w6 ⟨rfl, hb6⟩
    have r6 := bcell1 hb6
    have l6_0 : w.heap.size < w6.heap.size := blt hb6 (by first | (simp; done) | (simp; omega) | omega)
    have l6_1 : g4_0 < w6.heap.size := blt hb6 (by first | (simp; done) | (simp; omega) | omega)
    go_wp2_with (fail)
    refine (k2 _ _ _ (Sl.below (N5.out recordC_len) (by (repeat (first | (with_reducible exact Below.refl _ _) | (with_reducible assumption) | (with_reducible refine below_al ?_ _) | (with_reducible refine Below.drew ?_) | (with_reducible refine below_drewN ?_ _) | (with_reducible refine below_st ?_ ?_ _) | (with_reducible refine below_tr ?_ (by assumption)) | (with_reducible exact Nat.le_refl _) | (focus (simp; done)) | (focus (simp; omega))))))).mono ?_
    rintro e w7 ⟨rfl, hb7⟩
    have r7 := bcell1 hb7
    have l7_0 : w.heap.size < w7.heap.size := blt hb7 (by first | (simp; done) | (simp; omega) | omega)
    have l7_1 : g4_0 < w7.heap.size := blt hb7 (by first | (simp; done) | (simp; omega) | omega)
    go_wp2_with (fail)
    refine (eqRatio_t r _).mono ?_
    rintro e w8 ⟨rfl, hb8⟩
    have r8 := bcell1 hb8
    have l8_0 : w.heap.size < w8.heap.size := blt hb8 (by first | (simp; done) | (simp; omega) | omega)
    have l8_1 : g4_0 < w8.heap.size := blt hb8 (by first | (simp; done) | (simp; omega) | omega)
    have l8_2 : w7.heap.size < w8.heap.size := blt hb8 (by first | (simp; done) | (simp; omega) | omega)
    go_wp2_with (fail)
    refine (toRecordS_c l_A l l_c _ hn_l (Sl.below hs_l (by (repeat (first | (with_reducible exact Below.refl _ _) | (with_reducible assumption) | (with_reducible refine below_al ?_ _) | (with_reducible refine Below.drew ?_) | (with_reducible refine below_drewN ?_ _) | (with_reducible refine below_st ?_ ?_ _) | (with_reducible refine below_tr ?_ (by assumption)) | (with_reducible exact Nat.le_refl _) | (focus (simp; done)) | (focus (simp; omega))))))).mono ?_
    rintro e w9 ⟨v9, rfl, M9, hb9⟩
    obtain ⟨A9, c9, rfl, ho9⟩ := M9
    have N9 : New 130 3 recordC w9 _ (.slice A9 (List.length l) c9) l := ⟨A9, c9, rfl, ho9⟩
    clear ho9
    have r9 := bcell1 hb9
    have l9_0 : w.heap.size < w9.heap.size := blt hb9 (by first | (simp; done) | (simp; omega) | omega)
    have l9_1 : g4_0 < w9.heap.size := blt hb9 (by first | (simp; done) | (simp; omega) | omega)
    have l9_2 : w7.heap.size < w9.heap.size := blt hb9 (by first | (simp; done) | (simp; omega) | omega)
    go_wp2_with (fail)
    refine (eqRecordS_t A5 A9 l c5 c9 _ hn_l (Sl.below (N5.out recordC_len) (by (repeat (first | (with_reducible exact Below.refl _ _) | (with_reducible assumption) | (with_reducible refine below_al ?_ _) | (with_reducible refine Below.drew ?_) | (with_reducible refine below_drewN ?_ _) | (with_reducible refine below_st ?_ ?_ _) | (with_reducible refine below_tr ?_ (by assumption)) | (with_reducible exact Nat.le_refl _) | (focus (simp; done)) | (focus (simp; omega)))))) (Sl.below (N9.out recordC_len) (by (repeat (first | (with_reducible exact Below.refl _ _) | (with_reducible assumption) | (with_reducible refine below_al ?_ _) | (with_reducible refine Below.drew ?_) | (with_reducible refine below_drewN ?_ _) | (with_reducible refine below_st ?_ ?_ _) | (with_reducible refine below_tr ?_ (by assumption)) | (with_reducible exact Nat.le_refl _) | (focus (simp; done)) | (focus (simp; omega))))))).mono ?_
    rintro e w10 ⟨rfl, hb10⟩
    have r10 := bcell1 hb10
    have l10_0 : w.heap.size < w10.heap.size := blt hb10 (by first | (simp; done) | (simp; omega) | omega)
    have l10_1 : g4_0 < w10.heap.size := blt hb10 (by first | (simp; done) | (simp; omega) | omega)
    have l10_2 : w7.heap.size < w10.heap.size := blt hb10 (by first | (simp; done) | (simp; omega) | omega)
    go_wp2
    go_ret
    refine ⟨rfl, ?_⟩
    repeat (first | (with_reducible exact Below.refl _ _) | (with_reducible assumption) | (with_reducible refine below_al ?_ _) | (with_reducible refine Below.drew ?_) | (with_reducible refine below_drewN ?_ _) | (with_reducible refine below_st ?_ ?_ _) | (with_reducible refine below_tr ?_ (by assumption)) | (with_reducible exact Nat.le_refl _) | (focus (simp; done)) | (focus (simp; omega)))

set_option maxRecDepth 100000 in
theorem lifted_LeastError (os : Os) (started : os.Started) (H : Type) (enc : TypeId × Value → H) :
    ReturnsInHanded {} Try.checked os 10 .any (Rows.fnExactLeastErrorSpec.pre6 enc Try.prog Try.f10 Rows.fnExactLeastErrorRow.domain false) (Rows.fnExactLeastErrorSpec.post enc Try.prog Try.f10 false true false false) := by
  refine returnsInHanded_of_change (C := Try.checked) own_ started (by kernel_rfl) Try.func10
    (ChangeSpec.witness6 (enc := enc) (C := Try.checked) false ⟨#[], #[.slice none 0 0, .agg #[.int .i64 0, .int .i64 0, .int .i64 0]], []⟩ 8 (by kernel_rfl) (by kernel_rfl) (by kernel_rfl) (by kernel_rfl)) ?_
  intro W base args ds gs before hval0 hW hcnd _
  have hval : ∀ (j : Nat) t v, Try.f10.params[j]? = some t → args[j]? = some v → Value.okWide Try.prog W .any base t v := hval0
  have hW' := hW
  obtain ⟨p, q, hA0, hV, rfl, hfz, hnd⟩ := hW
  have hA : DataW.TrodAll enc Try.prog W 0 (fun _ => true) true Try.f10.params.toList args.toList ds p := hA0
  rw [Try.params10] at hA hval
  obtain ⟨v0, vs0, d0, ds0, p0, q0, hargs, rfl, rfl, h0, r0⟩ := trodAll_cons hA
  obtain ⟨v1, vs1, d1, ds1, p1, q1, rfl, rfl, rfl, h1, r1⟩ := trodAll_cons r0
  obtain ⟨rfl, rfl, rfl⟩ := trodAll_nil r1
  obtain rfl : args = #[v0, v1] := by cases args; simp_all
  obtain ⟨rfl, rfl⟩ := trodVars_none hV
  have k0 := h0
  have lt0 : ∀ x ∈ p0, x.block < W.heap.size := by obtain ⟨m, hm⟩ := k0; exact DataW.trod_lt m _ _ _ hm
  have ok0 := hval 0 65 v0 rfl rfl
  have k1 := h1
  have lt1 : ∀ x ∈ p1, x.block < W.heap.size := by obtain ⟨m, hm⟩ := k1; exact DataW.trod_lt m _ _ _ hm
  have ok1 := hval 1 26 v1 rfl rfl
  obtain ⟨l_A, l_c, l, rfl, hl_l, hin_l, hs_l⟩ := openRecordSV ok0 h0
  obtain ⟨s, hin_s, rfl⟩ := openSpot ok1 h1
  refine (walkLeastError W l_A l l_c hin_l hl_l hs_l s hin_s).mono fun e W' ⟨he, bel⟩ => ?_
  subst he
  exact ⟨_, rfl, _, _, _, [], _, [], hW', trodAll_mk1 (shut_bool Try.underlying4 _), (trodAll_cons_mk (Below.trod laidOut_ (by kernel_rfl) (of_decide_eq_true (by kernel_rfl)) k0 bel lt0) (trodAll_cons_mk (Below.trod laidOut_ (by kernel_rfl) (of_decide_eq_true (by kernel_rfl)) k1 bel lt1) trodAll_mk0)), rfl, bel.frame _, fun h => by cases h⟩

/-- The statement. -/
theorem law_LeastError : Rows.FnExactLeastErrorSaid :=
  OpenClaim.holds_of_wide 10 Try.f10 rfl rfl rfl rfl rfl rfl rfl ⟨rfl, rfl, rfl, rfl, rfl⟩ rfl rfl rfl rfl rfl (by kernel_rfl) Try.func10 (by kernel_rfl)
    (of_decide_eq_true (by kernel_rfl)) (by unfold Func.isWrapper; first | (rw [if_pos (by decide +kernel)]; kernel_rfl) | (rw [if_neg (by decide +kernel)]; exact ⟨rfl, rfl⟩))
    (fun os started H enc _ => lifted_LeastError os started H enc)
#print axioms law_LeastError
end Go.Proofs.Ytelkcmchokajaaa
