/-
  For every input FnExactRecordsOk returns true, and its argument reads as before: the program's RecordsOk and the reference's agree.
  Conditions: none.
-/
import Derived.Test.YtbdmmfboiilamaaRec
import Derived.Test.YtbdmmfboiilamaaOpen
namespace Go.Proofs.Ytbdmmfboiilamaa
open Go.RowKit Go.ChangeShapes Go.WideShapes Go.ChangeAt Go.Deep

def mkRec (r : List Int) : Rec := ⟨r.getD 0 0, r.getD 1 0, r.getD 2 0⟩
theorem mkRec_C {r : List Int} (h : r.length = 3) : recC (mkRec r) = intsC r := by
  match r, h with
  | [a, b, c], _ => rfl

theorem openRecs {H : Type} {enc : TypeId × Value → H} {w : World} {base : Nat} {spare : Nat → Bool} {held : Bool} {fuel : Nat} {cs : List Value} {x : DataW H × List MemPlace}
    (h : DataW.trod enc Try.prog w base spare held fuel 22 cs = some x) :
    ∃ A cap xs, cs = [.slice A (List.length xs) cap] ∧ xs.length ≤ 9223372036854775807 ∧ Sl 3 recC w A xs := by
  obtain ⟨A, n, cap, hcs, hn, rows, hl, hr, hs⟩ := open_slice_rows (k := 3) Try.underlying22 (by kernel_rfl)
    (fun n cs' x' h' => open_ints_cells Try.underlying54 (by kernel_rfl) (by kernel_rfl) (by kernel_rfl) h') (by omega) h
  refine ⟨A, cap, rows.map mkRec, ?_, by simp; omega, hs.map mkRec fun x hx => mkRec_C (hr x hx).1⟩
  simp [hcs, hl]

theorem walkRecordsOk (A : Option Addr) (cap : Nat) (xs : List Rec) (w : World) (hn : xs.length ≤ 9223372036854775807) (hs : Sl 3 recC w A xs) :
    Calls Try.prog 3 #[.slice A xs.length cap] w fun e w' => e = .returned (.bool true) ∧ Below w.heap.size w w' := by
  by_cases hbig : 1048576 < xs.length
  · go_enter Try.func3, Try.ntmps3
    go_wp2_with (fail)
    refine (szRecordS_c A xs.length cap _ _ hn (by omega) (by omega)).mono ?_
    rintro e w' ⟨rfl, rfl⟩
    rw [if_pos (by omega)]
    go_wp2
    go_ret
    exact ⟨rfl, Below.refl _ _⟩
  · go_enter Try.func3, Try.ntmps3
    go_wp2_with (fail)
    refine (szRecordS_c A xs.length cap _ _ hn (by omega) (by omega)).mono ?_
    rintro e w' ⟨rfl, rfl⟩
    rw [if_neg (by omega)]
    go_wp2_with (fail)
    refine (toRecordS_c A xs cap _ (by omega) hs).mono ?_
    rintro e w1 ⟨v1, rfl, hv1, hb1⟩
    obtain ⟨A1, c1, rfl, hs1⟩ := hv1.sl recC_len
    have hbw1 := below_tr (Below.refl w.heap.size w) hb1
    go_wp2_with (fail)
    refine (sRecordsOk_c A1 xs c1 _ (by omega) hs1).mono ?_
    rintro e w2 ⟨rfl, hb_w2⟩
    have hbw2 := below_tr hbw1 hb_w2
    go_wp2_with (fail)
    refine (toRecordS_c A xs cap _ (by omega) (hs.below hbw2)).mono ?_
    rintro e w3 ⟨v3, rfl, hv3, hb3⟩
    obtain ⟨A3, c3, rfl, hs3⟩ := hv3.sl recC_len
    have hbw3 := below_tr hbw2 hb3
    go_wp2_with (fail)
    refine (iRecordsOk_c A3 xs c3 _ (by omega) hs3).mono ?_
    rintro e w4 ⟨rfl, hb_w4⟩
    have hbw4 := below_tr hbw3 hb_w4
    go_wp2_with (fail)
    refine (toRecordS_c A xs cap _ (by omega) (hs.below hbw4)).mono ?_
    rintro e w5 ⟨v5, rfl, hv5, hb5⟩
    obtain ⟨A5, c5, rfl, hs5⟩ := hv5.sl recC_len
    have hbw5 := below_tr hbw4 hb5
    go_wp2_with (fail)
    refine (eqRecordS_t A3 A5 xs c3 c5 _ (by omega) (((hs3.below hb_w4)).below hb5) hs5).mono ?_
    rintro e w6 ⟨rfl, hb_w6⟩
    have hbw6 := below_tr hbw5 hb_w6
    go_wp2
    go_ret
    exact ⟨rfl, hbw6⟩

set_option maxRecDepth 100000 in
theorem lifted_RecordsOk (os : Os) (started : os.Started) (H : Type) (enc : TypeId × Value → H) :
    ReturnsInHanded {} Try.checked os 3 .any (Rows.fnExactRecordsOkSpec.pre6 enc Try.prog Try.f3 Rows.fnExactRecordsOkRow.domain false) (Rows.fnExactRecordsOkSpec.post enc Try.prog Try.f3 false true false false) := by
  refine returnsInHanded_of_change (C := Try.checked) own_ started (by kernel_rfl) Try.func3
    (ChangeSpec.witness6 (enc := enc) (C := Try.checked) false ⟨#[], #[.slice none 0 0], []⟩ 8 (by kernel_rfl) (by kernel_rfl) (by kernel_rfl) (by kernel_rfl)) ?_
  intro W base args ds gs before hval0 hW hcnd _
  have hval : ∀ (j : Nat) t v, Try.f3.params[j]? = some t → args[j]? = some v → Value.okWide Try.prog W .any base t v := hval0
  have hW' := hW
  obtain ⟨p, q, hA0, hV, rfl, hfz, hnd⟩ := hW
  have hA : DataW.TrodAll enc Try.prog W 0 (fun _ => true) true Try.f3.params.toList args.toList ds p := hA0
  rw [Try.params3] at hA hval
  obtain ⟨v0, vs0, d0, ds0, p0, q0, hargs, rfl, rfl, h0, r0⟩ := trodAll_cons hA
  obtain ⟨rfl, rfl, rfl⟩ := trodAll_nil r0
  obtain rfl : args = #[v0] := by cases args; simp_all
  obtain ⟨rfl, rfl⟩ := trodVars_none hV
  have k0 := h0
  have lt0 : ∀ x ∈ p0, x.block < W.heap.size := by obtain ⟨m, hm⟩ := k0; exact DataW.trod_lt m _ _ _ hm
  obtain ⟨a0, len0, cap0, rfl⟩ := okWide_slice Try.underlying22 (hval 0 22 v0 rfl rfl)
  obtain ⟨fuel0, hf0⟩ := h0
  obtain ⟨A, cap, xs, hcs, hn, hs⟩ := openRecs hf0
  simp [Value.cells] at hcs
  obtain ⟨rfl, rfl, rfl⟩ := hcs
  clear hA0 hval0
  refine (walkRecordsOk _ _ xs W hn hs).mono fun e W' ⟨he, bel⟩ => ?_
  subst he
  exact ⟨_, rfl, _, _, _, [], _, [], hW', trodAll_mk1 (shut_bool Try.underlying4 _), (trodAll_cons_mk (Below.trod laidOut_ (by kernel_rfl) (of_decide_eq_true (by kernel_rfl)) k0 bel lt0) trodAll_mk0), rfl, bel.frame _, fun h => by cases h⟩

/-- The statement. -/
theorem exactRecordsOk : Rows.FnExactRecordsOkSaid :=
  OpenClaim.holds_of_wide 3 Try.f3 rfl rfl rfl rfl rfl rfl rfl ⟨rfl, rfl, rfl, rfl, rfl⟩ rfl rfl rfl rfl rfl (by kernel_rfl) Try.func3 (by kernel_rfl)
    (of_decide_eq_true (by kernel_rfl)) (by unfold Func.isWrapper; first | (rw [if_pos (by decide +kernel)]; kernel_rfl) | (rw [if_neg (by decide +kernel)]; exact ⟨rfl, rfl⟩))
    (fun os started H enc _ => lifted_RecordsOk os started H enc)
#print axioms exactRecordsOk
end Go.Proofs.Ytbdmmfboiilamaa
