/-
  For every input FnExactPieceAt returns true: the program's PieceAt and the reference's agree.
  Conditions: none.
-/
import Derived.Test.YtbdmmfboiilamaaPiece
import Derived.Test.YtbdmmfboiilamaaConv
import Derived.Test.YtbdmmfboiilamaaOpen2
import Derived.Deep.RegionHeld3
import Derived.Deep.DeepCutAuto
namespace Go.Proofs.Ytbdmmfboiilamaa
open Go.RowKit Go.ChangeShapes Go.WideShapes Go.ChangeAt Go.Deep

/-- What a statement 'v, ok := F(toPiece(q), toSpot(s))' leaves. -/
def LeftPQ (w : World) (q : Piece) (s : Spot) (r : Ratio) (ok : Bool) (x y : Value) (wx : World) : Prop :=
  ∃ g, x = .pointer (some ⟨g, 0, none⟩) ∧ y = .bool ok ∧ Has wx g [.int .i64 r.n, .int .i64 r.d] ∧ Has wx w.heap.size [.int .i64 q.a, .int .i64 q.b, .int .i64 q.c, .int .i64 q.d] ∧
    Has wx (w.heap.size + 1) [.int .i64 s.x, .int .i64 s.y, .int .i64 s.d] ∧ Below w.heap.size w wx

set_option maxRecDepth 100000 in
set_option maxHeartbeats 4000000 in
theorem walkPieceAt (q : Piece) (s : Spot) (w : World) (hq : q.In) (hs : s.In) :
    Calls Try.prog 6 #[pieceV q, spotV s] w fun e w' => e = .returned (.bool true) ∧ Below w.heap.size w w' := by
  have k1 := fun W => sPieceAt_c q s W hq hs
  have k2 := fun W => iPieceAt_c q s W hq hs
  revert k1 k2
  generalize pieceAt q s = r
  generalize ratioOk r = ok
  intro k1 k2
  have HA := (Has.new w #[.int .i64 q.a, .int .i64 q.b, .int .i64 q.c, .int .i64 q.d] 40).alloc (.cells #[.int .i64 s.x, .int .i64 s.y, .int .i64 s.d] 42)
  have HB := Has.new (w.alloc (.cells #[.int .i64 q.a, .int .i64 q.b, .int .i64 q.c, .int .i64 q.d] 40)) #[.int .i64 s.x, .int .i64 s.y, .int .i64 s.d] 42
  have hbw := below_al (below_al (Below.refl w.heap.size w) (.cells #[.int .i64 q.a, .int .i64 q.b, .int .i64 q.c, .int .i64 q.d] 40)) (.cells #[.int .i64 s.x, .int .i64 s.y, .int .i64 s.d] 42)
  simp only [World.size_alloc] at HA HB
  go_enter Try.func6, Try.ntmps6
  go_upto_region 1 with fail
  generalize hW : (w.alloc (.cells #[.int .i64 q.a, .int .i64 q.b, .int .i64 q.c, .int .i64 q.d] 40)).alloc (.cells #[.int .i64 s.x, .int .i64 s.y, .int .i64 s.d] 42) = W at *
  go_cut [5, 6] (fun x y wx => LeftPQ w q s r ok x y wx)
  case first =>
    obtain ⟨cHA_0, fHA_0⟩ := HA.2 0 _ rfl
    obtain ⟨cHA_1, fHA_1⟩ := HA.2 1 _ rfl
    obtain ⟨cHA_2, fHA_2⟩ := HA.2 2 _ rfl
    obtain ⟨cHA_3, fHA_3⟩ := HA.2 3 _ rfl
    obtain ⟨cHB_0, fHB_0⟩ := HB.2 0 _ rfl
    obtain ⟨cHB_1, fHB_1⟩ := HB.2 1 _ rfl
    obtain ⟨cHB_2, fHB_2⟩ := HB.2 2 _ rfl
    have hltA := HA.1
    have hltB := HB.1
    go_region_held3 (fun w' => w'.cell? ⟨w.heap.size, 0, none⟩ = some (.int .i64 q.a) ∧ w'.cell? ⟨w.heap.size, 1, none⟩ = some (.int .i64 q.b) ∧ w'.cell? ⟨w.heap.size, 2, none⟩ = some (.int .i64 q.c) ∧ w'.cell? ⟨w.heap.size, 3, none⟩ = some (.int .i64 q.d) ∧ w'.cell? ⟨w.heap.size + 1, 0, none⟩ = some (.int .i64 s.x) ∧ w'.cell? ⟨w.heap.size + 1, 1, none⟩ = some (.int .i64 s.y) ∧ w'.cell? ⟨w.heap.size + 1, 2, none⟩ = some (.int .i64 s.d)) (first | go_keep | (refine ⟨?_, ?_, ?_, ?_, ?_, ?_, ?_⟩ <;> (rw [World.cell?_setCell_other _ _ _ _ (by intro h; injection h with h1; omega), World.cell?_setCell_other _ _ _ _ (by intro h; injection h with h1; omega)]; assumption)))
      (first
        | (go_at_call 22; refine (toPiece_c q _).mono ?_; rintro e w2 ⟨rfl, hb2⟩; have T4 : Has w2 w.heap.size [.int .i64 q.a, .int .i64 q.b, .int .i64 q.c, .int .i64 q.d] := Has.below (by first | exact HA | exact HA.alloc _) hb2; have T5 : Has w2 (w.heap.size + 1) [.int .i64 s.x, .int .i64 s.y, .int .i64 s.d] := Has.below (by first | exact HB | exact HB.alloc _) hb2; obtain ⟨c0, f0⟩ := T4.2 0 _ rfl; obtain ⟨c1, f1⟩ := T4.2 1 _ rfl; obtain ⟨c2, f2⟩ := T4.2 2 _ rfl; obtain ⟨c3, f3⟩ := T4.2 3 _ rfl; obtain ⟨c4, f4⟩ := T5.2 0 _ rfl; obtain ⟨c5, f5⟩ := T5.2 1 _ rfl; obtain ⟨c6, f6⟩ := T5.2 2 _ rfl; have m_w2 := T5.1; have z_w2 := hb2.size; (try simp only [World.size_alloc] at z_w2); first | (have U2 : Has w2 W.heap.size [.int .i64 0, .int .i64 0] := Has.below (by exact Has.new W _ _) hb2; obtain ⟨c7, f7⟩ := U2.2 0 _ rfl; obtain ⟨c8, f8⟩ := U2.2 1 _ rfl) | skip)
        | (go_at_call 23; refine (toSpot_c s _).mono ?_; rintro e w3 ⟨rfl, hb3⟩; have T6 : Has w3 w.heap.size [.int .i64 q.a, .int .i64 q.b, .int .i64 q.c, .int .i64 q.d] := Has.below (by first | exact T4 | exact T4.alloc _) hb3; have T7 : Has w3 (w.heap.size + 1) [.int .i64 s.x, .int .i64 s.y, .int .i64 s.d] := Has.below (by first | exact T5 | exact T5.alloc _) hb3; obtain ⟨c0, f0⟩ := T6.2 0 _ rfl; obtain ⟨c1, f1⟩ := T6.2 1 _ rfl; obtain ⟨c2, f2⟩ := T6.2 2 _ rfl; obtain ⟨c3, f3⟩ := T6.2 3 _ rfl; obtain ⟨c4, f4⟩ := T7.2 0 _ rfl; obtain ⟨c5, f5⟩ := T7.2 1 _ rfl; obtain ⟨c6, f6⟩ := T7.2 2 _ rfl; have m_w3 := T7.1; have z_w3 := hb3.size; (try simp only [World.size_alloc] at z_w3); first | (have U3 : Has w3 w2.heap.size [.int .i64 0, .int .i64 0] := Has.below (by exact Has.new w2 _ _) hb3; obtain ⟨c7, f7⟩ := U3.2 0 _ rfl; obtain ⟨c8, f8⟩ := U3.2 1 _ rfl) | (have U3 : Has w3 W.heap.size [.int .i64 0, .int .i64 0] := Has.below (by exact U2) hb3; obtain ⟨c7, f7⟩ := U3.2 0 _ rfl; obtain ⟨c8, f8⟩ := U3.2 1 _ rfl) | skip)
        | (go_at_call 21; refine (k1 _).mono ?_; rintro e w4 ⟨rfl, hb4⟩; have T8 : Has w4 w.heap.size [.int .i64 q.a, .int .i64 q.b, .int .i64 q.c, .int .i64 q.d] := Has.below (by first | exact T6 | exact T6.alloc _) hb4; have T9 : Has w4 (w.heap.size + 1) [.int .i64 s.x, .int .i64 s.y, .int .i64 s.d] := Has.below (by first | exact T7 | exact T7.alloc _) hb4; obtain ⟨c0, f0⟩ := T8.2 0 _ rfl; obtain ⟨c1, f1⟩ := T8.2 1 _ rfl; obtain ⟨c2, f2⟩ := T8.2 2 _ rfl; obtain ⟨c3, f3⟩ := T8.2 3 _ rfl; obtain ⟨c4, f4⟩ := T9.2 0 _ rfl; obtain ⟨c5, f5⟩ := T9.2 1 _ rfl; obtain ⟨c6, f6⟩ := T9.2 2 _ rfl; have m_w4 := T9.1; have z_w4 := hb4.size; (try simp only [World.size_alloc] at z_w4); first | (have U4 : Has w4 w3.heap.size [.int .i64 0, .int .i64 0] := Has.below (by exact Has.new w3 _ _) hb4; obtain ⟨c7, f7⟩ := U4.2 0 _ rfl; obtain ⟨c8, f8⟩ := U4.2 1 _ rfl) | (have U4 : Has w4 w2.heap.size [.int .i64 0, .int .i64 0] := Has.below (by exact U3) hb4; obtain ⟨c7, f7⟩ := U4.2 0 _ rfl; obtain ⟨c8, f8⟩ := U4.2 1 _ rfl) | (have U4 : Has w4 W.heap.size [.int .i64 0, .int .i64 0] := Has.below (by exact U3) hb4; obtain ⟨c7, f7⟩ := U4.2 0 _ rfl; obtain ⟨c8, f8⟩ := U4.2 1 _ rfl) | skip))
    all_goals
      go_wp2_with fail
      go_meet
      refine ⟨_, rfl, rfl, ?_, ?_, ?_, ?_⟩
      · first | exact Has.new _ _ _ | exact Has.stored U4 [_, _] rfl
      · first | exact T8.alloc _ | exact (T8.set_ (by simp; omega) _).set_ (by simp; omega) _
      · first | exact T9.alloc _ | exact (T9.set_ (by simp; omega) _).set_ (by simp; omega) _
      · have y2 : Below w.heap.size w w2 := below_tr (by first | exact hbw.drew | exact below_al hbw.drew _) hb2
        have y3 : Below w.heap.size w w3 := below_tr (by first | exact y2 | exact below_al y2 _) hb3
        have y4 : Below w.heap.size w w4 := below_tr (by first | exact y3 | exact below_al y3 _) hb4
        first | exact below_al y4 _ | exact below_st (below_st y4 (by simp; omega) _) (by simp; omega) _
  case rest =>
    obtain ⟨g, rfl, rfl, HR, HA2, HB2, hbw2⟩ := hcut
    rename_i wc
    clear HA HB hbw k1
    go_upto_region 2 with fail
    go_cut [7, 8] (fun x y wx => LeftPQ w q s r ok x y wx ∧ Has wx g [.int .i64 r.n, .int .i64 r.d])
    case first =>
      obtain ⟨cHA2_0, fHA2_0⟩ := HA2.2 0 _ rfl
      obtain ⟨cHA2_1, fHA2_1⟩ := HA2.2 1 _ rfl
      obtain ⟨cHA2_2, fHA2_2⟩ := HA2.2 2 _ rfl
      obtain ⟨cHA2_3, fHA2_3⟩ := HA2.2 3 _ rfl
      obtain ⟨cHB2_0, fHB2_0⟩ := HB2.2 0 _ rfl
      obtain ⟨cHB2_1, fHB2_1⟩ := HB2.2 1 _ rfl
      obtain ⟨cHB2_2, fHB2_2⟩ := HB2.2 2 _ rfl
      have hltA := HA2.1
      have hltB := HB2.1
      have hltR := HR.1
      go_region_held3 (fun w' => w'.cell? ⟨w.heap.size, 0, none⟩ = some (.int .i64 q.a) ∧ w'.cell? ⟨w.heap.size, 1, none⟩ = some (.int .i64 q.b) ∧ w'.cell? ⟨w.heap.size, 2, none⟩ = some (.int .i64 q.c) ∧ w'.cell? ⟨w.heap.size, 3, none⟩ = some (.int .i64 q.d) ∧ w'.cell? ⟨w.heap.size + 1, 0, none⟩ = some (.int .i64 s.x) ∧ w'.cell? ⟨w.heap.size + 1, 1, none⟩ = some (.int .i64 s.y) ∧ w'.cell? ⟨w.heap.size + 1, 2, none⟩ = some (.int .i64 s.d)) (first | go_keep | (refine ⟨?_, ?_, ?_, ?_, ?_, ?_, ?_⟩ <;> (rw [World.cell?_setCell_other _ _ _ _ (by intro h; injection h with h1; omega), World.cell?_setCell_other _ _ _ _ (by intro h; injection h with h1; omega)]; assumption)))
        (first
          | (go_at_call 22; refine (toPiece_c q _).mono ?_; rintro e w2 ⟨rfl, hb2⟩; have R2 : Has w2 g [.int .i64 r.n, .int .i64 r.d] := Has.below (by first | exact HR | exact HR.alloc _) hb2; have q_w2 := R2.1; have T4 : Has w2 w.heap.size [.int .i64 q.a, .int .i64 q.b, .int .i64 q.c, .int .i64 q.d] := Has.below (by first | exact HA2 | exact HA2.alloc _) hb2; have T5 : Has w2 (w.heap.size + 1) [.int .i64 s.x, .int .i64 s.y, .int .i64 s.d] := Has.below (by first | exact HB2 | exact HB2.alloc _) hb2; obtain ⟨c0, f0⟩ := T4.2 0 _ rfl; obtain ⟨c1, f1⟩ := T4.2 1 _ rfl; obtain ⟨c2, f2⟩ := T4.2 2 _ rfl; obtain ⟨c3, f3⟩ := T4.2 3 _ rfl; obtain ⟨c4, f4⟩ := T5.2 0 _ rfl; obtain ⟨c5, f5⟩ := T5.2 1 _ rfl; obtain ⟨c6, f6⟩ := T5.2 2 _ rfl; have m_w2 := T5.1; have z_w2 := hb2.size; (try simp only [World.size_alloc] at z_w2); first | (have U2 : Has w2 wc.heap.size [.int .i64 0, .int .i64 0] := Has.below (by exact Has.new wc _ _) hb2; obtain ⟨c7, f7⟩ := U2.2 0 _ rfl; obtain ⟨c8, f8⟩ := U2.2 1 _ rfl) | skip)
          | (go_at_call 23; refine (toSpot_c s _).mono ?_; rintro e w3 ⟨rfl, hb3⟩; have R3 : Has w3 g [.int .i64 r.n, .int .i64 r.d] := Has.below (by first | exact R2 | exact R2.alloc _) hb3; have q_w3 := R3.1; have T6 : Has w3 w.heap.size [.int .i64 q.a, .int .i64 q.b, .int .i64 q.c, .int .i64 q.d] := Has.below (by first | exact T4 | exact T4.alloc _) hb3; have T7 : Has w3 (w.heap.size + 1) [.int .i64 s.x, .int .i64 s.y, .int .i64 s.d] := Has.below (by first | exact T5 | exact T5.alloc _) hb3; obtain ⟨c0, f0⟩ := T6.2 0 _ rfl; obtain ⟨c1, f1⟩ := T6.2 1 _ rfl; obtain ⟨c2, f2⟩ := T6.2 2 _ rfl; obtain ⟨c3, f3⟩ := T6.2 3 _ rfl; obtain ⟨c4, f4⟩ := T7.2 0 _ rfl; obtain ⟨c5, f5⟩ := T7.2 1 _ rfl; obtain ⟨c6, f6⟩ := T7.2 2 _ rfl; have m_w3 := T7.1; have z_w3 := hb3.size; (try simp only [World.size_alloc] at z_w3); first | (have U3 : Has w3 w2.heap.size [.int .i64 0, .int .i64 0] := Has.below (by exact Has.new w2 _ _) hb3; obtain ⟨c7, f7⟩ := U3.2 0 _ rfl; obtain ⟨c8, f8⟩ := U3.2 1 _ rfl) | (have U3 : Has w3 wc.heap.size [.int .i64 0, .int .i64 0] := Has.below (by exact U2) hb3; obtain ⟨c7, f7⟩ := U3.2 0 _ rfl; obtain ⟨c8, f8⟩ := U3.2 1 _ rfl) | skip)
          | (go_at_call 24; refine (k2 _).mono ?_; rintro e w4 ⟨rfl, hb4⟩; have R4 : Has w4 g [.int .i64 r.n, .int .i64 r.d] := Has.below (by first | exact R3 | exact R3.alloc _) hb4; have q_w4 := R4.1; have T8 : Has w4 w.heap.size [.int .i64 q.a, .int .i64 q.b, .int .i64 q.c, .int .i64 q.d] := Has.below (by first | exact T6 | exact T6.alloc _) hb4; have T9 : Has w4 (w.heap.size + 1) [.int .i64 s.x, .int .i64 s.y, .int .i64 s.d] := Has.below (by first | exact T7 | exact T7.alloc _) hb4; obtain ⟨c0, f0⟩ := T8.2 0 _ rfl; obtain ⟨c1, f1⟩ := T8.2 1 _ rfl; obtain ⟨c2, f2⟩ := T8.2 2 _ rfl; obtain ⟨c3, f3⟩ := T8.2 3 _ rfl; obtain ⟨c4, f4⟩ := T9.2 0 _ rfl; obtain ⟨c5, f5⟩ := T9.2 1 _ rfl; obtain ⟨c6, f6⟩ := T9.2 2 _ rfl; have m_w4 := T9.1; have z_w4 := hb4.size; (try simp only [World.size_alloc] at z_w4); first | (have U4 : Has w4 w3.heap.size [.int .i64 0, .int .i64 0] := Has.below (by exact Has.new w3 _ _) hb4; obtain ⟨c7, f7⟩ := U4.2 0 _ rfl; obtain ⟨c8, f8⟩ := U4.2 1 _ rfl) | (have U4 : Has w4 w2.heap.size [.int .i64 0, .int .i64 0] := Has.below (by exact U3) hb4; obtain ⟨c7, f7⟩ := U4.2 0 _ rfl; obtain ⟨c8, f8⟩ := U4.2 1 _ rfl) | (have U4 : Has w4 wc.heap.size [.int .i64 0, .int .i64 0] := Has.below (by exact U3) hb4; obtain ⟨c7, f7⟩ := U4.2 0 _ rfl; obtain ⟨c8, f8⟩ := U4.2 1 _ rfl) | skip))
      all_goals
        go_wp2_with fail
        go_meet
        refine ⟨⟨_, rfl, rfl, ?_, ?_, ?_, ?_⟩, ?_⟩
        · first | exact Has.new _ _ _ | exact Has.stored U4 [_, _] rfl
        · first | exact T8.alloc _ | exact (T8.set_ (by simp; omega) _).set_ (by simp; omega) _
        · first | exact T9.alloc _ | exact (T9.set_ (by simp; omega) _).set_ (by simp; omega) _
        · have y2 : Below w.heap.size w w2 := below_tr (by first | exact hbw2.drew | exact below_al hbw2.drew _) hb2
          have y3 : Below w.heap.size w w3 := below_tr (by first | exact y2 | exact below_al y2 _) hb3
          have y4 : Below w.heap.size w w4 := below_tr (by first | exact y3 | exact below_al y3 _) hb4
          first | exact below_al y4 _ | exact below_st (below_st y4 (by simp; omega) _) (by simp; omega) _
        · first | exact R4.alloc _ | exact (R4.set_ (by simp; omega) _).set_ (by simp; omega) _
    case rest =>
      obtain ⟨⟨g2, rfl, rfl, HR2, _, _, hbw3⟩, HR1⟩ := hcut
      clear HR HA2 HB2 hbw2 k2
      rename_i wd
      obtain ⟨cHR2_0, fHR2_0⟩ := HR2.2 0 _ rfl
      obtain ⟨cHR2_1, fHR2_1⟩ := HR2.2 1 _ rfl
      obtain ⟨cHR1_0, fHR1_0⟩ := HR1.2 0 _ rfl
      obtain ⟨cHR1_1, fHR1_1⟩ := HR1.2 1 _ rfl
      go_wp2_with fail
      refine (eqRatio_t r _).mono ?_
      rintro e w5 ⟨rfl, hb5⟩
      have hbw4 := below_tr hbw3 hb5
      go_wp2
      go_ret
      exact ⟨rfl, hbw4⟩

set_option maxRecDepth 100000 in
theorem lifted_PieceAt (os : Os) (started : os.Started) (H : Type) (enc : TypeId × Value → H) :
    ReturnsInHanded {} Try.checked os 6 .any (Rows.fnExactPieceAtSpec.pre6 enc Try.prog Try.f6 Rows.fnExactPieceAtRow.domain false) (Rows.fnExactPieceAtSpec.post enc Try.prog Try.f6 false true false false) := by
  refine returnsInHanded_of_change (C := Try.checked) own_ started (by kernel_rfl) Try.func6
    (ChangeSpec.witness6 (enc := enc) (C := Try.checked) false ⟨#[], #[.agg #[.int .i64 0, .int .i64 0, .int .i64 0, .int .i64 0], .agg #[.int .i64 0, .int .i64 0, .int .i64 0]], []⟩ 8 (by kernel_rfl) (by kernel_rfl) (by kernel_rfl) (by kernel_rfl)) ?_
  intro W base args ds gs before hval0 hW hcnd _
  have hval : ∀ (j : Nat) t v, Try.f6.params[j]? = some t → args[j]? = some v → Value.okWide Try.prog W .any base t v := hval0
  have hW' := hW
  obtain ⟨p, q, hA0, hV, rfl, hfz, hnd⟩ := hW
  have hA : DataW.TrodAll enc Try.prog W 0 (fun _ => true) true Try.f6.params.toList args.toList ds p := hA0
  rw [Try.params6] at hA hval
  obtain ⟨v0, vs0, d0, ds0, p0, q0, hargs, rfl, rfl, h0, r0⟩ := trodAll_cons hA
  obtain ⟨v1, vs1, d1, ds1, p1, q1, rfl, rfl, rfl, h1, r1⟩ := trodAll_cons r0
  obtain ⟨rfl, rfl, rfl⟩ := trodAll_nil r1
  obtain rfl : args = #[v0, v1] := by cases args; simp_all
  obtain ⟨rfl, rfl⟩ := trodVars_none hV
  have k0 := h0
  have lt0 : ∀ x ∈ p0, x.block < W.heap.size := by obtain ⟨m, hm⟩ := k0; exact DataW.trod_lt m _ _ _ hm
  have ok0 := hval 0 40 v0 rfl rfl
  have k1 := h1
  have lt1 : ∀ x ∈ p1, x.block < W.heap.size := by obtain ⟨m, hm⟩ := k1; exact DataW.trod_lt m _ _ _ hm
  have ok1 := hval 1 42 v1 rfl rfl
  obtain ⟨q, hq, rfl⟩ := openPiece ok0 h0
  obtain ⟨s, hs, rfl⟩ := openSpot ok1 h1
  refine (walkPieceAt q s W hq hs).mono fun e W' ⟨he, bel⟩ => ?_
  subst he
  exact ⟨_, rfl, _, _, _, [], _, [], hW', trodAll_mk1 (shut_bool Try.underlying4 _), (trodAll_cons_mk (Below.trod laidOut_ (by kernel_rfl) (of_decide_eq_true (by kernel_rfl)) k0 bel lt0) (trodAll_cons_mk (Below.trod laidOut_ (by kernel_rfl) (of_decide_eq_true (by kernel_rfl)) k1 bel lt1) trodAll_mk0)), rfl, bel.frame _, fun h => by cases h⟩

/-- The statement. -/
theorem law_PieceAt : Rows.FnExactPieceAtSaid :=
  OpenClaim.holds_of_wide 6 Try.f6 rfl rfl rfl rfl rfl rfl rfl ⟨rfl, rfl, rfl, rfl, rfl⟩ rfl rfl rfl rfl rfl (by kernel_rfl) Try.func6 (by kernel_rfl)
    (of_decide_eq_true (by kernel_rfl)) (by unfold Func.isWrapper; first | (rw [if_pos (by decide +kernel)]; kernel_rfl) | (rw [if_neg (by decide +kernel)]; exact ⟨rfl, rfl⟩))
    (fun os started H enc _ => lifted_PieceAt os started H enc)
#print axioms law_PieceAt
end Go.Proofs.Ytbdmmfboiilamaa
