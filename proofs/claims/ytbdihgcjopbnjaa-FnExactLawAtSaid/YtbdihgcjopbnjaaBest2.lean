/-
  The first greatest (or least) one of the values of pieces: of the reference (l12Best).
  Conditions: the slice reads as a list of at most 2^20 pieces.
-/
import Derived.Test.YtbdihgcjopbnjaaBest
namespace Go.Proofs.Ytbdihgcjopbnjaa
open Go.RowKit

set_option maxRecDepth 100000 in
set_option maxHeartbeats 8000000 in
theorem l12Best_c (A : Option Addr) (xs : List Piece) (cap : Nat) (s : Spot) (g : Int) (w : World) (hg : g = 1 ∨ g = -1) (hn : xs.length ≤ 1048576) (hall : ∀ q ∈ xs, q.In) (hsp : s.In) (hs : Sl 4 pieceC w A xs) :
    Calls Try.prog 100 #[.slice A xs.length cap, spotV s, .int .i64 g] w fun e w' => e = .returned (.tuple #[.int .i64 (bestR (valA xs s) g xs.length).1, ratioV (bestR (valA xs s) g xs.length).2]) ∧ Below w.heap.size w w' := by
  obtain ⟨g1, g2⟩ : -1 ≤ g ∧ g ≤ 1 := by omega
  have HG := Lib.hid hg
  have HALL := Lib.hid hall
  clear hg hall
  go_enter Try.func100, Try.ntmps100
  go_wp2
  go_loopw [8, 10, 11, 12, 13, 17] (fun b _ _ _ _ i wr => ∃ k : Nat, k ≤ xs.length ∧ i = .int .i64 k ∧ b = .int .i64 (bestAt (valA xs s) g k).1 ∧ Hid (∀ j, j < k → ratioOk (valA xs s j) = true) ∧ Has wr (w.heap.size + 1 + 1) [.int .i64 (bestAt (valA xs s) g k).2.n, .int .i64 (bestAt (valA xs s) g k).2.d] ∧ Below (w.heap.size + 1 + 1) ((w.alloc (.cells #[.int .i64 s.x, .int .i64 s.y, .int .i64 s.d] 65)).alloc (.cells #[.int .i64 0, .int .i64 0] 41)) wr) (fun _ _ _ _ _ i _ => xs.length - (intOf i).toNat)
  case atStart =>
    refine ⟨0, Nat.zero_le _, rfl, rfl, by simp [Hid], ?_, ?_⟩
    · exact Has.new_at (by simp) _ _ rfl
    · exact (Below.refl _ _).alloc (by simp) _
  case round =>
    obtain ⟨k, hk, rfl, rfl, hok, HB, hbr⟩ := hrel
    have hbr' : Below ((w.alloc (.cells #[.int .i64 s.x, .int .i64 s.y, .int .i64 s.d] 65)).alloc (.cells #[.int .i64 0, .int .i64 0] 41)).heap.size ((w.alloc (.cells #[.int .i64 s.x, .int .i64 s.y, .int .i64 s.d] 65)).alloc (.cells #[.int .i64 0, .int .i64 0] 41)) wr := by simpa using hbr
    have HS : Has wr w.heap.size [.int .i64 s.x, .int .i64 s.y, .int .i64 s.d] := by
      repeat (first | ((with_reducible refine Has.new_at ?_ _ _ rfl); (first | rfl | (focus (simp; done)))) | (with_reducible refine Has.set_ ?_ ?_ _) | (with_reducible refine Has.alloc ?_ _) | (with_reducible refine Has.below ?_ (by assumption)) | (focus (simp; done)) | (focus (simp; omega)))
    have HZ : Has wr (w.heap.size + 1) [.int .i64 0, .int .i64 0] := by
      repeat (first | ((with_reducible refine Has.new_at ?_ _ _ rfl); (first | rfl | (focus (simp; done)))) | (with_reducible refine Has.set_ ?_ ?_ _) | (with_reducible refine Has.alloc ?_ _) | (with_reducible refine Has.below ?_ (by assumption)) | (focus (simp; done)) | (focus (simp; omega)))
    have hbw : Below w.heap.size w wr := by
      repeat (first | (with_reducible exact Below.refl _ _) | (with_reducible assumption) | (with_reducible refine below_al ?_ _) | (with_reducible refine Below.drew ?_) | (with_reducible refine below_drewN ?_ _) | (with_reducible refine below_st ?_ ?_ _) | (with_reducible refine below_tr ?_ (by assumption)) | (with_reducible exact Nat.le_refl _) | (focus (simp; done)) | (focus (simp; omega)))
    have hsw : Sl 4 pieceC wr A xs := Sl.below hs hbw
    obtain ⟨bb1, bb2⟩ := bestAt_bd (valA xs s) g k
    have hin := bestAt_in (g := g) k hok.out
    have lS := HS.1
    obtain ⟨cHS_0, fHS_0⟩ := HS.2 0 _ rfl
    obtain ⟨cHS_1, fHS_1⟩ := HS.2 1 _ rfl
    obtain ⟨cHS_2, fHS_2⟩ := HS.2 2 _ rfl
    clear hbr' hs
    by_cases hlt : k < xs.length
    · obtain ⟨b, off, rfl, hblt, hc⟩ := hsw.at_ hlt
      have g0 := hc 0 _ rfl
      have g1' := hc 1 _ rfl
      have g2' := hc 2 _ rfl
      have g3 := hc 3 _ rfl
      have c1 := fun W => sPieceAt_c xs[k] s W (HALL.out _ (List.getElem_mem hlt)) hsp
      rw [← valA_at (s := s) hlt] at c1
      have hyes := Lib.hid (fun h => @bestAt_yes (valA xs s) g k h)
      have hno := Lib.hid (fun h => @bestAt_no (valA xs s) g k h)
      have hbad := Lib.hid (fun h => @allOk_no (valA xs s) _ _ hlt h)
      have hok1 := Lib.hid (fun (h : ratioOk (valA xs s k) = true) => show ∀ j, j < k + 1 → ratioOk (valA xs s j) = true from by
        intro j hj
        rcases Nat.lt_or_ge j k with h2 | h2
        · exact hok.out j h2
        · obtain rfl : j = k := by omega
          exact h)
      have i1 : (k : Int) < (xs.length : Int) := by omega
      clear hc hok
      simp only [Nat.add_zero] at g0
      generalize xs[k] = q at *
      have hvin := fun h => @ratioOk_bd (valA xs s k) h
      generalize bestAt (valA xs s) g k = st at *
      generalize valA xs s k = v at *
      cases hv : ratioOk v
      · rw [hv] at c1
        have e1 := Lib.hid (show bestR (valA xs s) g xs.length = (-1, ratio0) by unfold bestR; rw [hbad.out hv]; rfl)
        clear hyes hno hbad hok1
        go_wp2_with (fail)
        refine (c1 _).mono ?_
        rintro e w1 ⟨rfl, hb1⟩
        have H := (HZ.alloc (.cells #[.int .i64 q.a, .int .i64 q.b, .int .i64 q.c, .int .i64 q.d] 193)).below hb1
        have lH := H.1
        obtain ⟨cH_0, fH_0⟩ := H.2 0 _ rfl
        obtain ⟨cH_1, fH_1⟩ := H.2 1 _ rfl
        go_wp2
        refine bodyPost_ret (v := .tuple #[.int .i64 (-1), .agg #[.int .i64 0, .int .i64 0]]) (by simp [results, Try.results100, go_sem, cH_0, cH_1, H.1]) rfl ⟨by rw [e1.out]; rfl, ?_⟩
        repeat (first | (with_reducible exact Below.refl _ _) | (with_reducible assumption) | (with_reducible refine below_al ?_ _) | (with_reducible refine Below.drew ?_) | (with_reducible refine below_drewN ?_ _) | (with_reducible refine below_st ?_ ?_ _) | (with_reducible refine below_tr ?_ (by assumption)) | (with_reducible exact Nat.le_refl _) | (focus (simp; done)) | (focus (simp; omega)))
      · rw [hv] at c1
        have hvi := hvin hv
        have hok2 := Lib.hid (hok1.out hv)
        have hbd := ratioCmp_bd v st.2
        have c2 := fun W => sRatioCmp_c v st.2 W ⟨⟨by omega, by omega⟩, ⟨by omega, by omega⟩⟩ hin
        clear hvin hbad hok1 hin hvi
        generalize ratioCmp v st.2 = cm at *
        obtain ⟨cm1, cm2⟩ := hbd
        have hm : -1 ≤ g * cm ∧ g * cm ≤ 1 := by rcases HG.out with h | h <;> subst h <;> omega
        obtain ⟨hm1, hm2⟩ := hm
        go_wp2_with (fail)
        refine (c1 _).mono ?_
        rintro e w1 ⟨rfl, hb1⟩
        have HB1 := (HB.alloc (.cells #[.int .i64 q.a, .int .i64 q.b, .int .i64 q.c, .int .i64 q.d] 193)).below hb1
        have HB2 := HB1.alloc (.cells #[.int .i64 v.n, .int .i64 v.d] 41)
        have HV := Has.new w1 #[.int .i64 v.n, .int .i64 v.d] 41
        have hlw := hbr.size
        simp only [World.size_alloc] at hlw
        have hs1 := hb1.size
        simp only [World.size_alloc] at hs1
        have BW := (((hbr.alloc hlw (.cells #[.int .i64 q.a, .int .i64 q.b, .int .i64 q.c, .int .i64 q.d] 193)).trans (hb1.mono (by simp; omega)))).alloc (show w.heap.size + 1 + 1 ≤ w1.heap.size by omega) (.cells #[.int .i64 v.n, .int .i64 v.d] 41)
        have nv : w1.heap.size ≠ w.heap.size + 1 + 1 := by omega
        clear hb1 hbr hbw HS HZ hsw HB HB1 c1 cHS_0 cHS_1 cHS_2 fHS_0 fHS_1 fHS_2 lS g0 g1' g2' g3 hs1 hlw hblt
        go_upto_region 9 with fail
        generalize hW : w1.alloc (.cells #[.int .i64 v.n, .int .i64 v.d] 41) = w2 at *
        clear hW
        generalize hgv : w1.heap.size = gv at *
        clear hgv
        have lV := HV.1
        have lB := HB2.1
        by_cases hb0 : st.1 < 0
        · have hbest := Lib.hid (hyes.out (.inl hb0))
          clear hyes hno c2
          obtain ⟨cHV_0, fHV_0⟩ := HV.2 0 _ rfl
          obtain ⟨cHV_1, fHV_1⟩ := HV.2 1 _ rfl
          obtain ⟨cHB2_0, fHB2_0⟩ := HB2.2 0 _ rfl
          obtain ⟨cHB2_1, fHB2_1⟩ := HB2.2 1 _ rfl
          go_wp2
          go_roundw
          case rel =>
            refine ⟨k + 1, by omega, by go_num, by rw [hbest.out], hok2, ?_, ?_⟩
            · rw [hbest.out]; exact Has.stored HB2 [_, _] rfl
            · exact (BW.setCell (Nat.le_refl _) _).setCell (Nat.le_refl _) _
          case measure => simp [intOf]; omega
        · by_cases hp : 0 < g * cm
          · have hbest := Lib.hid (hyes.out (.inr hp))
            clear hyes hno
            obtain ⟨cHV_0, fHV_0⟩ := HV.2 0 _ rfl
            obtain ⟨cHV_1, fHV_1⟩ := HV.2 1 _ rfl
            obtain ⟨cHB2_0, fHB2_0⟩ := HB2.2 0 _ rfl
            obtain ⟨cHB2_1, fHB2_1⟩ := HB2.2 1 _ rfl
            go_wp2_with (fail)
            refine (c2 _).mono ?_
            rintro e w3 ⟨rfl, hb3⟩
            clear cHV_0 cHV_1 cHB2_0 cHB2_1 fHV_0 fHV_1 fHB2_0 fHB2_1
            have HV3 := HV.below hb3
            have HB3 := HB2.below hb3
            have BW3 := BW.trans (hb3.mono (Nat.le_of_lt lB))
            obtain ⟨cHV3_0, fHV3_0⟩ := HV3.2 0 _ rfl
            obtain ⟨cHV3_1, fHV3_1⟩ := HV3.2 1 _ rfl
            obtain ⟨cHB3_0, fHB3_0⟩ := HB3.2 0 _ rfl
            obtain ⟨cHB3_1, fHB3_1⟩ := HB3.2 1 _ rfl
            clear HV HB2 BW hb3 c2
            go_wp2
            go_roundw
            case rel =>
              refine ⟨k + 1, by omega, by go_num, by rw [hbest.out], hok2, ?_, ?_⟩
              · rw [hbest.out]; exact Has.stored HB3 [_, _] rfl
              · exact (BW3.setCell (Nat.le_refl _) _).setCell (Nat.le_refl _) _
            case measure => simp [intOf]; omega
          · have hbest := Lib.hid (hno.out (by omega))
            clear hyes hno
            obtain ⟨cHV_0, fHV_0⟩ := HV.2 0 _ rfl
            obtain ⟨cHV_1, fHV_1⟩ := HV.2 1 _ rfl
            obtain ⟨cHB2_0, fHB2_0⟩ := HB2.2 0 _ rfl
            obtain ⟨cHB2_1, fHB2_1⟩ := HB2.2 1 _ rfl
            go_wp2_with (fail)
            refine (c2 _).mono ?_
            rintro e w3 ⟨rfl, hb3⟩
            have HB3 := HB2.below hb3
            have BW3 := BW.trans (hb3.mono (Nat.le_of_lt lB))
            go_wp2
            go_roundw
            case rel =>
              refine ⟨k + 1, by omega, by go_num, by rw [hbest.out], hok2, ?_, BW3⟩
              rw [hbest.out]; exact HB3
            case measure => simp [intOf]; omega
    · obtain rfl : k = xs.length := by omega
      have e2 := Lib.hid (allOk_yes hok.out)
      have e1 := Lib.hid (show bestR (valA xs s) g xs.length = bestAt (valA xs s) g xs.length by unfold bestR; rw [e2.out]; rfl)
      clear hok hin
      generalize bestAt (valA xs s) g xs.length = st at *
      obtain ⟨cHB_0, fHB_0⟩ := HB.2 0 _ rfl
      obtain ⟨cHB_1, fHB_1⟩ := HB.2 1 _ rfl
      obtain ⟨cHZ_0, fHZ_0⟩ := HZ.2 0 _ rfl
      obtain ⟨cHZ_1, fHZ_1⟩ := HZ.2 1 _ rfl
      go_upto_region 13 with fail
      go_region_held3 (fun w' => w'.cell? ⟨w.heap.size + 1 + 1, 0, none⟩ = some (.int .i64 st.2.n) ∧ w'.cell? ⟨w.heap.size + 1 + 1, 1, none⟩ = some (.int .i64 st.2.d)) (first | go_keep | (refine ⟨?_, ?_⟩ <;> (show (World.setCell (World.setCell _ _ _) _ _).cell? _ = _; rw [World.cell?_setCell_other _ _ _ _ (by intro h; injection h with h1; omega), World.cell?_setCell_other _ _ _ _ (by intro h; injection h with h1; omega)]; assumption)))
        (fail)
      go_wp2
      refine bodyPost_ret (v := .tuple #[.int .i64 st.1, .agg #[.int .i64 st.2.n, .int .i64 st.2.d]]) (by simp [results, Try.results100, go_sem, cHZ_0, cHZ_1]) rfl ⟨by rw [e1.out], ?_⟩
      repeat (first | (with_reducible exact Below.refl _ _) | (with_reducible assumption) | (with_reducible refine below_al ?_ _) | (with_reducible refine Below.drew ?_) | (with_reducible refine below_drewN ?_ _) | (with_reducible refine below_st ?_ ?_ _) | (with_reducible refine below_tr ?_ (by assumption)) | (with_reducible exact Nat.le_refl _) | (focus (simp; done)) | (focus (simp; omega)))
end Go.Proofs.Ytbdihgcjopbnjaa
