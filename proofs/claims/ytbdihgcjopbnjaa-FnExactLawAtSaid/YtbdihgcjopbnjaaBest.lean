/-
  The first greatest (or least) one of the values of pieces: of the program (extreme) and of the reference (l12Best).
  Conditions: the slice reads as a list of at most 2^20 pieces.
-/
import Derived.Test.YtbdihgcjopbnjaaPiece
import Derived.Test.YtbdihgcjopbnjaaCmp4
import Derived.Test.YtbdihgcjopbnjaaKeep
import Derived.Deep.RegionHeld3
import Derived.Deep.DeepMust
import Derived.Deep.DeepCutAuto
namespace Go.Proofs.Ytbdihgcjopbnjaa
open Go.RowKit

def bestAt (val : Nat → Ratio) (g : Int) : Nat → Int × Ratio
  | 0 => (-1, ratio0)
  | k + 1 => if (bestAt val g k).1 < 0 ∨ 0 < g * ratioCmp (val k) (bestAt val g k).2 then ((k : Int), val k) else bestAt val g k
def allOk (val : Nat → Ratio) (n : Nat) : Bool := (List.range n).all fun k => ratioOk (val k)
def bestR (val : Nat → Ratio) (g : Int) (n : Nat) : Int × Ratio := if allOk val n = true then bestAt val g n else (-1, ratio0)
theorem bestAt_bd (val : Nat → Ratio) (g : Int) : ∀ k : Nat, -1 ≤ (bestAt val g k).1 ∧ (bestAt val g k).1 < (k : Int)
  | 0 => by simp [bestAt]
  | k + 1 => by
    have := bestAt_bd val g k
    rw [bestAt]; split
    · exact ⟨by simp only; omega, by simp only; omega⟩
    · omega
theorem allOk_no {val : Nat → Ratio} {n k : Nat} (h : k < n) (hk : ratioOk (val k) = false) : allOk val n = false := by
  unfold allOk; rw [List.all_eq_false]; exact ⟨k, List.mem_range.2 h, by simp [hk]⟩
theorem allOk_yes {val : Nat → Ratio} {n : Nat} (h : ∀ k, k < n → ratioOk (val k) = true) : allOk val n = true := by
  unfold allOk; rw [List.all_eq_true]; intro k hk; exact h k (List.mem_range.1 hk)
theorem bestAt_in {val : Nat → Ratio} {g : Int} : ∀ k : Nat, (∀ j, j < k → ratioOk (val j) = true) → (bestAt val g k).2.In
  | 0, _ => by simp only [bestAt]; exact ⟨⟨by decide, by decide⟩, ⟨by decide, by decide⟩⟩
  | k + 1, h => by
    have := bestAt_in (g := g) k (fun j hj => h j (by omega))
    rw [bestAt]; split
    · have hb := ratioOk_bd (h k (by omega))
      exact ⟨⟨by simp only; omega, by simp only; omega⟩, ⟨by simp only; omega, by simp only; omega⟩⟩
    · exact this
theorem bestAt_yes {val : Nat → Ratio} {g : Int} {k : Nat} (h : (bestAt val g k).1 < 0 ∨ 0 < g * ratioCmp (val k) (bestAt val g k).2) : bestAt val g (k + 1) = ((k : Int), val k) := by
  rw [bestAt, if_pos h]
theorem bestAt_no {val : Nat → Ratio} {g : Int} {k : Nat} (h : ¬((bestAt val g k).1 < 0 ∨ 0 < g * ratioCmp (val k) (bestAt val g k).2)) : bestAt val g (k + 1) = bestAt val g k := by
  rw [bestAt, if_neg h]
theorem bestAt_congr {v v' : Nat → Ratio} {g : Int} : ∀ n : Nat, (∀ k, k < n → v k = v' k) → bestAt v g n = bestAt v' g n
  | 0, _ => rfl
  | n + 1, h => by rw [bestAt, bestAt, bestAt_congr n (fun k hk => h k (by omega)), h n (by omega)]
theorem bestR_congr {v v' : Nat → Ratio} {g : Int} {n : Nat} (h : ∀ k, k < n → v k = v' k) : bestR v g n = bestR v' g n := by
  unfold bestR
  rw [bestAt_congr n h]
  have : allOk v n = allOk v' n := by
    rw [Bool.eq_iff_iff]; unfold allOk; rw [List.all_eq_true, List.all_eq_true]
    constructor
    · intro hh k hk; rw [← h k (List.mem_range.1 hk)]; exact hh k hk
    · intro hh k hk; rw [h k (List.mem_range.1 hk)]; exact hh k hk
  rw [this]
def pc0 : Piece := ⟨0, 0, 0, 0⟩
def valV (xs : List Piece) (s : Spot) (k : Nat) : Ratio := pieceVal (xs.getD k pc0) s
def valA (xs : List Piece) (s : Spot) (k : Nat) : Ratio := pieceAt (xs.getD k pc0) s
theorem valV_at {xs : List Piece} {s : Spot} {k : Nat} (h : k < xs.length) : valV xs s k = pieceVal xs[k] s := by
  unfold valV; rw [List.getD_eq_getElem?_getD, List.getElem?_eq_getElem h]; rfl
theorem valA_at {xs : List Piece} {s : Spot} {k : Nat} (h : k < xs.length) : valA xs s k = pieceAt xs[k] s := by
  unfold valA; rw [List.getD_eq_getElem?_getD, List.getElem?_eq_getElem h]; rfl

set_option maxRecDepth 100000 in
set_option maxHeartbeats 8000000 in
theorem extreme_c (A : Option Addr) (xs : List Piece) (cap : Nat) (s : Spot) (g : Int) (w : World) (hg : g = 1 ∨ g = -1) (hn : xs.length ≤ 1048576) (hall : ∀ q ∈ xs, pieceOk q = true) (hsp : spotOk s = true) (hs : Sl 4 pieceC w A xs) :
    Calls Try.prog 105 #[.slice A xs.length cap, spotV s, .int .i64 g] w fun e w' => e = .returned (.tuple #[.int .i64 (bestR (valV xs s) g xs.length).1, ratioV (bestR (valV xs s) g xs.length).2, .bool (allOk (valV xs s) xs.length)]) ∧ Below w.heap.size w w' := by
  obtain ⟨g1, g2⟩ : -1 ≤ g ∧ g ≤ 1 := by omega
  have HG := Lib.hid hg
  have HALL := Lib.hid hall
  clear hg hall
  go_enter Try.func105, Try.ntmps105
  go_wp2
  go_loopw [9, 11, 12, 13, 14, 18] (fun b _ _ _ _ i wr => ∃ k : Nat, k ≤ xs.length ∧ i = .int .i64 k ∧ b = .int .i64 (bestAt (valV xs s) g k).1 ∧ Hid (∀ j, j < k → ratioOk (valV xs s j) = true) ∧ Has wr (w.heap.size + 1 + 1) [.int .i64 (bestAt (valV xs s) g k).2.n, .int .i64 (bestAt (valV xs s) g k).2.d] ∧ Below (w.heap.size + 1 + 1) ((w.alloc (.cells #[.int .i64 s.x, .int .i64 s.y, .int .i64 s.d] 65)).alloc (.cells #[.int .i64 0, .int .i64 0] 41)) wr) (fun _ _ _ _ _ i _ => xs.length - (intOf i).toNat)
  case atStart =>
    refine ⟨0, Nat.zero_le _, rfl, rfl, by simp [Hid], ?_, ?_⟩
    · exact Has.new_at (by simp) _ _ rfl
    · exact (Below.refl _ _).alloc (by simp) _
  case round =>
    obtain ⟨k, hk, rfl, rfl, hok, HB, hbr⟩ := hrel
    have hbr' : Below ((w.alloc (.cells #[.int .i64 s.x, .int .i64 s.y, .int .i64 s.d] 65)).alloc (.cells #[.int .i64 0, .int .i64 0] 41)).heap.size ((w.alloc (.cells #[.int .i64 s.x, .int .i64 s.y, .int .i64 s.d] 65)).alloc (.cells #[.int .i64 0, .int .i64 0] 41)) wr := by simpa using hbr
    have HS : Has wr w.heap.size [.int .i64 s.x, .int .i64 s.y, .int .i64 s.d] := by
      repeat (first | ((with_reducible refine Has.new_at ?_ _ _ rfl); (first | rfl | (focus (simp; done)))) | (with_reducible refine Has.set_ ?_ ?_ _) | (with_reducible refine Has.alloc ?_ _) | (with_reducible refine Has.below ?_ (by assumption)) | (focus (simp; done)) | (focus (simp; omega)))
    have HZ : Has wr (w.heap.size + 1) [.int .i64 0, .int .i64 0] := by
      repeat (first | ((with_reducible refine Has.new_at ?_ _ _ rfl); (first | rfl | (focus (simp; done)))) | (with_reducible refine Has.set_ ?_ ?_ _) | (with_reducible refine Has.alloc ?_ _) | (with_reducible refine Has.below ?_ (by assumption)) | (focus (simp; done)) | (focus (simp; omega)))
    have hbw : Below w.heap.size w wr := by
      repeat (first | (with_reducible exact Below.refl _ _) | (with_reducible assumption) | (with_reducible refine below_al ?_ _) | (with_reducible refine Below.drew ?_) | (with_reducible refine below_drewN ?_ _) | (with_reducible refine below_st ?_ ?_ _) | (with_reducible refine below_tr ?_ (by assumption)) | (with_reducible exact Nat.le_refl _) | (focus (simp; done)) | (focus (simp; omega)))
    have hsw : Sl 4 pieceC wr A xs := Sl.below hs hbw
    obtain ⟨bb1, bb2⟩ := bestAt_bd (valV xs s) g k
    have hin := bestAt_in (g := g) k hok.out
    have lS := HS.1
    obtain ⟨cHS_0, fHS_0⟩ := HS.2 0 _ rfl
    obtain ⟨cHS_1, fHS_1⟩ := HS.2 1 _ rfl
    obtain ⟨cHS_2, fHS_2⟩ := HS.2 2 _ rfl
    clear hbr' hs
    by_cases hlt : k < xs.length
    · obtain ⟨b, off, rfl, hblt, hc⟩ := hsw.at_ hlt
      have g0 := hc 0 _ rfl
      have g1' := hc 1 _ rfl
      have g2' := hc 2 _ rfl
      have g3 := hc 3 _ rfl
      have c1 := fun W => ipieceAt_c xs[k] s W (HALL.out _ (List.getElem_mem hlt)) hsp
      rw [← valV_at (s := s) hlt] at c1
      have hyes := Lib.hid (fun h => @bestAt_yes (valV xs s) g k h)
      have hno := Lib.hid (fun h => @bestAt_no (valV xs s) g k h)
      have hbad := Lib.hid (fun h => @allOk_no (valV xs s) _ _ hlt h)
      have hok1 := Lib.hid (fun (h : ratioOk (valV xs s k) = true) => show ∀ j, j < k + 1 → ratioOk (valV xs s j) = true from by
        intro j hj
        rcases Nat.lt_or_ge j k with h2 | h2
        · exact hok.out j h2
        · obtain rfl : j = k := by omega
          exact h)
      have i1 : (k : Int) < (xs.length : Int) := by omega
      clear hc hok
      simp only [Nat.add_zero] at g0
      generalize xs[k] = q at *
      have hvin := fun h => @ratioOk_bd (valV xs s k) h
      generalize bestAt (valV xs s) g k = st at *
      generalize valV xs s k = v at *
      cases hv : ratioOk v
      · rw [hv] at c1
        have e1 := Lib.hid (show bestR (valV xs s) g xs.length = (-1, ratio0) by unfold bestR; rw [hbad.out hv]; rfl)
        have e2 := Lib.hid (hbad.out hv)
        clear hyes hno hbad hok1
        go_wp2_with (fail)
        refine (c1 _).mono ?_
        rintro e w1 ⟨rfl, hb1⟩
        have H := (HZ.alloc (.cells #[.int .i64 q.a, .int .i64 q.b, .int .i64 q.c, .int .i64 q.d] 193)).below hb1
        have lH := H.1
        obtain ⟨cH_0, fH_0⟩ := H.2 0 _ rfl
        obtain ⟨cH_1, fH_1⟩ := H.2 1 _ rfl
        go_wp2
        refine bodyPost_ret (v := .tuple #[.int .i64 (-1), .agg #[.int .i64 0, .int .i64 0], .bool false]) (by simp [results, Try.results105, go_sem, cH_0, cH_1, H.1]) rfl ⟨by rw [e1.out, e2.out]; rfl, ?_⟩
        repeat (first | (with_reducible exact Below.refl _ _) | (with_reducible assumption) | (with_reducible refine below_al ?_ _) | (with_reducible refine Below.drew ?_) | (with_reducible refine below_drewN ?_ _) | (with_reducible refine below_st ?_ ?_ _) | (with_reducible refine below_tr ?_ (by assumption)) | (with_reducible exact Nat.le_refl _) | (focus (simp; done)) | (focus (simp; omega)))
      · rw [hv] at c1
        have hvi := hvin hv
        have hok2 := Lib.hid (hok1.out hv)
        have hbd := ratioCmp_bd v st.2
        have c2 := fun W => iRatioCmp_c v st.2 W ⟨⟨by omega, by omega⟩, ⟨by omega, by omega⟩⟩ hin
        clear hvin hbad hok1 hin hvi
        generalize ratioCmp v st.2 = cm at *
        obtain ⟨cm1, cm2⟩ := hbd
        have hm : -1 ≤ g * cm ∧ g * cm ≤ 1 := by rcases HG.out with h | h <;> subst h <;> omega
        obtain ⟨hm1, hm2⟩ := hm
        go_wp2_with (fail)
        refine (c1 _).mono ?_
        rintro e w1 ⟨rfl, hb1⟩
        have HB1 := (HB.alloc (.cells #[.int .i64 q.a, .int .i64 q.b, .int .i64 q.c, .int .i64 q.d] 193)).below hb1
        have HB2 := HB1.alloc (.cells #[.int .i64 v.n, .int .i64 v.d] 41)
        have HV := Has.new w1 #[.int .i64 v.n, .int .i64 v.d] 41
        have hlw := hbr.size
        simp only [World.size_alloc] at hlw
        have hs1 := hb1.size
        simp only [World.size_alloc] at hs1
        have BW := (((hbr.alloc hlw (.cells #[.int .i64 q.a, .int .i64 q.b, .int .i64 q.c, .int .i64 q.d] 193)).trans (hb1.mono (by simp; omega)))).alloc (show w.heap.size + 1 + 1 ≤ w1.heap.size by omega) (.cells #[.int .i64 v.n, .int .i64 v.d] 41)
        have nv : w1.heap.size ≠ w.heap.size + 1 + 1 := by omega
        clear hb1 hbr hbw HS HZ hsw HB HB1 c1 cHS_0 cHS_1 cHS_2 fHS_0 fHS_1 fHS_2 lS g0 g1' g2' g3 hs1 hlw hblt
        go_upto_region 8 with fail
        generalize hW : w1.alloc (.cells #[.int .i64 v.n, .int .i64 v.d] 41) = w2 at *
        clear hW
        generalize hgv : w1.heap.size = gv at *
        clear hgv
        have lV := HV.1
        have lB := HB2.1
        by_cases hb0 : st.1 < 0
        · have hbest := Lib.hid (hyes.out (.inl hb0))
          clear hyes hno c2
          obtain ⟨cHV_0, fHV_0⟩ := HV.2 0 _ rfl
          obtain ⟨cHV_1, fHV_1⟩ := HV.2 1 _ rfl
          obtain ⟨cHB2_0, fHB2_0⟩ := HB2.2 0 _ rfl
          obtain ⟨cHB2_1, fHB2_1⟩ := HB2.2 1 _ rfl
          go_upto_region 9 with fail
          have k0 : ((w2.setCell ⟨w.heap.size + 1 + 1, 0, none⟩ (.int .i64 v.n)).setCell ⟨w.heap.size + 1 + 1, 1, none⟩ (.int .i64 v.d)).cell? ⟨gv, 0, none⟩ = some (.int .i64 v.n) := by
            rw [World.cell?_setCell_other _ _ _ _ (by intro h; injection h with h1; omega), World.cell?_setCell_other _ _ _ _ (by intro h; injection h with h1; omega)]; assumption
          have k1 : ((w2.setCell ⟨w.heap.size + 1 + 1, 0, none⟩ (.int .i64 v.n)).setCell ⟨w.heap.size + 1 + 1, 1, none⟩ (.int .i64 v.d)).cell? ⟨gv, 1, none⟩ = some (.int .i64 v.d) := by
            rw [World.cell?_setCell_other _ _ _ _ (by intro h; injection h with h1; omega), World.cell?_setCell_other _ _ _ _ (by intro h; injection h with h1; omega)]; assumption
          go_region_held3 (fun w' => w'.cell? ⟨gv, 0, none⟩ = some (.int .i64 v.n) ∧ w'.cell? ⟨gv, 1, none⟩ = some (.int .i64 v.d)) (first | go_keep | exact ⟨k0, k1⟩)
            (fail)
          go_wp2
          go_roundw
          case rel =>
            refine ⟨k + 1, by omega, by go_num, by rw [hbest.out], hok2, ?_, ?_⟩
            · rw [hbest.out]; exact Has.stored HB2 [_, _] rfl
            · exact (BW.drew.setCell (Nat.le_refl _) _).setCell (Nat.le_refl _) _
          case measure => simp [intOf]; omega
        · by_cases hp : 0 < g * cm
          · have hbest := Lib.hid (hyes.out (.inr hp))
            clear hyes hno
            obtain ⟨cHV_0, fHV_0⟩ := HV.2 0 _ rfl
            obtain ⟨cHV_1, fHV_1⟩ := HV.2 1 _ rfl
            obtain ⟨cHB2_0, fHB2_0⟩ := HB2.2 0 _ rfl
            obtain ⟨cHB2_1, fHB2_1⟩ := HB2.2 1 _ rfl
            go_wp2_with (fail)
            refine (c2 _).mono ?_
            rintro e w3 ⟨rfl, hb3⟩
            clear cHV_0 cHV_1 cHB2_0 cHB2_1 fHV_0 fHV_1 fHB2_0 fHB2_1
            have HV3 := HV.below hb3
            have HB3 := HB2.below hb3
            have BW3 := BW.trans (hb3.mono (Nat.le_of_lt lB))
            obtain ⟨cHV3_0, fHV3_0⟩ := HV3.2 0 _ rfl
            obtain ⟨cHV3_1, fHV3_1⟩ := HV3.2 1 _ rfl
            obtain ⟨cHB3_0, fHB3_0⟩ := HB3.2 0 _ rfl
            obtain ⟨cHB3_1, fHB3_1⟩ := HB3.2 1 _ rfl
            clear HV HB2 BW hb3 c2
            go_upto_region 9 with fail
            have k0 : ((w3.setCell ⟨w.heap.size + 1 + 1, 0, none⟩ (.int .i64 v.n)).setCell ⟨w.heap.size + 1 + 1, 1, none⟩ (.int .i64 v.d)).cell? ⟨gv, 0, none⟩ = some (.int .i64 v.n) := by
              rw [World.cell?_setCell_other _ _ _ _ (by intro h; injection h with h1; omega), World.cell?_setCell_other _ _ _ _ (by intro h; injection h with h1; omega)]; assumption
            have k1 : ((w3.setCell ⟨w.heap.size + 1 + 1, 0, none⟩ (.int .i64 v.n)).setCell ⟨w.heap.size + 1 + 1, 1, none⟩ (.int .i64 v.d)).cell? ⟨gv, 1, none⟩ = some (.int .i64 v.d) := by
              rw [World.cell?_setCell_other _ _ _ _ (by intro h; injection h with h1; omega), World.cell?_setCell_other _ _ _ _ (by intro h; injection h with h1; omega)]; assumption
            go_region_held3 (fun w' => w'.cell? ⟨gv, 0, none⟩ = some (.int .i64 v.n) ∧ w'.cell? ⟨gv, 1, none⟩ = some (.int .i64 v.d)) (first | go_keep | exact ⟨k0, k1⟩)
              (fail)
            go_wp2
            go_roundw
            case rel =>
              refine ⟨k + 1, by omega, by go_num, by rw [hbest.out], hok2, ?_, ?_⟩
              · rw [hbest.out]; exact Has.stored HB3 [_, _] rfl
              · exact (BW3.drew.setCell (Nat.le_refl _) _).setCell (Nat.le_refl _) _
            case measure => simp [intOf]; omega
          · have hbest := Lib.hid (hno.out (by omega))
            clear hyes hno
            obtain ⟨cHV_0, fHV_0⟩ := HV.2 0 _ rfl
            obtain ⟨cHV_1, fHV_1⟩ := HV.2 1 _ rfl
            obtain ⟨cHB2_0, fHB2_0⟩ := HB2.2 0 _ rfl
            obtain ⟨cHB2_1, fHB2_1⟩ := HB2.2 1 _ rfl
            go_wp2_with (fail)
            refine (c2 _).mono ?_
            rintro e w3 ⟨rfl, hb3⟩
            have HB3 := HB2.below hb3
            have BW3 := BW.trans (hb3.mono (Nat.le_of_lt lB))
            go_wp2
            go_roundw
            case rel =>
              refine ⟨k + 1, by omega, by go_num, by rw [hbest.out], hok2, ?_, BW3⟩
              rw [hbest.out]; exact HB3
            case measure => simp [intOf]; omega
    · obtain rfl : k = xs.length := by omega
      have e2 := Lib.hid (allOk_yes hok.out)
      have e1 := Lib.hid (show bestR (valV xs s) g xs.length = bestAt (valV xs s) g xs.length by unfold bestR; rw [e2.out]; rfl)
      clear hok hin
      generalize bestAt (valV xs s) g xs.length = st at *
      obtain ⟨cHB_0, fHB_0⟩ := HB.2 0 _ rfl
      obtain ⟨cHB_1, fHB_1⟩ := HB.2 1 _ rfl
      obtain ⟨cHZ_0, fHZ_0⟩ := HZ.2 0 _ rfl
      obtain ⟨cHZ_1, fHZ_1⟩ := HZ.2 1 _ rfl
      go_upto_region 11 with fail
      go_region_held3 (fun w' => w'.cell? ⟨w.heap.size + 1 + 1, 0, none⟩ = some (.int .i64 st.2.n) ∧ w'.cell? ⟨w.heap.size + 1 + 1, 1, none⟩ = some (.int .i64 st.2.d)) (first | go_keep | (refine ⟨?_, ?_⟩ <;> (show (World.setCell (World.setCell _ _ _) _ _).cell? _ = _; rw [World.cell?_setCell_other _ _ _ _ (by intro h; injection h with h1; omega), World.cell?_setCell_other _ _ _ _ (by intro h; injection h with h1; omega)]; assumption)))
        (fail)
      go_wp2
      refine bodyPost_ret (v := .tuple #[.int .i64 st.1, .agg #[.int .i64 st.2.n, .int .i64 st.2.d], .bool true]) (by simp [results, Try.results105, go_sem, cHZ_0, cHZ_1]) rfl ⟨by rw [e1.out, e2.out], ?_⟩
      repeat (first | (with_reducible exact Below.refl _ _) | (with_reducible assumption) | (with_reducible refine below_al ?_ _) | (with_reducible refine Below.drew ?_) | (with_reducible refine below_drewN ?_ _) | (with_reducible refine below_st ?_ ?_ _) | (with_reducible refine below_tr ?_ (by assumption)) | (with_reducible exact Nat.le_refl _) | (focus (simp; done)) | (focus (simp; omega)))
end Go.Proofs.Ytbdihgcjopbnjaa
