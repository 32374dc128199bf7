/-
  LawAt: of the program and of the reference.
  Conditions: the slices hold at most 2^20 elements.
-/
import Derived.Test.YtbdihgcjopbnjaaAct
import Derived.Test.YtbdihgcjopbnjaaConv
import Derived.Deep.DeepCutAuto
namespace Go.Proofs.Ytbdihgcjopbnjaa
open Go.RowKit

def lawSpan (x : Law) (s : Spot) : Span := ⟨(actL x s).2, (actH x s).2⟩
def lawAtOk (x : Law) (s : Spot) : Bool := lawOk x && spanOk (lawSpan x s)
def lawAt (x : Law) (s : Spot) : Span := if lawAtOk x s = true then lawSpan x s else span0
theorem lawSpan_in {x : Law} {s : Spot} (h : lawOk x = true) : (lawSpan x s).In := by
  unfold lawSpan actL actH
  rw [if_pos h, if_pos h]
  exact ⟨bestR_in, bestR_in⟩
theorem lawSpan_bad {x : Law} {s : Spot} (h : lawOk x = true) (h1 : spotOk s = false) : spanOk (lawSpan x s) = false := by
  have hl := lawOk_iff.1 h
  unfold lawSpan actL actH
  rw [if_pos h, if_pos h, best_bad hl.1 h1, best_bad hl.2 h1]
  simp [spanOk, ratioOk_zero]

set_option maxRecDepth 100000 in
set_option maxHeartbeats 4000000 in
theorem sLawAt_c (x : Law) (a : LawA) (s : Spot) (w : World) (hn : lawLen x ≤ 1048576) (hin : LawIn x) (hsi : s.In) (hs : LawSl w x a) :
    Calls Try.prog 29 #[lawV x a, spotV s] w fun e w' => e = .returned (.tuple #[spanV (lawAt x s), .bool (lawAtOk x s)]) ∧ Below w.heap.size w w' := by
  have c0 := fun W h => sLawOk_c x a W hn hin h
  simp only [lawLen] at hn
  cases e0 : lawOk x
  · rw [e0] at c0
    have h1 := Lib.hid (show lawAt x s = span0 by simp [lawAt, lawAtOk, e0])
    have h2 := Lib.hid (show lawAtOk x s = false by simp [lawAtOk, e0])
    go_enter Try.func29, Try.ntmps29
    go_wp2_with (fail)
    refine (c0 _ (LawSl.below hs (by (repeat (first | (with_reducible exact Below.refl _ _) | (with_reducible assumption) | (with_reducible refine below_al ?_ _) | (with_reducible refine Below.drew ?_) | (with_reducible refine below_drewN ?_ _) | (with_reducible refine below_st ?_ ?_ _) | (with_reducible refine below_tr ?_ (by assumption)) | (with_reducible exact Nat.le_refl _) | (focus (simp; done)) | (focus (simp; omega))))))).mono ?_
    rintro e w1 ⟨rfl, hb1⟩
    have H : Has w1 (w.heap.size + 1 + 1) [.int .i64 0, .int .i64 0, .int .i64 0, .int .i64 0] := by
      repeat (first | ((with_reducible refine Has.new_at ?_ _ _ rfl); (first | rfl | (focus (simp; done)))) | (with_reducible refine Has.set_ ?_ ?_ _) | (with_reducible refine Has.alloc ?_ _) | (with_reducible refine Has.below ?_ (by assumption)) | (focus (simp; done)) | (focus (simp; omega)))
    obtain ⟨cH_0, fH_0⟩ := H.2 0 _ rfl
    obtain ⟨cH_1, fH_1⟩ := H.2 1 _ rfl
    obtain ⟨cH_2, fH_2⟩ := H.2 2 _ rfl
    obtain ⟨cH_3, fH_3⟩ := H.2 3 _ rfl
    have lH := H.1
    go_wp2
    refine bodyPost_ret (v := .tuple #[.agg #[.int .i64 0, .int .i64 0, .int .i64 0, .int .i64 0], .bool false]) (by simp [results, Try.results29, go_sem, cH_0, cH_1, cH_2, cH_3]) rfl ⟨by rw [h1.out, h2.out]; rfl, ?_⟩
    repeat (first | (with_reducible exact Below.refl _ _) | (with_reducible assumption) | (with_reducible refine below_al ?_ _) | (with_reducible refine Below.drew ?_) | (with_reducible refine below_drewN ?_ _) | (with_reducible refine below_st ?_ ?_ _) | (with_reducible refine below_tr ?_ (by assumption)) | (with_reducible exact Nat.le_refl _) | (focus (simp; done)) | (focus (simp; omega)))
  · rw [e0] at c0
    have c2 := fun W h => l12Best_c a.lows.A x.lows a.lows.c s 1 W (by decide) (by omega) hin.lows hsi h
    have c3 := fun W h => l12Best_c a.highs.A x.highs a.highs.c s (-1) W (by decide) (by omega) hin.highs hsi h
    have hL := show actL x s = bestR (valA x.lows s) 1 x.lows.length by unfold actL; rw [if_pos e0]
    have hH := show actH x s = bestR (valA x.highs s) (-1) x.highs.length by unfold actH; rw [if_pos e0]
    rw [← hL] at c2
    rw [← hH] at c3
    have c4 := fun W => sSpanOk_c (lawSpan x s) W (lawSpan_in e0)
    have h2 := show lawAtOk x s = spanOk (lawSpan x s) by simp [lawAtOk, e0]
    clear hL hH
    have hsp : lawSpan x s = ⟨(actL x s).2, (actH x s).2⟩ := rfl
    have h1 : lawAt x s = if spanOk (lawSpan x s) = true then lawSpan x s else span0 := by unfold lawAt; rw [h2]
    rw [h1, h2]
    rw [hsp] at c4 ⊢
    clear h1 h2 hsp
    generalize actL x s = L at *
    generalize actH x s = R at *
    cases e1 : spanOk ⟨L.2, R.2⟩
    · rw [e1] at c4
      go_enter Try.func29, Try.ntmps29
      go_wp2_with (fail)
      refine (c0 _ (LawSl.below hs (by (repeat (first | (with_reducible exact Below.refl _ _) | (with_reducible assumption) | (with_reducible refine below_al ?_ _) | (with_reducible refine Below.drew ?_) | (with_reducible refine below_drewN ?_ _) | (with_reducible refine below_st ?_ ?_ _) | (with_reducible refine below_tr ?_ (by assumption)) | (with_reducible exact Nat.le_refl _) | (focus (simp; done)) | (focus (simp; omega))))))).mono ?_
      rintro e w1 ⟨rfl, hb1⟩
      have r1 := bcell1 hb1
      have l0 : w.heap.size < w1.heap.size := blt hb1 (by first | (simp; done) | (simp; omega) | omega)
      have l1 : w.heap.size + 1 < w1.heap.size := blt hb1 (by first | (simp; done) | (simp; omega) | omega)
      go_wp2_with (fail)
      refine (c2 _ (Sl.below hs.lows (by (repeat (first | (with_reducible exact Below.refl _ _) | (with_reducible assumption) | (with_reducible refine below_al ?_ _) | (with_reducible refine Below.drew ?_) | (with_reducible refine below_drewN ?_ _) | (with_reducible refine below_st ?_ ?_ _) | (with_reducible refine below_tr ?_ (by assumption)) | (with_reducible exact Nat.le_refl _) | (focus (simp; done)) | (focus (simp; omega))))))).mono ?_
      rintro e w2 ⟨rfl, hb2⟩
      have r2 := bcell1 hb2
      have m0 : w.heap.size < w2.heap.size := blt hb2 (by first | (simp; done) | (simp; omega) | omega)
      have m1 : w.heap.size + 1 < w2.heap.size := blt hb2 (by first | (simp; done) | (simp; omega) | omega)
      go_wp2_with (fail)
      refine (c3 _ (Sl.below hs.highs (by (repeat (first | (with_reducible exact Below.refl _ _) | (with_reducible assumption) | (with_reducible refine below_al ?_ _) | (with_reducible refine Below.drew ?_) | (with_reducible refine below_drewN ?_ _) | (with_reducible refine below_st ?_ ?_ _) | (with_reducible refine below_tr ?_ (by assumption)) | (with_reducible exact Nat.le_refl _) | (focus (simp; done)) | (focus (simp; omega))))))).mono ?_
      rintro e w3 ⟨rfl, hb3⟩
      have r3 := bcell1 hb3
      have n2 : w2.heap.size < w3.heap.size := blt hb3 (by first | (simp; done) | (simp; omega) | omega)
      go_wp2_with (fail)
      refine (c4 _).mono ?_
      rintro e w4 ⟨rfl, hb4⟩
      have r4 := bcell1 hb4
      have o3 : w3.heap.size < w4.heap.size := blt hb4 (by first | (simp; done) | (simp; omega) | omega)
      have o4 : w3.heap.size + 1 < w4.heap.size := blt hb4 (by first | (simp; done) | (simp; omega) | omega)
      have H : Has w4 (w.heap.size + 1 + 1) [.int .i64 0, .int .i64 0, .int .i64 0, .int .i64 0] := by
        repeat (first | ((with_reducible refine Has.new_at ?_ _ _ rfl); (first | rfl | (focus (simp; done)))) | (with_reducible refine Has.set_ ?_ ?_ _) | (with_reducible refine Has.alloc ?_ _) | (with_reducible refine Has.below ?_ (by assumption)) | (focus (simp; done)) | (focus (simp; omega)))
      obtain ⟨cH_0, fH_0⟩ := H.2 0 _ rfl
      obtain ⟨cH_1, fH_1⟩ := H.2 1 _ rfl
      obtain ⟨cH_2, fH_2⟩ := H.2 2 _ rfl
      obtain ⟨cH_3, fH_3⟩ := H.2 3 _ rfl
      have lH := H.1
      go_wp2
      refine bodyPost_ret (v := .tuple #[.agg #[.int .i64 0, .int .i64 0, .int .i64 0, .int .i64 0], .bool false]) (by simp [results, Try.results29, go_sem, cH_0, cH_1, cH_2, cH_3]) rfl ⟨rfl, ?_⟩
      repeat (first | (with_reducible exact Below.refl _ _) | (with_reducible assumption) | (with_reducible refine below_al ?_ _) | (with_reducible refine Below.drew ?_) | (with_reducible refine below_drewN ?_ _) | (with_reducible refine below_st ?_ ?_ _) | (with_reducible refine below_tr ?_ (by assumption)) | (with_reducible exact Nat.le_refl _) | (focus (simp; done)) | (focus (simp; omega)))
    · rw [e1] at c4
      go_enter Try.func29, Try.ntmps29
      go_wp2_with (fail)
      refine (c0 _ (LawSl.below hs (by (repeat (first | (with_reducible exact Below.refl _ _) | (with_reducible assumption) | (with_reducible refine below_al ?_ _) | (with_reducible refine Below.drew ?_) | (with_reducible refine below_drewN ?_ _) | (with_reducible refine below_st ?_ ?_ _) | (with_reducible refine below_tr ?_ (by assumption)) | (with_reducible exact Nat.le_refl _) | (focus (simp; done)) | (focus (simp; omega))))))).mono ?_
      rintro e w1 ⟨rfl, hb1⟩
      have r1 := bcell1 hb1
      have l0 : w.heap.size < w1.heap.size := blt hb1 (by first | (simp; done) | (simp; omega) | omega)
      have l1 : w.heap.size + 1 < w1.heap.size := blt hb1 (by first | (simp; done) | (simp; omega) | omega)
      go_wp2_with (fail)
      refine (c2 _ (Sl.below hs.lows (by (repeat (first | (with_reducible exact Below.refl _ _) | (with_reducible assumption) | (with_reducible refine below_al ?_ _) | (with_reducible refine Below.drew ?_) | (with_reducible refine below_drewN ?_ _) | (with_reducible refine below_st ?_ ?_ _) | (with_reducible refine below_tr ?_ (by assumption)) | (with_reducible exact Nat.le_refl _) | (focus (simp; done)) | (focus (simp; omega))))))).mono ?_
      rintro e w2 ⟨rfl, hb2⟩
      have r2 := bcell1 hb2
      have m0 : w.heap.size < w2.heap.size := blt hb2 (by first | (simp; done) | (simp; omega) | omega)
      have m1 : w.heap.size + 1 < w2.heap.size := blt hb2 (by first | (simp; done) | (simp; omega) | omega)
      go_wp2_with (fail)
      refine (c3 _ (Sl.below hs.highs (by (repeat (first | (with_reducible exact Below.refl _ _) | (with_reducible assumption) | (with_reducible refine below_al ?_ _) | (with_reducible refine Below.drew ?_) | (with_reducible refine below_drewN ?_ _) | (with_reducible refine below_st ?_ ?_ _) | (with_reducible refine below_tr ?_ (by assumption)) | (with_reducible exact Nat.le_refl _) | (focus (simp; done)) | (focus (simp; omega))))))).mono ?_
      rintro e w3 ⟨rfl, hb3⟩
      have r3 := bcell1 hb3
      have n2 : w2.heap.size < w3.heap.size := blt hb3 (by first | (simp; done) | (simp; omega) | omega)
      go_wp2_with (fail)
      refine (c4 _).mono ?_
      rintro e w4 ⟨rfl, hb4⟩
      have r4 := bcell1 hb4
      have o3 : w3.heap.size < w4.heap.size := blt hb4 (by first | (simp; done) | (simp; omega) | omega)
      have o4 : w3.heap.size + 1 < w4.heap.size := blt hb4 (by first | (simp; done) | (simp; omega) | omega)
      have H : Has w4 (w.heap.size + 1 + 1) [.int .i64 0, .int .i64 0, .int .i64 0, .int .i64 0] := by
        repeat (first | ((with_reducible refine Has.new_at ?_ _ _ rfl); (first | rfl | (focus (simp; done)))) | (with_reducible refine Has.set_ ?_ ?_ _) | (with_reducible refine Has.alloc ?_ _) | (with_reducible refine Has.below ?_ (by assumption)) | (focus (simp; done)) | (focus (simp; omega)))
      obtain ⟨cH_0, fH_0⟩ := H.2 0 _ rfl
      obtain ⟨cH_1, fH_1⟩ := H.2 1 _ rfl
      obtain ⟨cH_2, fH_2⟩ := H.2 2 _ rfl
      obtain ⟨cH_3, fH_3⟩ := H.2 3 _ rfl
      have lH := H.1
      go_wp2
      refine bodyPost_ret (v := .tuple #[.agg #[.int .i64 L.2.n, .int .i64 L.2.d, .int .i64 R.2.n, .int .i64 R.2.d], .bool true]) (by simp [results, Try.results29, go_sem, cH_0, cH_1, cH_2, cH_3]) rfl ⟨rfl, ?_⟩
      repeat (first | (with_reducible exact Below.refl _ _) | (with_reducible assumption) | (with_reducible refine below_al ?_ _) | (with_reducible refine Below.drew ?_) | (with_reducible refine below_drewN ?_ _) | (with_reducible refine below_st ?_ ?_ _) | (with_reducible refine below_tr ?_ (by assumption)) | (with_reducible exact Nat.le_refl _) | (focus (simp; done)) | (focus (simp; omega)))
set_option maxRecDepth 100000 in
set_option maxHeartbeats 4000000 in
theorem iLawAt_c (x : Law) (a : LawA) (s : Spot) (w : World) (hn : lawLen x ≤ 1048576) (hin : LawIn x) (hsi : s.In) (hs : LawSl w x a) :
    Calls Try.prog 32 #[lawV x a, spotV s] w fun e w' => e = .returned (.tuple #[spanV (lawAt x s), .bool (lawAtOk x s)]) ∧ Below w.heap.size w w' := by
  have c0 := fun W h => iLawOk_c x a W hn hin h
  have c1 := fun W => iSpotOk_c s W hsi
  simp only [lawLen] at hn
  cases e0 : lawOk x
  · rw [e0] at c0
    have h1 := Lib.hid (show lawAt x s = span0 by simp [lawAt, lawAtOk, e0])
    have h2 := Lib.hid (show lawAtOk x s = false by simp [lawAtOk, e0])
    go_enter Try.func32, Try.ntmps32
    go_wp2_with (fail)
    refine (c0 _ (LawSl.below hs (by (repeat (first | (with_reducible exact Below.refl _ _) | (with_reducible assumption) | (with_reducible refine below_al ?_ _) | (with_reducible refine Below.drew ?_) | (with_reducible refine below_drewN ?_ _) | (with_reducible refine below_st ?_ ?_ _) | (with_reducible refine below_tr ?_ (by assumption)) | (with_reducible exact Nat.le_refl _) | (focus (simp; done)) | (focus (simp; omega))))))).mono ?_
    rintro e w1 ⟨rfl, hb1⟩
    have H : Has w1 (w.heap.size + 1 + 1) [.int .i64 0, .int .i64 0, .int .i64 0, .int .i64 0] := by
      repeat (first | ((with_reducible refine Has.new_at ?_ _ _ rfl); (first | rfl | (focus (simp; done)))) | (with_reducible refine Has.set_ ?_ ?_ _) | (with_reducible refine Has.alloc ?_ _) | (with_reducible refine Has.below ?_ (by assumption)) | (focus (simp; done)) | (focus (simp; omega)))
    obtain ⟨cH_0, fH_0⟩ := H.2 0 _ rfl
    obtain ⟨cH_1, fH_1⟩ := H.2 1 _ rfl
    obtain ⟨cH_2, fH_2⟩ := H.2 2 _ rfl
    obtain ⟨cH_3, fH_3⟩ := H.2 3 _ rfl
    have lH := H.1
    go_wp2
    refine bodyPost_ret (v := .tuple #[.agg #[.int .i64 0, .int .i64 0, .int .i64 0, .int .i64 0], .bool false]) (by simp [results, Try.results32, go_sem, cH_0, cH_1, cH_2, cH_3]) rfl ⟨by rw [h1.out, h2.out]; rfl, ?_⟩
    repeat (first | (with_reducible exact Below.refl _ _) | (with_reducible assumption) | (with_reducible refine below_al ?_ _) | (with_reducible refine Below.drew ?_) | (with_reducible refine below_drewN ?_ _) | (with_reducible refine below_st ?_ ?_ _) | (with_reducible refine below_tr ?_ (by assumption)) | (with_reducible exact Nat.le_refl _) | (focus (simp; done)) | (focus (simp; omega)))
  · rw [e0] at c0
    have hl := lawOk_iff.1 e0
    cases e1 : spotOk s
    · rw [e1] at c1
      have h2 := Lib.hid (show lawAtOk x s = false by simp [lawAtOk, lawSpan_bad e0 e1])
      have h1 := Lib.hid (show lawAt x s = span0 by unfold lawAt; rw [h2.out]; rfl)
      clear hl
      go_enter Try.func32, Try.ntmps32
      go_wp2_with (fail)
      refine (c0 _ (LawSl.below hs (by (repeat (first | (with_reducible exact Below.refl _ _) | (with_reducible assumption) | (with_reducible refine below_al ?_ _) | (with_reducible refine Below.drew ?_) | (with_reducible refine below_drewN ?_ _) | (with_reducible refine below_st ?_ ?_ _) | (with_reducible refine below_tr ?_ (by assumption)) | (with_reducible exact Nat.le_refl _) | (focus (simp; done)) | (focus (simp; omega))))))).mono ?_
      rintro e w1 ⟨rfl, hb1⟩
      have r1 := bcell1 hb1
      have l1 : w.heap.size + 1 < w1.heap.size := blt hb1 (by first | (simp; done) | (simp; omega) | omega)
      go_wp2_with (fail)
      refine (c1 _).mono ?_
      rintro e w2 ⟨rfl, hb2⟩
      have H : Has w2 (w.heap.size + 1 + 1) [.int .i64 0, .int .i64 0, .int .i64 0, .int .i64 0] := by
        repeat (first | ((with_reducible refine Has.new_at ?_ _ _ rfl); (first | rfl | (focus (simp; done)))) | (with_reducible refine Has.set_ ?_ ?_ _) | (with_reducible refine Has.alloc ?_ _) | (with_reducible refine Has.below ?_ (by assumption)) | (focus (simp; done)) | (focus (simp; omega)))
      obtain ⟨cH_0, fH_0⟩ := H.2 0 _ rfl
      obtain ⟨cH_1, fH_1⟩ := H.2 1 _ rfl
      obtain ⟨cH_2, fH_2⟩ := H.2 2 _ rfl
      obtain ⟨cH_3, fH_3⟩ := H.2 3 _ rfl
      have lH := H.1
      go_wp2
      refine bodyPost_ret (v := .tuple #[.agg #[.int .i64 0, .int .i64 0, .int .i64 0, .int .i64 0], .bool false]) (by simp [results, Try.results32, go_sem, cH_0, cH_1, cH_2, cH_3]) rfl ⟨by rw [h1.out, h2.out]; rfl, ?_⟩
      repeat (first | (with_reducible exact Below.refl _ _) | (with_reducible assumption) | (with_reducible refine below_al ?_ _) | (with_reducible refine Below.drew ?_) | (with_reducible refine below_drewN ?_ _) | (with_reducible refine below_st ?_ ?_ _) | (with_reducible refine below_tr ?_ (by assumption)) | (with_reducible exact Nat.le_refl _) | (focus (simp; done)) | (focus (simp; omega)))
    · rw [e1] at c1
      have c2 := fun W h => extreme_c a.lows.A x.lows a.lows.c s 1 W (by decide) (by omega) (piecesOk_all hl.1) e1 h
      have c3 := fun W h => extreme_c a.highs.A x.highs a.highs.c s (-1) W (by decide) (by omega) (piecesOk_all hl.2) e1 h
      have hL := show actL x s = bestR (valV x.lows s) 1 x.lows.length by unfold actL; rw [if_pos e0, best_same hl.1 e1]
      have hH := show actH x s = bestR (valV x.highs s) (-1) x.highs.length by unfold actH; rw [if_pos e0, best_same hl.2 e1]
      have bL := fun h => @bestR_bad (valV x.lows s) 1 x.lows.length h
      have bH := fun h => @bestR_bad (valV x.highs s) (-1) x.highs.length h
      rw [← hL] at c2 bL
      rw [← hH] at c3 bH
      have c4 := fun W => iSpanOk_c (lawSpan x s) W (lawSpan_in e0)
      have h2 := show lawAtOk x s = spanOk (lawSpan x s) by simp [lawAtOk, e0]
      clear hL hH
      have hsp : lawSpan x s = ⟨(actL x s).2, (actH x s).2⟩ := rfl
      have h1 : lawAt x s = if spanOk (lawSpan x s) = true then lawSpan x s else span0 := by unfold lawAt; rw [h2]
      rw [h1, h2]
      rw [hsp] at c4 ⊢
      clear h1 h2 hsp hl
      generalize actL x s = L at *
      generalize actH x s = R at *
      generalize allOk (valV x.lows s) x.lows.length = oL at *
      generalize allOk (valV x.highs s) x.highs.length = oH at *
      have hbL : oL = false → spanOk ⟨L.2, R.2⟩ = false := fun h => by simp [spanOk, bL h, ratioOk_zero]
      have hbH : oH = false → spanOk ⟨L.2, R.2⟩ = false := fun h => by simp [spanOk, bH h, ratioOk_zero]
      clear bL bH
      cases oL
      · rw [hbL rfl]
        clear hbL hbH c4
        cases oH
        · go_enter Try.func32, Try.ntmps32
          go_wp2_with (fail)
          refine (c0 _ (LawSl.below hs (by (repeat (first | (with_reducible exact Below.refl _ _) | (with_reducible assumption) | (with_reducible refine below_al ?_ _) | (with_reducible refine Below.drew ?_) | (with_reducible refine below_drewN ?_ _) | (with_reducible refine below_st ?_ ?_ _) | (with_reducible refine below_tr ?_ (by assumption)) | (with_reducible exact Nat.le_refl _) | (focus (simp; done)) | (focus (simp; omega))))))).mono ?_
          rintro e w1 ⟨rfl, hb1⟩
          have r1 := bcell1 hb1
          have l0 : w.heap.size < w1.heap.size := blt hb1 (by first | (simp; done) | (simp; omega) | omega)
          have l1 : w.heap.size + 1 < w1.heap.size := blt hb1 (by first | (simp; done) | (simp; omega) | omega)
          go_wp2_with (fail)
          refine (c1 _).mono ?_
          rintro e w2 ⟨rfl, hb2⟩
          have r2 := bcell1 hb2
          have m0 : w.heap.size < w2.heap.size := blt hb2 (by first | (simp; done) | (simp; omega) | omega)
          have m1 : w.heap.size + 1 < w2.heap.size := blt hb2 (by first | (simp; done) | (simp; omega) | omega)
          go_wp2_with (fail)
          refine (c2 _ (Sl.below hs.lows (by (repeat (first | (with_reducible exact Below.refl _ _) | (with_reducible assumption) | (with_reducible refine below_al ?_ _) | (with_reducible refine Below.drew ?_) | (with_reducible refine below_drewN ?_ _) | (with_reducible refine below_st ?_ ?_ _) | (with_reducible refine below_tr ?_ (by assumption)) | (with_reducible exact Nat.le_refl _) | (focus (simp; done)) | (focus (simp; omega))))))).mono ?_
          rintro e w3 ⟨rfl, hb3⟩
          have r3 := bcell1 hb3
          have n0 : w.heap.size < w3.heap.size := blt hb3 (by first | (simp; done) | (simp; omega) | omega)
          have n1 : w.heap.size + 1 < w3.heap.size := blt hb3 (by first | (simp; done) | (simp; omega) | omega)
          go_wp2_with (fail)
          refine (c3 _ (Sl.below hs.highs (by (repeat (first | (with_reducible exact Below.refl _ _) | (with_reducible assumption) | (with_reducible refine below_al ?_ _) | (with_reducible refine Below.drew ?_) | (with_reducible refine below_drewN ?_ _) | (with_reducible refine below_st ?_ ?_ _) | (with_reducible refine below_tr ?_ (by assumption)) | (with_reducible exact Nat.le_refl _) | (focus (simp; done)) | (focus (simp; omega))))))).mono ?_
          rintro e w4 ⟨rfl, hb4⟩
          have r4 := bcell1 hb4
          have o3 : w3.heap.size < w4.heap.size := blt hb4 (by first | (simp; done) | (simp; omega) | omega)
          have H0 : Has w4 (w.heap.size + 1 + 1) [.int .i64 0, .int .i64 0, .int .i64 0, .int .i64 0] := by
            repeat (first | ((with_reducible refine Has.new_at ?_ _ _ rfl); (first | rfl | (focus (simp; done)))) | (with_reducible refine Has.set_ ?_ ?_ _) | (with_reducible refine Has.alloc ?_ _) | (with_reducible refine Has.below ?_ (by assumption)) | (focus (simp; done)) | (focus (simp; omega)))
          have H := (H0.alloc (.cells #[.int .i64 R.2.n, .int .i64 R.2.d] 41)).alloc (.cells #[.int .i64 L.2.n, .int .i64 L.2.d, .int .i64 R.2.n, .int .i64 R.2.d] 58)
          have BW : Below w.heap.size w ((w4.alloc (.cells #[.int .i64 R.2.n, .int .i64 R.2.d] 41)).alloc (.cells #[.int .i64 L.2.n, .int .i64 L.2.d, .int .i64 R.2.n, .int .i64 R.2.d] 58)) := by
            repeat (first | (with_reducible exact Below.refl _ _) | (with_reducible assumption) | (with_reducible refine below_al ?_ _) | (with_reducible refine Below.drew ?_) | (with_reducible refine below_drewN ?_ _) | (with_reducible refine below_st ?_ ?_ _) | (with_reducible refine below_tr ?_ (by assumption)) | (with_reducible exact Nat.le_refl _) | (focus (simp; done)) | (focus (simp; omega)))
          go_upto_region 6 with fail
          generalize hW : (w4.alloc (.cells #[.int .i64 R.2.n, .int .i64 R.2.d] 41)).alloc (.cells #[.int .i64 L.2.n, .int .i64 L.2.d, .int .i64 R.2.n, .int .i64 R.2.d] 58) = w5 at *
          clear hW
          obtain ⟨cH_0, fH_0⟩ := H.2 0 _ rfl
          obtain ⟨cH_1, fH_1⟩ := H.2 1 _ rfl
          obtain ⟨cH_2, fH_2⟩ := H.2 2 _ rfl
          obtain ⟨cH_3, fH_3⟩ := H.2 3 _ rfl
          have lH := H.1
          go_wp2
          refine bodyPost_ret (v := .tuple #[.agg #[.int .i64 0, .int .i64 0, .int .i64 0, .int .i64 0], .bool false]) (by simp [results, Try.results32, go_sem, cH_0, cH_1, cH_2, cH_3]) rfl ⟨rfl, ?_⟩
          repeat (first | (with_reducible exact Below.refl _ _) | (with_reducible assumption) | (with_reducible refine below_al ?_ _) | (with_reducible refine Below.drew ?_) | (with_reducible refine below_drewN ?_ _) | (with_reducible refine below_st ?_ ?_ _) | (with_reducible refine below_tr ?_ (by assumption)) | (with_reducible exact Nat.le_refl _) | (focus (simp; done)) | (focus (simp; omega)))
        · go_enter Try.func32, Try.ntmps32
          go_wp2_with (fail)
          refine (c0 _ (LawSl.below hs (by (repeat (first | (with_reducible exact Below.refl _ _) | (with_reducible assumption) | (with_reducible refine below_al ?_ _) | (with_reducible refine Below.drew ?_) | (with_reducible refine below_drewN ?_ _) | (with_reducible refine below_st ?_ ?_ _) | (with_reducible refine below_tr ?_ (by assumption)) | (with_reducible exact Nat.le_refl _) | (focus (simp; done)) | (focus (simp; omega))))))).mono ?_
          rintro e w1 ⟨rfl, hb1⟩
          have r1 := bcell1 hb1
          have l0 : w.heap.size < w1.heap.size := blt hb1 (by first | (simp; done) | (simp; omega) | omega)
          have l1 : w.heap.size + 1 < w1.heap.size := blt hb1 (by first | (simp; done) | (simp; omega) | omega)
          go_wp2_with (fail)
          refine (c1 _).mono ?_
          rintro e w2 ⟨rfl, hb2⟩
          have r2 := bcell1 hb2
          have m0 : w.heap.size < w2.heap.size := blt hb2 (by first | (simp; done) | (simp; omega) | omega)
          have m1 : w.heap.size + 1 < w2.heap.size := blt hb2 (by first | (simp; done) | (simp; omega) | omega)
          go_wp2_with (fail)
          refine (c2 _ (Sl.below hs.lows (by (repeat (first | (with_reducible exact Below.refl _ _) | (with_reducible assumption) | (with_reducible refine below_al ?_ _) | (with_reducible refine Below.drew ?_) | (with_reducible refine below_drewN ?_ _) | (with_reducible refine below_st ?_ ?_ _) | (with_reducible refine below_tr ?_ (by assumption)) | (with_reducible exact Nat.le_refl _) | (focus (simp; done)) | (focus (simp; omega))))))).mono ?_
          rintro e w3 ⟨rfl, hb3⟩
          have r3 := bcell1 hb3
          have n0 : w.heap.size < w3.heap.size := blt hb3 (by first | (simp; done) | (simp; omega) | omega)
          have n1 : w.heap.size + 1 < w3.heap.size := blt hb3 (by first | (simp; done) | (simp; omega) | omega)
          go_wp2_with (fail)
          refine (c3 _ (Sl.below hs.highs (by (repeat (first | (with_reducible exact Below.refl _ _) | (with_reducible assumption) | (with_reducible refine below_al ?_ _) | (with_reducible refine Below.drew ?_) | (with_reducible refine below_drewN ?_ _) | (with_reducible refine below_st ?_ ?_ _) | (with_reducible refine below_tr ?_ (by assumption)) | (with_reducible exact Nat.le_refl _) | (focus (simp; done)) | (focus (simp; omega))))))).mono ?_
          rintro e w4 ⟨rfl, hb4⟩
          have r4 := bcell1 hb4
          have o3 : w3.heap.size < w4.heap.size := blt hb4 (by first | (simp; done) | (simp; omega) | omega)
          have H0 : Has w4 (w.heap.size + 1 + 1) [.int .i64 0, .int .i64 0, .int .i64 0, .int .i64 0] := by
            repeat (first | ((with_reducible refine Has.new_at ?_ _ _ rfl); (first | rfl | (focus (simp; done)))) | (with_reducible refine Has.set_ ?_ ?_ _) | (with_reducible refine Has.alloc ?_ _) | (with_reducible refine Has.below ?_ (by assumption)) | (focus (simp; done)) | (focus (simp; omega)))
          have H := (H0.alloc (.cells #[.int .i64 R.2.n, .int .i64 R.2.d] 41)).alloc (.cells #[.int .i64 L.2.n, .int .i64 L.2.d, .int .i64 R.2.n, .int .i64 R.2.d] 58)
          have BW : Below w.heap.size w ((w4.alloc (.cells #[.int .i64 R.2.n, .int .i64 R.2.d] 41)).alloc (.cells #[.int .i64 L.2.n, .int .i64 L.2.d, .int .i64 R.2.n, .int .i64 R.2.d] 58)) := by
            repeat (first | (with_reducible exact Below.refl _ _) | (with_reducible assumption) | (with_reducible refine below_al ?_ _) | (with_reducible refine Below.drew ?_) | (with_reducible refine below_drewN ?_ _) | (with_reducible refine below_st ?_ ?_ _) | (with_reducible refine below_tr ?_ (by assumption)) | (with_reducible exact Nat.le_refl _) | (focus (simp; done)) | (focus (simp; omega)))
          go_upto_region 6 with fail
          generalize hW : (w4.alloc (.cells #[.int .i64 R.2.n, .int .i64 R.2.d] 41)).alloc (.cells #[.int .i64 L.2.n, .int .i64 L.2.d, .int .i64 R.2.n, .int .i64 R.2.d] 58) = w5 at *
          clear hW
          obtain ⟨cH_0, fH_0⟩ := H.2 0 _ rfl
          obtain ⟨cH_1, fH_1⟩ := H.2 1 _ rfl
          obtain ⟨cH_2, fH_2⟩ := H.2 2 _ rfl
          obtain ⟨cH_3, fH_3⟩ := H.2 3 _ rfl
          have lH := H.1
          go_wp2
          refine bodyPost_ret (v := .tuple #[.agg #[.int .i64 0, .int .i64 0, .int .i64 0, .int .i64 0], .bool false]) (by simp [results, Try.results32, go_sem, cH_0, cH_1, cH_2, cH_3]) rfl ⟨rfl, ?_⟩
          repeat (first | (with_reducible exact Below.refl _ _) | (with_reducible assumption) | (with_reducible refine below_al ?_ _) | (with_reducible refine Below.drew ?_) | (with_reducible refine below_drewN ?_ _) | (with_reducible refine below_st ?_ ?_ _) | (with_reducible refine below_tr ?_ (by assumption)) | (with_reducible exact Nat.le_refl _) | (focus (simp; done)) | (focus (simp; omega)))
      · cases oH
        · rw [hbH rfl]
          clear hbL hbH c4
          go_enter Try.func32, Try.ntmps32
          go_wp2_with (fail)
          refine (c0 _ (LawSl.below hs (by (repeat (first | (with_reducible exact Below.refl _ _) | (with_reducible assumption) | (with_reducible refine below_al ?_ _) | (with_reducible refine Below.drew ?_) | (with_reducible refine below_drewN ?_ _) | (with_reducible refine below_st ?_ ?_ _) | (with_reducible refine below_tr ?_ (by assumption)) | (with_reducible exact Nat.le_refl _) | (focus (simp; done)) | (focus (simp; omega))))))).mono ?_
          rintro e w1 ⟨rfl, hb1⟩
          have r1 := bcell1 hb1
          have l0 : w.heap.size < w1.heap.size := blt hb1 (by first | (simp; done) | (simp; omega) | omega)
          have l1 : w.heap.size + 1 < w1.heap.size := blt hb1 (by first | (simp; done) | (simp; omega) | omega)
          go_wp2_with (fail)
          refine (c1 _).mono ?_
          rintro e w2 ⟨rfl, hb2⟩
          have r2 := bcell1 hb2
          have m0 : w.heap.size < w2.heap.size := blt hb2 (by first | (simp; done) | (simp; omega) | omega)
          have m1 : w.heap.size + 1 < w2.heap.size := blt hb2 (by first | (simp; done) | (simp; omega) | omega)
          go_wp2_with (fail)
          refine (c2 _ (Sl.below hs.lows (by (repeat (first | (with_reducible exact Below.refl _ _) | (with_reducible assumption) | (with_reducible refine below_al ?_ _) | (with_reducible refine Below.drew ?_) | (with_reducible refine below_drewN ?_ _) | (with_reducible refine below_st ?_ ?_ _) | (with_reducible refine below_tr ?_ (by assumption)) | (with_reducible exact Nat.le_refl _) | (focus (simp; done)) | (focus (simp; omega))))))).mono ?_
          rintro e w3 ⟨rfl, hb3⟩
          have r3 := bcell1 hb3
          have n0 : w.heap.size < w3.heap.size := blt hb3 (by first | (simp; done) | (simp; omega) | omega)
          have n1 : w.heap.size + 1 < w3.heap.size := blt hb3 (by first | (simp; done) | (simp; omega) | omega)
          go_wp2_with (fail)
          refine (c3 _ (Sl.below hs.highs (by (repeat (first | (with_reducible exact Below.refl _ _) | (with_reducible assumption) | (with_reducible refine below_al ?_ _) | (with_reducible refine Below.drew ?_) | (with_reducible refine below_drewN ?_ _) | (with_reducible refine below_st ?_ ?_ _) | (with_reducible refine below_tr ?_ (by assumption)) | (with_reducible exact Nat.le_refl _) | (focus (simp; done)) | (focus (simp; omega))))))).mono ?_
          rintro e w4 ⟨rfl, hb4⟩
          have r4 := bcell1 hb4
          have o3 : w3.heap.size < w4.heap.size := blt hb4 (by first | (simp; done) | (simp; omega) | omega)
          have H0 : Has w4 (w.heap.size + 1 + 1) [.int .i64 0, .int .i64 0, .int .i64 0, .int .i64 0] := by
            repeat (first | ((with_reducible refine Has.new_at ?_ _ _ rfl); (first | rfl | (focus (simp; done)))) | (with_reducible refine Has.set_ ?_ ?_ _) | (with_reducible refine Has.alloc ?_ _) | (with_reducible refine Has.below ?_ (by assumption)) | (focus (simp; done)) | (focus (simp; omega)))
          have H := (H0.alloc (.cells #[.int .i64 R.2.n, .int .i64 R.2.d] 41)).alloc (.cells #[.int .i64 L.2.n, .int .i64 L.2.d, .int .i64 R.2.n, .int .i64 R.2.d] 58)
          have BW : Below w.heap.size w ((w4.alloc (.cells #[.int .i64 R.2.n, .int .i64 R.2.d] 41)).alloc (.cells #[.int .i64 L.2.n, .int .i64 L.2.d, .int .i64 R.2.n, .int .i64 R.2.d] 58)) := by
            repeat (first | (with_reducible exact Below.refl _ _) | (with_reducible assumption) | (with_reducible refine below_al ?_ _) | (with_reducible refine Below.drew ?_) | (with_reducible refine below_drewN ?_ _) | (with_reducible refine below_st ?_ ?_ _) | (with_reducible refine below_tr ?_ (by assumption)) | (with_reducible exact Nat.le_refl _) | (focus (simp; done)) | (focus (simp; omega)))
          go_upto_region 6 with fail
          generalize hW : (w4.alloc (.cells #[.int .i64 R.2.n, .int .i64 R.2.d] 41)).alloc (.cells #[.int .i64 L.2.n, .int .i64 L.2.d, .int .i64 R.2.n, .int .i64 R.2.d] 58) = w5 at *
          clear hW
          obtain ⟨cH_0, fH_0⟩ := H.2 0 _ rfl
          obtain ⟨cH_1, fH_1⟩ := H.2 1 _ rfl
          obtain ⟨cH_2, fH_2⟩ := H.2 2 _ rfl
          obtain ⟨cH_3, fH_3⟩ := H.2 3 _ rfl
          have lH := H.1
          go_wp2
          refine bodyPost_ret (v := .tuple #[.agg #[.int .i64 0, .int .i64 0, .int .i64 0, .int .i64 0], .bool false]) (by simp [results, Try.results32, go_sem, cH_0, cH_1, cH_2, cH_3]) rfl ⟨rfl, ?_⟩
          repeat (first | (with_reducible exact Below.refl _ _) | (with_reducible assumption) | (with_reducible refine below_al ?_ _) | (with_reducible refine Below.drew ?_) | (with_reducible refine below_drewN ?_ _) | (with_reducible refine below_st ?_ ?_ _) | (with_reducible refine below_tr ?_ (by assumption)) | (with_reducible exact Nat.le_refl _) | (focus (simp; done)) | (focus (simp; omega)))
        · clear hbL hbH
          cases e2 : spanOk ⟨L.2, R.2⟩
          · rw [e2] at c4
            go_enter Try.func32, Try.ntmps32
            go_wp2_with (fail)
            refine (c0 _ (LawSl.below hs (by (repeat (first | (with_reducible exact Below.refl _ _) | (with_reducible assumption) | (with_reducible refine below_al ?_ _) | (with_reducible refine Below.drew ?_) | (with_reducible refine below_drewN ?_ _) | (with_reducible refine below_st ?_ ?_ _) | (with_reducible refine below_tr ?_ (by assumption)) | (with_reducible exact Nat.le_refl _) | (focus (simp; done)) | (focus (simp; omega))))))).mono ?_
            rintro e w1 ⟨rfl, hb1⟩
            have r1 := bcell1 hb1
            have l0 : w.heap.size < w1.heap.size := blt hb1 (by first | (simp; done) | (simp; omega) | omega)
            have l1 : w.heap.size + 1 < w1.heap.size := blt hb1 (by first | (simp; done) | (simp; omega) | omega)
            go_wp2_with (fail)
            refine (c1 _).mono ?_
            rintro e w2 ⟨rfl, hb2⟩
            have r2 := bcell1 hb2
            have m0 : w.heap.size < w2.heap.size := blt hb2 (by first | (simp; done) | (simp; omega) | omega)
            have m1 : w.heap.size + 1 < w2.heap.size := blt hb2 (by first | (simp; done) | (simp; omega) | omega)
            go_wp2_with (fail)
            refine (c2 _ (Sl.below hs.lows (by (repeat (first | (with_reducible exact Below.refl _ _) | (with_reducible assumption) | (with_reducible refine below_al ?_ _) | (with_reducible refine Below.drew ?_) | (with_reducible refine below_drewN ?_ _) | (with_reducible refine below_st ?_ ?_ _) | (with_reducible refine below_tr ?_ (by assumption)) | (with_reducible exact Nat.le_refl _) | (focus (simp; done)) | (focus (simp; omega))))))).mono ?_
            rintro e w3 ⟨rfl, hb3⟩
            have r3 := bcell1 hb3
            have n0 : w.heap.size < w3.heap.size := blt hb3 (by first | (simp; done) | (simp; omega) | omega)
            have n1 : w.heap.size + 1 < w3.heap.size := blt hb3 (by first | (simp; done) | (simp; omega) | omega)
            go_wp2_with (fail)
            refine (c3 _ (Sl.below hs.highs (by (repeat (first | (with_reducible exact Below.refl _ _) | (with_reducible assumption) | (with_reducible refine below_al ?_ _) | (with_reducible refine Below.drew ?_) | (with_reducible refine below_drewN ?_ _) | (with_reducible refine below_st ?_ ?_ _) | (with_reducible refine below_tr ?_ (by assumption)) | (with_reducible exact Nat.le_refl _) | (focus (simp; done)) | (focus (simp; omega))))))).mono ?_
            rintro e w4 ⟨rfl, hb4⟩
            have r4 := bcell1 hb4
            have o3 : w3.heap.size < w4.heap.size := blt hb4 (by first | (simp; done) | (simp; omega) | omega)
            go_wp2_with (fail)
            refine (c4 _).mono ?_
            rintro e w5 ⟨rfl, hb5⟩
            have r5 := bcell1 hb5
            have p4 : w4.heap.size < w5.heap.size := blt hb5 (by first | (simp; done) | (simp; omega) | omega)
            have p5 : w4.heap.size + 1 < w5.heap.size := blt hb5 (by first | (simp; done) | (simp; omega) | omega)
            have H : Has w5 (w.heap.size + 1 + 1) [.int .i64 0, .int .i64 0, .int .i64 0, .int .i64 0] := by
              repeat (first | ((with_reducible refine Has.new_at ?_ _ _ rfl); (first | rfl | (focus (simp; done)))) | (with_reducible refine Has.set_ ?_ ?_ _) | (with_reducible refine Has.alloc ?_ _) | (with_reducible refine Has.below ?_ (by assumption)) | (focus (simp; done)) | (focus (simp; omega)))
            obtain ⟨cH_0, fH_0⟩ := H.2 0 _ rfl
            obtain ⟨cH_1, fH_1⟩ := H.2 1 _ rfl
            obtain ⟨cH_2, fH_2⟩ := H.2 2 _ rfl
            obtain ⟨cH_3, fH_3⟩ := H.2 3 _ rfl
            have lH := H.1
            go_wp2
            refine bodyPost_ret (v := .tuple #[.agg #[.int .i64 0, .int .i64 0, .int .i64 0, .int .i64 0], .bool false]) (by simp [results, Try.results32, go_sem, cH_0, cH_1, cH_2, cH_3]) rfl ⟨rfl, ?_⟩
            repeat (first | (with_reducible exact Below.refl _ _) | (with_reducible assumption) | (with_reducible refine below_al ?_ _) | (with_reducible refine Below.drew ?_) | (with_reducible refine below_drewN ?_ _) | (with_reducible refine below_st ?_ ?_ _) | (with_reducible refine below_tr ?_ (by assumption)) | (with_reducible exact Nat.le_refl _) | (focus (simp; done)) | (focus (simp; omega)))
          · rw [e2] at c4
            go_enter Try.func32, Try.ntmps32
            go_wp2_with (fail)
            refine (c0 _ (LawSl.below hs (by (repeat (first | (with_reducible exact Below.refl _ _) | (with_reducible assumption) | (with_reducible refine below_al ?_ _) | (with_reducible refine Below.drew ?_) | (with_reducible refine below_drewN ?_ _) | (with_reducible refine below_st ?_ ?_ _) | (with_reducible refine below_tr ?_ (by assumption)) | (with_reducible exact Nat.le_refl _) | (focus (simp; done)) | (focus (simp; omega))))))).mono ?_
            rintro e w1 ⟨rfl, hb1⟩
            have r1 := bcell1 hb1
            have l0 : w.heap.size < w1.heap.size := blt hb1 (by first | (simp; done) | (simp; omega) | omega)
            have l1 : w.heap.size + 1 < w1.heap.size := blt hb1 (by first | (simp; done) | (simp; omega) | omega)
            go_wp2_with (fail)
            refine (c1 _).mono ?_
            rintro e w2 ⟨rfl, hb2⟩
            have r2 := bcell1 hb2
            have m0 : w.heap.size < w2.heap.size := blt hb2 (by first | (simp; done) | (simp; omega) | omega)
            have m1 : w.heap.size + 1 < w2.heap.size := blt hb2 (by first | (simp; done) | (simp; omega) | omega)
            go_wp2_with (fail)
            refine (c2 _ (Sl.below hs.lows (by (repeat (first | (with_reducible exact Below.refl _ _) | (with_reducible assumption) | (with_reducible refine below_al ?_ _) | (with_reducible refine Below.drew ?_) | (with_reducible refine below_drewN ?_ _) | (with_reducible refine below_st ?_ ?_ _) | (with_reducible refine below_tr ?_ (by assumption)) | (with_reducible exact Nat.le_refl _) | (focus (simp; done)) | (focus (simp; omega))))))).mono ?_
            rintro e w3 ⟨rfl, hb3⟩
            have r3 := bcell1 hb3
            have n0 : w.heap.size < w3.heap.size := blt hb3 (by first | (simp; done) | (simp; omega) | omega)
            have n1 : w.heap.size + 1 < w3.heap.size := blt hb3 (by first | (simp; done) | (simp; omega) | omega)
            go_wp2_with (fail)
            refine (c3 _ (Sl.below hs.highs (by (repeat (first | (with_reducible exact Below.refl _ _) | (with_reducible assumption) | (with_reducible refine below_al ?_ _) | (with_reducible refine Below.drew ?_) | (with_reducible refine below_drewN ?_ _) | (with_reducible refine below_st ?_ ?_ _) | (with_reducible refine below_tr ?_ (by assumption)) | (with_reducible exact Nat.le_refl _) | (focus (simp; done)) | (focus (simp; omega))))))).mono ?_
            rintro e w4 ⟨rfl, hb4⟩
            have r4 := bcell1 hb4
            have o3 : w3.heap.size < w4.heap.size := blt hb4 (by first | (simp; done) | (simp; omega) | omega)
            go_wp2_with (fail)
            refine (c4 _).mono ?_
            rintro e w5 ⟨rfl, hb5⟩
            have r5 := bcell1 hb5
            have p4 : w4.heap.size < w5.heap.size := blt hb5 (by first | (simp; done) | (simp; omega) | omega)
            have p5 : w4.heap.size + 1 < w5.heap.size := blt hb5 (by first | (simp; done) | (simp; omega) | omega)
            have H : Has w5 (w.heap.size + 1 + 1) [.int .i64 0, .int .i64 0, .int .i64 0, .int .i64 0] := by
              repeat (first | ((with_reducible refine Has.new_at ?_ _ _ rfl); (first | rfl | (focus (simp; done)))) | (with_reducible refine Has.set_ ?_ ?_ _) | (with_reducible refine Has.alloc ?_ _) | (with_reducible refine Has.below ?_ (by assumption)) | (focus (simp; done)) | (focus (simp; omega)))
            obtain ⟨cH_0, fH_0⟩ := H.2 0 _ rfl
            obtain ⟨cH_1, fH_1⟩ := H.2 1 _ rfl
            obtain ⟨cH_2, fH_2⟩ := H.2 2 _ rfl
            obtain ⟨cH_3, fH_3⟩ := H.2 3 _ rfl
            have lH := H.1
            go_wp2
            refine bodyPost_ret (v := .tuple #[.agg #[.int .i64 L.2.n, .int .i64 L.2.d, .int .i64 R.2.n, .int .i64 R.2.d], .bool true]) (by simp [results, Try.results32, go_sem, cH_0, cH_1, cH_2, cH_3]) rfl ⟨rfl, ?_⟩
            repeat (first | (with_reducible exact Below.refl _ _) | (with_reducible assumption) | (with_reducible refine below_al ?_ _) | (with_reducible refine Below.drew ?_) | (with_reducible refine below_drewN ?_ _) | (with_reducible refine below_st ?_ ?_ _) | (with_reducible refine below_tr ?_ (by assumption)) | (with_reducible exact Nat.le_refl _) | (focus (simp; done)) | (focus (simp; omega)))
set_option maxRecDepth 100000 in
theorem eqSpan_t (x : Span) (w : World) :
    Calls Try.prog 33 #[spanV x, spanV x] w fun e w' => e = .returned (.bool true) ∧ Below w.heap.size w w' := by
  go_enter Try.func33, Try.ntmps33
  go_wp2_with (fail)
  refine (eqRatio_t x.low _).mono ?_
  rintro e w1 ⟨rfl, hb1⟩
  have r1 := bcell1 hb1
  have l0 : w.heap.size < w1.heap.size := blt hb1 (by first | (simp; done) | (simp; omega) | omega)
  have l1 : w.heap.size + 1 < w1.heap.size := blt hb1 (by first | (simp; done) | (simp; omega) | omega)
  go_wp2_with (fail)
  refine (eqRatio_t x.high _).mono ?_
  rintro e w2 ⟨rfl, hb2⟩
  go_wp2
  go_ret
  refine ⟨rfl, ?_⟩
  repeat (first | (with_reducible exact Below.refl _ _) | (with_reducible assumption) | (with_reducible refine below_al ?_ _) | (with_reducible refine Below.drew ?_) | (with_reducible refine below_drewN ?_ _) | (with_reducible refine below_st ?_ ?_ _) | (with_reducible refine below_tr ?_ (by assumption)) | (with_reducible exact Nat.le_refl _) | (focus (simp; done)) | (focus (simp; omega)))
end Go.Proofs.Ytbdihgcjopbnjaa
