/-
  LawOk, ActiveLow, ActiveHigh: of the program and of the reference.
  Conditions: the slices hold at most 2^20 elements.
-/
import Derived.Test.YtbdihgcjopbnjaaBest2
import Derived.Test.YtbdihgcjopbnjaaComp
namespace Go.Proofs.Ytbdihgcjopbnjaa
open Go.RowKit

def piecesOk (xs : List Piece) : Bool := xs.all pieceOk && inR (xs.length : Int) 1 40
def lawOk (x : Law) : Bool := piecesOk x.lows && piecesOk x.highs
def actL (x : Law) (s : Spot) : Int × Ratio := if lawOk x = true then bestR (valA x.lows s) 1 x.lows.length else (-1, ratio0)
def actH (x : Law) (s : Spot) : Int × Ratio := if lawOk x = true then bestR (valA x.highs s) (-1) x.highs.length else (-1, ratio0)
theorem piecesOk_all {xs : List Piece} (h : piecesOk xs = true) : ∀ q ∈ xs, pieceOk q = true := by
  simp only [piecesOk, Bool.and_eq_true, List.all_eq_true] at h; exact h.1
theorem piecesOk_len {xs : List Piece} (h : piecesOk xs = true) : 1 ≤ xs.length ∧ xs.length ≤ 40 := by
  simp only [piecesOk, Bool.and_eq_true, inR_iff] at h; omega
theorem lawOk_iff {x : Law} : lawOk x = true ↔ piecesOk x.lows = true ∧ piecesOk x.highs = true := by simp [lawOk]
/-- At a valid spot the values of valid pieces are the same by both ways. -/
theorem best_same {xs : List Piece} {s : Spot} {g : Int} (h : piecesOk xs = true) (hs : spotOk s = true) : bestR (valV xs s) g xs.length = bestR (valA xs s) g xs.length := by
  apply bestR_congr
  intro k hk
  rw [valV_at hk, valA_at hk]
  unfold pieceAt
  rw [if_pos ⟨piecesOk_all h _ (List.getElem_mem hk), hs⟩]
theorem allOk_same {xs : List Piece} {s : Spot} (h : piecesOk xs = true) (hs : spotOk s = true) : allOk (valV xs s) xs.length = allOk (valA xs s) xs.length := by
  rw [Bool.eq_iff_iff]; unfold allOk; rw [List.all_eq_true, List.all_eq_true]
  have e : ∀ k, k < xs.length → valV xs s k = valA xs s k := by
    intro k hk
    rw [valV_at hk, valA_at hk]
    unfold pieceAt
    rw [if_pos ⟨piecesOk_all h _ (List.getElem_mem hk), hs⟩]
  constructor
  · intro hh k hk; rw [← e k (List.mem_range.1 hk)]; exact hh k hk
  · intro hh k hk; rw [e k (List.mem_range.1 hk)]; exact hh k hk
theorem best_bad {xs : List Piece} {s : Spot} {g : Int} (h : piecesOk xs = true) (hs : spotOk s = false) : bestR (valA xs s) g xs.length = (-1, ratio0) := by
  have hl := (piecesOk_len h).1
  have : allOk (valA xs s) xs.length = false := by
    apply allOk_no (k := 0) (by omega)
    rw [valA_at (by omega)]
    unfold pieceAt
    rw [if_neg (by simp [hs])]
    exact ratioOk_zero
  unfold bestR
  rw [this]; rfl
theorem bestR_bad {val : Nat → Ratio} {g : Int} {n : Nat} (h : allOk val n = false) : (bestR val g n).2 = ratio0 := by
  unfold bestR; rw [h]; rfl
theorem bestR_in {val : Nat → Ratio} {g : Int} {n : Nat} : (bestR val g n).2.In := by
  unfold bestR
  split
  · rename_i h
    apply bestAt_in
    intro j hj
    unfold allOk at h
    rw [List.all_eq_true] at h
    exact h j (List.mem_range.2 hj)
  · exact ⟨⟨by decide, by decide⟩, ⟨by decide, by decide⟩⟩

set_option maxHeartbeats 1000000 in
theorem iPieces_c (A : Option Addr) (xs : List Piece) (cap : Nat) (w : World) (hn : xs.length ≤ 1048576) (hin : ∀ q ∈ xs, q.In) (hs : Sl 4 pieceC w A xs) :
    Calls Try.prog 161 #[.slice A xs.length cap] w fun e w' => e = .returned (.bool (piecesOk xs)) ∧ Below w.heap.size w w' := by
  have c1 := fun W => inRange_c (xs.length : Int) 1 40 W
  have HI := Lib.hid hin
  clear hin
  go_enter Try.func161, Try.ntmps161
  go_wp2
  go_loopw [4, 7] (fun _ i wr => ∃ k : Nat, k ≤ xs.length ∧ i = .int .i64 k ∧ Hid ((xs.take k).all pieceOk = true) ∧ Below w.heap.size w wr) (fun _ i _ => xs.length - (intOf i).toNat)
  case atStart => exact ⟨0, Nat.zero_le _, rfl, rfl, Below.refl _ _⟩
  case round =>
    obtain ⟨k, hk, rfl, hall, hbw⟩ := hrel
    by_cases hlt : k < xs.length
    · obtain ⟨b, off, rfl, hblt, hc⟩ := (hs.below hbw).at_ hlt
      have g0 := hc 0 _ rfl
      have g1 := hc 1 _ rfl
      have g2 := hc 2 _ rfl
      have g3 := hc 3 _ rfl
      have c2 := fun W => iPieceOk_c xs[k] W (HI.out _ (List.getElem_mem hlt))
      have hyes := Lib.hid (fun (h : pieceOk xs[k] = true) => show (xs.take (k + 1)).all pieceOk = true from by rw [take_succ' xs k hlt, List.all_append, hall.out]; simp [h])
      have hno := Lib.hid (fun (h : pieceOk xs[k] = false) => show piecesOk xs = false from by
        have : xs.all pieceOk = false := by rw [List.all_eq_false]; exact ⟨_, List.getElem_mem hlt, by simp [h]⟩
        simp [piecesOk, this])
      clear hc hall
      simp only [Nat.add_zero] at g0
      generalize xs[k] = q at *
      cases hq : pieceOk q
      · rw [hq] at c2
        have hfin := Lib.hid (hno.out hq)
        clear hyes hno
        go_wp2_with (fail)
        refine (c2 _).mono ?_
        rintro e w1 ⟨rfl, hb1⟩
        go_wp2
        go_ret
        refine ⟨ret_bool hfin.out.symm, ?_⟩
        repeat (first | (with_reducible exact Below.refl _ _) | (with_reducible assumption) | (with_reducible refine below_al ?_ _) | (with_reducible refine Below.drew ?_) | (with_reducible refine below_drewN ?_ _) | (with_reducible refine below_st ?_ ?_ _) | (with_reducible refine below_tr ?_ (by assumption)) | (with_reducible exact Nat.le_refl _) | (focus (simp; done)) | (focus (simp; omega)))
      · rw [hq] at c2
        have hfin := Lib.hid (hyes.out hq)
        clear hyes hno
        go_wp2_with (fail)
        refine (c2 _).mono ?_
        rintro e w1 ⟨rfl, hb1⟩
        go_wp2
        go_roundw
        case rel =>
          refine ⟨k + 1, by omega, by go_num, hfin, ?_⟩
          repeat (first | (with_reducible exact Below.refl _ _) | (with_reducible assumption) | (with_reducible refine below_al ?_ _) | (with_reducible refine Below.drew ?_) | (with_reducible refine below_drewN ?_ _) | (with_reducible refine below_st ?_ ?_ _) | (with_reducible refine below_tr ?_ (by assumption)) | (with_reducible exact Nat.le_refl _) | (focus (simp; done)) | (focus (simp; omega)))
        case measure => simp [intOf]; omega
    · obtain rfl : k = xs.length := by omega
      rw [List.take_length] at hall
      have hfin := Lib.hid (show piecesOk xs = inR (xs.length : Int) 1 40 by unfold piecesOk; rw [hall.out]; rfl)
      clear hall
      go_wp2_with (fail)
      refine (c1 _).mono ?_
      rintro e w' ⟨rfl, rfl⟩
      go_wp2
      go_ret
      exact ⟨ret_bool hfin.out.symm, hbw⟩
set_option maxHeartbeats 1000000 in
theorem sPieces_c (A : Option Addr) (xs : List Piece) (cap : Nat) (w : World) (hn : xs.length ≤ 1048576) (hin : ∀ q ∈ xs, q.In) (hs : Sl 4 pieceC w A xs) :
    Calls Try.prog 158 #[.slice A xs.length cap] w fun e w' => e = .returned (.bool (piecesOk xs)) ∧ Below w.heap.size w w' := by
  have c1 := fun W => l01In_c (xs.length : Int) 1 40 W
  have HI := Lib.hid hin
  clear hin
  go_enter Try.func158, Try.ntmps158
  go_wp2
  go_loopw [4, 7] (fun _ i wr => ∃ k : Nat, k ≤ xs.length ∧ i = .int .i64 k ∧ Hid ((xs.take k).all pieceOk = true) ∧ Below w.heap.size w wr) (fun _ i _ => xs.length - (intOf i).toNat)
  case atStart => exact ⟨0, Nat.zero_le _, rfl, rfl, Below.refl _ _⟩
  case round =>
    obtain ⟨k, hk, rfl, hall, hbw⟩ := hrel
    by_cases hlt : k < xs.length
    · obtain ⟨b, off, rfl, hblt, hc⟩ := (hs.below hbw).at_ hlt
      have g0 := hc 0 _ rfl
      have g1 := hc 1 _ rfl
      have g2 := hc 2 _ rfl
      have g3 := hc 3 _ rfl
      have c2 := fun W => sPieceOk_c xs[k] W (HI.out _ (List.getElem_mem hlt))
      have hyes := Lib.hid (fun (h : pieceOk xs[k] = true) => show (xs.take (k + 1)).all pieceOk = true from by rw [take_succ' xs k hlt, List.all_append, hall.out]; simp [h])
      have hno := Lib.hid (fun (h : pieceOk xs[k] = false) => show piecesOk xs = false from by
        have : xs.all pieceOk = false := by rw [List.all_eq_false]; exact ⟨_, List.getElem_mem hlt, by simp [h]⟩
        simp [piecesOk, this])
      clear hc hall
      simp only [Nat.add_zero] at g0
      generalize xs[k] = q at *
      cases hq : pieceOk q
      · rw [hq] at c2
        have hfin := Lib.hid (hno.out hq)
        clear hyes hno
        go_wp2_with (fail)
        refine (c2 _).mono ?_
        rintro e w1 ⟨rfl, hb1⟩
        go_wp2
        go_ret
        refine ⟨ret_bool hfin.out.symm, ?_⟩
        repeat (first | (with_reducible exact Below.refl _ _) | (with_reducible assumption) | (with_reducible refine below_al ?_ _) | (with_reducible refine Below.drew ?_) | (with_reducible refine below_drewN ?_ _) | (with_reducible refine below_st ?_ ?_ _) | (with_reducible refine below_tr ?_ (by assumption)) | (with_reducible exact Nat.le_refl _) | (focus (simp; done)) | (focus (simp; omega)))
      · rw [hq] at c2
        have hfin := Lib.hid (hyes.out hq)
        clear hyes hno
        go_wp2_with (fail)
        refine (c2 _).mono ?_
        rintro e w1 ⟨rfl, hb1⟩
        go_wp2
        go_roundw
        case rel =>
          refine ⟨k + 1, by omega, by go_num, hfin, ?_⟩
          repeat (first | (with_reducible exact Below.refl _ _) | (with_reducible assumption) | (with_reducible refine below_al ?_ _) | (with_reducible refine Below.drew ?_) | (with_reducible refine below_drewN ?_ _) | (with_reducible refine below_st ?_ ?_ _) | (with_reducible refine below_tr ?_ (by assumption)) | (with_reducible exact Nat.le_refl _) | (focus (simp; done)) | (focus (simp; omega)))
        case measure => simp [intOf]; omega
    · obtain rfl : k = xs.length := by omega
      rw [List.take_length] at hall
      have hfin := Lib.hid (show piecesOk xs = inR (xs.length : Int) 1 40 by unfold piecesOk; rw [hall.out]; rfl)
      clear hall
      go_wp2_with (fail)
      refine (c1 _).mono ?_
      rintro e w' ⟨rfl, rfl⟩
      go_wp2
      go_ret
      exact ⟨ret_bool hfin.out.symm, hbw⟩
theorem iLawOk_c (x : Law) (a : LawA) (w : World) (hn : lawLen x ≤ 1048576) (hin : LawIn x) (hs : LawSl w x a) :
    Calls Try.prog 103 #[lawV x a] w fun e w' => e = .returned (.bool (lawOk x)) ∧ Below w.heap.size w w' := by
  simp only [lawLen] at hn
  have c0 := fun W h => iPieces_c a.lows.A x.lows a.lows.c W (by omega) hin.lows h
  have c1 := fun W h => iPieces_c a.highs.A x.highs a.highs.c W (by omega) hin.highs h
  cases e0 : piecesOk x.lows
  · rw [e0] at c0
    have hv := Lib.hid (show lawOk x = false by simp [lawOk, e0])
    go_enter Try.func103, Try.ntmps103
    go_wp2_with (fail)
    refine (c0 _ (Sl.below hs.lows (by (repeat (first | (with_reducible exact Below.refl _ _) | (with_reducible assumption) | (with_reducible refine below_al ?_ _) | (with_reducible refine Below.drew ?_) | (with_reducible refine below_drewN ?_ _) | (with_reducible refine below_st ?_ ?_ _) | (with_reducible refine below_tr ?_ (by assumption)) | (with_reducible exact Nat.le_refl _) | (focus (simp; done)) | (focus (simp; omega))))))).mono ?_
    rintro e w1 ⟨rfl, hb1⟩
    go_wp2
    go_ret
    refine ⟨ret_bool hv.out.symm, ?_⟩
    repeat (first | (with_reducible exact Below.refl _ _) | (with_reducible assumption) | (with_reducible refine below_al ?_ _) | (with_reducible refine Below.drew ?_) | (with_reducible refine below_drewN ?_ _) | (with_reducible refine below_st ?_ ?_ _) | (with_reducible refine below_tr ?_ (by assumption)) | (with_reducible exact Nat.le_refl _) | (focus (simp; done)) | (focus (simp; omega)))
  · rw [e0] at c0
    have hv := Lib.hid (show lawOk x = piecesOk x.highs by simp [lawOk, e0])
    generalize piecesOk x.highs = q at *
    go_enter Try.func103, Try.ntmps103
    go_wp2_with (fail)
    refine (c0 _ (Sl.below hs.lows (by (repeat (first | (with_reducible exact Below.refl _ _) | (with_reducible assumption) | (with_reducible refine below_al ?_ _) | (with_reducible refine Below.drew ?_) | (with_reducible refine below_drewN ?_ _) | (with_reducible refine below_st ?_ ?_ _) | (with_reducible refine below_tr ?_ (by assumption)) | (with_reducible exact Nat.le_refl _) | (focus (simp; done)) | (focus (simp; omega))))))).mono ?_
    rintro e w1 ⟨rfl, hb1⟩
    have r1 := bcell1 hb1
    have l1 : w.heap.size < w1.heap.size := blt hb1 (by first | (simp; done) | (simp; omega) | omega)
    go_wp2_with (fail)
    refine (c1 _ (Sl.below hs.highs (by (repeat (first | (with_reducible exact Below.refl _ _) | (with_reducible assumption) | (with_reducible refine below_al ?_ _) | (with_reducible refine Below.drew ?_) | (with_reducible refine below_drewN ?_ _) | (with_reducible refine below_st ?_ ?_ _) | (with_reducible refine below_tr ?_ (by assumption)) | (with_reducible exact Nat.le_refl _) | (focus (simp; done)) | (focus (simp; omega))))))).mono ?_
    rintro e w2 ⟨rfl, hb2⟩
    go_wp2
    go_ret
    refine ⟨ret_bool hv.out.symm, ?_⟩
    repeat (first | (with_reducible exact Below.refl _ _) | (with_reducible assumption) | (with_reducible refine below_al ?_ _) | (with_reducible refine Below.drew ?_) | (with_reducible refine below_drewN ?_ _) | (with_reducible refine below_st ?_ ?_ _) | (with_reducible refine below_tr ?_ (by assumption)) | (with_reducible exact Nat.le_refl _) | (focus (simp; done)) | (focus (simp; omega)))
theorem sLawOk_c (x : Law) (a : LawA) (w : World) (hn : lawLen x ≤ 1048576) (hin : LawIn x) (hs : LawSl w x a) :
    Calls Try.prog 99 #[lawV x a] w fun e w' => e = .returned (.bool (lawOk x)) ∧ Below w.heap.size w w' := by
  simp only [lawLen] at hn
  have c0 := fun W h => sPieces_c a.lows.A x.lows a.lows.c W (by omega) hin.lows h
  have c1 := fun W h => sPieces_c a.highs.A x.highs a.highs.c W (by omega) hin.highs h
  cases e0 : piecesOk x.lows
  · rw [e0] at c0
    have hv := Lib.hid (show lawOk x = false by simp [lawOk, e0])
    go_enter Try.func99, Try.ntmps99
    go_wp2_with (fail)
    refine (c0 _ (Sl.below hs.lows (by (repeat (first | (with_reducible exact Below.refl _ _) | (with_reducible assumption) | (with_reducible refine below_al ?_ _) | (with_reducible refine Below.drew ?_) | (with_reducible refine below_drewN ?_ _) | (with_reducible refine below_st ?_ ?_ _) | (with_reducible refine below_tr ?_ (by assumption)) | (with_reducible exact Nat.le_refl _) | (focus (simp; done)) | (focus (simp; omega))))))).mono ?_
    rintro e w1 ⟨rfl, hb1⟩
    go_wp2
    go_ret
    refine ⟨ret_bool hv.out.symm, ?_⟩
    repeat (first | (with_reducible exact Below.refl _ _) | (with_reducible assumption) | (with_reducible refine below_al ?_ _) | (with_reducible refine Below.drew ?_) | (with_reducible refine below_drewN ?_ _) | (with_reducible refine below_st ?_ ?_ _) | (with_reducible refine below_tr ?_ (by assumption)) | (with_reducible exact Nat.le_refl _) | (focus (simp; done)) | (focus (simp; omega)))
  · rw [e0] at c0
    have hv := Lib.hid (show lawOk x = piecesOk x.highs by simp [lawOk, e0])
    generalize piecesOk x.highs = q at *
    go_enter Try.func99, Try.ntmps99
    go_wp2_with (fail)
    refine (c0 _ (Sl.below hs.lows (by (repeat (first | (with_reducible exact Below.refl _ _) | (with_reducible assumption) | (with_reducible refine below_al ?_ _) | (with_reducible refine Below.drew ?_) | (with_reducible refine below_drewN ?_ _) | (with_reducible refine below_st ?_ ?_ _) | (with_reducible refine below_tr ?_ (by assumption)) | (with_reducible exact Nat.le_refl _) | (focus (simp; done)) | (focus (simp; omega))))))).mono ?_
    rintro e w1 ⟨rfl, hb1⟩
    have r1 := bcell1 hb1
    have l1 : w.heap.size < w1.heap.size := blt hb1 (by first | (simp; done) | (simp; omega) | omega)
    go_wp2_with (fail)
    refine (c1 _ (Sl.below hs.highs (by (repeat (first | (with_reducible exact Below.refl _ _) | (with_reducible assumption) | (with_reducible refine below_al ?_ _) | (with_reducible refine Below.drew ?_) | (with_reducible refine below_drewN ?_ _) | (with_reducible refine below_st ?_ ?_ _) | (with_reducible refine below_tr ?_ (by assumption)) | (with_reducible exact Nat.le_refl _) | (focus (simp; done)) | (focus (simp; omega))))))).mono ?_
    rintro e w2 ⟨rfl, hb2⟩
    go_wp2
    go_ret
    refine ⟨ret_bool hv.out.symm, ?_⟩
    repeat (first | (with_reducible exact Below.refl _ _) | (with_reducible assumption) | (with_reducible refine below_al ?_ _) | (with_reducible refine Below.drew ?_) | (with_reducible refine below_drewN ?_ _) | (with_reducible refine below_st ?_ ?_ _) | (with_reducible refine below_tr ?_ (by assumption)) | (with_reducible exact Nat.le_refl _) | (focus (simp; done)) | (focus (simp; omega)))
end Go.Proofs.Ytbdihgcjopbnjaa
