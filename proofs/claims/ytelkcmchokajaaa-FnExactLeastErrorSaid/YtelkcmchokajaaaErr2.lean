/-
  LeastError and IsConsistent of the program.
  Conditions: the slice reads as a list of at most 2^20 records.
-/
import Derived.Test.YtelkcmchokajaaaErr
namespace Go.Proofs.Ytelkcmchokajaaa
open Go.RowKit

set_option maxRecDepth 100000 in
set_option maxHeartbeats 4000000 in
theorem iLeastError_c (A : Option Addr) (xs : List Record) (cap : Nat) (s : Spot) (w : World) (hin : s.In) (hn : xs.length ≤ 1048576) (hs : Sl 3 recordC w A xs) :
    Calls Try.prog 45 #[.slice A xs.length cap, spotV s] w fun e w' => e = .returned (.tuple #[ratioV (leastError xs s), .bool (leastOk xs s)]) ∧ Below w.heap.size w w' := by
  have c0 := fun W h => iRecordsOk_c A xs cap W hn h
  have c1 := fun W => areParameters_c s W hin
  cases e0 : recordsOk xs
  · rw [e0] at c0
    have h1 := Lib.hid (show leastError xs s = ratio0 by simp [leastError, leastOk, e0])
    have h2 := Lib.hid (show leastOk xs s = false by simp [leastOk, e0])
    go_enter Try.func45, Try.ntmps45
    go_wp2_with (fail)
    refine (c0 _ (Sl.below hs (by (repeat (first | (with_reducible exact Below.refl _ _) | (with_reducible assumption) | (with_reducible refine below_al ?_ _) | (with_reducible refine Below.drew ?_) | (with_reducible refine below_drewN ?_ _) | (with_reducible refine below_st ?_ ?_ _) | (with_reducible refine below_tr ?_ (by assumption)) | (with_reducible exact Nat.le_refl _) | (focus (simp; done)) | (focus (simp; omega))))))).mono ?_
    rintro e w0 ⟨rfl, hb0⟩
    have H : Has w0 (w.heap.size + 1) [.int .i64 0, .int .i64 0] := by
      repeat (first | ((with_reducible refine Has.new_at ?_ _ _ rfl); (first | rfl | (focus (simp; done)))) | (with_reducible refine Has.set_ ?_ ?_ _) | (with_reducible refine Has.alloc ?_ _) | (with_reducible refine Has.below ?_ (by assumption)) | (focus (simp; done)) | (focus (simp; omega)))
    obtain ⟨cH_0, fH_0⟩ := H.2 0 _ rfl
    obtain ⟨cH_1, fH_1⟩ := H.2 1 _ rfl
    go_wp2
    refine bodyPost_ret (v := .tuple #[.agg #[.int .i64 0, .int .i64 0], .bool false]) (by simp [results, Try.results45, go_sem, cH_0, cH_1]) rfl ⟨by rw [h1.out, h2.out]; rfl, ?_⟩
    repeat (first | (with_reducible exact Below.refl _ _) | (with_reducible assumption) | (with_reducible refine below_al ?_ _) | (with_reducible refine Below.drew ?_) | (with_reducible refine below_drewN ?_ _) | (with_reducible refine below_st ?_ ?_ _) | (with_reducible refine below_tr ?_ (by assumption)) | (with_reducible exact Nat.le_refl _) | (focus (simp; done)) | (focus (simp; omega)))
  · rw [e0] at c0
    cases e1 : areParams s
    · rw [e1] at c1
      have h1 := Lib.hid (show leastError xs s = ratio0 by simp [leastError, leastOk, e1])
      have h2 := Lib.hid (show leastOk xs s = false by simp [leastOk, e1])
      go_enter Try.func45, Try.ntmps45
      go_wp2_with (fail)
      refine (c0 _ (Sl.below hs (by (repeat (first | (with_reducible exact Below.refl _ _) | (with_reducible assumption) | (with_reducible refine below_al ?_ _) | (with_reducible refine Below.drew ?_) | (with_reducible refine below_drewN ?_ _) | (with_reducible refine below_st ?_ ?_ _) | (with_reducible refine below_tr ?_ (by assumption)) | (with_reducible exact Nat.le_refl _) | (focus (simp; done)) | (focus (simp; omega))))))).mono ?_
      rintro e w0 ⟨rfl, hb0⟩
      have r0 := bcell1 hb0
      have l0 : w.heap.size < w0.heap.size := blt hb0 (by first | (simp; done) | (simp; omega) | omega)
      go_wp2_with (fail)
      refine (c1 _).mono ?_
      rintro e w1 ⟨rfl, hb1⟩
      have H : Has w1 (w.heap.size + 1) [.int .i64 0, .int .i64 0] := by
        repeat (first | ((with_reducible refine Has.new_at ?_ _ _ rfl); (first | rfl | (focus (simp; done)))) | (with_reducible refine Has.set_ ?_ ?_ _) | (with_reducible refine Has.alloc ?_ _) | (with_reducible refine Has.below ?_ (by assumption)) | (focus (simp; done)) | (focus (simp; omega)))
      obtain ⟨cH_0, fH_0⟩ := H.2 0 _ rfl
      obtain ⟨cH_1, fH_1⟩ := H.2 1 _ rfl
      go_wp2
      refine bodyPost_ret (v := .tuple #[.agg #[.int .i64 0, .int .i64 0], .bool false]) (by simp [results, Try.results45, go_sem, cH_0, cH_1]) rfl ⟨by rw [h1.out, h2.out]; rfl, ?_⟩
      repeat (first | (with_reducible exact Below.refl _ _) | (with_reducible assumption) | (with_reducible refine below_al ?_ _) | (with_reducible refine Below.drew ?_) | (with_reducible refine below_drewN ?_ _) | (with_reducible refine below_st ?_ ?_ _) | (with_reducible refine below_tr ?_ (by assumption)) | (with_reducible exact Nat.le_refl _) | (focus (simp; done)) | (focus (simp; omega)))
    · rw [e1] at c1
      have h1 := Lib.hid (show leastError xs s = ratioOf (maxDist xs s) (100 * s.d) by simp [leastError, leastOk, e0, e1])
      have h2 := Lib.hid (show leastOk xs s = true by simp [leastOk, e0, e1])
      have hall := Lib.hid (leastOk_dis e0 e1)
      have hrec := Lib.hid (recordsOk_all e0)
      obtain ⟨⟨d1, d2⟩, _, _⟩ := parB e1
      clear e0 e1
      go_enter Try.func45, Try.ntmps45
      go_wp2_with (fail)
      refine (c0 _ (Sl.below hs (by (repeat (first | (with_reducible exact Below.refl _ _) | (with_reducible assumption) | (with_reducible refine below_al ?_ _) | (with_reducible refine Below.drew ?_) | (with_reducible refine below_drewN ?_ _) | (with_reducible refine below_st ?_ ?_ _) | (with_reducible refine below_tr ?_ (by assumption)) | (with_reducible exact Nat.le_refl _) | (focus (simp; done)) | (focus (simp; omega))))))).mono ?_
      rintro e w0 ⟨rfl, hb0⟩
      have r0 := bcell1 hb0
      have l0 : w.heap.size < w0.heap.size := blt hb0 (by first | (simp; done) | (simp; omega) | omega)
      have m0 : w.heap.size + 1 < w0.heap.size := blt hb0 (by first | (simp; done) | (simp; omega) | omega)
      go_wp2_with (fail)
      refine (c1 _).mono ?_
      rintro e w1 ⟨rfl, hb1⟩
      have r1 := bcell1 hb1
      have l1 : w.heap.size < w1.heap.size := blt hb1 (by first | (simp; done) | (simp; omega) | omega)
      have m1 : w.heap.size + 1 < w1.heap.size := blt hb1 (by first | (simp; done) | (simp; omega) | omega)
      have HS : Has w1 w.heap.size [.int .i64 s.x, .int .i64 s.y, .int .i64 s.d] := by
        repeat (first | ((with_reducible refine Has.new_at ?_ _ _ rfl); (first | rfl | (focus (simp; done)))) | (with_reducible refine Has.set_ ?_ ?_ _) | (with_reducible refine Has.alloc ?_ _) | (with_reducible refine Has.below ?_ (by assumption)) | (focus (simp; done)) | (focus (simp; omega)))
      have HZ : Has w1 (w.heap.size + 1) [.int .i64 0, .int .i64 0] := by
        repeat (first | ((with_reducible refine Has.new_at ?_ _ _ rfl); (first | rfl | (focus (simp; done)))) | (with_reducible refine Has.set_ ?_ ?_ _) | (with_reducible refine Has.alloc ?_ _) | (with_reducible refine Has.below ?_ (by assumption)) | (focus (simp; done)) | (focus (simp; omega)))
      have hsw : Sl 3 recordC w1 A xs := Sl.below hs (by (repeat (first | (with_reducible exact Below.refl _ _) | (with_reducible assumption) | (with_reducible refine below_al ?_ _) | (with_reducible refine Below.drew ?_) | (with_reducible refine below_drewN ?_ _) | (with_reducible refine below_st ?_ ?_ _) | (with_reducible refine below_tr ?_ (by assumption)) | (with_reducible exact Nat.le_refl _) | (focus (simp; done)) | (focus (simp; omega)))))
      have hbw : Below w.heap.size w w1 := by
        repeat (first | (with_reducible exact Below.refl _ _) | (with_reducible assumption) | (with_reducible refine below_al ?_ _) | (with_reducible refine Below.drew ?_) | (with_reducible refine below_drewN ?_ _) | (with_reducible refine below_st ?_ ?_ _) | (with_reducible refine below_tr ?_ (by assumption)) | (with_reducible exact Nat.le_refl _) | (focus (simp; done)) | (focus (simp; omega)))
      go_wp2
      clear r0 r1 l0 l1 m0 m1 hb0 hb1 c0 c1 hs
      go_loopw [6, 8, 20] (fun m _ i wr => ∃ k : Nat, k ≤ xs.length ∧ i = .int .i64 k ∧ m = .int .i64 (maxDist (xs.take k) s) ∧ Below w1.heap.size w1 wr) (fun _ _ i _ => xs.length - (intOf i).toNat)
      case atStart => exact ⟨0, Nat.zero_le _, rfl, rfl, Below.refl _ _⟩
      case round =>
        obtain ⟨k, hk, rfl, rfl, hbr⟩ := hrel
        have HR := HS.below hbr
        have lR := HR.1
        have hm := maxDist_bd (xs.take k) (fun x hx => hall.out x (List.mem_of_mem_take hx))
        obtain ⟨hm1, hm2⟩ := hm
        obtain ⟨cHR_0, fHR_0⟩ := HR.2 0 _ rfl
        obtain ⟨cHR_1, fHR_1⟩ := HR.2 1 _ rfl
        obtain ⟨cHR_2, fHR_2⟩ := HR.2 2 _ rfl
        by_cases hlt : k < xs.length
        · obtain ⟨b, off, rfl, hblt, hc⟩ := (hsw.below hbr).at_ hlt
          have g0 := hc 0 _ rfl
          have g1 := hc 1 _ rfl
          have g2 := hc 2 _ rfl
          have hst := Lib.hid (maxDist_take hlt s)
          have hd := hall.out xs[k] (List.getElem_mem hlt)
          have ha := (hrec.out xs[k] (List.getElem_mem hlt)).2.2
          obtain ⟨q1, q2⟩ := distR_bd hd
          have c2 := fun W => distanceOf_c xs[k] s W hd ha
          clear hc hd ha
          simp only [Nat.add_zero] at g0
          generalize xs[k] = x at *
          generalize maxDist (xs.take k) s = M at *
          generalize distR x s = D at *
          go_wp2_with (fail)
          refine (c2 _).mono ?_
          rintro e w2 ⟨rfl, hb2⟩
          have i1 : (k : Int) < (xs.length : Int) := by omega
          go_wp2
          all_goals
            go_roundw
            case rel =>
              refine ⟨k + 1, by omega, by go_num, ?_, ?_⟩
              · rw [hst.out]; congr 1; omega
              · refine below_tr (below_al hbr _) hb2
            case measure => simp [intOf]; omega
        · obtain rfl : k = xs.length := by omega
          rw [List.take_length] at *
          have c2 := fun W => iRatioOf_c (maxDist xs s) (100 * s.d) W ⟨by omega, by omega⟩ ⟨by omega, by omega⟩
          have HB := HZ.below hbr
          generalize ratioOf (maxDist xs s) (100 * s.d) = R at *
          go_wp2_with (fail)
          refine (c2 _).mono ?_
          rintro e w2 ⟨rfl, hb2⟩
          have H := HB.below hb2
          obtain ⟨cH_0, fH_0⟩ := H.2 0 _ rfl
          obtain ⟨cH_1, fH_1⟩ := H.2 1 _ rfl
          go_wp2
          refine bodyPost_ret (v := .tuple #[.agg #[.int .i64 R.n, .int .i64 R.d], .bool true]) (by simp [results, Try.results45, go_sem, cH_0, cH_1]) rfl ⟨by rw [h1.out, h2.out], ?_⟩
          have hb3 := below_tr (below_tr hbw hbr) hb2
          repeat (first | (with_reducible exact Below.refl _ _) | (with_reducible assumption) | (with_reducible refine below_al ?_ _) | (with_reducible refine Below.drew ?_) | (with_reducible refine below_drewN ?_ _) | (with_reducible refine below_st ?_ ?_ _) | (with_reducible refine below_tr ?_ (by assumption)) | (with_reducible exact Nat.le_refl _) | (focus (simp; done)) | (focus (simp; omega)))
end Go.Proofs.Ytelkcmchokajaaa
