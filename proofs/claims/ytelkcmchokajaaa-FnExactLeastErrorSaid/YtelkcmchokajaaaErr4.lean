/-
  LeastError of the reference.
  Conditions: the slice reads as a list of at most 2^20 records.
-/
import Derived.Test.YtelkcmchokajaaaErr
import Derived.Test.YtelkcmchokajaaaPiece
namespace Go.Proofs.Ytelkcmchokajaaa
open Go.RowKit

theorem below_al_at {a w : World} {B : Nat} (h : Below B a w) (hB : B ≤ w.heap.size) (o : Obj) : Below B a (w.alloc o) := h.alloc hB o

set_option maxRecDepth 100000 in
set_option maxHeartbeats 8000000 in
theorem sLeastError_c (A : Option Addr) (xs : List Record) (cap : Nat) (s : Spot) (w : World) (hin : s.In) (hn : xs.length ≤ 1048576) (hs : Sl 3 recordC w A xs) :
    Calls Try.prog 44 #[.slice A xs.length cap, spotV s] w fun e w' => e = .returned (.tuple #[ratioV (leastError xs s), .bool (leastOk xs s)]) ∧ Below w.heap.size w w' := by
  have c0 := fun W h => sRecordsOk_c A xs cap W hn h
  have c1 := fun W => sSpotOk_c s W hin
  cases e0 : recordsOk xs
  · rw [e0] at c0
    have h1 := Lib.hid (show leastError xs s = ratio0 by simp [leastError, leastOk, e0])
    have h2 := Lib.hid (show leastOk xs s = false by simp [leastOk, e0])
    go_enter Try.func44, Try.ntmps44
    go_wp2_with (fail)
    refine (c0 _ (Sl.below hs (by (repeat (first | (with_reducible exact Below.refl _ _) | (with_reducible assumption) | (with_reducible refine below_al ?_ _) | (with_reducible refine Below.drew ?_) | (with_reducible refine below_drewN ?_ _) | (with_reducible refine below_st ?_ ?_ _) | (with_reducible refine below_tr ?_ (by assumption)) | (with_reducible exact Nat.le_refl _) | (focus (simp; done)) | (focus (simp; omega))))))).mono ?_
    rintro e w0 ⟨rfl, hb0⟩
    have H : Has w0 (w.heap.size + 1) [.int .i64 0, .int .i64 0] := by
      repeat (first | ((with_reducible refine Has.new_at ?_ _ _ rfl); (first | rfl | (focus (simp; done)))) | (with_reducible refine Has.set_ ?_ ?_ _) | (with_reducible refine Has.alloc ?_ _) | (with_reducible refine Has.below ?_ (by assumption)) | (focus (simp; done)) | (focus (simp; omega)))
    obtain ⟨cH_0, fH_0⟩ := H.2 0 _ rfl
    obtain ⟨cH_1, fH_1⟩ := H.2 1 _ rfl
    go_wp2
    refine bodyPost_ret (v := .tuple #[.agg #[.int .i64 0, .int .i64 0], .bool false]) (by simp [results, Try.results44, go_sem, cH_0, cH_1]) rfl ⟨by rw [h1.out, h2.out]; rfl, ?_⟩
    repeat (first | (with_reducible exact Below.refl _ _) | (with_reducible assumption) | (with_reducible refine below_al ?_ _) | (with_reducible refine Below.drew ?_) | (with_reducible refine below_drewN ?_ _) | (with_reducible refine below_st ?_ ?_ _) | (with_reducible refine below_tr ?_ (by assumption)) | (with_reducible exact Nat.le_refl _) | (focus (simp; done)) | (focus (simp; omega)))
  · rw [e0] at c0
    cases e1 : spotOk s
    · rw [e1] at c1
      have h1 := Lib.hid (show leastError xs s = ratio0 by simp [leastError, leastOk, areParams, e1])
      have h2 := Lib.hid (show leastOk xs s = false by simp [leastOk, areParams, e1])
      go_enter Try.func44, Try.ntmps44
      go_wp2_with (fail)
      refine (c0 _ (Sl.below hs (by (repeat (first | (with_reducible exact Below.refl _ _) | (with_reducible assumption) | (with_reducible refine below_al ?_ _) | (with_reducible refine Below.drew ?_) | (with_reducible refine below_drewN ?_ _) | (with_reducible refine below_st ?_ ?_ _) | (with_reducible refine below_tr ?_ (by assumption)) | (with_reducible exact Nat.le_refl _) | (focus (simp; done)) | (focus (simp; omega))))))).mono ?_
      rintro e w0 ⟨rfl, hb0⟩
      have r0 := bcell1 hb0
      have l0 : w.heap.size < w0.heap.size := blt hb0 (by first | (simp; done) | (simp; omega) | omega)
      go_wp2_with (fail)
      refine (c1 _).mono ?_
      rintro e w1 ⟨rfl, hb1⟩
      have H : Has w1 (w.heap.size + 1) [.int .i64 0, .int .i64 0] := by
        repeat (first | ((with_reducible refine Has.new_at ?_ _ _ rfl); (first | rfl | (focus (simp; done)))) | (with_reducible refine Has.set_ ?_ ?_ _) | (with_reducible refine Has.alloc ?_ _) | (with_reducible refine Has.below ?_ (by assumption)) | (focus (simp; done)) | (focus (simp; omega)))
      obtain ⟨cH_0, fH_0⟩ := H.2 0 _ rfl
      obtain ⟨cH_1, fH_1⟩ := H.2 1 _ rfl
      go_wp2
      refine bodyPost_ret (v := .tuple #[.agg #[.int .i64 0, .int .i64 0], .bool false]) (by simp [results, Try.results44, go_sem, cH_0, cH_1]) rfl ⟨by rw [h1.out, h2.out]; rfl, ?_⟩
      repeat (first | (with_reducible exact Below.refl _ _) | (with_reducible assumption) | (with_reducible refine below_al ?_ _) | (with_reducible refine Below.drew ?_) | (with_reducible refine below_drewN ?_ _) | (with_reducible refine below_st ?_ ?_ _) | (with_reducible refine below_tr ?_ (by assumption)) | (with_reducible exact Nat.le_refl _) | (focus (simp; done)) | (focus (simp; omega)))
    · rw [e1] at c1
      by_cases hd : s.d ≤ 1000
      · have e2 : areParams s = true := by simp [areParams, e1, hd]
        have h1 := Lib.hid (show leastError xs s = ratioOf (maxDist xs s) (100 * s.d) by simp [leastError, leastOk, e0, e2])
        have h2 := Lib.hid (show leastOk xs s = true by simp [leastOk, e0, e2])
        have hall := Lib.hid (leastOk_dis e0 e2)
        have hrec := Lib.hid (recordsOk_all e0)
        obtain ⟨⟨d1, d2⟩, _, _⟩ := parB e2
        have hz1 := Lib.hid (show ratioOf 0 (100 * s.d) = ratioOf 0 1 by rw [ratioOf_zero ⟨by omega, by omega⟩, ratioOf_zero ⟨by omega, by omega⟩])
        have cz := fun W => sRatioOf_c 0 1 W ⟨by decide, by decide⟩ ⟨by decide, by decide⟩
        rw [← hz1.out] at cz
        clear e0 e1 e2
        go_enter Try.func44, Try.ntmps44
        go_wp2_with (fail)
        refine (c0 _ (Sl.below hs (by (repeat (first | (with_reducible exact Below.refl _ _) | (with_reducible assumption) | (with_reducible refine below_al ?_ _) | (with_reducible refine Below.drew ?_) | (with_reducible refine below_drewN ?_ _) | (with_reducible refine below_st ?_ ?_ _) | (with_reducible refine below_tr ?_ (by assumption)) | (with_reducible exact Nat.le_refl _) | (focus (simp; done)) | (focus (simp; omega))))))).mono ?_
        rintro e w0 ⟨rfl, hb0⟩
        have r0 := bcell1 hb0
        have l0 : w.heap.size < w0.heap.size := blt hb0 (by first | (simp; done) | (simp; omega) | omega)
        have m0 : w.heap.size + 1 < w0.heap.size := blt hb0 (by first | (simp; done) | (simp; omega) | omega)
        go_wp2_with (fail)
        refine (c1 _).mono ?_
        rintro e w1 ⟨rfl, hb1⟩
        have r1 := bcell1 hb1
        have l1 : w.heap.size < w1.heap.size := blt hb1 (by first | (simp; done) | (simp; omega) | omega)
        have m1 : w.heap.size + 1 < w1.heap.size := blt hb1 (by first | (simp; done) | (simp; omega) | omega)
        go_wp2_with (fail)
        refine (cz _).mono ?_
        rintro e w2 ⟨rfl, hb2⟩
        have HS : Has w2 w.heap.size [.int .i64 s.x, .int .i64 s.y, .int .i64 s.d] := by
          repeat (first | ((with_reducible refine Has.new_at ?_ _ _ rfl); (first | rfl | (focus (simp; done)))) | (with_reducible refine Has.set_ ?_ ?_ _) | (with_reducible refine Has.alloc ?_ _) | (with_reducible refine Has.below ?_ (by assumption)) | (focus (simp; done)) | (focus (simp; omega)))
        have HZ : Has w2 (w.heap.size + 1) [.int .i64 0, .int .i64 0] := by
          repeat (first | ((with_reducible refine Has.new_at ?_ _ _ rfl); (first | rfl | (focus (simp; done)))) | (with_reducible refine Has.set_ ?_ ?_ _) | (with_reducible refine Has.alloc ?_ _) | (with_reducible refine Has.below ?_ (by assumption)) | (focus (simp; done)) | (focus (simp; omega)))
        have hsw : Sl 3 recordC w2 A xs := Sl.below hs (by (repeat (first | (with_reducible exact Below.refl _ _) | (with_reducible assumption) | (with_reducible refine below_al ?_ _) | (with_reducible refine Below.drew ?_) | (with_reducible refine below_drewN ?_ _) | (with_reducible refine below_st ?_ ?_ _) | (with_reducible refine below_tr ?_ (by assumption)) | (with_reducible exact Nat.le_refl _) | (focus (simp; done)) | (focus (simp; omega)))))
        have hbw : Below w.heap.size w w2 := by
          repeat (first | (with_reducible exact Below.refl _ _) | (with_reducible assumption) | (with_reducible refine below_al ?_ _) | (with_reducible refine Below.drew ?_) | (with_reducible refine below_drewN ?_ _) | (with_reducible refine below_st ?_ ?_ _) | (with_reducible refine below_tr ?_ (by assumption)) | (with_reducible exact Nat.le_refl _) | (focus (simp; done)) | (focus (simp; omega)))
        go_wp2
        clear r0 r1 l0 l1 m0 m1 hb0 hb1 hb2 c0 c1 cz hs
        go_loopw [8, 26] (fun _ i wr => ∃ k : Nat, k ≤ xs.length ∧ i = .int .i64 k ∧ Has wr w2.heap.size [.int .i64 (ratioOf (maxDist (xs.take k) s) (100 * s.d)).n, .int .i64 (ratioOf (maxDist (xs.take k) s) (100 * s.d)).d] ∧ Below w2.heap.size w2 wr) (fun _ i _ => xs.length - (intOf i).toNat)
        case atStart => exact ⟨0, Nat.zero_le _, rfl, Has.new _ _ _, by (repeat (first | (with_reducible exact Below.refl _ _) | (with_reducible assumption) | (with_reducible refine below_al ?_ _) | (with_reducible refine Below.drew ?_) | (with_reducible refine below_drewN ?_ _) | (with_reducible refine below_st ?_ ?_ _) | (with_reducible refine below_tr ?_ (by assumption)) | (with_reducible exact Nat.le_refl _) | (focus (simp; done)) | (focus (simp; omega))))⟩
        case round =>
          obtain ⟨k, hk, rfl, HG, hbr⟩ := hrel
          have HR := HS.below hbr
          have lR := HR.1
          have lw := HS.1
          have lG := HG.1
          obtain ⟨hm1, hm2⟩ := maxDist_bd (xs.take k) (fun x hx => hall.out x (List.mem_of_mem_take hx))
          by_cases hlt : k < xs.length
          · obtain ⟨b, off, rfl, hblt, hc⟩ := (hsw.below hbr).at_ hlt
            have g0 := hc 0 _ rfl
            have g1 := hc 1 _ rfl
            have g2 := hc 2 _ rfl
            have hst := Lib.hid (maxDist_take hlt s)
            have hd := hall.out xs[k] (List.getElem_mem hlt)
            have ha := (hrec.out xs[k] (List.getElem_mem hlt)).2.2
            obtain ⟨q1, q2⟩ := distR_bd hd
            have c2 := fun W => l18Distance_c xs[k] s W hd ha ⟨d1, d2⟩
            have c3 := fun W => sRatioMax_c (ratioOf (maxDist (xs.take k) s) (100 * s.d)) (ratioOf (distR xs[k] s) (100 * s.d)) W (ratioOf_in ⟨by omega, by omega⟩ ⟨by omega, by omega⟩) (ratioOf_in ⟨by omega, by omega⟩ ⟨by omega, by omega⟩)
            rw [ratioMax_of ⟨by omega, by omega⟩ ⟨by omega, by omega⟩ ⟨by omega, by omega⟩, ← hst.out] at c3
            clear hc hd ha hst q1 q2 hm1 hm2
            simp only [Nat.add_zero] at g0
            generalize xs[k] = x at *
            generalize ratioOf (maxDist (xs.take k) s) (100 * s.d) = R at *
            generalize ratioOf (distR x s) (100 * s.d) = D at *
            have HX := Has.new wr #[.int .i64 x.before, .int .i64 x.input, .int .i64 x.after] 130
            have HR := HR.alloc (.cells #[.int .i64 x.before, .int .i64 x.input, .int .i64 x.after] 130)
            have HG := HG.alloc (.cells #[.int .i64 x.before, .int .i64 x.input, .int .i64 x.after] 130)
            have hbz := below_al_at hbr (Nat.le_of_lt lG) (.cells #[.int .i64 x.before, .int .i64 x.input, .int .i64 x.after] 130)
            have i1 : (k : Int) < (xs.length : Int) := by omega
            go_upto_region 7 with fail
            clear hsw hall hrec h1 h2 hz1 hbr hbw HS HZ g0 g1 g2 lR lw
            generalize hW : wr.alloc (.cells #[.int .i64 x.before, .int .i64 x.input, .int .i64 x.after] 130) = W at *
            clear hW
            obtain ⟨cHX_0, fHX_0⟩ := HX.2 0 _ rfl
            obtain ⟨cHX_1, fHX_1⟩ := HX.2 1 _ rfl
            obtain ⟨cHX_2, fHX_2⟩ := HX.2 2 _ rfl
            obtain ⟨cHR_0, fHR_0⟩ := HR.2 0 _ rfl
            obtain ⟨cHR_1, fHR_1⟩ := HR.2 1 _ rfl
            obtain ⟨cHR_2, fHR_2⟩ := HR.2 2 _ rfl
            obtain ⟨cHG_0, fHG_0⟩ := HG.2 0 _ rfl
            obtain ⟨cHG_1, fHG_1⟩ := HG.2 1 _ rfl
            clear fHX_0 fHX_1 fHX_2 fHR_0 fHR_1 fHR_2 fHG_0 fHG_1
            go_region_with
              (first
                | (go_at_call 102; go_must (refine (c2 _).mono ?_; rintro e w3 ⟨rfl, hb3⟩; clear cHX_0 cHX_1 cHX_2 cHR_0 cHR_1 cHR_2 cHG_0 cHG_1; have HG3 : Has w3 w2.heap.size _ := HG.drew.below hb3; obtain ⟨x6, _⟩ := HG3.2 0 _ rfl; obtain ⟨x7, _⟩ := HG3.2 1 _ rfl))
                | (go_at_call 101; go_must (refine (c3 _).mono ?_; rintro e w4 ⟨rfl, hb4⟩; have HG4 : Has w4 w2.heap.size _ := HG3.below hb4; clear x6 x7; obtain ⟨x6, y6⟩ := HG4.2 0 _ rfl; obtain ⟨x7, y7⟩ := HG4.2 1 _ rfl)))
            all_goals
              clear c2 c3 HX HR HG HG3
              go_wp2
              go_roundw
              case rel =>
                refine ⟨k + 1, by omega, by go_num, Has.stored HG4 [_, _] rfl, ?_⟩
                have hb5 := below_tr (below_tr hbz.drew hb3) hb4
                exact (hb5.setCell (Nat.le_refl _) _).setCell (Nat.le_refl _) _
              case measure => simp [intOf]; omega
          · obtain rfl : k = xs.length := by omega
            rw [List.take_length] at *
            generalize ratioOf (maxDist xs s) (100 * s.d) = R at *
            have H := HZ.below hbr
            obtain ⟨cH_0, fH_0⟩ := H.2 0 _ rfl
            obtain ⟨cH_1, fH_1⟩ := H.2 1 _ rfl
            obtain ⟨cHG_0, fHG_0⟩ := HG.2 0 _ rfl
            obtain ⟨cHG_1, fHG_1⟩ := HG.2 1 _ rfl
            go_wp2
            refine bodyPost_ret (v := .tuple #[.agg #[.int .i64 R.n, .int .i64 R.d], .bool true]) (by simp [results, Try.results44, go_sem, cH_0, cH_1]) rfl ⟨by rw [h1.out, h2.out], ?_⟩
            have hb3 := below_tr hbw hbr
            repeat (first | (with_reducible exact Below.refl _ _) | (with_reducible assumption) | (with_reducible refine below_al ?_ _) | (with_reducible refine Below.drew ?_) | (with_reducible refine below_drewN ?_ _) | (with_reducible refine below_st ?_ ?_ _) | (with_reducible refine below_tr ?_ (by assumption)) | (with_reducible exact Nat.le_refl _) | (focus (simp; done)) | (focus (simp; omega)))
      · have h1 := Lib.hid (show leastError xs s = ratio0 by simp [leastError, leastOk, areParams, hd])
        have h2 := Lib.hid (show leastOk xs s = false by simp [leastOk, areParams, hd])
        have hd2 : 1000 < s.d := by omega
        go_enter Try.func44, Try.ntmps44
        go_wp2_with (fail)
        refine (c0 _ (Sl.below hs (by (repeat (first | (with_reducible exact Below.refl _ _) | (with_reducible assumption) | (with_reducible refine below_al ?_ _) | (with_reducible refine Below.drew ?_) | (with_reducible refine below_drewN ?_ _) | (with_reducible refine below_st ?_ ?_ _) | (with_reducible refine below_tr ?_ (by assumption)) | (with_reducible exact Nat.le_refl _) | (focus (simp; done)) | (focus (simp; omega))))))).mono ?_
        rintro e w0 ⟨rfl, hb0⟩
        have r0 := bcell1 hb0
        have l0 : w.heap.size < w0.heap.size := blt hb0 (by first | (simp; done) | (simp; omega) | omega)
        go_wp2_with (fail)
        refine (c1 _).mono ?_
        rintro e w1 ⟨rfl, hb1⟩
        have r1 := bcell1 hb1
        have l1 : w.heap.size < w1.heap.size := blt hb1 (by first | (simp; done) | (simp; omega) | omega)
        have H : Has w1 (w.heap.size + 1) [.int .i64 0, .int .i64 0] := by
          repeat (first | ((with_reducible refine Has.new_at ?_ _ _ rfl); (first | rfl | (focus (simp; done)))) | (with_reducible refine Has.set_ ?_ ?_ _) | (with_reducible refine Has.alloc ?_ _) | (with_reducible refine Has.below ?_ (by assumption)) | (focus (simp; done)) | (focus (simp; omega)))
        obtain ⟨cH_0, fH_0⟩ := H.2 0 _ rfl
        obtain ⟨cH_1, fH_1⟩ := H.2 1 _ rfl
        go_wp2
        refine bodyPost_ret (v := .tuple #[.agg #[.int .i64 0, .int .i64 0], .bool false]) (by simp [results, Try.results44, go_sem, cH_0, cH_1]) rfl ⟨by rw [h1.out, h2.out]; rfl, ?_⟩
        repeat (first | (with_reducible exact Below.refl _ _) | (with_reducible assumption) | (with_reducible refine below_al ?_ _) | (with_reducible refine Below.drew ?_) | (with_reducible refine below_drewN ?_ _) | (with_reducible refine below_st ?_ ?_ _) | (with_reducible refine below_tr ?_ (by assumption)) | (with_reducible exact Nat.le_refl _) | (focus (simp; done)) | (focus (simp; omega)))
end Go.Proofs.Ytelkcmchokajaaa
