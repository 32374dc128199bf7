/-
  The tightest half planes in the order of their directions, of the program.
  Conditions: valid half planes; the slice holds at most 2^20 elements.
-/
import Derived.Test.YtbdihgcjopbnjaaIns
import Derived.Test.YtbdihgcjopbnjaaEdg
import Derived.BigQuiet
namespace Go.Proofs.Ytbdihgcjopbnjaa
open Go.RowKit

theorem gins_at : ∀ {l : List Half} {h : Half} {j : Nat}, j ≤ l.length → (∀ q, q < j → hbef (l.getD q half0) h = true) →
    (j = l.length → gins l h = l.take j ++ h :: l.drop j) ∧
    (j < l.length → hbef (l.getD j half0) h = false → (sameDir (l.getD j half0) h = true → gins l h = l.set j (htighter (l.getD j half0) h)) ∧ (sameDir (l.getD j half0) h = false → gins l h = l.take j ++ h :: l.drop j))
  | [], h, j, hj, _ => by
    obtain rfl : j = 0 := by simpa using hj
    exact ⟨fun _ => rfl, fun h1 => by simp at h1⟩
  | x :: r, h, 0, _, _ => by
    refine ⟨fun h1 => by simp at h1, fun _ hb => ?_⟩
    simp only [List.getD_cons_zero] at hb ⊢
    refine ⟨fun hs => ?_, fun hs => ?_⟩
    · rw [gins, if_neg (by rw [hb]; decide), if_pos hs]; rfl
    · rw [gins, if_neg (by rw [hb]; decide), if_neg (by rw [hs]; decide)]; rfl
  | x :: r, h, j + 1, hj, hq => by
    have h0 := hq 0 (by omega)
    simp only [List.getD_cons_zero] at h0
    have I := gins_at (l := r) (h := h) (j := j) (by simpa using hj) (fun q h1 => by have := hq (q + 1) (by omega); simpa using this)
    refine ⟨fun h1 => ?_, fun h1 hb => ⟨fun hs => ?_, fun hs => ?_⟩⟩
    · rw [gins, if_pos h0, I.1 (by simpa using h1)]; rfl
    · rw [gins, if_pos h0, (I.2 (by simpa using h1) (by simpa using hb)).1 (by simpa using hs)]; simp
    · rw [gins, if_pos h0, (I.2 (by simpa using h1) (by simpa using hb)).2 (by simpa using hs)]; rfl
theorem gtight_step {hs : List Half} {k : Nat} (h : k < hs.length) : gtight (hs.take (k + 1)) = gins (gtight (hs.take k)) hs[k] := by
  rw [take_succ' hs k h]; unfold gtight; rw [List.foldl_append]; rfl
theorem gtight_ok {hs : List Half} (hok : ∀ h ∈ hs, halfOk h = true) : ∀ x ∈ gtight hs, halfOk x = true := fun x hx => hok x ((tight_canon (fun h hh => (hOk (hok h hh)).n)).mem x hx)

theorem New.row {α : Type} {T sz base cap : Nat} {enc : α → List Value} {w : World} {A : Option Addr} {xs : List α} (h : New T sz enc w base (.slice A xs.length cap) xs) (h0 : 0 < xs.length) :
    ∃ g cur, A = some ⟨g, 0, none⟩ ∧ base ≤ g ∧ g < w.heap.size ∧ w.heap[g]? = some (.cells cur T (0, 0)) ∧ xs.length ≤ cap ∧ cur.size = cap * sz := by
  obtain ⟨A', cap', e, h1, h2⟩ := h
  injection e with e1 _ e3
  subst e1 e3
  rcases h2 with ⟨_, h2⟩ | ⟨g, cap', cur, hv, hg, hh, hcap, hmax, hsize, htake⟩
  · omega
  · injection hv with hA _ hc
    subst hA hc
    exact ⟨g, cur, rfl, hg, lt_of_heap hh, hh, hcap, hsize⟩
/-- One element of a slice of one's own written over. -/
theorem New.set3 {T base g cap j : Nat} {w : World} {xs : List Half} {y : Half} (h : New T 3 halfC w base (.slice (some ⟨g, 0, none⟩) xs.length cap) xs) (hj : j < xs.length) :
    New T 3 halfC (((w.setCell ⟨g, j * 3, none⟩ (.int .i64 y.a)).setCell ⟨g, j * 3 + 1, none⟩ (.int .i64 y.b)).setCell ⟨g, j * 3 + 2, none⟩ (.int .i64 y.c)) base (.slice (some ⟨g, 0, none⟩) xs.length cap) (xs.set j y) := by
  obtain ⟨A', cap', e, h1, h2⟩ := h
  injection e with e1 _ e3
  subst e1 e3
  rcases h2 with ⟨_, h2⟩ | ⟨g', cap', cur, hv, hg, hh, hcap, hmax, hsize, htake⟩
  · omega
  · injection hv with hA _ hc
    injection hA with hA
    injection hA with hA
    subst hA hc
    have hm : (j + 1) * 3 ≤ xs.length * 3 := Nat.mul_le_mul_right 3 hj
    have hm2 : xs.length * 3 ≤ cap * 3 := Nat.mul_le_mul_right 3 hcap
    obtain ⟨cs', e1, e2, e3, e4⟩ := cells_setCells (halfC y) (j * 3) w cur hh (by simp only [halfC, List.length_cons, List.length_nil]; omega)
    have hlen : (xs.set j y).length = xs.length := List.length_set
    refine ⟨_, cap, by rw [hlen], ?_, .inr ⟨g, cap, cs', by rw [hlen], hg, e1, by rw [hlen]; exact hcap, hmax, by rw [e2]; exact hsize, ?_⟩⟩
    · rw [flatMap_len halfC_len]
    · refine list_of_cells halfC_len (xs.set j y) cs' (by rw [hlen, e2]; omega) (fun i hi q u hu => ?_)
      rw [hlen] at hi
      have hq : q < 3 := by
        rcases Nat.lt_or_ge q 3 with h3 | h3
        · exact h3
        · rw [List.getElem?_eq_none (by rw [halfC_len]; exact h3)] at hu; cases hu
      by_cases hij : i = j
      · subst hij
        rw [List.getElem_set_self] at hu
        exact e3 q u hu
      · rw [List.getElem_set_ne (fun e => hij e.symm)] at hu
        have h5 := flatMap_at halfC_len xs i hi q u hu
        rw [← htake, List.getElem?_take] at h5
        have h6 : cur[i * 3 + q]? = some u := by
          split at h5
          · rw [← Array.getElem?_toList]; exact h5
          · cases h5
        have h7 := e4 (i * 3 + q) (by
          rcases Nat.lt_or_ge i j with h8 | h8
          · left; have := Nat.mul_le_mul_right 3 h8; omega
          · right; have := Nat.mul_le_mul_right 3 (show j + 1 ≤ i by omega); simp only [halfC, List.length_cons, List.length_nil]; omega)
        rw [h7]; exact h6

set_option maxRecDepth 100000 in
set_option maxHeartbeats 8000000 in
theorem iTightest_c (A : Option Addr) (hs : List Half) (cap : Nat) (w : World) (hl : hs.length ≤ 1048576) (hok : ∀ h ∈ hs, halfOk h = true) (hsl : Sl 3 halfC w A hs) :
    Calls Try.prog 164 #[.slice A hs.length cap] w fun e w' => ∃ v, e = .returned v ∧ New 177 3 halfC w' w.heap.size v (gtight hs) ∧ Below w.heap.size w w' := by
  have HK := Lib.hid hok
  have HT := Lib.hid (fun k => gtight_ok (hs := hs.take k) (fun h hh => hok h (List.mem_of_mem_take hh)))
  have HL := Lib.hid (fun k => tight_len (hs.take k))
  have HS := Lib.hid (fun k h => @gtight_step hs k h)
  clear hok
  go_enter Try.func164, Try.ntmps164
  go_wp2
  go_loopw [3, 5, 6, 9] (fun vo _ _ i wr => ∃ k : Nat, k ≤ hs.length ∧ i = .int .i64 k ∧ New 177 3 halfC wr w.heap.size vo (gtight (hs.take k)) ∧ Below w.heap.size w wr) (fun _ _ _ i _ => hs.length - (intOf i).toNat)
  case atStart => exact ⟨0, Nat.zero_le _, rfl, ⟨none, 0, rfl, by simp [gtight], .inl ⟨rfl, rfl⟩⟩, Below.refl _ _⟩
  case round =>
    obtain ⟨k, hk, rfl, hN, hbr⟩ := hrel
    by_cases hlt : k < hs.length
    · obtain ⟨b, off, hA, hblt, hc⟩ := (hsl.below hbr).at_ hlt
      have g0 := hc 0 _ rfl
      have g1 := hc 1 _ rfl
      have g2 := hc 2 _ rfl
      simp only [Nat.add_zero] at g0
      have hh := HK.out _ (List.getElem_mem hlt)
      have hT := HT.out k
      have hln : (gtight (hs.take k)).length ≤ 1048576 := by
        have := HL.out k; rw [List.length_take] at this; omega
      have hst := Lib.hid (HS.out k hlt)
      have i1 : (k : Int) < (hs.length : Int) := by omega
      clear hc
      subst hA
      obtain ⟨A2, c2, rfl, hr⟩ := hN
      have hN : New 177 3 halfC wr w.heap.size (.slice A2 (gtight (hs.take k)).length c2) (gtight (hs.take k)) := ⟨A2, c2, rfl, hr⟩
      clear hr
      generalize hG : gtight (hs.take k) = out at *
      clear hG
      generalize hs[k] = h at *
      have HX := Has.new wr #[.int .i64 h.a, .int .i64 h.b, .int .i64 h.c] 177
      replace hN := hN.alloc (.cells #[.int .i64 h.a, .int .i64 h.b, .int .i64 h.c] 177)
      have hbr2 := below_al hbr (.cells #[.int .i64 h.a, .int .i64 h.b, .int .i64 h.c] 177)
      have hgx : w.heap.size ≤ wr.heap.size := hbr.size
      go_upto_region 5 with fail
      generalize hW : wr.alloc (.cells #[.int .i64 h.a, .int .i64 h.b, .int .i64 h.c] 177) = wa at *
      clear hW g0 g1 g2 hblt
      generalize wr.heap.size = gx at *
      have hNS := hN.out halfC_len
      have hM := Lib.hid (fun j hj hq => @gins_at out h j hj hq)
      go_wp2
      go_loopw [6] (fun v6 wq => ∃ j : Nat, j ≤ out.length ∧ v6 = .int .i64 j ∧ Hid (∀ q, q < j → hbef (out.getD q half0) h = true) ∧ Below wa.heap.size wa wq) (fun v6 _ => out.length - (intOf v6).toNat)
      case atStart => exact ⟨0, Nat.zero_le _, rfl, by simp [Hid], Below.refl _ _⟩
      case round =>
        obtain ⟨j, hj, rfl, hq, hbq⟩ := hrel
        have hNq := hN.below hbq (Nat.le_refl _)
        have HXq := HX.below hbq
        have hbrq := below_tr hbr2 hbq
        have lX := HXq.1
        obtain ⟨cHXq_0, fHXq_0⟩ := HXq.2 0 _ rfl
        obtain ⟨cHXq_1, fHXq_1⟩ := HXq.2 1 _ rfl
        obtain ⟨cHXq_2, fHXq_2⟩ := HXq.2 2 _ rfl
        by_cases hlj : j < out.length
        · obtain ⟨g, cur, hA2, hg1, hg2, hg3, hcap, hcs⟩ := hNq.row (by omega)
          obtain ⟨b3, off3, hE, _, hc⟩ := (hNS.below hbq).at_ hlj
          rw [hA2] at hE
          cases hE
          subst hA2
          have g0 := hc 0 _ rfl
          have g1 := hc 1 _ rfl
          have g2 := hc 2 _ rfl
          simp only [Nat.add_zero, Nat.zero_add] at g0 g1 g2
          have hy := hT _ (List.getElem_mem hlj)
          have hgj := half0_get hlj
          have hm1 := (hM.out j hj hq.out).2 hlj
          rw [hgj] at hm1
          have hq1 := Lib.hid (fun (e : hbef out[j] h = true) => show ∀ q, q < j + 1 → hbef (out.getD q half0) h = true from by
            intro q h1
            rcases Nat.lt_or_ge q j with h2 | h2
            · exact hq.out q h2
            · obtain rfl : q = j := by omega
              rw [hgj]; exact e)
          have i2 : (j : Int) < (out.length : Int) := by omega
          have hS3 := Lib.hid (fun (w' : World) (hn : New 177 3 halfC w' w.heap.size (.slice (some ⟨g, 0, none⟩) out.length c2) out) (y : Half) => New.set3 (y := y) hn hlj)
          clear hc hgj hq
          generalize out[j] = y at *
          have c1 := fun W => iBef_c y h W (hOk hy) (hOk hh)
          have c2' := fun W => iSame_c y h W (hOk hy) (hOk hh)
          have c3 := fun W e => iTighter_c y h W hy hh e
          cases hb : hbef y h
          · rw [hb] at c1
            have hm2 := hm1 hb
            clear hm1 hq1
            cases hs2 : sameDir y h
            · rw [hs2] at c2'
              have hg5 := Lib.hid (hm2.2 hs2)
              clear hm2 c3
              go_wp2
              go_region_held3 (fun w' => (∀ b o, b < wr.heap.size → w'.cell? ⟨b, o, none⟩ = wr.cell? ⟨b, o, none⟩) ∧ wr.heap.size ≤ w'.heap.size) (first | exact ⟨fun _ _ _ => rfl, by simp⟩ | exact kq_step2 (by assumption) (by assumption) | (repeat (first | (with_reducible assumption) | (with_reducible refine kq_self _ ?_) | (with_reducible refine kq_drew ?_) | (with_reducible refine kq_alloc ?_ _) | (with_reducible refine kq_set ?_ ?_ _) | (focus (simp; done)) | (focus (simp; omega)) | (focus omega))))
                (first | (go_at_call 195; go_must ((with_reducible refine (c1 _).mono ?_); rintro e w1 ⟨rfl, hb1⟩)))
              rename_i hheld
              clear hheld
              have B1 : Below wr.heap.size wr w1 := by (repeat (first | (with_reducible exact Below.refl _ _) | (with_reducible assumption) | (with_reducible refine below_al ?_ _) | (with_reducible refine Below.drew ?_) | (with_reducible refine below_drewN ?_ _) | (with_reducible refine below_st ?_ ?_ _) | (with_reducible refine below_tr ?_ (by assumption)) | (with_reducible exact Nat.le_refl _) | (focus (simp; done)) | (focus (simp; omega))))
              have r1 := bcell1 B1
              have l1 := blt B1 lX
              have l2 := blt B1 hg2
              have hN1 := hNq.below B1 (Nat.le_refl _)
              have hb1r := below_tr hbrq B1
              go_upto_region 8 with fail
              have HX1 := HXq.below B1
              have k0 : w1.cell? ⟨g, j * 3, none⟩ = _ := (r1 _ _ hg2).trans g0
              have k1 : w1.cell? ⟨g, j * 3 + 1, none⟩ = _ := (r1 _ _ hg2).trans g1
              have k2 : w1.cell? ⟨g, j * 3 + 2, none⟩ = _ := (r1 _ _ hg2).trans g2
              clear r1 cHXq_0 cHXq_1 cHXq_2 fHXq_0 fHXq_1 fHXq_2 g0 g1 g2
              obtain ⟨cHX1_0, fHX1_0⟩ := HX1.2 0 _ rfl
              obtain ⟨cHX1_1, fHX1_1⟩ := HX1.2 1 _ rfl
              obtain ⟨cHX1_2, fHX1_2⟩ := HX1.2 2 _ rfl
              go_region_held3 (fun w' => (∀ b o, b < w1.heap.size → w'.cell? ⟨b, o, none⟩ = w1.cell? ⟨b, o, none⟩) ∧ w1.heap.size ≤ w'.heap.size) (first | exact ⟨fun _ _ _ => rfl, by simp⟩ | exact kq_step2 (by assumption) (by assumption) | (repeat (first | (with_reducible assumption) | (with_reducible refine kq_self _ ?_) | (with_reducible refine kq_drew ?_) | (with_reducible refine kq_alloc ?_ _) | (with_reducible refine kq_set ?_ ?_ _) | (focus (simp; done)) | (focus (simp; omega)) | (focus omega))))
                (first | (go_at_call 196; go_must ((with_reducible refine (c2' _).mono ?_); rintro e w2 ⟨rfl, hb2⟩)))
              rename_i hheld
              clear hheld
              have B2 : Below w1.heap.size w1 w2 := by (repeat (first | (with_reducible exact Below.refl _ _) | (with_reducible assumption) | (with_reducible refine below_al ?_ _) | (with_reducible refine Below.drew ?_) | (with_reducible refine below_drewN ?_ _) | (with_reducible refine below_st ?_ ?_ _) | (with_reducible refine below_tr ?_ (by assumption)) | (with_reducible exact Nat.le_refl _) | (focus (simp; done)) | (focus (simp; omega))))
              have hN2 := hN1.below B2 (Nat.le_refl _)
              have hb2r := below_tr hb1r B2
              have r2 := bcell1 B2
              have l3 := blt B2 l1
              have HX2 := HX1.below B2
              clear cHX1_0 cHX1_1 cHX1_2 fHX1_0 fHX1_1 fHX1_2 r2 k0 k1 k2
              obtain ⟨cHX2_0, fHX2_0⟩ := HX2.2 0 _ rfl
              obtain ⟨cHX2_1, fHX2_1⟩ := HX2.2 1 _ rfl
              obtain ⟨cHX2_2, fHX2_2⟩ := HX2.2 2 _ rfl
              go_wp2_with (fail)
              refine (insert_c _ out j w.heap.size h _ hj hln hN2 hb2r.size).mono ?_
              rintro e w5 ⟨v5, rfl, N5, hb5⟩
              have hbz := Below.trans hb2r hb5
              go_wp2
              go_roundw
              case rel => exact ⟨k + 1, by omega, by go_num, by rw [hst.out, hg5.out]; exact N5, hbz⟩
              case measure => simp [intOf]; omega
            · rw [hs2] at c2'
              have hg5 := Lib.hid (hm2.1 hs2)
              replace c3 := fun W => c3 W hs2
              clear hm2
              go_wp2
              go_region_held3 (fun w' => (∀ b o, b < wr.heap.size → w'.cell? ⟨b, o, none⟩ = wr.cell? ⟨b, o, none⟩) ∧ wr.heap.size ≤ w'.heap.size) (first | exact ⟨fun _ _ _ => rfl, by simp⟩ | exact kq_step2 (by assumption) (by assumption) | (repeat (first | (with_reducible assumption) | (with_reducible refine kq_self _ ?_) | (with_reducible refine kq_drew ?_) | (with_reducible refine kq_alloc ?_ _) | (with_reducible refine kq_set ?_ ?_ _) | (focus (simp; done)) | (focus (simp; omega)) | (focus omega))))
                (first | (go_at_call 195; go_must ((with_reducible refine (c1 _).mono ?_); rintro e w1 ⟨rfl, hb1⟩)))
              rename_i hheld
              clear hheld
              have B1 : Below wr.heap.size wr w1 := by (repeat (first | (with_reducible exact Below.refl _ _) | (with_reducible assumption) | (with_reducible refine below_al ?_ _) | (with_reducible refine Below.drew ?_) | (with_reducible refine below_drewN ?_ _) | (with_reducible refine below_st ?_ ?_ _) | (with_reducible refine below_tr ?_ (by assumption)) | (with_reducible exact Nat.le_refl _) | (focus (simp; done)) | (focus (simp; omega))))
              have r1 := bcell1 B1
              have l1 := blt B1 lX
              have l2 := blt B1 hg2
              have hN1 := hNq.below B1 (Nat.le_refl _)
              have hb1r := below_tr hbrq B1
              go_upto_region 8 with fail
              have HX1 := HXq.below B1
              have k0 : w1.cell? ⟨g, j * 3, none⟩ = _ := (r1 _ _ hg2).trans g0
              have k1 : w1.cell? ⟨g, j * 3 + 1, none⟩ = _ := (r1 _ _ hg2).trans g1
              have k2 : w1.cell? ⟨g, j * 3 + 2, none⟩ = _ := (r1 _ _ hg2).trans g2
              clear r1 cHXq_0 cHXq_1 cHXq_2 fHXq_0 fHXq_1 fHXq_2 g0 g1 g2
              obtain ⟨cHX1_0, fHX1_0⟩ := HX1.2 0 _ rfl
              obtain ⟨cHX1_1, fHX1_1⟩ := HX1.2 1 _ rfl
              obtain ⟨cHX1_2, fHX1_2⟩ := HX1.2 2 _ rfl
              go_region_held3 (fun w' => (∀ b o, b < w1.heap.size → w'.cell? ⟨b, o, none⟩ = w1.cell? ⟨b, o, none⟩) ∧ w1.heap.size ≤ w'.heap.size) (first | exact ⟨fun _ _ _ => rfl, by simp⟩ | exact kq_step2 (by assumption) (by assumption) | (repeat (first | (with_reducible assumption) | (with_reducible refine kq_self _ ?_) | (with_reducible refine kq_drew ?_) | (with_reducible refine kq_alloc ?_ _) | (with_reducible refine kq_set ?_ ?_ _) | (focus (simp; done)) | (focus (simp; omega)) | (focus omega))))
                (first | (go_at_call 196; go_must ((with_reducible refine (c2' _).mono ?_); rintro e w2 ⟨rfl, hb2⟩)))
              rename_i hheld
              clear hheld
              have B2 : Below w1.heap.size w1 w2 := by (repeat (first | (with_reducible exact Below.refl _ _) | (with_reducible assumption) | (with_reducible refine below_al ?_ _) | (with_reducible refine Below.drew ?_) | (with_reducible refine below_drewN ?_ _) | (with_reducible refine below_st ?_ ?_ _) | (with_reducible refine below_tr ?_ (by assumption)) | (with_reducible exact Nat.le_refl _) | (focus (simp; done)) | (focus (simp; omega))))
              have hN2 := hN1.below B2 (Nat.le_refl _)
              have hb2r := below_tr hb1r B2
              have r2 := bcell1 B2
              have l3 := blt B2 l1
              have l4 := blt B2 l2
              have HX2 := HX1.below B2
              have q0 : w2.cell? ⟨g, j * 3, none⟩ = _ := (r2 _ _ l2).trans k0
              have q1 : w2.cell? ⟨g, j * 3 + 1, none⟩ = _ := (r2 _ _ l2).trans k1
              have q2 : w2.cell? ⟨g, j * 3 + 2, none⟩ = _ := (r2 _ _ l2).trans k2
              obtain ⟨_, cur2, hA3, _, _, hg6, _, hcs6⟩ := hN2.row (by omega)
              cases hA3
              have z0 := fun m => frozen_of_row w2 g m cur2 _ hg6
              clear r2 cHX1_0 cHX1_1 cHX1_2 fHX1_0 fHX1_1 fHX1_2 k0 k1 k2 HX1 hg6 hcs6 hg3 hcs
              obtain ⟨cHX2_0, fHX2_0⟩ := HX2.2 0 _ rfl
              obtain ⟨cHX2_1, fHX2_1⟩ := HX2.2 1 _ rfl
              obtain ⟨cHX2_2, fHX2_2⟩ := HX2.2 2 _ rfl
              go_upto_region 9 with fail
              clear c1 c2' hT HXq HX B1 B2 hb1 hb2 hbq hb1r hN1 hNq hN hNS hbr2 hbr
              generalize htt : htighter y h = t at *
              clear htt
              go_region_with ((go_at_call 197; go_must (refine (c3 _).mono ?_; rintro e w3 ⟨rfl, hb3⟩; have r3 := bcell1 hb3; have f3 := (bcell hb3).2; have x0 : w3.cell? ⟨g, j * 3, none⟩ = _ := (r3 _ _ (by simpa using l4)).trans q0; have x1 : w3.cell? ⟨g, j * 3 + 1, none⟩ = _ := (r3 _ _ (by simpa using l4)).trans q1; have x2 : w3.cell? ⟨g, j * 3 + 2, none⟩ = _ := (r3 _ _ (by simpa using l4)).trans q2; have y0 : w3.frozen? ⟨g, j * 3, none⟩ = false := (f3 _ _ (by simpa using l4)).trans (z0 _); have y1 : w3.frozen? ⟨g, j * 3 + 1, none⟩ = false := (f3 _ _ (by simpa using l4)).trans (z0 _); have y2 : w3.frozen? ⟨g, j * 3 + 2, none⟩ = false := (f3 _ _ (by simpa using l4)).trans (z0 _); clear r3 f3)))
              all_goals
                have hN3 := New.below (w := w2.drew) hN2 hb3 (Nat.le_refl _)
                have hN4 := hS3.out w3 hN3 t
                have hb3r : Below w.heap.size w w3 := below_tr (Below.drew hb2r) hb3
                have hbz := ((hb3r.setCell (p := ⟨g, j * 3, none⟩) hg1 (.int .i64 t.a)).setCell (p := ⟨g, j * 3 + 1, none⟩) hg1 (.int .i64 t.b)).setCell (p := ⟨g, j * 3 + 2, none⟩) hg1 (.int .i64 t.c)
                clear x0 x1 x2 y0 y1 y2 q0 q1 q2 z0
                go_wp2
                go_roundw
                case rel => exact ⟨k + 1, by omega, by go_num, by rw [hst.out, hg5.out]; exact hN4, hbz⟩
                case measure => simp [intOf]; omega
          · rw [hb] at c1
            have hq2 := Lib.hid (hq1.out hb)
            clear hm1 hq1 c2' c3
            go_wp2
            go_region_held3 (fun w' => (∀ b o, b < wr.heap.size → w'.cell? ⟨b, o, none⟩ = wr.cell? ⟨b, o, none⟩) ∧ wr.heap.size ≤ w'.heap.size) (first | exact ⟨fun _ _ _ => rfl, by simp⟩ | exact kq_step2 (by assumption) (by assumption) | (repeat (first | (with_reducible assumption) | (with_reducible refine kq_self _ ?_) | (with_reducible refine kq_drew ?_) | (with_reducible refine kq_alloc ?_ _) | (with_reducible refine kq_set ?_ ?_ _) | (focus (simp; done)) | (focus (simp; omega)) | (focus omega))))
              (first | (go_at_call 195; go_must ((with_reducible refine (c1 _).mono ?_); rintro e w1 ⟨rfl, hb1⟩)))
            have B1 : Below wr.heap.size wr w1 := by (repeat (first | (with_reducible exact Below.refl _ _) | (with_reducible assumption) | (with_reducible refine below_al ?_ _) | (with_reducible refine Below.drew ?_) | (with_reducible refine below_drewN ?_ _) | (with_reducible refine below_st ?_ ?_ _) | (with_reducible refine below_tr ?_ (by assumption)) | (with_reducible exact Nat.le_refl _) | (focus (simp; done)) | (focus (simp; omega))))
            go_wp2
            go_roundw
            case rel => exact ⟨j + 1, by omega, by go_num, hq2, below_tr hbq B1⟩
            case measure => simp [intOf]; omega
        · obtain rfl : j = out.length := by omega
          have hg5 := Lib.hid ((hM.out out.length hj hq.out).1 rfl)
          clear hq
          go_wp2
          go_big_quiet (fail)
          go_wp2
          go_big_quiet (fail)
          go_wp2_with (fail)
          refine (insert_c _ out _ w.heap.size h (wr.drewN _) (Nat.le_refl _) hln hNq hbrq.size).mono ?_
          rintro e w5 ⟨v5, rfl, N5, hb5⟩
          have hbz := Below.trans (below_drewN hbrq _) hb5
          go_wp2
          go_roundw
          case rel => exact ⟨k + 1, by omega, by go_num, by rw [hst.out, hg5.out]; exact N5, hbz⟩
          case measure => simp [intOf]; omega
    · obtain rfl : k = hs.length := by omega
      rw [List.take_length] at hN
      go_wp2
      go_ret
      exact ⟨_, rfl, hN, hbr⟩
end Go.Proofs.Ytbdihgcjopbnjaa
