/-
  Distances of records, LeastError and IsConsistent: of the program and of the reference.
  Conditions: the slice reads as a list of at most 2^20 records.
-/
import Derived.Test.YtbdihgcjopbnjaaGrF
import Derived.Test.YtbdihgcjopbnjaaGrE
import Derived.Test.YtbdihgcjopbnjaaGrG
import Derived.Deep.RegionHeld3
import Derived.Deep.DeepCutAuto
import Derived.Deep.DeepMust
section
namespace Go.Proofs.Ytbdihgcjopbnjaa
open Go.RowKit

def distR (x : Record) (s : Spot) : Int := max (s.x * x.before + s.y * x.input - 100 * x.after * s.d) (-(s.x * x.before + s.y * x.input - 100 * x.after * s.d))
def areParams (s : Spot) : Bool := spotOk s && decide (s.d ≤ 1000)
def maxDist (xs : List Record) (s : Spot) : Int := xs.foldl (fun m x => max m (distR x s)) 0
theorem maxDist_snoc (xs : List Record) (x : Record) (s : Spot) : maxDist (xs ++ [x]) s = max (maxDist xs s) (distR x s) := by simp [maxDist, List.foldl_append]
theorem maxDist_take {xs : List Record} {k : Nat} (h : k < xs.length) (s : Spot) : maxDist (xs.take (k + 1)) s = max (maxDist (xs.take k) s) (distR xs[k] s) := by
  rw [take_succ' xs k h, maxDist_snoc]
structure ParB (s : Spot) : Prop where
  d : 1 ≤ s.d ∧ s.d ≤ 1000
  x : -1000000 ≤ s.x ∧ s.x ≤ 1000000
  y : -1000000 ≤ s.y ∧ s.y ≤ 1000000
theorem parB {s : Spot} (h : areParams s = true) : ParB s := by
  simp only [areParams, Bool.and_eq_true, decide_eq_true_eq] at h
  have := spotOk_iff.1 h.1
  exact ⟨⟨by omega, by omega⟩, ⟨by omega, by omega⟩, ⟨by omega, by omega⟩⟩
structure DisB (x : Record) (s : Spot) : Prop where
  p : -1000000000 ≤ s.x * x.before ∧ s.x * x.before ≤ 1000000000
  q : -1000000000 ≤ s.y * x.input ∧ s.y * x.input ≤ 1000000000
  r : -100000000 ≤ 100 * x.after * s.d ∧ 100 * x.after * s.d ≤ 100000000
theorem mulB {a b A B : Int} (hA : -A ≤ a ∧ a ≤ A) (hB : -B ≤ b ∧ b ≤ B) : -(A * B) ≤ a * b ∧ a * b ≤ A * B := by
  have h1 : 0 ≤ (A - a) * (B - b) := Int.mul_nonneg (by omega) (by omega)
  have h2 : 0 ≤ (A + a) * (B + b) := Int.mul_nonneg (by omega) (by omega)
  have h3 : 0 ≤ (A - a) * (B + b) := Int.mul_nonneg (by omega) (by omega)
  have h4 : 0 ≤ (A + a) * (B - b) := Int.mul_nonneg (by omega) (by omega)
  rw [Int.sub_mul, Int.mul_sub, Int.mul_sub] at h1
  rw [Int.add_mul, Int.mul_add, Int.mul_add] at h2
  rw [Int.sub_mul, Int.mul_add, Int.mul_add] at h3
  rw [Int.add_mul, Int.mul_sub, Int.mul_sub] at h4
  omega
theorem disB {x : Record} {s : Spot} (hs : ParB s) (hb : -1000 ≤ x.before ∧ x.before ≤ 1000) (hi : -1000 ≤ x.input ∧ x.input ≤ 1000) (ha : -1000 ≤ x.after ∧ x.after ≤ 1000) : DisB x s := by
  have h1 := mulB hs.x hb
  have h2 := mulB hs.y hi
  have h3 := mulB (a := 100 * x.after) (b := s.d) (A := 100000) (B := 1000) ⟨by omega, by omega⟩ ⟨by have := hs.d; omega, by have := hs.d; omega⟩
  exact ⟨⟨by omega, by omega⟩, ⟨by omega, by omega⟩, ⟨by omega, by omega⟩⟩
theorem distR_bd {x : Record} {s : Spot} (h : DisB x s) : 0 ≤ distR x s ∧ distR x s ≤ 2100000000 := by
  obtain ⟨⟨p1, p2⟩, ⟨q1, q2⟩, ⟨r1, r2⟩⟩ := h
  unfold distR; omega
theorem maxDist_bd {s : Spot} : ∀ (xs : List Record), (∀ x ∈ xs, DisB x s) → 0 ≤ maxDist xs s ∧ maxDist xs s ≤ 2100000000 := by
  intro xs
  have key : ∀ (xs : List Record) (m : Int), (∀ x ∈ xs, DisB x s) → 0 ≤ m ∧ m ≤ 2100000000 → 0 ≤ xs.foldl (fun m x => max m (distR x s)) m ∧ xs.foldl (fun m x => max m (distR x s)) m ≤ 2100000000 := by
    intro xs
    induction xs with
    | nil => intro m _ h; exact h
    | cons x r ih =>
      intro m hx hm
      have hb := distR_bd (hx x (by simp))
      exact ih (max m (distR x s)) (fun y hy => hx y (by simp [hy])) (by omega)
  intro h
  exact key xs 0 h (by omega)
theorem maxDist_le {s : Spot} (T : Int) : ∀ (xs : List Record), 0 ≤ T → ((maxDist xs s ≤ T) ↔ ∀ x ∈ xs, distR x s ≤ T) := by
  intro xs h0
  have key : ∀ (xs : List Record) (m : Int), (xs.foldl (fun m x => max m (distR x s)) m ≤ T) ↔ (m ≤ T ∧ ∀ x ∈ xs, distR x s ≤ T) := by
    intro xs
    induction xs with
    | nil => intro m; simp
    | cons x r ih =>
      intro m
      rw [List.foldl_cons, ih]
      simp only [List.mem_cons, forall_eq_or_imp]
      constructor
      · intro ⟨h1, h2⟩; exact ⟨by omega, by omega, h2⟩
      · intro ⟨h1, h2, h3⟩; exact ⟨by omega, h3⟩
  unfold maxDist
  rw [key]
  simp [h0]
def leastOk (xs : List Record) (s : Spot) : Bool := recordsOk xs && areParams s
def leastError (xs : List Record) (s : Spot) : Ratio := if leastOk xs s = true then ratioOf (maxDist xs s) (100 * s.d) else ratio0
def isConsistent (xs : List Record) (err : Int) (s : Spot) : Bool := leastOk xs s && inR err 0 1000 && decide (maxDist xs s ≤ 100 * err * s.d)
theorem recordsOk_all {xs : List Record} (h : recordsOk xs = true) : ∀ x ∈ xs, (-1000 ≤ x.before ∧ x.before ≤ 1000) ∧ (-1000 ≤ x.input ∧ x.input ≤ 1000) ∧ (-1000 ≤ x.after ∧ x.after ≤ 1000) := by
  intro x hx
  simp only [recordsOk, Bool.and_eq_true, List.all_eq_true] at h
  have := h.1 x hx
  simp only [recOk, Bool.and_eq_true, inR_iff] at this
  exact ⟨this.1.1, this.1.2, this.2⟩
theorem recordsOk_len {xs : List Record} (h : recordsOk xs = true) : xs.length ≤ 12 := by
  simp only [recordsOk, Bool.and_eq_true, decide_eq_true_eq] at h; exact h.2
theorem leastOk_dis {xs : List Record} {s : Spot} (h1 : recordsOk xs = true) (h2 : areParams s = true) : ∀ x ∈ xs, DisB x s := by
  intro x hx
  obtain ⟨a, b, c⟩ := recordsOk_all h1 x hx
  exact disB (parB h2) a b c

set_option maxHeartbeats 1000000 in
theorem distanceOf_c (x : Record) (s : Spot) (w : World) (h : DisB x s) (ha : -1000 ≤ x.after ∧ x.after ≤ 1000) :
    Calls Try.prog 115 #[recordV x, spotV s] w fun e w' => e = .returned (.int .i64 (distR x s)) ∧ Below w.heap.size w w' := by
  obtain ⟨⟨p1, p2⟩, ⟨q1, q2⟩, ⟨r1, r2⟩⟩ := h
  obtain ⟨a1, a2⟩ := ha
  go_enter Try.func115, Try.ntmps115
  go_wp2
  all_goals
    go_ret
    refine ⟨ret_int (by unfold distR; omega), ?_⟩
    repeat (first | (with_reducible exact Below.refl _ _) | (with_reducible assumption) | (with_reducible refine below_al ?_ _) | (with_reducible refine Below.drew ?_) | (with_reducible refine below_drewN ?_ _) | (with_reducible refine below_st ?_ ?_ _) | (with_reducible refine below_tr ?_ (by assumption)) | (with_reducible exact Nat.le_refl _) | (focus (simp; done)) | (focus (simp; omega)))
theorem areParameters_c (s : Spot) (w : World) (hs : s.In) :
    Calls Try.prog 114 #[spotV s] w fun e w' => e = .returned (.bool (areParams s)) ∧ Below w.heap.size w w' := by
  have c0 := fun W => iSpotOk_c s W hs
  cases e0 : spotOk s
  · rw [e0] at c0
    go_enter Try.func114, Try.ntmps114
    go_wp2_with (fail)
    refine (c0 _).mono ?_
    rintro e w1 ⟨rfl, hb1⟩
    go_wp2
    go_ret
    refine ⟨ret_bool (by simp [areParams, e0]), ?_⟩
    repeat (first | (with_reducible exact Below.refl _ _) | (with_reducible assumption) | (with_reducible refine below_al ?_ _) | (with_reducible refine Below.drew ?_) | (with_reducible refine below_drewN ?_ _) | (with_reducible refine below_st ?_ ?_ _) | (with_reducible refine below_tr ?_ (by assumption)) | (with_reducible exact Nat.le_refl _) | (focus (simp; done)) | (focus (simp; omega)))
  · rw [e0] at c0
    have hv := Lib.hid (show areParams s = decide (s.d ≤ 1000) by simp [areParams, e0])
    go_enter Try.func114, Try.ntmps114
    go_wp2_with (fail)
    refine (c0 _).mono ?_
    rintro e w1 ⟨rfl, hb1⟩
    have r1 := bcell1 hb1
    have l0 : w.heap.size < w1.heap.size := blt hb1 (by first | (simp; done) | (simp; omega) | omega)
    go_wp2
    go_ret
    refine ⟨ret_bool hv.out.symm, ?_⟩
    repeat (first | (with_reducible exact Below.refl _ _) | (with_reducible assumption) | (with_reducible refine below_al ?_ _) | (with_reducible refine Below.drew ?_) | (with_reducible refine below_drewN ?_ _) | (with_reducible refine below_st ?_ ?_ _) | (with_reducible refine below_tr ?_ (by assumption)) | (with_reducible exact Nat.le_refl _) | (focus (simp; done)) | (focus (simp; omega)))
end Go.Proofs.Ytbdihgcjopbnjaa
end

section
namespace Go.Proofs.Ytbdihgcjopbnjaa
open Go.RowKit

set_option maxRecDepth 100000 in
set_option maxHeartbeats 4000000 in
theorem iLeastError_c (A : Option Addr) (xs : List Record) (cap : Nat) (s : Spot) (w : World) (hin : s.In) (hn : xs.length ≤ 1048576) (hs : Sl 3 recordC w A xs) :
    Calls Try.prog 37 #[.slice A xs.length cap, spotV s] w fun e w' => e = .returned (.tuple #[ratioV (leastError xs s), .bool (leastOk xs s)]) ∧ Below w.heap.size w w' := by
  have c0 := fun W h => iRecordsOk_c A xs cap W hn h
  have c1 := fun W => areParameters_c s W hin
  cases e0 : recordsOk xs
  · rw [e0] at c0
    have h1 := Lib.hid (show leastError xs s = ratio0 by simp [leastError, leastOk, e0])
    have h2 := Lib.hid (show leastOk xs s = false by simp [leastOk, e0])
    go_enter Try.func37, Try.ntmps37
    go_wp2_with (fail)
    refine (c0 _ (Sl.below hs (by (repeat (first | (with_reducible exact Below.refl _ _) | (with_reducible assumption) | (with_reducible refine below_al ?_ _) | (with_reducible refine Below.drew ?_) | (with_reducible refine below_drewN ?_ _) | (with_reducible refine below_st ?_ ?_ _) | (with_reducible refine below_tr ?_ (by assumption)) | (with_reducible exact Nat.le_refl _) | (focus (simp; done)) | (focus (simp; omega))))))).mono ?_
    rintro e w0 ⟨rfl, hb0⟩
    have H : Has w0 (w.heap.size + 1) [.int .i64 0, .int .i64 0] := by
      repeat (first | ((with_reducible refine Has.new_at ?_ _ _ rfl); (first | rfl | (focus (simp; done)))) | (with_reducible refine Has.set_ ?_ ?_ _) | (with_reducible refine Has.alloc ?_ _) | (with_reducible refine Has.below ?_ (by assumption)) | (focus (simp; done)) | (focus (simp; omega)))
    obtain ⟨cH_0, fH_0⟩ := H.2 0 _ rfl
    obtain ⟨cH_1, fH_1⟩ := H.2 1 _ rfl
    go_wp2
    refine bodyPost_ret (v := .tuple #[.agg #[.int .i64 0, .int .i64 0], .bool false]) (by simp [results, Try.results37, go_sem, cH_0, cH_1]) rfl ⟨by rw [h1.out, h2.out]; rfl, ?_⟩
    repeat (first | (with_reducible exact Below.refl _ _) | (with_reducible assumption) | (with_reducible refine below_al ?_ _) | (with_reducible refine Below.drew ?_) | (with_reducible refine below_drewN ?_ _) | (with_reducible refine below_st ?_ ?_ _) | (with_reducible refine below_tr ?_ (by assumption)) | (with_reducible exact Nat.le_refl _) | (focus (simp; done)) | (focus (simp; omega)))
  · rw [e0] at c0
    cases e1 : areParams s
    · rw [e1] at c1
      have h1 := Lib.hid (show leastError xs s = ratio0 by simp [leastError, leastOk, e1])
      have h2 := Lib.hid (show leastOk xs s = false by simp [leastOk, e1])
      go_enter Try.func37, Try.ntmps37
      go_wp2_with (fail)
      refine (c0 _ (Sl.below hs (by (repeat (first | (with_reducible exact Below.refl _ _) | (with_reducible assumption) | (with_reducible refine below_al ?_ _) | (with_reducible refine Below.drew ?_) | (with_reducible refine below_drewN ?_ _) | (with_reducible refine below_st ?_ ?_ _) | (with_reducible refine below_tr ?_ (by assumption)) | (with_reducible exact Nat.le_refl _) | (focus (simp; done)) | (focus (simp; omega))))))).mono ?_
      rintro e w0 ⟨rfl, hb0⟩
      have r0 := bcell1 hb0
      have l0 : w.heap.size < w0.heap.size := blt hb0 (by first | (simp; done) | (simp; omega) | omega)
      go_wp2_with (fail)
      refine (c1 _).mono ?_
      rintro e w1 ⟨rfl, hb1⟩
      have H : Has w1 (w.heap.size + 1) [.int .i64 0, .int .i64 0] := by
        repeat (first | ((with_reducible refine Has.new_at ?_ _ _ rfl); (first | rfl | (focus (simp; done)))) | (with_reducible refine Has.set_ ?_ ?_ _) | (with_reducible refine Has.alloc ?_ _) | (with_reducible refine Has.below ?_ (by assumption)) | (focus (simp; done)) | (focus (simp; omega)))
      obtain ⟨cH_0, fH_0⟩ := H.2 0 _ rfl
      obtain ⟨cH_1, fH_1⟩ := H.2 1 _ rfl
      go_wp2
      refine bodyPost_ret (v := .tuple #[.agg #[.int .i64 0, .int .i64 0], .bool false]) (by simp [results, Try.results37, go_sem, cH_0, cH_1]) rfl ⟨by rw [h1.out, h2.out]; rfl, ?_⟩
      repeat (first | (with_reducible exact Below.refl _ _) | (with_reducible assumption) | (with_reducible refine below_al ?_ _) | (with_reducible refine Below.drew ?_) | (with_reducible refine below_drewN ?_ _) | (with_reducible refine below_st ?_ ?_ _) | (with_reducible refine below_tr ?_ (by assumption)) | (with_reducible exact Nat.le_refl _) | (focus (simp; done)) | (focus (simp; omega)))
    · rw [e1] at c1
      have h1 := Lib.hid (show leastError xs s = ratioOf (maxDist xs s) (100 * s.d) by simp [leastError, leastOk, e0, e1])
      have h2 := Lib.hid (show leastOk xs s = true by simp [leastOk, e0, e1])
      have hall := Lib.hid (leastOk_dis e0 e1)
      have hrec := Lib.hid (recordsOk_all e0)
      obtain ⟨⟨d1, d2⟩, _, _⟩ := parB e1
      clear e0 e1
      go_enter Try.func37, Try.ntmps37
      go_wp2_with (fail)
      refine (c0 _ (Sl.below hs (by (repeat (first | (with_reducible exact Below.refl _ _) | (with_reducible assumption) | (with_reducible refine below_al ?_ _) | (with_reducible refine Below.drew ?_) | (with_reducible refine below_drewN ?_ _) | (with_reducible refine below_st ?_ ?_ _) | (with_reducible refine below_tr ?_ (by assumption)) | (with_reducible exact Nat.le_refl _) | (focus (simp; done)) | (focus (simp; omega))))))).mono ?_
      rintro e w0 ⟨rfl, hb0⟩
      have r0 := bcell1 hb0
      have l0 : w.heap.size < w0.heap.size := blt hb0 (by first | (simp; done) | (simp; omega) | omega)
      have m0 : w.heap.size + 1 < w0.heap.size := blt hb0 (by first | (simp; done) | (simp; omega) | omega)
      go_wp2_with (fail)
      refine (c1 _).mono ?_
      rintro e w1 ⟨rfl, hb1⟩
      have r1 := bcell1 hb1
      have l1 : w.heap.size < w1.heap.size := blt hb1 (by first | (simp; done) | (simp; omega) | omega)
      have m1 : w.heap.size + 1 < w1.heap.size := blt hb1 (by first | (simp; done) | (simp; omega) | omega)
      have HS : Has w1 w.heap.size [.int .i64 s.x, .int .i64 s.y, .int .i64 s.d] := by
        repeat (first | ((with_reducible refine Has.new_at ?_ _ _ rfl); (first | rfl | (focus (simp; done)))) | (with_reducible refine Has.set_ ?_ ?_ _) | (with_reducible refine Has.alloc ?_ _) | (with_reducible refine Has.below ?_ (by assumption)) | (focus (simp; done)) | (focus (simp; omega)))
      have HZ : Has w1 (w.heap.size + 1) [.int .i64 0, .int .i64 0] := by
        repeat (first | ((with_reducible refine Has.new_at ?_ _ _ rfl); (first | rfl | (focus (simp; done)))) | (with_reducible refine Has.set_ ?_ ?_ _) | (with_reducible refine Has.alloc ?_ _) | (with_reducible refine Has.below ?_ (by assumption)) | (focus (simp; done)) | (focus (simp; omega)))
      have hsw : Sl 3 recordC w1 A xs := Sl.below hs (by (repeat (first | (with_reducible exact Below.refl _ _) | (with_reducible assumption) | (with_reducible refine below_al ?_ _) | (with_reducible refine Below.drew ?_) | (with_reducible refine below_drewN ?_ _) | (with_reducible refine below_st ?_ ?_ _) | (with_reducible refine below_tr ?_ (by assumption)) | (with_reducible exact Nat.le_refl _) | (focus (simp; done)) | (focus (simp; omega)))))
      have hbw : Below w.heap.size w w1 := by
        repeat (first | (with_reducible exact Below.refl _ _) | (with_reducible assumption) | (with_reducible refine below_al ?_ _) | (with_reducible refine Below.drew ?_) | (with_reducible refine below_drewN ?_ _) | (with_reducible refine below_st ?_ ?_ _) | (with_reducible refine below_tr ?_ (by assumption)) | (with_reducible exact Nat.le_refl _) | (focus (simp; done)) | (focus (simp; omega)))
      go_wp2
      clear r0 r1 l0 l1 m0 m1 hb0 hb1 c0 c1 hs
      go_loopw [6, 8, 20] (fun m _ i wr => ∃ k : Nat, k ≤ xs.length ∧ i = .int .i64 k ∧ m = .int .i64 (maxDist (xs.take k) s) ∧ Below w1.heap.size w1 wr) (fun _ _ i _ => xs.length - (intOf i).toNat)
      case atStart => exact ⟨0, Nat.zero_le _, rfl, rfl, Below.refl _ _⟩
      case round =>
        obtain ⟨k, hk, rfl, rfl, hbr⟩ := hrel
        have HR := HS.below hbr
        have lR := HR.1
        have hm := maxDist_bd (xs.take k) (fun x hx => hall.out x (List.mem_of_mem_take hx))
        obtain ⟨hm1, hm2⟩ := hm
        obtain ⟨cHR_0, fHR_0⟩ := HR.2 0 _ rfl
        obtain ⟨cHR_1, fHR_1⟩ := HR.2 1 _ rfl
        obtain ⟨cHR_2, fHR_2⟩ := HR.2 2 _ rfl
        by_cases hlt : k < xs.length
        · obtain ⟨b, off, rfl, hblt, hc⟩ := (hsw.below hbr).at_ hlt
          have g0 := hc 0 _ rfl
          have g1 := hc 1 _ rfl
          have g2 := hc 2 _ rfl
          have hst := Lib.hid (maxDist_take hlt s)
          have hd := hall.out xs[k] (List.getElem_mem hlt)
          have ha := (hrec.out xs[k] (List.getElem_mem hlt)).2.2
          obtain ⟨q1, q2⟩ := distR_bd hd
          have c2 := fun W => distanceOf_c xs[k] s W hd ha
          clear hc hd ha
          simp only [Nat.add_zero] at g0
          generalize xs[k] = x at *
          generalize maxDist (xs.take k) s = M at *
          generalize distR x s = D at *
          go_wp2_with (fail)
          refine (c2 _).mono ?_
          rintro e w2 ⟨rfl, hb2⟩
          have i1 : (k : Int) < (xs.length : Int) := by omega
          go_wp2
          all_goals
            go_roundw
            case rel =>
              refine ⟨k + 1, by omega, by go_num, ?_, ?_⟩
              · rw [hst.out]; congr 1; omega
              · refine below_tr (below_al hbr _) hb2
            case measure => simp [intOf]; omega
        · obtain rfl : k = xs.length := by omega
          rw [List.take_length] at *
          have c2 := fun W => iRatioOf_c (maxDist xs s) (100 * s.d) W ⟨by omega, by omega⟩ ⟨by omega, by omega⟩
          have HB := HZ.below hbr
          generalize ratioOf (maxDist xs s) (100 * s.d) = R at *
          go_wp2_with (fail)
          refine (c2 _).mono ?_
          rintro e w2 ⟨rfl, hb2⟩
          have H := HB.below hb2
          obtain ⟨cH_0, fH_0⟩ := H.2 0 _ rfl
          obtain ⟨cH_1, fH_1⟩ := H.2 1 _ rfl
          go_wp2
          refine bodyPost_ret (v := .tuple #[.agg #[.int .i64 R.n, .int .i64 R.d], .bool true]) (by simp [results, Try.results37, go_sem, cH_0, cH_1]) rfl ⟨by rw [h1.out, h2.out], ?_⟩
          have hb3 := below_tr (below_tr hbw hbr) hb2
          repeat (first | (with_reducible exact Below.refl _ _) | (with_reducible assumption) | (with_reducible refine below_al ?_ _) | (with_reducible refine Below.drew ?_) | (with_reducible refine below_drewN ?_ _) | (with_reducible refine below_st ?_ ?_ _) | (with_reducible refine below_tr ?_ (by assumption)) | (with_reducible exact Nat.le_refl _) | (focus (simp; done)) | (focus (simp; omega)))
end Go.Proofs.Ytbdihgcjopbnjaa
end

section
namespace Go.Proofs.Ytbdihgcjopbnjaa
open Go.RowKit

theorem isError2_c (a : Int) (w : World) :
    Calls Try.prog 111 #[.int .i64 a] w fun e w' => e = .returned (.bool (inR a 0 1000)) ∧ w = w' := by
  go_enter Try.func111, Try.ntmps111
  go_wp2_with (first | (go_at_call 112; refine (inRange_c _ _ _ _).mono ?_; rintro e w' ⟨rfl, rfl⟩))
  go_ret
  exact ⟨rfl, rfl⟩
set_option maxRecDepth 100000 in
set_option maxHeartbeats 4000000 in
theorem iIsConsistent_c (A : Option Addr) (xs : List Record) (cap : Nat) (err : Int) (s : Spot) (w : World) (hin : s.In) (hn : xs.length ≤ 1048576) (hs : Sl 3 recordC w A xs) :
    Calls Try.prog 39 #[.slice A xs.length cap, .int .i64 err, spotV s] w fun e w' => e = .returned (.bool (isConsistent xs err s)) ∧ Below w.heap.size w w' := by
  have c0 := fun W h => iRecordsOk_c A xs cap W hn h
  have c1 := fun W => isError2_c err W
  have c2 := fun W => areParameters_c s W hin
  cases e0 : recordsOk xs
  · rw [e0] at c0
    have h1 := Lib.hid (show isConsistent xs err s = false by simp [isConsistent, leastOk, e0])
    go_enter Try.func39, Try.ntmps39
    go_wp2_with (fail)
    refine (c0 _ (Sl.below hs (by (repeat (first | (with_reducible exact Below.refl _ _) | (with_reducible assumption) | (with_reducible refine below_al ?_ _) | (with_reducible refine Below.drew ?_) | (with_reducible refine below_drewN ?_ _) | (with_reducible refine below_st ?_ ?_ _) | (with_reducible refine below_tr ?_ (by assumption)) | (with_reducible exact Nat.le_refl _) | (focus (simp; done)) | (focus (simp; omega))))))).mono ?_
    rintro e w0 ⟨rfl, hb0⟩
    go_wp2
    go_ret
    refine ⟨ret_bool h1.out.symm, ?_⟩
    repeat (first | (with_reducible exact Below.refl _ _) | (with_reducible assumption) | (with_reducible refine below_al ?_ _) | (with_reducible refine Below.drew ?_) | (with_reducible refine below_drewN ?_ _) | (with_reducible refine below_st ?_ ?_ _) | (with_reducible refine below_tr ?_ (by assumption)) | (with_reducible exact Nat.le_refl _) | (focus (simp; done)) | (focus (simp; omega)))
  · rw [e0] at c0
    cases e1 : inR err 0 1000
    · rw [e1] at c1
      have h1 := Lib.hid (show isConsistent xs err s = false by simp [isConsistent, e1])
      go_enter Try.func39, Try.ntmps39
      go_wp2_with (fail)
      refine (c0 _ (Sl.below hs (by (repeat (first | (with_reducible exact Below.refl _ _) | (with_reducible assumption) | (with_reducible refine below_al ?_ _) | (with_reducible refine Below.drew ?_) | (with_reducible refine below_drewN ?_ _) | (with_reducible refine below_st ?_ ?_ _) | (with_reducible refine below_tr ?_ (by assumption)) | (with_reducible exact Nat.le_refl _) | (focus (simp; done)) | (focus (simp; omega))))))).mono ?_
      rintro e w0 ⟨rfl, hb0⟩
      go_wp2_with (fail)
      refine (c1 _).mono ?_
      rintro e w' ⟨rfl, rfl⟩
      go_wp2
      go_ret
      refine ⟨ret_bool h1.out.symm, ?_⟩
      repeat (first | (with_reducible exact Below.refl _ _) | (with_reducible assumption) | (with_reducible refine below_al ?_ _) | (with_reducible refine Below.drew ?_) | (with_reducible refine below_drewN ?_ _) | (with_reducible refine below_st ?_ ?_ _) | (with_reducible refine below_tr ?_ (by assumption)) | (with_reducible exact Nat.le_refl _) | (focus (simp; done)) | (focus (simp; omega)))
    · rw [e1] at c1
      cases e2 : areParams s
      · rw [e2] at c2
        have h1 := Lib.hid (show isConsistent xs err s = false by simp [isConsistent, leastOk, e2])
        go_enter Try.func39, Try.ntmps39
        go_wp2_with (fail)
        refine (c0 _ (Sl.below hs (by (repeat (first | (with_reducible exact Below.refl _ _) | (with_reducible assumption) | (with_reducible refine below_al ?_ _) | (with_reducible refine Below.drew ?_) | (with_reducible refine below_drewN ?_ _) | (with_reducible refine below_st ?_ ?_ _) | (with_reducible refine below_tr ?_ (by assumption)) | (with_reducible exact Nat.le_refl _) | (focus (simp; done)) | (focus (simp; omega))))))).mono ?_
        rintro e w0 ⟨rfl, hb0⟩
        have r0 := bcell1 hb0
        have l0 : w.heap.size < w0.heap.size := blt hb0 (by first | (simp; done) | (simp; omega) | omega)
        go_wp2_with (fail)
        refine (c1 _).mono ?_
        rintro e w' ⟨rfl, rfl⟩
        go_wp2_with (fail)
        refine (c2 _).mono ?_
        rintro e w1 ⟨rfl, hb1⟩
        go_wp2
        go_ret
        refine ⟨ret_bool h1.out.symm, ?_⟩
        repeat (first | (with_reducible exact Below.refl _ _) | (with_reducible assumption) | (with_reducible refine below_al ?_ _) | (with_reducible refine Below.drew ?_) | (with_reducible refine below_drewN ?_ _) | (with_reducible refine below_st ?_ ?_ _) | (with_reducible refine below_tr ?_ (by assumption)) | (with_reducible exact Nat.le_refl _) | (focus (simp; done)) | (focus (simp; omega)))
      · rw [e2] at c2
        obtain ⟨er1, er2⟩ := inR_iff.1 e1
        obtain ⟨⟨d1, d2⟩, _, _⟩ := parB e2
        have hT : 0 ≤ 100 * err * s.d ∧ 100 * err * s.d ≤ 100000000 := by
          have h1 : 0 ≤ 100 * err * s.d := Int.mul_nonneg (by omega) (by omega)
          have h2 : 100 * err * s.d ≤ 100000 * s.d := Int.mul_le_mul_of_nonneg_right (by omega) (by omega)
          omega
        obtain ⟨T1, T2⟩ := hT
        have hv := Lib.hid (show isConsistent xs err s = decide (maxDist xs s ≤ 100 * err * s.d) by simp [isConsistent, leastOk, e0, e1, e2])
        have hle := Lib.hid (maxDist_le (s := s) (100 * err * s.d) xs T1)
        have hall := Lib.hid (leastOk_dis e0 e2)
        have hrec := Lib.hid (recordsOk_all e0)
        clear e0 e1 e2
        go_enter Try.func39, Try.ntmps39
        go_wp2_with (fail)
        refine (c0 _ (Sl.below hs (by (repeat (first | (with_reducible exact Below.refl _ _) | (with_reducible assumption) | (with_reducible refine below_al ?_ _) | (with_reducible refine Below.drew ?_) | (with_reducible refine below_drewN ?_ _) | (with_reducible refine below_st ?_ ?_ _) | (with_reducible refine below_tr ?_ (by assumption)) | (with_reducible exact Nat.le_refl _) | (focus (simp; done)) | (focus (simp; omega))))))).mono ?_
        rintro e w0 ⟨rfl, hb0⟩
        have r0 := bcell1 hb0
        have l0 : w.heap.size < w0.heap.size := blt hb0 (by first | (simp; done) | (simp; omega) | omega)
        go_wp2_with (fail)
        refine (c1 _).mono ?_
        rintro e w' ⟨rfl, rfl⟩
        go_wp2_with (fail)
        refine (c2 _).mono ?_
        rintro e w1 ⟨rfl, hb1⟩
        have HS : Has w1 w.heap.size [.int .i64 s.x, .int .i64 s.y, .int .i64 s.d] := by
          repeat (first | ((with_reducible refine Has.new_at ?_ _ _ rfl); (first | rfl | (focus (simp; done)))) | (with_reducible refine Has.set_ ?_ ?_ _) | (with_reducible refine Has.alloc ?_ _) | (with_reducible refine Has.below ?_ (by assumption)) | (focus (simp; done)) | (focus (simp; omega)))
        have hsw : Sl 3 recordC w1 A xs := Sl.below hs (by (repeat (first | (with_reducible exact Below.refl _ _) | (with_reducible assumption) | (with_reducible refine below_al ?_ _) | (with_reducible refine Below.drew ?_) | (with_reducible refine below_drewN ?_ _) | (with_reducible refine below_st ?_ ?_ _) | (with_reducible refine below_tr ?_ (by assumption)) | (with_reducible exact Nat.le_refl _) | (focus (simp; done)) | (focus (simp; omega)))))
        have hbw : Below w.heap.size w w1 := by
          repeat (first | (with_reducible exact Below.refl _ _) | (with_reducible assumption) | (with_reducible refine below_al ?_ _) | (with_reducible refine Below.drew ?_) | (with_reducible refine below_drewN ?_ _) | (with_reducible refine below_st ?_ ?_ _) | (with_reducible refine below_tr ?_ (by assumption)) | (with_reducible exact Nat.le_refl _) | (focus (simp; done)) | (focus (simp; omega)))
        go_wp2
        clear r0 l0 hb0 hb1 c0 c1 c2 hs
        go_loopw [8, 24] (fun _ i wr => ∃ k : Nat, k ≤ xs.length ∧ i = .int .i64 k ∧ Hid (∀ x ∈ xs.take k, distR x s ≤ 100 * err * s.d) ∧ Below w1.heap.size w1 wr) (fun _ i _ => xs.length - (intOf i).toNat)
        case atStart => exact ⟨0, Nat.zero_le _, rfl, by simp [Hid], Below.refl _ _⟩
        case round =>
          obtain ⟨k, hk, rfl, htk, hbr⟩ := hrel
          have HR := HS.below hbr
          have lR := HR.1
          obtain ⟨cHR_0, fHR_0⟩ := HR.2 0 _ rfl
          obtain ⟨cHR_1, fHR_1⟩ := HR.2 1 _ rfl
          obtain ⟨cHR_2, fHR_2⟩ := HR.2 2 _ rfl
          by_cases hlt : k < xs.length
          · obtain ⟨b, off, rfl, hblt, hc⟩ := (hsw.below hbr).at_ hlt
            have g0 := hc 0 _ rfl
            have g1 := hc 1 _ rfl
            have g2 := hc 2 _ rfl
            have hd := hall.out xs[k] (List.getElem_mem hlt)
            have ha := (hrec.out xs[k] (List.getElem_mem hlt)).2.2
            obtain ⟨q1, q2⟩ := distR_bd hd
            have c2 := fun W => distanceOf_c xs[k] s W hd ha
            have hyes := Lib.hid (fun (h : distR xs[k] s ≤ 100 * err * s.d) => show ∀ x ∈ xs.take (k + 1), distR x s ≤ 100 * err * s.d from by
              intro x hx; rw [take_succ' xs k hlt] at hx; simp only [List.mem_append, List.mem_singleton] at hx
              rcases hx with hx | rfl
              · exact htk.out x hx
              · exact h)
            have hno := Lib.hid (fun (h : ¬ distR xs[k] s ≤ 100 * err * s.d) => show isConsistent xs err s = false from by
              rw [hv.out, decide_eq_false_iff_not, hle.out]; intro hh; exact h (hh _ (List.getElem_mem hlt)))
            clear hc hd ha htk
            simp only [Nat.add_zero] at g0
            generalize xs[k] = x at *
            generalize distR x s = D at *
            have i1 : (k : Int) < (xs.length : Int) := by omega
            go_upto_region 6 with fail
            have wr1 : IntKind.i64.wrap (100 * err) = 100 * err := IntWalk.i64_in _ (by omega)
            have wr2 : IntKind.i64.wrap (100 * err * s.d) = 100 * err * s.d := IntWalk.i64_in _ (by omega)
            go_region_held3 (fun w' => (∀ b o, b < wr.heap.size + 1 → w'.cell? ⟨b, o, none⟩ = (wr.alloc (.cells #[.int .i64 x.before, .int .i64 x.input, .int .i64 x.after] 95)).cell? ⟨b, o, none⟩) ∧ wr.heap.size + 1 ≤ w'.heap.size) (first | exact ⟨fun _ _ _ => rfl, by simp⟩ | exact kq_step2 (by assumption) (by assumption))
              (first
                | (go_at_call 115; go_must (refine (c2 _).mono ?_; rintro e w2 ⟨rfl, hb2⟩)))
            clear wr1 wr2
            have hbz := below_tr (below_al hbr (.cells #[.int .i64 x.before, .int .i64 x.input, .int .i64 x.after] 95)).drew hb2
            by_cases hle2 : D ≤ 100 * err * s.d
            · have hy := Lib.hid (hyes.out hle2)
              clear hyes hno
              have hg : ¬ 100 * err * s.d < D := by omega
              go_wp2
              go_roundw
              case rel => exact ⟨k + 1, by omega, by go_num, hy, hbz⟩
              case measure => simp [intOf]; omega
            · have hy := Lib.hid (hno.out (by omega))
              clear hyes hno
              have hg : 100 * err * s.d < D := by omega
              go_wp2
              go_ret
              refine ⟨ret_bool hy.out.symm, ?_⟩
              exact below_tr hbw hbz
          · obtain rfl : k = xs.length := by omega
            rw [List.take_length] at htk
            have hy := Lib.hid (show isConsistent xs err s = true by rw [hv.out, decide_eq_true_eq, hle.out]; exact htk.out)
            clear htk
            go_wp2
            go_ret
            refine ⟨ret_bool hy.out.symm, ?_⟩
            exact below_tr hbw hbr
end Go.Proofs.Ytbdihgcjopbnjaa
end

section
namespace Go.Proofs.Ytbdihgcjopbnjaa
open Go.RowKit

theorem below_al_at {a w : World} {B : Nat} (h : Below B a w) (hB : B ≤ w.heap.size) (o : Obj) : Below B a (w.alloc o) := h.alloc hB o

end Go.Proofs.Ytbdihgcjopbnjaa
end

section
namespace Go.Proofs.Ytbdihgcjopbnjaa
open Go.RowKit

theorem sgn_le {x : Int} : sgn x ≤ 0 ↔ x ≤ 0 := by unfold sgn; split <;> (try split) <;> omega
theorem consCmp {m d e : Int} (hm : 0 ≤ m ∧ m ≤ 2100000000) (hd : 1 ≤ d ∧ d ≤ 1000) (he : 0 ≤ e ∧ e ≤ 1000) : decide (ratioCmp (ratioOf m (100 * d)) (ratioOf e 1) ≤ 0) = decide (m ≤ 100 * e * d) := by
  rw [ratioCmp_of ⟨by omega, by omega⟩ ⟨by omega, by omega⟩ ⟨by omega, by omega⟩ ⟨by omega, by omega⟩]
  unfold cmpF
  have h : e * (100 * d) = 100 * e * d := by rw [← Int.mul_assoc, Int.mul_comm e 100]
  rw [Int.mul_one, h]
  rw [Bool.eq_iff_iff, decide_eq_true_eq, decide_eq_true_eq, sgn_le]
  omega
end Go.Proofs.Ytbdihgcjopbnjaa
end
