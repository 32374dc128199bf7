/-
  What the functions that mark results and look whether the marks are held return.
  Conditions: the slices hold at most 2^20 elements.
-/
import Derived.Test.YtbdihgcjopbnjaaStr
namespace Go.Proofs.Ytbdihgcjopbnjaa
open Go.RowKit

set_option maxRecDepth 100000 in
theorem markSpotS_c (v : Value) (xs : List Spot) (K : Int) (base : Nat) (w : World) (hn : xs.length ≤ 1048576) (hK : 0 ≤ K) (hK2 : K ≤ 1000000000000) (hv : New 65 3 spotC w base v xs) (hbase : base ≤ w.heap.size) :
    Calls Try.prog 20 #[v, .int .i64 K] w fun e w' => e = .returned (.int .i64 (K + xs.length * 3)) ∧ New 65 3 spotC w' base v (markSpots K xs.length) ∧ Below base w w' := by
  obtain ⟨A, cap, rfl, hown⟩ := hv
  by_cases h0 : xs.length = 0
  · rw [h0]
    go_enter Try.func20, Try.ntmps20
    go_wp2
    go_loopw [1, 5] (fun kk i wr => i = .int .i64 0 ∧ kk = .int .i64 K ∧ wr = w) (fun _ _ _ => 0)
    case atStart => exact ⟨rfl, rfl, rfl⟩
    case round =>
      obtain ⟨rfl, rfl, rfl⟩ := hrel
      go_wp2
      go_ret
      refine ⟨ret_int (by simp), ?_, Below.refl _ _⟩
      have hx : xs = [] := List.eq_nil_of_length_eq_zero h0
      subst hx
      exact ⟨A, cap, rfl, hown⟩
  · obtain ⟨g, hA, hbg, hfill0, hback⟩ := own_filled spotC_len hown (markSpots K xs.length) (by simp [markSpots]) (by omega)
    subst hA
    have hml : (markSpots K xs.length).length = xs.length := by simp [markSpots]
    go_enter Try.func20, Try.ntmps20
    go_wp2
    go_loopw [1, 5] (fun kk i wr => ∃ k : Nat, k ≤ xs.length ∧ i = .int .i64 k ∧ kk = .int .i64 (K + k * 3) ∧ Filled 65 3 spotC wr g (cap * 3) (markSpots K xs.length) k ∧ Below base w wr) (fun _ i _ => xs.length - (intOf i).toNat)
    case atStart => exact ⟨0, Nat.zero_le _, rfl, by simp, hfill0, Below.refl _ _⟩
    case round =>
      obtain ⟨k, hk, rfl, rfl, hfill, hbw⟩ := hrel
      by_cases hlt : k < xs.length
      · have hm := Nat.mul_le_mul_right 3 hlt
        have hml2 := hfill.room
        rw [hml] at hml2
        obtain ⟨u0, c0⟩ := hfill.cell (m := k * 3) (by omega)
        have f0 := hfill.frozen (k * 3)
        obtain ⟨u1, c1⟩ := hfill.cell (m := k * 3 + 1) (by omega)
        have f1 := hfill.frozen (k * 3 + 1)
        obtain ⟨u2, c2⟩ := hfill.cell (m := k * 3 + 2) (by omega)
        have f2 := hfill.frozen (k * 3 + 2)
        clear hm hml2
        have hst := hfill.stored spotC_len (by rw [hml]; exact hlt) (vs := spotC ⟨K + k * 3, K + k * 3 + 1, K + k * 3 + 1 + 1⟩) (by simp [markSpots])
        have hst2 := below_setCells_at hbg (spotC ⟨K + k * 3, K + k * 3 + 1, K + k * 3 + 1 + 1⟩) (k * 3) _ hbw
        go_wp2
        refine ⟨⟨k + 1, by omega, by go_num, ?_, hst, hst2⟩, by simp [intOf]; omega⟩
        congr 1; omega
      · obtain rfl : k = xs.length := by omega
        go_wp2
        go_ret
        exact ⟨rfl, hback _ hfill, hbw⟩

set_option maxRecDepth 100000 in
theorem heldSpotS_c (A : Option Addr) (n cap : Nat) (K : Int) (w : World) (hn : n ≤ 1048576) (hK : 0 ≤ K) (hK2 : K ≤ 1000000000000) (hs : Sl 3 spotC w A (markSpots K n)) :
    Calls Try.prog 21 #[.slice A n cap, .int .i64 K] w fun e w' => e = .returned (.int .i64 (K + n * 3)) ∧ w = w' := by
  have hml : (markSpots K n).length = n := by simp [markSpots]
  go_enter Try.func21, Try.ntmps21
  go_wp2
  go_loop [1, 5] (fun kk i => ∃ k : Nat, k ≤ n ∧ i = .int .i64 k ∧ kk = .int .i64 (K + k * 3)) (fun _ i => n - (intOf i).toNat)
  case atStart => exact ⟨0, Nat.zero_le _, rfl, by simp⟩
  case round =>
    obtain ⟨k, hk, rfl, rfl⟩ := hrel
    by_cases hlt : k < n
    · obtain ⟨b, off, rfl, hblt, hc⟩ := hs.at_ (k := k) (by rw [hml]; exact hlt)
      have hx : (markSpots K n)[k]'(by rw [hml]; exact hlt) = ⟨K + k * 3, K + k * 3 + 1, K + k * 3 + 1 + 1⟩ := by simp [markSpots]
      rw [hx] at hc
      have g0 := hc 0 _ rfl
      have g1 := hc 1 _ rfl
      have g2 := hc 2 _ rfl
      clear hc hx hml
      simp only [Nat.add_zero] at g0
      go_wp2
      refine ⟨⟨k + 1, by omega, by go_num, ?_⟩, by simp [intOf]; omega⟩
      congr 1; omega
    · obtain rfl : k = n := by omega
      go_wp2
      go_ret
      exact ⟨rfl, rfl⟩

set_option maxRecDepth 100000 in
theorem markHalfS_c (v : Value) (xs : List Half) (K : Int) (base : Nat) (w : World) (hn : xs.length ≤ 1048576) (hK : 0 ≤ K) (hK2 : K ≤ 1000000000000) (hv : New 177 3 halfC w base v xs) (hbase : base ≤ w.heap.size) :
    Calls Try.prog 139 #[v, .int .i64 K] w fun e w' => e = .returned (.int .i64 (K + xs.length * 3)) ∧ New 177 3 halfC w' base v (markHalfs K xs.length) ∧ Below base w w' := by
  obtain ⟨A, cap, rfl, hown⟩ := hv
  by_cases h0 : xs.length = 0
  · rw [h0]
    go_enter Try.func139, Try.ntmps139
    go_wp2
    go_loopw [1, 5] (fun kk i wr => i = .int .i64 0 ∧ kk = .int .i64 K ∧ wr = w) (fun _ _ _ => 0)
    case atStart => exact ⟨rfl, rfl, rfl⟩
    case round =>
      obtain ⟨rfl, rfl, rfl⟩ := hrel
      go_wp2
      go_ret
      refine ⟨ret_int (by simp), ?_, Below.refl _ _⟩
      have hx : xs = [] := List.eq_nil_of_length_eq_zero h0
      subst hx
      exact ⟨A, cap, rfl, hown⟩
  · obtain ⟨g, hA, hbg, hfill0, hback⟩ := own_filled halfC_len hown (markHalfs K xs.length) (by simp [markHalfs]) (by omega)
    subst hA
    have hml : (markHalfs K xs.length).length = xs.length := by simp [markHalfs]
    go_enter Try.func139, Try.ntmps139
    go_wp2
    go_loopw [1, 5] (fun kk i wr => ∃ k : Nat, k ≤ xs.length ∧ i = .int .i64 k ∧ kk = .int .i64 (K + k * 3) ∧ Filled 177 3 halfC wr g (cap * 3) (markHalfs K xs.length) k ∧ Below base w wr) (fun _ i _ => xs.length - (intOf i).toNat)
    case atStart => exact ⟨0, Nat.zero_le _, rfl, by simp, hfill0, Below.refl _ _⟩
    case round =>
      obtain ⟨k, hk, rfl, rfl, hfill, hbw⟩ := hrel
      by_cases hlt : k < xs.length
      · have hm := Nat.mul_le_mul_right 3 hlt
        have hml2 := hfill.room
        rw [hml] at hml2
        obtain ⟨u0, c0⟩ := hfill.cell (m := k * 3) (by omega)
        have f0 := hfill.frozen (k * 3)
        obtain ⟨u1, c1⟩ := hfill.cell (m := k * 3 + 1) (by omega)
        have f1 := hfill.frozen (k * 3 + 1)
        obtain ⟨u2, c2⟩ := hfill.cell (m := k * 3 + 2) (by omega)
        have f2 := hfill.frozen (k * 3 + 2)
        clear hm hml2
        have hst := hfill.stored halfC_len (by rw [hml]; exact hlt) (vs := halfC ⟨K + k * 3, K + k * 3 + 1, K + k * 3 + 1 + 1⟩) (by simp [markHalfs])
        have hst2 := below_setCells_at hbg (halfC ⟨K + k * 3, K + k * 3 + 1, K + k * 3 + 1 + 1⟩) (k * 3) _ hbw
        go_wp2
        refine ⟨⟨k + 1, by omega, by go_num, ?_, hst, hst2⟩, by simp [intOf]; omega⟩
        congr 1; omega
      · obtain rfl : k = xs.length := by omega
        go_wp2
        go_ret
        exact ⟨rfl, hback _ hfill, hbw⟩

set_option maxRecDepth 100000 in
theorem heldHalfS_c (A : Option Addr) (n cap : Nat) (K : Int) (w : World) (hn : n ≤ 1048576) (hK : 0 ≤ K) (hK2 : K ≤ 1000000000000) (hs : Sl 3 halfC w A (markHalfs K n)) :
    Calls Try.prog 140 #[.slice A n cap, .int .i64 K] w fun e w' => e = .returned (.int .i64 (K + n * 3)) ∧ w = w' := by
  have hml : (markHalfs K n).length = n := by simp [markHalfs]
  go_enter Try.func140, Try.ntmps140
  go_wp2
  go_loop [1, 5] (fun kk i => ∃ k : Nat, k ≤ n ∧ i = .int .i64 k ∧ kk = .int .i64 (K + k * 3)) (fun _ i => n - (intOf i).toNat)
  case atStart => exact ⟨0, Nat.zero_le _, rfl, by simp⟩
  case round =>
    obtain ⟨k, hk, rfl, rfl⟩ := hrel
    by_cases hlt : k < n
    · obtain ⟨b, off, rfl, hblt, hc⟩ := hs.at_ (k := k) (by rw [hml]; exact hlt)
      have hx : (markHalfs K n)[k]'(by rw [hml]; exact hlt) = ⟨K + k * 3, K + k * 3 + 1, K + k * 3 + 1 + 1⟩ := by simp [markHalfs]
      rw [hx] at hc
      have g0 := hc 0 _ rfl
      have g1 := hc 1 _ rfl
      have g2 := hc 2 _ rfl
      clear hc hx hml
      simp only [Nat.add_zero] at g0
      go_wp2
      refine ⟨⟨k + 1, by omega, by go_num, ?_⟩, by simp [intOf]; omega⟩
      congr 1; omega
    · obtain rfl : k = n := by omega
      go_wp2
      go_ret
      exact ⟨rfl, rfl⟩

set_option maxRecDepth 100000 in
theorem markRecordS_c (v : Value) (xs : List Record) (K : Int) (base : Nat) (w : World) (hn : xs.length ≤ 1048576) (hK : 0 ≤ K) (hK2 : K ≤ 1000000000000) (hv : New 95 3 recordC w base v xs) (hbase : base ≤ w.heap.size) :
    Calls Try.prog 59 #[v, .int .i64 K] w fun e w' => e = .returned (.int .i64 (K + xs.length * 3)) ∧ New 95 3 recordC w' base v (markRecords K xs.length) ∧ Below base w w' := by
  obtain ⟨A, cap, rfl, hown⟩ := hv
  by_cases h0 : xs.length = 0
  · rw [h0]
    go_enter Try.func59, Try.ntmps59
    go_wp2
    go_loopw [1, 5] (fun kk i wr => i = .int .i64 0 ∧ kk = .int .i64 K ∧ wr = w) (fun _ _ _ => 0)
    case atStart => exact ⟨rfl, rfl, rfl⟩
    case round =>
      obtain ⟨rfl, rfl, rfl⟩ := hrel
      go_wp2
      go_ret
      refine ⟨ret_int (by simp), ?_, Below.refl _ _⟩
      have hx : xs = [] := List.eq_nil_of_length_eq_zero h0
      subst hx
      exact ⟨A, cap, rfl, hown⟩
  · obtain ⟨g, hA, hbg, hfill0, hback⟩ := own_filled recordC_len hown (markRecords K xs.length) (by simp [markRecords]) (by omega)
    subst hA
    have hml : (markRecords K xs.length).length = xs.length := by simp [markRecords]
    go_enter Try.func59, Try.ntmps59
    go_wp2
    go_loopw [1, 5] (fun kk i wr => ∃ k : Nat, k ≤ xs.length ∧ i = .int .i64 k ∧ kk = .int .i64 (K + k * 3) ∧ Filled 95 3 recordC wr g (cap * 3) (markRecords K xs.length) k ∧ Below base w wr) (fun _ i _ => xs.length - (intOf i).toNat)
    case atStart => exact ⟨0, Nat.zero_le _, rfl, by simp, hfill0, Below.refl _ _⟩
    case round =>
      obtain ⟨k, hk, rfl, rfl, hfill, hbw⟩ := hrel
      by_cases hlt : k < xs.length
      · have hm := Nat.mul_le_mul_right 3 hlt
        have hml2 := hfill.room
        rw [hml] at hml2
        obtain ⟨u0, c0⟩ := hfill.cell (m := k * 3) (by omega)
        have f0 := hfill.frozen (k * 3)
        obtain ⟨u1, c1⟩ := hfill.cell (m := k * 3 + 1) (by omega)
        have f1 := hfill.frozen (k * 3 + 1)
        obtain ⟨u2, c2⟩ := hfill.cell (m := k * 3 + 2) (by omega)
        have f2 := hfill.frozen (k * 3 + 2)
        clear hm hml2
        have hst := hfill.stored recordC_len (by rw [hml]; exact hlt) (vs := recordC ⟨K + k * 3, K + k * 3 + 1, K + k * 3 + 1 + 1⟩) (by simp [markRecords])
        have hst2 := below_setCells_at hbg (recordC ⟨K + k * 3, K + k * 3 + 1, K + k * 3 + 1 + 1⟩) (k * 3) _ hbw
        go_wp2
        refine ⟨⟨k + 1, by omega, by go_num, ?_, hst, hst2⟩, by simp [intOf]; omega⟩
        congr 1; omega
      · obtain rfl : k = xs.length := by omega
        go_wp2
        go_ret
        exact ⟨rfl, hback _ hfill, hbw⟩

end Go.Proofs.Ytbdihgcjopbnjaa
