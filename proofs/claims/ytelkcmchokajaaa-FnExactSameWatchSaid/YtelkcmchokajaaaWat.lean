/-
  CountVerdicts and FirstOver: of the program and of the reference.
  Conditions: the slices hold at most 2^20 elements.
-/
import Derived.Test.YtelkcmchokajaaaComp
import Derived.Test.YtelkcmchokajaaaCell
namespace Go.Proofs.Ytelkcmchokajaaa
open Go.RowKit

def cntV (v : Int) (l : List Int) : Int := ((l.filter (· == v)).length : Nat)
theorem cntV_bd (v : Int) (l : List Int) : 0 ≤ cntV v l ∧ cntV v l ≤ l.length := by
  unfold cntV; have := List.length_filter_le (· == v) l; omega
theorem cntV_snoc (v : Int) (l : List Int) (n : Int) : cntV v (l ++ [n]) = cntV v l + if n == v then 1 else 0 := by
  unfold cntV
  rw [List.filter_append]
  cases h : (n == v) <;> simp [h]
def firstOver (l : List Int) : Int := firstGo (fun k => l.getD k 1 != 1) (l.length - 0) 0

set_option maxRecDepth 100000 in
set_option maxHeartbeats 1000000 in
theorem iCount_c (x : Watch) (a : WatchA) (v : Int) (w : World) (hx : watchLen x ≤ 1048576) (ha : WatchSl w x a) :
    Calls Try.prog 31 #[watchV x a, .int .i64 v] w fun e w' => e = .returned (.int .i64 (cntV v x.log)) ∧ Below w.heap.size w w' := by
  obtain ⟨ar, ag, ⟨A, ac⟩⟩ := a
  have hs : Sl 1 intC w A x.log := ha.log
  have hl : x.log.length ≤ 1048576 := by simp only [watchLen] at hx; omega
  clear hx ha
  go_enter Try.func31, Try.ntmps31
  go_wp2
  go_loopw [5, 7, 11] (fun c _ i wr => ∃ k : Nat, k ≤ x.log.length ∧ i = .int .i64 k ∧ c = .int .i64 (cntV v (x.log.take k)) ∧ Below w.heap.size w wr) (fun _ _ i _ => x.log.length - (intOf i).toNat)
  case atStart => exact ⟨0, Nat.zero_le _, rfl, rfl, by (repeat (first | (with_reducible exact Below.refl _ _) | (with_reducible assumption) | (with_reducible refine below_al ?_ _) | (with_reducible refine Below.drew ?_) | (with_reducible refine below_drewN ?_ _) | (with_reducible refine below_st ?_ ?_ _) | (with_reducible refine below_tr ?_ (by assumption)) | (with_reducible exact Nat.le_refl _) | (focus (simp; done)) | (focus (simp; omega))))⟩
  case round =>
    obtain ⟨k, hk, rfl, rfl, hbr⟩ := hrel
    by_cases hlt : k < x.log.length
    · obtain ⟨b, off, rfl, hblt, hc⟩ := (hs.below hbr).at_ hlt
      have g0 := hc 0 _ rfl
      have hsn := Lib.hid (cntV_snoc v (x.log.take k) x.log[k])
      rw [← take_succ' x.log k hlt] at hsn
      obtain ⟨hb3, hb4⟩ := cntV_bd v (x.log.take k)
      have hb2 : (x.log.take k).length ≤ x.log.length := by rw [List.length_take]; omega
      clear hc
      simp only [Nat.mul_one, Nat.add_zero] at g0
      generalize x.log[k] = n at *
      cases q1 : (n == v)
      · go_wp2
        refine ⟨⟨k + 1, by omega, by go_num, ?_, hbr⟩, by simp [intOf]; omega⟩
        rw [hsn.out, q1]; simp
      · go_wp2
        refine ⟨⟨k + 1, by omega, by go_num, ?_, hbr⟩, by simp [intOf]; omega⟩
        rw [hsn.out, q1]; rfl
    · obtain rfl : k = x.log.length := by omega
      go_wp2
      go_ret
      exact ⟨ret_int (by rw [List.take_length]), hbr⟩
set_option maxRecDepth 100000 in
set_option maxHeartbeats 1000000 in
theorem sCount_c (x : Watch) (a : WatchA) (v : Int) (w : World) (hx : watchLen x ≤ 1048576) (ha : WatchSl w x a) :
    Calls Try.prog 29 #[watchV x a, .int .i64 v] w fun e w' => e = .returned (.int .i64 (cntV v x.log)) ∧ Below w.heap.size w w' := by
  obtain ⟨ar, ag, ⟨A, ac⟩⟩ := a
  have hs : Sl 1 intC w A x.log := ha.log
  have hl : x.log.length ≤ 1048576 := by simp only [watchLen] at hx; omega
  clear hx ha
  go_enter Try.func29, Try.ntmps29
  go_wp2
  go_loopw [5, 7, 11] (fun c _ i wr => ∃ k : Nat, k ≤ x.log.length ∧ i = .int .i64 k ∧ c = .int .i64 (cntV v (x.log.take k)) ∧ Below w.heap.size w wr) (fun _ _ i _ => x.log.length - (intOf i).toNat)
  case atStart => exact ⟨0, Nat.zero_le _, rfl, rfl, by (repeat (first | (with_reducible exact Below.refl _ _) | (with_reducible assumption) | (with_reducible refine below_al ?_ _) | (with_reducible refine Below.drew ?_) | (with_reducible refine below_drewN ?_ _) | (with_reducible refine below_st ?_ ?_ _) | (with_reducible refine below_tr ?_ (by assumption)) | (with_reducible exact Nat.le_refl _) | (focus (simp; done)) | (focus (simp; omega))))⟩
  case round =>
    obtain ⟨k, hk, rfl, rfl, hbr⟩ := hrel
    by_cases hlt : k < x.log.length
    · obtain ⟨b, off, rfl, hblt, hc⟩ := (hs.below hbr).at_ hlt
      have g0 := hc 0 _ rfl
      have hsn := Lib.hid (cntV_snoc v (x.log.take k) x.log[k])
      rw [← take_succ' x.log k hlt] at hsn
      obtain ⟨hb3, hb4⟩ := cntV_bd v (x.log.take k)
      have hb2 : (x.log.take k).length ≤ x.log.length := by rw [List.length_take]; omega
      clear hc
      simp only [Nat.mul_one, Nat.add_zero] at g0
      generalize x.log[k] = n at *
      cases q1 : (n == v)
      · go_wp2
        refine ⟨⟨k + 1, by omega, by go_num, ?_, hbr⟩, by simp [intOf]; omega⟩
        rw [hsn.out, q1]; simp
      · go_wp2
        refine ⟨⟨k + 1, by omega, by go_num, ?_, hbr⟩, by simp [intOf]; omega⟩
        rw [hsn.out, q1]; rfl
    · obtain rfl : k = x.log.length := by omega
      go_wp2
      go_ret
      exact ⟨ret_int (by rw [List.take_length]), hbr⟩
set_option maxRecDepth 100000 in
set_option maxHeartbeats 1000000 in
theorem sFirstOver_c (x : Watch) (a : WatchA) (w : World) (hx : watchLen x ≤ 1048576) (ha : WatchSl w x a) :
    Calls Try.prog 33 #[watchV x a] w fun e w' => e = .returned (.int .i64 (firstOver x.log)) ∧ Below w.heap.size w w' := by
  obtain ⟨ar, ag, ⟨A, ac⟩⟩ := a
  have hs : Sl 1 intC w A x.log := ha.log
  have hl : x.log.length ≤ 1048576 := by simp only [watchLen] at hx; omega
  clear hx ha
  go_enter Try.func33, Try.ntmps33
  go_wp2
  go_loopw [3, 4, 8] (fun _ _ i wr => ∃ k : Nat, k ≤ x.log.length ∧ i = .int .i64 k ∧ Hid (firstOver x.log = firstGo (fun k => x.log.getD k 1 != 1) (x.log.length - k) k) ∧ Below w.heap.size w wr) (fun _ _ i _ => x.log.length - (intOf i).toNat)
  case atStart => exact ⟨0, Nat.zero_le _, rfl, rfl, by (repeat (first | (with_reducible exact Below.refl _ _) | (with_reducible assumption) | (with_reducible refine below_al ?_ _) | (with_reducible refine Below.drew ?_) | (with_reducible refine below_drewN ?_ _) | (with_reducible refine below_st ?_ ?_ _) | (with_reducible refine below_tr ?_ (by assumption)) | (with_reducible exact Nat.le_refl _) | (focus (simp; done)) | (focus (simp; omega))))⟩
  case round =>
    obtain ⟨k, hk, rfl, hst, hbr⟩ := hrel
    by_cases hlt : k < x.log.length
    · obtain ⟨b, off, rfl, hblt, hc⟩ := (hs.below hbr).at_ hlt
      have g0 := hc 0 _ rfl
      clear hc
      simp only [Nat.mul_one, Nat.add_zero] at g0
      have hgd : x.log.getD k 1 = x.log[k] := by rw [List.getD_eq_getElem?_getD, List.getElem?_eq_getElem hlt]; rfl
      cases q1 : (x.log[k] != 1)
      · have hfin : Hid (firstOver x.log = firstGo (fun k => x.log.getD k 1 != 1) (x.log.length - (k + 1)) (k + 1)) := hst.out.trans (firstGo_miss hlt (by show (x.log.getD k 1 != 1) = false; rw [hgd, q1]))
        clear hst hgd
        generalize x.log[k] = n at *
        go_wp2
        go_roundw
        case rel => exact ⟨k + 1, by omega, by go_num, hfin, hbr⟩
        case measure => simp [intOf]; omega
      · have hfin : Hid (firstOver x.log = k) := hst.out.trans (firstGo_hit hlt (by show (x.log.getD k 1 != 1) = true; rw [hgd, q1]))
        clear hst hgd
        generalize x.log[k] = n at *
        go_wp2
        go_ret
        exact ⟨ret_int hfin.out.symm, hbr⟩
    · obtain rfl : k = x.log.length := by omega
      have hfin : Hid (firstOver x.log = -1) := hst.out.trans firstGo_end
      clear hst
      go_wp2
      go_ret
      exact ⟨ret_int hfin.out.symm, hbr⟩
theorem fo1_c (n : Int) (w : World) :
    Calls Try.prog 86 #[.int .i64 n] w fun e w' => e = .returned (.bool (n != 1)) ∧ w = w' := by
  go_enter Try.func86, Try.ntmps86
  go_wp2
  go_ret
  exact ⟨rfl, rfl⟩
set_option maxRecDepth 100000 in
set_option maxHeartbeats 1000000 in
theorem indexFunc_c (A : Option Addr) (l : List Int) (ac : Nat) (w : World) (hl : l.length ≤ 1048576) (hs : Sl 1 intC w A l) :
    Calls Try.prog 85 #[.slice A l.length ac, .func (.func 86) #[] #[]] w fun e w' => e = .returned (.int .i64 (firstOver l)) ∧ Below w.heap.size w w' := by
  go_enter Try.func85, Try.ntmps85
  go_wp2
  go_loopw [5, 8] (fun _ i wr => ∃ k : Nat, k ≤ l.length ∧ i = .int .i64 k ∧ Hid (firstOver l = firstGo (fun k => l.getD k 1 != 1) (l.length - k) k) ∧ Below w.heap.size w wr) (fun _ i _ => l.length - (intOf i).toNat)
  case atStart => exact ⟨0, Nat.zero_le _, rfl, rfl, by (repeat (first | (with_reducible exact Below.refl _ _) | (with_reducible assumption) | (with_reducible refine below_al ?_ _) | (with_reducible refine Below.drew ?_) | (with_reducible refine below_drewN ?_ _) | (with_reducible refine below_st ?_ ?_ _) | (with_reducible refine below_tr ?_ (by assumption)) | (with_reducible exact Nat.le_refl _) | (focus (simp; done)) | (focus (simp; omega))))⟩
  case round =>
    obtain ⟨k, hk, rfl, hst, hbr⟩ := hrel
    by_cases hlt : k < l.length
    · obtain ⟨b, off, rfl, hblt, hc⟩ := (hs.below hbr).at_ hlt
      have g0 := hc 0 _ rfl
      clear hc
      simp only [Nat.mul_one, Nat.add_zero] at g0
      have hgd : l.getD k 1 = l[k] := by rw [List.getD_eq_getElem?_getD, List.getElem?_eq_getElem hlt]; rfl
      cases q1 : (l[k] != 1)
      · have hfin : Hid (firstOver l = firstGo (fun k => l.getD k 1 != 1) (l.length - (k + 1)) (k + 1)) := hst.out.trans (firstGo_miss hlt (by show (l.getD k 1 != 1) = false; rw [hgd, q1]))
        clear hst hgd
        have c1 := fun W => fo1_c l[k] W
        rw [q1] at c1
        generalize l[k] = n at *
        have i1 : (0 : Int) ≤ (k : Int) := by omega
        have i2 : (k : Int) < (l.length : Int) := by omega
        go_wp2_with (go_at_call 86; refine (c1 _).mono ?_; rintro e w' ⟨rfl, rfl⟩)
        go_roundw
        case rel => exact ⟨k + 1, by omega, by go_num, hfin, hbr⟩
        case measure => simp [intOf]; omega
      · have hfin : Hid (firstOver l = k) := hst.out.trans (firstGo_hit hlt (by show (l.getD k 1 != 1) = true; rw [hgd, q1]))
        clear hst hgd
        have c1 := fun W => fo1_c l[k] W
        rw [q1] at c1
        generalize l[k] = n at *
        have i1 : (0 : Int) ≤ (k : Int) := by omega
        have i2 : (k : Int) < (l.length : Int) := by omega
        go_wp2_with (go_at_call 86; refine (c1 _).mono ?_; rintro e w' ⟨rfl, rfl⟩)
        go_ret
        exact ⟨ret_int hfin.out.symm, hbr⟩
    · obtain rfl : k = l.length := by omega
      have hfin : Hid (firstOver l = -1) := hst.out.trans firstGo_end
      clear hst
      go_wp2
      go_ret
      exact ⟨ret_int hfin.out.symm, hbr⟩
set_option maxRecDepth 100000 in
theorem iFirstOver_c (x : Watch) (a : WatchA) (w : World) (hx : watchLen x ≤ 1048576) (ha : WatchSl w x a) :
    Calls Try.prog 34 #[watchV x a] w fun e w' => e = .returned (.int .i64 (firstOver x.log)) ∧ Below w.heap.size w w' := by
  have hl : x.log.length ≤ 1048576 := by simp only [watchLen] at hx; omega
  go_enter Try.func34, Try.ntmps34
  go_wp2_with (fail)
  refine (indexFunc_c a.log.A x.log a.log.c _ hl (Sl.below ha.log (by (repeat (first | (with_reducible exact Below.refl _ _) | (with_reducible assumption) | (with_reducible refine below_al ?_ _) | (with_reducible refine Below.drew ?_) | (with_reducible refine below_drewN ?_ _) | (with_reducible refine below_st ?_ ?_ _) | (with_reducible refine below_tr ?_ (by assumption)) | (with_reducible exact Nat.le_refl _) | (focus (simp; done)) | (focus (simp; omega))))))).mono ?_
  rintro e w1 ⟨rfl, hb1⟩
  go_wp2
  go_ret
  refine ⟨rfl, ?_⟩
  repeat (first | (with_reducible exact Below.refl _ _) | (with_reducible assumption) | (with_reducible refine below_al ?_ _) | (with_reducible refine Below.drew ?_) | (with_reducible refine below_drewN ?_ _) | (with_reducible refine below_st ?_ ?_ _) | (with_reducible refine below_tr ?_ (by assumption)) | (with_reducible exact Nat.le_refl _) | (focus (simp; done)) | (focus (simp; omega)))
end Go.Proofs.Ytelkcmchokajaaa
