/-
  The functions on records: what they return.
  Conditions: the slice reads as a list of at most 2^20 records.
-/
import Derived.Test.YtbdihgcjopbnjaaGrC
import Derived.Test.YtbdihgcjopbnjaaGrA
import Derived.Test.YtbdihgcjopbnjaaGrD
section
namespace Go.Proofs.Ytbdihgcjopbnjaa
open Go.RowKit

def recOk (x : Record) : Bool := inR x.before (-1000) 1000 && inR x.input (-1000) 1000 && inR x.after (-1000) 1000
def recordsOk (xs : List Record) : Bool := xs.all recOk && decide (xs.length ≤ 12)
theorem recordsOk_no {xs : List Record} {k : Nat} (h : k < xs.length) (hk : recOk xs[k] = false) : recordsOk xs = false := by
  have : xs.all recOk = false := by rw [List.all_eq_false]; exact ⟨_, List.getElem_mem h, by simp [hk]⟩
  simp [recordsOk, this]
theorem all_take_succ {α : Type} {p : α → Bool} {xs : List α} {k : Nat} (h : k < xs.length) (h1 : (xs.take k).all p = true) (h2 : p xs[k] = true) : (xs.take (k + 1)).all p = true := by
  rw [take_succ' xs k h, List.all_append, h1]; simp [h2]

theorem isMeasure_c (a : Int) (w : World) :
    Calls Try.prog 116 #[.int .i64 a] w fun e w' => e = .returned (.bool (inR a (-1000) 1000)) ∧ w = w' := by
  go_enter Try.func116, Try.ntmps116
  go_wp2_with (first | (go_at_call 112; refine (inRange_c _ _ _ _).mono ?_; rintro e w' ⟨rfl, rfl⟩))
  go_ret
  exact ⟨rfl, rfl⟩

theorem iRecordsOk_c (A : Option Addr) (xs : List Record) (cap : Nat) (w : World) (hn : xs.length ≤ 1048576) (hs : Sl 3 recordC w A xs) :
    Calls Try.prog 38 #[.slice A xs.length cap] w fun e w' => e = .returned (.bool (recordsOk xs)) ∧ Below w.heap.size w w' := by
  go_enter Try.func38, Try.ntmps38
  go_wp2
  go_loopw [4, 7] (fun x i wr => ∃ k : Nat, k ≤ xs.length ∧ i = .int .i64 k ∧ (xs.take k).all recOk = true ∧ Below w.heap.size w wr) (fun _ i _ => xs.length - (intOf i).toNat)
  case atStart => exact ⟨0, Nat.zero_le _, rfl, rfl, Below.refl _ _⟩
  case round =>
    obtain ⟨k, hk, rfl, hall, hbw⟩ := hrel
    by_cases hlt : k < xs.length
    · obtain ⟨b, off, rfl, hblt, hc⟩ := (hs.below hbw).at_ hlt
      have g0 := hc 0 _ rfl
      have g1 := hc 1 _ rfl
      have g2 := hc 2 _ rfl
      have H1 := Lib.hid (fun h => recordsOk_no (k := k) (xs := xs) hlt h)
      have H2 := Lib.hid (fun h => all_take_succ (k := k) (xs := xs) (p := recOk) hlt hall h)
      clear hc hall
      simp only [Nat.add_zero] at g0
      generalize xs[k] = x at *
      have hbn : Below w.heap.size w (wr.alloc (Obj.cells #[.int .i64 x.before, .int .i64 x.input, .int .i64 x.after] 95)) := hbw.alloc hbw.size _
      cases e1 : inR x.before (-1000) 1000
      · go_wp2_with (first | (go_at_call 116; refine (isMeasure_c _ _).mono ?_; rintro e w' ⟨rfl, rfl⟩))
        go_ret
        exact ⟨ret_bool (by rw [H1.out (by simp [recOk, e1])]), hbn⟩
      · cases e2 : inR x.input (-1000) 1000
        · go_wp2_with (first | (go_at_call 116; refine (isMeasure_c _ _).mono ?_; rintro e w' ⟨rfl, rfl⟩))
          go_ret
          exact ⟨ret_bool (by rw [H1.out (by simp [recOk, e2])]), hbn⟩
        · cases e3 : inR x.after (-1000) 1000
          · go_wp2_with (first | (go_at_call 116; refine (isMeasure_c _ _).mono ?_; rintro e w' ⟨rfl, rfl⟩))
            go_ret
            exact ⟨ret_bool (by rw [H1.out (by simp [recOk, e3])]), hbn⟩
          · go_wp2_with (first | (go_at_call 116; refine (isMeasure_c _ _).mono ?_; rintro e w' ⟨rfl, rfl⟩))
            go_roundw
            case rel => exact ⟨k + 1, by omega, by go_num, H2.out (by simp [recOk, e1, e2, e3]), hbn⟩
            case measure => simp [intOf]; omega
    · obtain rfl : k = xs.length := by omega
      have HA := Lib.hid hall
      clear hall
      go_wp2
      go_ret
      exact ⟨ret_bool (by have := HA.out; rw [List.take_length] at this; simp [recordsOk, this]; omega), hbw⟩

theorem l18Record_c (x : Record) (w : World) :
    Calls Try.prog 175 #[recordV x] w fun e w' => e = .returned (.bool (recOk x)) ∧ Below w.heap.size w w' := by
  unfold recordV
  cases e1 : inR x.before (-1000) 1000 <;> cases e2 : inR x.input (-1000) 1000 <;> cases e3 : inR x.after (-1000) 1000
  all_goals
    go_enter Try.func175, Try.ntmps175
    go_wp2_with (first | (go_at_call 78; refine (l01In_c _ _ _ _).mono ?_; rintro e w' ⟨rfl, rfl⟩))
    go_ret
    exact ⟨ret_bool (by simp [recOk, e1, e2, e3]), (Below.refl _ _).alloc (Nat.le_refl _) _⟩

theorem sRecordsOk_c (A : Option Addr) (xs : List Record) (cap : Nat) (w : World) (hn : xs.length ≤ 1048576) (hs : Sl 3 recordC w A xs) :
    Calls Try.prog 135 #[.slice A xs.length cap] w fun e w' => e = .returned (.bool (recordsOk xs)) ∧ Below w.heap.size w w' := by
  go_enter Try.func135, Try.ntmps135
  go_wp2
  go_loopw [4, 7] (fun x i wr => ∃ k : Nat, k ≤ xs.length ∧ i = .int .i64 k ∧ (xs.take k).all recOk = true ∧ Below w.heap.size w wr) (fun _ i _ => xs.length - (intOf i).toNat)
  case atStart => exact ⟨0, Nat.zero_le _, rfl, rfl, Below.refl _ _⟩
  case round =>
    obtain ⟨k, hk, rfl, hall, hbw⟩ := hrel
    by_cases hlt : k < xs.length
    · obtain ⟨b, off, rfl, hblt, hc⟩ := (hs.below hbw).at_ hlt
      have g0 := hc 0 _ rfl
      have g1 := hc 1 _ rfl
      have g2 := hc 2 _ rfl
      have H1 := Lib.hid (fun h => recordsOk_no (k := k) (xs := xs) hlt h)
      have H2 := Lib.hid (fun h => all_take_succ (k := k) (xs := xs) (p := recOk) hlt hall h)
      clear hc hall
      simp only [Nat.add_zero] at g0
      generalize xs[k] = x at *
      have hbn : Below w.heap.size w (wr.alloc (Obj.cells #[.int .i64 x.before, .int .i64 x.input, .int .i64 x.after] 95)) := hbw.alloc hbw.size _
      cases e1 : recOk x
      · go_wp2_with (fail)
        refine (l18Record_c x _).mono ?_
        rintro e w1 ⟨rfl, hb_w1⟩
        go_wp2
        go_ret
        exact ⟨ret_bool (by rw [H1.out e1]), hbn.trans (hb_w1.mono hbn.size)⟩
      · go_wp2_with (fail)
        refine (l18Record_c x _).mono ?_
        rintro e w1 ⟨rfl, hb_w1⟩
        go_wp2
        go_roundw
        case rel => exact ⟨k + 1, by omega, by go_num, H2.out e1, hbn.trans (hb_w1.mono hbn.size)⟩
        case measure => simp [intOf]; omega
    · obtain rfl : k = xs.length := by omega
      have HA := Lib.hid hall
      clear hall
      go_wp2
      go_ret
      exact ⟨ret_bool (by have := HA.out; rw [List.take_length] at this; simp [recordsOk, this]; omega), hbw⟩

end Go.Proofs.Ytbdihgcjopbnjaa
end

section
namespace Go.Proofs.Ytbdihgcjopbnjaa
open Go.RowKit

theorem red3 {a b c : Int} (h : 0 < gcdAll [a, b, c]) : gcdAll [a.tdiv (gcdAll [a, b, c]), b.tdiv (gcdAll [a, b, c]), c.tdiv (gcdAll [a, b, c])] = 1 := by
  have e := gcd3 a b c
  rw [gcd3 (a.tdiv _)]
  simp only [natAbs_tdiv]
  generalize gcdAll [a, b, c] = g at *
  have d1 : g ∣ a.natAbs := by rw [e]; exact Nat.dvd_trans (Nat.gcd_dvd_left _ _) (Nat.gcd_dvd_left _ _)
  have d2 : g ∣ b.natAbs := by rw [e]; exact Nat.dvd_trans (Nat.gcd_dvd_left _ _) (Nat.gcd_dvd_right _ _)
  have d3 : g ∣ c.natAbs := by rw [e]; exact Nat.gcd_dvd_right _ _
  rw [Nat.gcd_div d1 d2, Nat.gcd_div (Nat.dvd_gcd d1 d2) d3, ← e]
  exact Nat.div_self h

theorem halfOf_some {a b c : Int} (ha : -50000 ≤ a ∧ a ≤ 50000) (hb : -50000 ≤ b ∧ b ≤ 50000) (hc : -100000000 ≤ c ∧ c ≤ 100000000) (h0 : ¬(a = 0 ∧ b = 0)) : halfOf a b c = some (redHalf a b c) := by
  have hg : 0 < gcdAll [a, b, c] := by
    rw [gcd3]
    apply Nat.gcd_pos_of_pos_left
    rcases Nat.eq_zero_or_pos (Nat.gcd a.natAbs b.natAbs) with h | h
    · rw [Nat.gcd_eq_zero_iff] at h; omega
    · exact h
  unfold halfOf
  rw [if_neg (by simp [isMin_no (a := a) (by omega), isMin_no (a := b) (by omega), isMin_no (a := c) (by omega)]; omega), if_pos]
  rw [halfOk_iff]
  have t1 := tdiv_le a (gcdAll [a, b, c]) 50000 (by omega) (by omega)
  have t2 := tdiv_le b (gcdAll [a, b, c]) 50000 (by omega) (by omega)
  have t3 := tdiv_le c (gcdAll [a, b, c]) 100000000 (by omega) (by omega)
  refine ⟨t1, t2, t3, ?_, red3 hg⟩
  intro ⟨z1, z2⟩
  apply h0
  have n1 := natAbs_tdiv a (gcdAll [a, b, c])
  have n2 := natAbs_tdiv b (gcdAll [a, b, c])
  have d1 : gcdAll [a, b, c] ∣ a.natAbs := by rw [gcd3]; exact Nat.dvd_trans (Nat.gcd_dvd_left _ _) (Nat.gcd_dvd_left _ _)
  have d2 : gcdAll [a, b, c] ∣ b.natAbs := by rw [gcd3]; exact Nat.dvd_trans (Nat.gcd_dvd_left _ _) (Nat.gcd_dvd_right _ _)
  have z1' : a.tdiv (gcdAll [a, b, c]) = 0 := z1
  have z2' : b.tdiv (gcdAll [a, b, c]) = 0 := z2
  rw [z1'] at n1
  rw [z2'] at n2
  have e1 := Nat.div_mul_cancel d1
  have e2 := Nat.div_mul_cancel d2
  rw [← n1] at e1
  rw [← n2] at e2
  simp at e1 e2
  omega

theorem halfOf_zero {a b c : Int} (h0 : a = 0 ∧ b = 0) : halfOf a b c = none := by
  obtain ⟨rfl, rfl⟩ := h0
  unfold halfOf
  split
  · rfl
  · rw [if_neg]; simp [halfOk, redHalf]

def recH1 (x : Record) (err : Int) : Half := redHalf x.before x.input (100 * (x.after + err))
def recH2 (x : Record) (err : Int) : Half := redHalf (-x.before) (-x.input) (100 * (err - x.after))
def recordHalves (x : Record) (err : Int) : List Half :=
  if recOk x = true ∧ inR err 0 1000 = true ∧ ¬(x.before = 0 ∧ x.input = 0) then [recH1 x err, recH2 x err] else []
theorem recOk_iff {x : Record} : recOk x = true ↔ (-1000 ≤ x.before ∧ x.before ≤ 1000) ∧ (-1000 ≤ x.input ∧ x.input ≤ 1000) ∧ (-1000 ≤ x.after ∧ x.after ≤ 1000) := by
  simp only [recOk, Bool.and_eq_true, inR_iff, and_assoc]
theorem recordsOk_one (x : Record) : recordsOk [x] = recOk x := by simp [recordsOk]

theorem iHalfOf_s (a b c : Int) (h : Half) (he : halfOf a b c = some h) (w : World) (ha : In64 a) (hb : In64 b) (hc : In64 c) :
    Calls Try.prog 132 #[.int .i64 a, .int .i64 b, .int .i64 c] w fun e w' => e = .returned (.tuple #[.agg #[.int .i64 h.a, .int .i64 h.b, .int .i64 h.c], .bool true]) ∧ Below w.heap.size w w' := by
  have := iHalfOf_c a b c w ha hb hc
  rw [he] at this; exact this
theorem iHalfOf_n (a b c : Int) (he : halfOf a b c = none) (w : World) (ha : In64 a) (hb : In64 b) (hc : In64 c) :
    Calls Try.prog 132 #[.int .i64 a, .int .i64 b, .int .i64 c] w fun e w' => e = .returned (.tuple #[.agg #[.int .i64 0, .int .i64 0, .int .i64 0], .bool false]) ∧ Below w.heap.size w w' := by
  have := iHalfOf_c a b c w ha hb hc
  rw [he] at this; exact this

theorem sHalfOf_s (a b c : Int) (h : Half) (he : halfOf a b c = some h) (w : World) (ha : In64 a) (hb : In64 b) (hc : In64 c) :
    Calls Try.prog 176 #[.int .i64 a, .int .i64 b, .int .i64 c] w fun e w' => e = .returned (.tuple #[.agg #[.int .i64 h.a, .int .i64 h.b, .int .i64 h.c], .bool true]) ∧ Below w.heap.size w w' := by
  have := sHalfOf_c a b c w ha hb hc
  rw [he] at this; exact this

theorem isError_c (a : Int) (w : World) :
    Calls Try.prog 111 #[.int .i64 a] w fun e w' => e = .returned (.bool (inR a 0 1000)) ∧ w = w' := by
  go_enter Try.func111, Try.ntmps111
  go_wp2_with (first | (go_at_call 112; refine (inRange_c _ _ _ _).mono ?_; rintro e w' ⟨rfl, rfl⟩))
  go_ret
  exact ⟨rfl, rfl⟩

set_option maxHeartbeats 2000000 in
theorem iRecordHalves_c (x : Record) (err : Int) (w : World) :
    Calls Try.prog 51 #[recordV x, .int .i64 err] w fun e w' => ∃ v, e = .returned v ∧ New 177 3 halfC w' w.heap.size v (recordHalves x err) ∧ Below w.heap.size w w' := by
  have hro := iRecordsOk_c (some ⟨w.heap.size + 1, 0, none⟩) [x] 1 _ (by simp) (sl_new_at (T := 95) recordC_len (w.alloc (.cells #[.int .i64 x.before, .int .i64 x.input, .int .i64 x.after] 95)) [x] #[.int .i64 x.before, .int .i64 x.input, .int .i64 x.after] rfl (by simp))
  rw [recordsOk_one] at hro
  cases e1 : recOk x
  · have hfin : Hid (recordHalves x err = []) := by simp [Hid, recordHalves, e1]
    rw [e1] at hro
    go_enter Try.func51, Try.ntmps51
    go_wp2_with (fail)
    refine hro.mono ?_
    rintro e w1 ⟨rfl, hb1⟩
    go_wp2
    go_ret
    refine ⟨_, rfl, by rw [hfin.out]; exact ⟨_, _, rfl, World.ownsRow_nil _ _ _ _⟩, ?_⟩
    exact below_tr (below_al (below_al (Below.refl _ _) _) _) hb1
  · rw [e1] at hro
    cases e2 : inR err 0 1000
    · have hfin : Hid (recordHalves x err = []) := by simp [Hid, recordHalves, e2]
      go_enter Try.func51, Try.ntmps51
      go_wp2_with (fail)
      refine hro.mono ?_
      rintro e w1 ⟨rfl, hb1⟩
      go_wp2_with (fail)
      refine (isError_c _ _).mono ?_
      rintro e w' ⟨rfl, rfl⟩
      go_wp2
      go_ret
      refine ⟨_, rfl, by rw [hfin.out]; exact ⟨_, _, rfl, World.ownsRow_nil _ _ _ _⟩, ?_⟩
      exact below_tr (below_al (below_al (Below.refl _ _) _) _) hb1
    · obtain ⟨r1, r2⟩ := inR_iff.1 e2
      obtain ⟨⟨b1, b2⟩, ⟨b3, b4⟩, ⟨b5, b6⟩⟩ := recOk_iff.1 e1
      by_cases hz : x.before = 0 ∧ x.input = 0
      · have hfin : Hid (recordHalves x err = []) := by simp [Hid, recordHalves, hz]
        have c1 := fun W => iHalfOf_n x.before x.input (100 * (x.after + err)) (halfOf_zero hz) W ⟨by omega, by omega⟩ ⟨by omega, by omega⟩ ⟨by omega, by omega⟩
        have c2 := fun W => iHalfOf_n (-x.before) (-x.input) (100 * (err - x.after)) (halfOf_zero (by omega)) W ⟨by omega, by omega⟩ ⟨by omega, by omega⟩ ⟨by omega, by omega⟩
        clear hz
        go_enter Try.func51, Try.ntmps51
        go_wp2_with (fail)
        refine hro.mono ?_
        rintro e w1 ⟨rfl, hb1⟩
        have H1 := ((Has.new w #[.int .i64 x.before, .int .i64 x.input, .int .i64 x.after] 95).alloc _).below hb1
        have hbw := below_tr (below_al (below_al (Below.refl w.heap.size w) _) _) hb1
        obtain ⟨cH1_0, fH1_0⟩ := H1.2 0 _ rfl
        obtain ⟨cH1_1, fH1_1⟩ := H1.2 1 _ rfl
        obtain ⟨cH1_2, fH1_2⟩ := H1.2 2 _ rfl
        go_wp2_with (fail)
        refine (isError_c _ _).mono ?_
        rintro e w' ⟨rfl, rfl⟩
        go_wp2_with (fail)
        refine (c1 _).mono ?_
        rintro e w2 ⟨rfl, hb2⟩
        have H2 := H1.below hb2
        have hbw2 := below_tr hbw hb2
        have hlt2 := H2.1
        clear cH1_0 cH1_1 cH1_2 fH1_0 fH1_1 fH1_2
        obtain ⟨cH2_0, fH2_0⟩ := H2.2 0 _ rfl
        obtain ⟨cH2_1, fH2_1⟩ := H2.2 1 _ rfl
        obtain ⟨cH2_2, fH2_2⟩ := H2.2 2 _ rfl
        go_wp2_with (fail)
        refine (c2 _).mono ?_
        rintro e w3 ⟨rfl, hb3⟩
        have hbw3 := below_tr (below_al hbw2 _) hb3
        go_wp2
        go_ret
        refine ⟨_, rfl, by rw [hfin.out]; exact ⟨_, _, rfl, World.ownsRow_nil _ _ _ _⟩, ?_⟩
        repeat (first | (with_reducible exact Below.refl _ _) | (with_reducible assumption) | (with_reducible refine below_al ?_ _) | (with_reducible refine Below.drew ?_) | (with_reducible refine below_drewN ?_ _) | (with_reducible refine below_st ?_ ?_ _) | (with_reducible refine below_tr ?_ (by assumption)) | (with_reducible exact Nat.le_refl _) | (focus (simp; done)) | (focus (simp; omega)))
      · have hfin : Hid (recordHalves x err = [recH1 x err, recH2 x err]) := by simp [Hid, recordHalves, e1, e2, hz]
        have c1 := fun W => iHalfOf_s x.before x.input (100 * (x.after + err)) _ (halfOf_some (by omega) (by omega) (by omega) hz) W ⟨by omega, by omega⟩ ⟨by omega, by omega⟩ ⟨by omega, by omega⟩
        have c2 := fun W => iHalfOf_s (-x.before) (-x.input) (100 * (err - x.after)) _ (halfOf_some (by omega) (by omega) (by omega) (by omega)) W ⟨by omega, by omega⟩ ⟨by omega, by omega⟩ ⟨by omega, by omega⟩
        change Hid (recordHalves x err = [redHalf x.before x.input (100 * (x.after + err)), redHalf (-x.before) (-x.input) (100 * (err - x.after))]) at hfin
        generalize redHalf x.before x.input (100 * (x.after + err)) = h1 at *
        generalize redHalf (-x.before) (-x.input) (100 * (err - x.after)) = h2 at *
        clear hz
        go_enter Try.func51, Try.ntmps51
        go_wp2_with (fail)
        refine hro.mono ?_
        rintro e w1 ⟨rfl, hb1⟩
        have H1 := ((Has.new w #[.int .i64 x.before, .int .i64 x.input, .int .i64 x.after] 95).alloc _).below hb1
        have hbw := below_tr (below_al (below_al (Below.refl w.heap.size w) _) _) hb1
        obtain ⟨cH1_0, fH1_0⟩ := H1.2 0 _ rfl
        obtain ⟨cH1_1, fH1_1⟩ := H1.2 1 _ rfl
        obtain ⟨cH1_2, fH1_2⟩ := H1.2 2 _ rfl
        go_wp2_with (fail)
        refine (isError_c _ _).mono ?_
        rintro e w' ⟨rfl, rfl⟩
        go_wp2_with (fail)
        refine (c1 _).mono ?_
        rintro e w2 ⟨rfl, hb2⟩
        have H2 := H1.below hb2
        have hbw2 := below_tr hbw hb2
        have hlt2 := H2.1
        clear cH1_0 cH1_1 cH1_2 fH1_0 fH1_1 fH1_2
        obtain ⟨cH2_0, fH2_0⟩ := H2.2 0 _ rfl
        obtain ⟨cH2_1, fH2_1⟩ := H2.2 1 _ rfl
        obtain ⟨cH2_2, fH2_2⟩ := H2.2 2 _ rfl
        go_wp2_with (fail)
        refine (c2 _).mono ?_
        rintro e w3 ⟨rfl, hb3⟩
        have hbw3 := below_tr (below_al hbw2 _) hb3
        have H3 := (Has.new _ _ _).below hb3
        have hlt3 := H3.1
        obtain ⟨cH3_0, fH3_0⟩ := H3.2 0 _ rfl
        obtain ⟨cH3_1, fH3_1⟩ := H3.2 1 _ rfl
        obtain ⟨cH3_2, fH3_2⟩ := H3.2 2 _ rfl
        go_wp2
        go_ret
        refine ⟨_, rfl, ?_, ?_⟩
        · rw [hfin.out]
          refine ⟨_, _, rfl, ?_⟩
          have hn := World.ownsRow_lit (base := w.heap.size) (e := 177) (size := 3) (w3.alloc (.cells #[.int .i64 h2.a, .int .i64 h2.b, .int .i64 h2.c] 177)) #[.int .i64 h1.a, .int .i64 h1.b, .int .i64 h1.c, .int .i64 h2.a, .int .i64 h2.b, .int .i64 h2.c] 2 (by have := hbw3.size; simp; omega) (by unfold maxLen; omega) rfl
          simp only [World.size_alloc] at hn
          exact hn
        · repeat (first | (with_reducible exact Below.refl _ _) | (with_reducible assumption) | (with_reducible refine below_al ?_ _) | (with_reducible refine Below.drew ?_) | (with_reducible refine below_drewN ?_ _) | (with_reducible refine below_st ?_ ?_ _) | (with_reducible refine below_tr ?_ (by assumption)) | (with_reducible exact Nat.le_refl _) | (focus (simp; done)) | (focus (simp; omega)))
set_option maxHeartbeats 2000000 in
theorem sRecordHalves_c (x : Record) (err : Int) (w : World) :
    Calls Try.prog 136 #[recordV x, .int .i64 err] w fun e w' => ∃ v, e = .returned v ∧ New 177 3 halfC w' w.heap.size v (recordHalves x err) ∧ Below w.heap.size w w' := by
  have hro := fun W => l18Record_c x W
  cases e1 : recOk x
  · have hfin : Hid (recordHalves x err = []) := by simp [Hid, recordHalves, e1]
    rw [e1] at hro
    go_enter Try.func136, Try.ntmps136
    go_wp2_with (fail)
    refine (hro _).mono ?_
    rintro e w1 ⟨rfl, hb1⟩
    go_wp2
    go_ret
    refine ⟨_, rfl, by rw [hfin.out]; exact ⟨_, _, rfl, World.ownsRow_nil _ _ _ _⟩, ?_⟩
    repeat (first | (with_reducible exact Below.refl _ _) | (with_reducible assumption) | (with_reducible refine below_al ?_ _) | (with_reducible refine Below.drew ?_) | (with_reducible refine below_drewN ?_ _) | (with_reducible refine below_st ?_ ?_ _) | (with_reducible refine below_tr ?_ (by assumption)) | (with_reducible exact Nat.le_refl _) | (focus (simp; done)) | (focus (simp; omega)))
  · rw [e1] at hro
    cases e2 : inR err 0 1000
    · have hfin : Hid (recordHalves x err = []) := by simp [Hid, recordHalves, e2]
      go_enter Try.func136, Try.ntmps136
      go_wp2_with (fail)
      refine (hro _).mono ?_
      rintro e w1 ⟨rfl, hb1⟩
      go_wp2_with (fail)
      refine (l01In_c _ _ _ _).mono ?_
      rintro e w' ⟨rfl, rfl⟩
      go_wp2
      go_ret
      refine ⟨_, rfl, by rw [hfin.out]; exact ⟨_, _, rfl, World.ownsRow_nil _ _ _ _⟩, ?_⟩
      repeat (first | (with_reducible exact Below.refl _ _) | (with_reducible assumption) | (with_reducible refine below_al ?_ _) | (with_reducible refine Below.drew ?_) | (with_reducible refine below_drewN ?_ _) | (with_reducible refine below_st ?_ ?_ _) | (with_reducible refine below_tr ?_ (by assumption)) | (with_reducible exact Nat.le_refl _) | (focus (simp; done)) | (focus (simp; omega)))
    · obtain ⟨r1, r2⟩ := inR_iff.1 e2
      obtain ⟨⟨b1, b2⟩, ⟨b3, b4⟩, ⟨b5, b6⟩⟩ := recOk_iff.1 e1
      by_cases hz : x.before = 0 ∧ x.input = 0
      · have hfin : Hid (recordHalves x err = []) := by simp [Hid, recordHalves, hz]
        have z1 : (x.before == 0) = true := by simp [hz]
        have z2 : (x.input == 0) = true := by simp [hz]
        clear hz
        go_enter Try.func136, Try.ntmps136
        go_wp2_with (fail)
        refine (hro _).mono ?_
        rintro e w1 ⟨rfl, hb1⟩
        have H1 := (Has.new w #[.int .i64 x.before, .int .i64 x.input, .int .i64 x.after] 95).below hb1
        obtain ⟨cH1_0, fH1_0⟩ := H1.2 0 _ rfl
        obtain ⟨cH1_1, fH1_1⟩ := H1.2 1 _ rfl
        obtain ⟨cH1_2, fH1_2⟩ := H1.2 2 _ rfl
        go_wp2_with (fail)
        refine (l01In_c _ _ _ _).mono ?_
        rintro e w' ⟨rfl, rfl⟩
        go_wp2
        go_ret
        refine ⟨_, rfl, by rw [hfin.out]; exact ⟨_, _, rfl, World.ownsRow_nil _ _ _ _⟩, ?_⟩
        repeat (first | (with_reducible exact Below.refl _ _) | (with_reducible assumption) | (with_reducible refine below_al ?_ _) | (with_reducible refine Below.drew ?_) | (with_reducible refine below_drewN ?_ _) | (with_reducible refine below_st ?_ ?_ _) | (with_reducible refine below_tr ?_ (by assumption)) | (with_reducible exact Nat.le_refl _) | (focus (simp; done)) | (focus (simp; omega)))
      · have hfin : Hid (recordHalves x err = [recH1 x err, recH2 x err]) := by simp [Hid, recordHalves, e1, e2, hz]
        have c1 := fun W => sHalfOf_s x.before x.input (100 * (x.after + err)) _ (halfOf_some (by omega) (by omega) (by omega) hz) W ⟨by omega, by omega⟩ ⟨by omega, by omega⟩ ⟨by omega, by omega⟩
        have c2 := fun W => sHalfOf_s (-x.before) (-x.input) (100 * (err - x.after)) _ (halfOf_some (by omega) (by omega) (by omega) (by omega)) W ⟨by omega, by omega⟩ ⟨by omega, by omega⟩ ⟨by omega, by omega⟩
        change Hid (recordHalves x err = [redHalf x.before x.input (100 * (x.after + err)), redHalf (-x.before) (-x.input) (100 * (err - x.after))]) at hfin
        generalize redHalf x.before x.input (100 * (x.after + err)) = h1 at *
        generalize redHalf (-x.before) (-x.input) (100 * (err - x.after)) = h2 at *
        rw [show 100 * (err - x.after) = -100 * (x.after - err) from by omega] at c2
        have hz2 : ((x.before == 0) && (x.input == 0)) = false := by
          rw [Bool.and_eq_false_iff]; simp; omega
        have hz3 : (x.before == 0) = true → (x.input == 0) = false := by intro h; rw [h] at hz2; simpa using hz2
        clear hz hz2
        cases z1 : (x.before == 0)
        all_goals
          first | (have z2 := hz3 z1) | skip
          clear hz3
          go_enter Try.func136, Try.ntmps136
          go_wp2_with (fail)
          refine (hro _).mono ?_
          rintro e w1 ⟨rfl, hb1⟩
          have H1 := (Has.new w #[.int .i64 x.before, .int .i64 x.input, .int .i64 x.after] 95).below hb1
          have hbw := below_tr (below_al (Below.refl w.heap.size w) _) hb1
          obtain ⟨cH1_0, fH1_0⟩ := H1.2 0 _ rfl
          obtain ⟨cH1_1, fH1_1⟩ := H1.2 1 _ rfl
          obtain ⟨cH1_2, fH1_2⟩ := H1.2 2 _ rfl
          go_wp2_with (fail)
          refine (l01In_c _ _ _ _).mono ?_
          rintro e w' ⟨rfl, rfl⟩
          go_wp2_with (fail)
          refine (c1 _).mono ?_
          rintro e w2 ⟨rfl, hb2⟩
          have H2 := H1.below hb2
          have hbw2 := below_tr hbw hb2
          have hlt2 := H2.1
          clear cH1_0 cH1_1 cH1_2 fH1_0 fH1_1 fH1_2
          obtain ⟨cH2_0, fH2_0⟩ := H2.2 0 _ rfl
          obtain ⟨cH2_1, fH2_1⟩ := H2.2 1 _ rfl
          obtain ⟨cH2_2, fH2_2⟩ := H2.2 2 _ rfl
          go_wp2_with (fail)
          refine (c2 _).mono ?_
          rintro e w3 ⟨rfl, hb3⟩
          have hbw3 := below_tr (below_al hbw2 _) hb3
          have H3 := (Has.new _ _ _).below hb3
          have hlt3 := H3.1
          obtain ⟨cH3_0, fH3_0⟩ := H3.2 0 _ rfl
          obtain ⟨cH3_1, fH3_1⟩ := H3.2 1 _ rfl
          obtain ⟨cH3_2, fH3_2⟩ := H3.2 2 _ rfl
          go_wp2
          go_ret
          refine ⟨_, rfl, ?_, ?_⟩
          · rw [hfin.out]
            refine ⟨_, _, rfl, ?_⟩
            have hn := World.ownsRow_lit (base := w.heap.size) (e := 177) (size := 3) (w3.alloc (.cells #[.int .i64 h2.a, .int .i64 h2.b, .int .i64 h2.c] 177)) #[.int .i64 h1.a, .int .i64 h1.b, .int .i64 h1.c, .int .i64 h2.a, .int .i64 h2.b, .int .i64 h2.c] 2 (by have := hbw3.size; simp; omega) (by unfold maxLen; omega) rfl
            simp only [World.size_alloc] at hn
            exact hn
          · repeat (first | (with_reducible exact Below.refl _ _) | (with_reducible assumption) | (with_reducible refine below_al ?_ _) | (with_reducible refine Below.drew ?_) | (with_reducible refine below_drewN ?_ _) | (with_reducible refine below_st ?_ ?_ _) | (with_reducible refine below_tr ?_ (by assumption)) | (with_reducible exact Nat.le_refl _) | (focus (simp; done)) | (focus (simp; omega)))
end Go.Proofs.Ytbdihgcjopbnjaa
end

section
namespace Go.Proofs.Ytbdihgcjopbnjaa
open Go.RowKit

theorem iRecordsOkB_c (A : Option Addr) (xs : List Record) (cap : Nat) (w : World) (hn : xs.length ≤ 1048577) (hs : Sl 3 recordC w A xs) :
    Calls Try.prog 38 #[.slice A xs.length cap] w fun e w' => e = .returned (.bool (recordsOk xs)) ∧ Below w.heap.size w w' := by
  go_enter Try.func38, Try.ntmps38
  go_wp2
  go_loopw [4, 7] (fun x i wr => ∃ k : Nat, k ≤ xs.length ∧ i = .int .i64 k ∧ (xs.take k).all recOk = true ∧ Below w.heap.size w wr) (fun _ i _ => xs.length - (intOf i).toNat)
  case atStart => exact ⟨0, Nat.zero_le _, rfl, rfl, Below.refl _ _⟩
  case round =>
    obtain ⟨k, hk, rfl, hall, hbw⟩ := hrel
    by_cases hlt : k < xs.length
    · obtain ⟨b, off, rfl, hblt, hc⟩ := (hs.below hbw).at_ hlt
      have g0 := hc 0 _ rfl
      have g1 := hc 1 _ rfl
      have g2 := hc 2 _ rfl
      have H1 := Lib.hid (fun h => recordsOk_no (k := k) (xs := xs) hlt h)
      have H2 := Lib.hid (fun h => all_take_succ (k := k) (xs := xs) (p := recOk) hlt hall h)
      clear hc hall
      simp only [Nat.add_zero] at g0
      generalize xs[k] = x at *
      have hbn : Below w.heap.size w (wr.alloc (Obj.cells #[.int .i64 x.before, .int .i64 x.input, .int .i64 x.after] 95)) := hbw.alloc hbw.size _
      cases e1 : inR x.before (-1000) 1000
      · go_wp2_with (first | (go_at_call 116; refine (isMeasure_c _ _).mono ?_; rintro e w' ⟨rfl, rfl⟩))
        go_ret
        exact ⟨ret_bool (by rw [H1.out (by simp [recOk, e1])]), hbn⟩
      · cases e2 : inR x.input (-1000) 1000
        · go_wp2_with (first | (go_at_call 116; refine (isMeasure_c _ _).mono ?_; rintro e w' ⟨rfl, rfl⟩))
          go_ret
          exact ⟨ret_bool (by rw [H1.out (by simp [recOk, e2])]), hbn⟩
        · cases e3 : inR x.after (-1000) 1000
          · go_wp2_with (first | (go_at_call 116; refine (isMeasure_c _ _).mono ?_; rintro e w' ⟨rfl, rfl⟩))
            go_ret
            exact ⟨ret_bool (by rw [H1.out (by simp [recOk, e3])]), hbn⟩
          · go_wp2_with (first | (go_at_call 116; refine (isMeasure_c _ _).mono ?_; rintro e w' ⟨rfl, rfl⟩))
            go_roundw
            case rel => exact ⟨k + 1, by omega, by go_num, H2.out (by simp [recOk, e1, e2, e3]), hbn⟩
            case measure => simp [intOf]; omega
    · obtain rfl : k = xs.length := by omega
      have HA := Lib.hid hall
      clear hall
      go_wp2
      go_ret
      exact ⟨ret_bool (by have := HA.out; rw [List.take_length] at this; simp [recordsOk, this]; omega), hbw⟩

theorem sRecordsOkB_c (A : Option Addr) (xs : List Record) (cap : Nat) (w : World) (hn : xs.length ≤ 1048577) (hs : Sl 3 recordC w A xs) :
    Calls Try.prog 135 #[.slice A xs.length cap] w fun e w' => e = .returned (.bool (recordsOk xs)) ∧ Below w.heap.size w w' := by
  go_enter Try.func135, Try.ntmps135
  go_wp2
  go_loopw [4, 7] (fun x i wr => ∃ k : Nat, k ≤ xs.length ∧ i = .int .i64 k ∧ (xs.take k).all recOk = true ∧ Below w.heap.size w wr) (fun _ i _ => xs.length - (intOf i).toNat)
  case atStart => exact ⟨0, Nat.zero_le _, rfl, rfl, Below.refl _ _⟩
  case round =>
    obtain ⟨k, hk, rfl, hall, hbw⟩ := hrel
    by_cases hlt : k < xs.length
    · obtain ⟨b, off, rfl, hblt, hc⟩ := (hs.below hbw).at_ hlt
      have g0 := hc 0 _ rfl
      have g1 := hc 1 _ rfl
      have g2 := hc 2 _ rfl
      have H1 := Lib.hid (fun h => recordsOk_no (k := k) (xs := xs) hlt h)
      have H2 := Lib.hid (fun h => all_take_succ (k := k) (xs := xs) (p := recOk) hlt hall h)
      clear hc hall
      simp only [Nat.add_zero] at g0
      generalize xs[k] = x at *
      have hbn : Below w.heap.size w (wr.alloc (Obj.cells #[.int .i64 x.before, .int .i64 x.input, .int .i64 x.after] 95)) := hbw.alloc hbw.size _
      cases e1 : recOk x
      · go_wp2_with (fail)
        refine (l18Record_c x _).mono ?_
        rintro e w1 ⟨rfl, hb_w1⟩
        go_wp2
        go_ret
        exact ⟨ret_bool (by rw [H1.out e1]), hbn.trans (hb_w1.mono hbn.size)⟩
      · go_wp2_with (fail)
        refine (l18Record_c x _).mono ?_
        rintro e w1 ⟨rfl, hb_w1⟩
        go_wp2
        go_roundw
        case rel => exact ⟨k + 1, by omega, by go_num, H2.out e1, hbn.trans (hb_w1.mono hbn.size)⟩
        case measure => simp [intOf]; omega
    · obtain rfl : k = xs.length := by omega
      have HA := Lib.hid hall
      clear hall
      go_wp2
      go_ret
      exact ⟨ret_bool (by have := HA.out; rw [List.take_length] at this; simp [recordsOk, this]; omega), hbw⟩

end Go.Proofs.Ytbdihgcjopbnjaa
end
