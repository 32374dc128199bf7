/-
  MostDistant: of the program and of the reference.
  Conditions: the slices hold at most 2^20 elements.
-/
import Derived.Test.YtelkcmchokajaaaComp
import Derived.Test.YtelkcmchokajaaaCmp4
import Derived.Test.YtelkcmchokajaaaNum7
import Derived.Test.YtelkcmchokajaaaRat
import Derived.Test.YtelkcmchokajaaaErr
import Derived.Test.YtelkcmchokajaaaKeep
namespace Go.Proofs.Ytelkcmchokajaaa
open Go.RowKit

def sp0 : Spot := ⟨0, 0, 0⟩
def farNum (xs : List Spot) (a b : Int) (k : Nat) : Int := a * (xs.getD k sp0).x + b * (xs.getD k sp0).y
def farDen (xs : List Spot) (k : Nat) : Int := (xs.getD k sp0).d
/-- The first most distant one of the first k points: its number and the two parts of its value. -/
def farAt (xs : List Spot) (a b : Int) : Nat → Int × Int × Int
  | 0 => (-1, 0, 0)
  | k + 1 => if (farAt xs a b k).1 < 0 ∨ 0 < cmpF (farNum xs a b k) (farDen xs k) (farAt xs a b k).2.1 (farAt xs a b k).2.2 then ((k : Int), farNum xs a b k, farDen xs k) else farAt xs a b k
def farAll (xs : List Spot) : Bool := (List.range xs.length).all fun k => spotOk (xs.getD k sp0)
def mostDistant (xs : List Spot) (a b : Int) : Int := if inR a (-1000) 1000 = true ∧ inR b (-1000) 1000 = true ∧ farAll xs = true then (farAt xs a b xs.length).1 else -1
theorem farAll_no {xs : List Spot} {k : Nat} (h : k < xs.length) (hk : spotOk xs[k] = false) : farAll xs = false := by
  unfold farAll; rw [List.all_eq_false]
  refine ⟨k, List.mem_range.2 h, ?_⟩
  rw [List.getD_eq_getElem?_getD, List.getElem?_eq_getElem h]; simpa using hk
theorem farAll_yes {xs : List Spot} (h : ∀ k, k < xs.length → spotOk (xs.getD k sp0) = true) : farAll xs = true := by
  unfold farAll; rw [List.all_eq_true]; intro k hk; exact h k (List.mem_range.1 hk)
theorem far_get {xs : List Spot} {k : Nat} (h : k < xs.length) : xs.getD k sp0 = xs[k] := by
  rw [List.getD_eq_getElem?_getD, List.getElem?_eq_getElem h]; rfl
theorem farAt_yes {xs : List Spot} {a b : Int} {k : Nat} (h : (farAt xs a b k).1 < 0 ∨ 0 < cmpF (farNum xs a b k) (farDen xs k) (farAt xs a b k).2.1 (farAt xs a b k).2.2) : farAt xs a b (k + 1) = ((k : Int), farNum xs a b k, farDen xs k) := by
  rw [farAt, if_pos h]
theorem farAt_no {xs : List Spot} {a b : Int} {k : Nat} (h : ¬((farAt xs a b k).1 < 0 ∨ 0 < cmpF (farNum xs a b k) (farDen xs k) (farAt xs a b k).2.1 (farAt xs a b k).2.2)) : farAt xs a b (k + 1) = farAt xs a b k := by
  rw [farAt, if_neg h]
/-- Bounds of a value's parts. -/
structure FarB (q : Spot) (a b : Int) : Prop where
  x : -5000000000000000 ≤ a * q.x ∧ a * q.x ≤ 5000000000000000
  y : -5000000000000000 ≤ b * q.y ∧ b * q.y ≤ 5000000000000000
  d : 1 ≤ q.d ∧ q.d ≤ 5000000000
theorem farB {q : Spot} {a b : Int} (hq : spotOk q = true) (ha : inR a (-1000) 1000 = true) (hb : inR b (-1000) 1000 = true) : FarB q a b := by
  obtain ⟨h1, h2, h3, _⟩ := spotOk_iff.1 hq
  obtain ⟨a1, a2⟩ := inR_iff.1 ha
  obtain ⟨b1, b2⟩ := inR_iff.1 hb
  have p := mulB (a := a) (b := q.x) (A := 1000) (B := 5000000000000) ⟨by omega, by omega⟩ ⟨by omega, by omega⟩
  have r := mulB (a := b) (b := q.y) (A := 1000) (B := 5000000000000) ⟨by omega, by omega⟩ ⟨by omega, by omega⟩
  exact ⟨⟨by omega, by omega⟩, ⟨by omega, by omega⟩, h1⟩
theorem farAt_bd {xs : List Spot} {a b : Int} (ha : inR a (-1000) 1000 = true) (hb : inR b (-1000) 1000 = true) : ∀ k : Nat, (∀ j, j < k → spotOk (xs.getD j sp0) = true) →
    (-1 ≤ (farAt xs a b k).1 ∧ (farAt xs a b k).1 < (k : Int)) ∧ (-10000000000000000 ≤ (farAt xs a b k).2.1 ∧ (farAt xs a b k).2.1 ≤ 10000000000000000) ∧ ((farAt xs a b k).1 < 0 ∨ 1 ≤ (farAt xs a b k).2.2) ∧ (0 ≤ (farAt xs a b k).2.2 ∧ (farAt xs a b k).2.2 ≤ 5000000000)
  | 0, _ => by simp [farAt]
  | k + 1, h => by
    have := farAt_bd ha hb k (fun j hj => h j (by omega))
    have hB := farB (h k (by omega)) ha hb
    have h1 := hB.x
    have h2 := hB.y
    have h3 := hB.d
    rw [farAt]; split
    · simp only [farNum, farDen]
      exact ⟨⟨by omega, by omega⟩, ⟨by omega, by omega⟩, .inr (by omega), ⟨by omega, by omega⟩⟩
    · refine ⟨⟨by omega, by omega⟩, this.2⟩
/-- The stored value of the reference. -/
def farR (p : Int × Int × Int) : Ratio := if p.1 < 0 then ratio0 else ratioOf p.2.1 p.2.2
theorem farR_new (k : Nat) (n d : Int) : farR ((k : Int), n, d) = ratioOf n d := if_neg (by simp only; omega)
theorem farR_in {p : Int × Int × Int} (h1 : -10000000000000000 ≤ p.2.1 ∧ p.2.1 ≤ 10000000000000000) (h2 : p.1 < 0 ∨ 1 ≤ p.2.2) (h3 : p.2.2 ≤ 5000000000) : (farR p).In := by
  unfold farR; split
  · exact ⟨⟨by decide, by decide⟩, ⟨by decide, by decide⟩⟩
  · exact ratioOf_in ⟨by omega, by omega⟩ ⟨by omega, by omega⟩

set_option maxRecDepth 100000 in
set_option maxHeartbeats 8000000 in
theorem iMost_c (x : Track) (A : TrackA) (a b : Int) (w : World) (hx : trackLen x ≤ 1048576) (hin : TrackIn x) (hs0 : TrackSl w x A) :
    Calls Try.prog 50 #[trackV x A, .int .i64 a, .int .i64 b] w fun e w' => e = .returned (.int .i64 (mostDistant x.spots a b)) ∧ Below w.heap.size w w' := by
  obtain ⟨⟨B, bc⟩, ai⟩ := A
  have hs : Sl 3 spotC w B x.spots := hs0.spots
  have hl : x.spots.length ≤ 1048576 := by simp only [trackLen] at hx; omega
  have HI := Lib.hid hin.spots
  clear hx hin hs0
  cases e0 : inR a (-1000) 1000
  · have e1 := Lib.hid (show mostDistant x.spots a b = -1 by simp [mostDistant, e0])
    go_enter Try.func50, Try.ntmps50
    go_wp2_with (fail)
    refine (inRange_v a _ _ false e0 _).mono ?_
    rintro e w' ⟨rfl, rfl⟩
    go_wp2
    go_ret
    refine ⟨ret_int e1.out.symm, ?_⟩
    repeat (first | (with_reducible exact Below.refl _ _) | (with_reducible assumption) | (with_reducible refine below_al ?_ _) | (with_reducible refine Below.drew ?_) | (with_reducible refine below_drewN ?_ _) | (with_reducible refine below_st ?_ ?_ _) | (with_reducible refine below_tr ?_ (by assumption)) | (with_reducible exact Nat.le_refl _) | (focus (simp; done)) | (focus (simp; omega)))
  cases e2 : inR b (-1000) 1000
  · have e1 := Lib.hid (show mostDistant x.spots a b = -1 by simp [mostDistant, e2])
    go_enter Try.func50, Try.ntmps50
    go_wp2_with (fail)
    refine (inRange_v a _ _ true e0 _).mono ?_
    rintro e w' ⟨rfl, rfl⟩
    go_wp2_with (fail)
    refine (inRange_v b _ _ false e2 _).mono ?_
    rintro e w' ⟨rfl, rfl⟩
    go_wp2
    go_ret
    refine ⟨ret_int e1.out.symm, ?_⟩
    repeat (first | (with_reducible exact Below.refl _ _) | (with_reducible assumption) | (with_reducible refine below_al ?_ _) | (with_reducible refine Below.drew ?_) | (with_reducible refine below_drewN ?_ _) | (with_reducible refine below_st ?_ ?_ _) | (with_reducible refine below_tr ?_ (by assumption)) | (with_reducible exact Nat.le_refl _) | (focus (simp; done)) | (focus (simp; omega)))
  go_enter Try.func50, Try.ntmps50
  go_wp2_with (fail)
  refine (inRange_v a _ _ true e0 _).mono ?_
  rintro e w' ⟨rfl, rfl⟩
  go_wp2_with (fail)
  refine (inRange_v b _ _ true e2 _).mono ?_
  rintro e w' ⟨rfl, rfl⟩
  go_wp2
  go_loopw [7, 8, 9, 10, 11, 12, 24] (fun v n d _ _ _ i wr => ∃ k : Nat, k ≤ x.spots.length ∧ i = .int .i64 k ∧ v = .int .i64 (farAt x.spots a b k).1 ∧ n = .int .i64 (farAt x.spots a b k).2.1 ∧ d = .int .i64 (farAt x.spots a b k).2.2 ∧ Hid (∀ j, j < k → spotOk (x.spots.getD j sp0) = true) ∧ Below w.heap.size w wr) (fun _ _ _ _ _ _ i _ => x.spots.length - (intOf i).toNat)
  case atStart => exact ⟨0, Nat.zero_le _, rfl, rfl, rfl, rfl, by simp [Hid], by (repeat (first | (with_reducible exact Below.refl _ _) | (with_reducible assumption) | (with_reducible refine below_al ?_ _) | (with_reducible refine Below.drew ?_) | (with_reducible refine below_drewN ?_ _) | (with_reducible refine below_st ?_ ?_ _) | (with_reducible refine below_tr ?_ (by assumption)) | (with_reducible exact Nat.le_refl _) | (focus (simp; done)) | (focus (simp; omega))))⟩
  case round =>
    obtain ⟨k, hk, rfl, rfl, rfl, rfl, hok, hbr⟩ := hrel
    obtain ⟨⟨bb1, bb2⟩, ⟨bb3, bb4⟩, bb5, bb6, bb7⟩ := farAt_bd e0 e2 k hok.out
    by_cases hlt : k < x.spots.length
    · obtain ⟨g, off, rfl, hblt, hc⟩ := (hs.below hbr).at_ hlt
      have g0 := hc 0 _ rfl
      have g1 := hc 1 _ rfl
      have g2 := hc 2 _ rfl
      have c1 := fun W => iSpotOk_c x.spots[k] W (HI.out _ (List.getElem_mem hlt))
      have hyes := Lib.hid (fun h => @farAt_yes x.spots a b k h)
      have hno := Lib.hid (fun h => @farAt_no x.spots a b k h)
      have hbad := Lib.hid (fun h => @farAll_no x.spots _ hlt h)
      have hok1 := Lib.hid (fun (h : spotOk (x.spots.getD k sp0) = true) => show ∀ j, j < k + 1 → spotOk (x.spots.getD j sp0) = true from by
        intro j hj
        rcases Nat.lt_or_ge j k with h2 | h2
        · exact hok.out j h2
        · obtain rfl : j = k := by omega
          exact h)
      have i1 : (k : Int) < (x.spots.length : Int) := by omega
      clear hc hok
      simp only [farNum, farDen, Hid, far_get hlt] at hyes hno hok1
      simp only [Nat.add_zero] at g0
      generalize x.spots[k] = q at *
      generalize farAt x.spots a b k = st at *
      cases hv : spotOk q
      · rw [hv] at c1
        have h1 := Lib.hid (show mostDistant x.spots a b = -1 by simp [mostDistant, hbad.out hv])
        clear hyes hno hbad hok1
        go_wp2_with (fail)
        refine (c1 _).mono ?_
        rintro e w1 ⟨rfl, hb1⟩
        go_wp2
        go_ret
        refine ⟨ret_int h1.out.symm, ?_⟩
        repeat (first | (with_reducible exact Below.refl _ _) | (with_reducible assumption) | (with_reducible refine below_al ?_ _) | (with_reducible refine Below.drew ?_) | (with_reducible refine below_drewN ?_ _) | (with_reducible refine below_st ?_ ?_ _) | (with_reducible refine below_tr ?_ (by assumption)) | (with_reducible exact Nat.le_refl _) | (focus (simp; done)) | (focus (simp; omega)))
      · rw [hv] at c1
        obtain ⟨⟨p1, p2⟩, ⟨p3, p4⟩, ⟨p5, p6⟩⟩ := farB hv e0 e2
        have hok2 := Lib.hid (hok1 hv)
        have c2 := fun (h : 1 ≤ st.2.2) W => compareFractions_c (a * q.x + b * q.y) q.d st.2.1 st.2.2 W ⟨by omega, by omega⟩ ⟨by omega, by omega⟩ ⟨by omega, by omega⟩ ⟨by omega, by omega⟩ (by omega) (by omega)
        have cmb := cmpF_bd (a * q.x + b * q.y) q.d st.2.1 st.2.2
        clear hbad hok1
        replace hyes := Lib.hid hyes
        replace hno := Lib.hid hno
        generalize cmpF (a * q.x + b * q.y) q.d st.2.1 st.2.2 = cm at *
        obtain ⟨cm1, cm2⟩ := cmb
        by_cases hb0 : st.1 < 0
        · have hbest := Lib.hid (hyes.out (.inl hb0))
          clear hyes hno c2
          go_wp2_with (fail)
          refine (c1 _).mono ?_
          rintro e w1 ⟨rfl, hb1⟩
          have r1 := bcell1 hb1
          have l1 : wr.heap.size < w1.heap.size := blt hb1 (by first | (simp; done) | (simp; omega) | omega)
          go_upto_region 11 with fail
          go_big_quiet (fail)
          go_wp2
          go_roundw
          case rel => exact ⟨k + 1, by omega, by go_num, by rw [hbest.out], by rw [hbest.out], by rw [hbest.out], hok2, by (repeat (first | (with_reducible exact Below.refl _ _) | (with_reducible assumption) | (with_reducible refine below_al ?_ _) | (with_reducible refine Below.drew ?_) | (with_reducible refine below_drewN ?_ _) | (with_reducible refine below_st ?_ ?_ _) | (with_reducible refine below_tr ?_ (by assumption)) | (with_reducible exact Nat.le_refl _) | (focus (simp; done)) | (focus (simp; omega))))⟩
          case measure => simp [intOf]; omega
        · have c3 := c2 (by omega)
          clear c2
          by_cases hp : 0 < cm
          · have hbest := Lib.hid (hyes.out (.inr hp))
            clear hyes hno
            go_wp2_with (fail)
            refine (c1 _).mono ?_
            rintro e w1 ⟨rfl, hb1⟩
            have r1 := bcell1 hb1
            have l1 : wr.heap.size < w1.heap.size := blt hb1 (by first | (simp; done) | (simp; omega) | omega)
            go_wp2_with (fail)
            refine (c3 _).mono ?_
            rintro e w' ⟨rfl, rfl⟩
            go_upto_region 11 with fail
            go_big_quiet (fail)
            go_wp2
            go_roundw
            case rel => exact ⟨k + 1, by omega, by go_num, by rw [hbest.out], by rw [hbest.out], by rw [hbest.out], hok2, by (repeat (first | (with_reducible exact Below.refl _ _) | (with_reducible assumption) | (with_reducible refine below_al ?_ _) | (with_reducible refine Below.drew ?_) | (with_reducible refine below_drewN ?_ _) | (with_reducible refine below_st ?_ ?_ _) | (with_reducible refine below_tr ?_ (by assumption)) | (with_reducible exact Nat.le_refl _) | (focus (simp; done)) | (focus (simp; omega))))⟩
            case measure => simp [intOf]; omega
          · have hbest := Lib.hid (hno.out (by omega))
            clear hyes hno
            go_wp2_with (fail)
            refine (c1 _).mono ?_
            rintro e w1 ⟨rfl, hb1⟩
            have r1 := bcell1 hb1
            have l1 : wr.heap.size < w1.heap.size := blt hb1 (by first | (simp; done) | (simp; omega) | omega)
            go_wp2_with (fail)
            refine (c3 _).mono ?_
            rintro e w' ⟨rfl, rfl⟩
            go_wp2
            go_roundw
            case rel => exact ⟨k + 1, by omega, by go_num, by rw [hbest.out], by rw [hbest.out], by rw [hbest.out], hok2, by (repeat (first | (with_reducible exact Below.refl _ _) | (with_reducible assumption) | (with_reducible refine below_al ?_ _) | (with_reducible refine Below.drew ?_) | (with_reducible refine below_drewN ?_ _) | (with_reducible refine below_st ?_ ?_ _) | (with_reducible refine below_tr ?_ (by assumption)) | (with_reducible exact Nat.le_refl _) | (focus (simp; done)) | (focus (simp; omega))))⟩
            case measure => simp [intOf]; omega
    · obtain rfl : k = x.spots.length := by omega
      have h1 := Lib.hid (show mostDistant x.spots a b = (farAt x.spots a b x.spots.length).1 by simp [mostDistant, e0, e2, farAll_yes hok.out])
      clear hok
      go_wp2
      go_ret
      exact ⟨ret_int h1.out.symm, hbr⟩
set_option maxRecDepth 100000 in
set_option maxHeartbeats 8000000 in
theorem sMost_c (x : Track) (A : TrackA) (a b : Int) (w : World) (hx : trackLen x ≤ 1048576) (hin : TrackIn x) (hs0 : TrackSl w x A) :
    Calls Try.prog 48 #[trackV x A, .int .i64 a, .int .i64 b] w fun e w' => e = .returned (.int .i64 (mostDistant x.spots a b)) ∧ Below w.heap.size w w' := by
  obtain ⟨⟨B, bc⟩, ai⟩ := A
  have hs : Sl 3 spotC w B x.spots := hs0.spots
  have hl : x.spots.length ≤ 1048576 := by simp only [trackLen] at hx; omega
  have HI := Lib.hid hin.spots
  clear hx hin hs0
  cases e0 : inR a (-1000) 1000
  · have e1 := Lib.hid (show mostDistant x.spots a b = -1 by simp [mostDistant, e0])
    go_enter Try.func48, Try.ntmps48
    go_wp2_with (fail)
    refine (l01In_v a _ _ false e0 _).mono ?_
    rintro e w' ⟨rfl, rfl⟩
    go_wp2
    go_ret
    refine ⟨ret_int e1.out.symm, ?_⟩
    repeat (first | (with_reducible exact Below.refl _ _) | (with_reducible assumption) | (with_reducible refine below_al ?_ _) | (with_reducible refine Below.drew ?_) | (with_reducible refine below_drewN ?_ _) | (with_reducible refine below_st ?_ ?_ _) | (with_reducible refine below_tr ?_ (by assumption)) | (with_reducible exact Nat.le_refl _) | (focus (simp; done)) | (focus (simp; omega)))
  cases e2 : inR b (-1000) 1000
  · have e1 := Lib.hid (show mostDistant x.spots a b = -1 by simp [mostDistant, e2])
    go_enter Try.func48, Try.ntmps48
    go_wp2_with (fail)
    refine (l01In_v a _ _ true e0 _).mono ?_
    rintro e w' ⟨rfl, rfl⟩
    go_wp2_with (fail)
    refine (l01In_v b _ _ false e2 _).mono ?_
    rintro e w' ⟨rfl, rfl⟩
    go_wp2
    go_ret
    refine ⟨ret_int e1.out.symm, ?_⟩
    repeat (first | (with_reducible exact Below.refl _ _) | (with_reducible assumption) | (with_reducible refine below_al ?_ _) | (with_reducible refine Below.drew ?_) | (with_reducible refine below_drewN ?_ _) | (with_reducible refine below_st ?_ ?_ _) | (with_reducible refine below_tr ?_ (by assumption)) | (with_reducible exact Nat.le_refl _) | (focus (simp; done)) | (focus (simp; omega)))
  go_enter Try.func48, Try.ntmps48
  go_wp2_with (fail)
  refine (l01In_v a _ _ true e0 _).mono ?_
  rintro e w' ⟨rfl, rfl⟩
  go_wp2_with (fail)
  refine (l01In_v b _ _ true e2 _).mono ?_
  rintro e w' ⟨rfl, rfl⟩
  go_wp2
  go_loopw [7, 9, 10, 11, 24] (fun v _ _ _ i wr => ∃ k : Nat, k ≤ x.spots.length ∧ i = .int .i64 k ∧ v = .int .i64 (farAt x.spots a b k).1 ∧ Hid (∀ j, j < k → spotOk (x.spots.getD j sp0) = true) ∧ Has wr (w.heap.size + 1) [.int .i64 (farR (farAt x.spots a b k)).n, .int .i64 (farR (farAt x.spots a b k)).d] ∧ Below (w.heap.size + 1) (w.alloc (.cells #[.slice B (List.length x.spots) bc, .slice ai.A (List.length x.inputs) ai.c] 87)) wr) (fun _ _ _ _ i _ => x.spots.length - (intOf i).toNat)
  case atStart =>
    refine ⟨0, Nat.zero_le _, rfl, rfl, by simp [Hid], ?_, ?_⟩
    · exact Has.new_at (by simp) _ _ rfl
    · exact (Below.refl _ _).alloc (by simp) _
  case round =>
    obtain ⟨k, hk, rfl, rfl, hok, HB, hbr⟩ := hrel
    have hbw : Below w.heap.size w wr := ((Below.refl _ _).alloc (Nat.le_refl _) _).trans (hbr.mono (Nat.le_succ _))
    have hsw : Sl 3 spotC wr B x.spots := Sl.below hs hbw
    clear hs
    obtain ⟨⟨bb1, bb2⟩, ⟨bb3, bb4⟩, bb5, bb6, bb7⟩ := farAt_bd e0 e2 k hok.out
    by_cases hlt : k < x.spots.length
    · obtain ⟨g, off, rfl, hblt, hc⟩ := hsw.at_ hlt
      have g0 := hc 0 _ rfl
      have g1 := hc 1 _ rfl
      have g2 := hc 2 _ rfl
      have c1 := fun W => sSpotOk_c x.spots[k] W (HI.out _ (List.getElem_mem hlt))
      have hyes := Lib.hid (fun h => @farAt_yes x.spots a b k h)
      have hno := Lib.hid (fun h => @farAt_no x.spots a b k h)
      have hbad := Lib.hid (fun h => @farAll_no x.spots _ hlt h)
      have hok1 := Lib.hid (fun (h : spotOk (x.spots.getD k sp0) = true) => show ∀ j, j < k + 1 → spotOk (x.spots.getD j sp0) = true from by
        intro j hj
        rcases Nat.lt_or_ge j k with h2 | h2
        · exact hok.out j h2
        · obtain rfl : j = k := by omega
          exact h)
      have i1 : (k : Int) < (x.spots.length : Int) := by omega
      clear hc hok
      simp only [farNum, farDen, Hid, far_get hlt] at hyes hno hok1
      simp only [Nat.add_zero] at g0
      generalize x.spots[k] = q at *
      generalize farAt x.spots a b k = st at *
      cases hv : spotOk q
      · rw [hv] at c1
        have h1 := Lib.hid (show mostDistant x.spots a b = -1 by simp [mostDistant, hbad.out hv])
        clear hyes hno hbad hok1
        go_wp2_with (fail)
        refine (c1 _).mono ?_
        rintro e w1 ⟨rfl, hb1⟩
        go_wp2
        go_ret
        refine ⟨ret_int h1.out.symm, ?_⟩
        repeat (first | (with_reducible exact Below.refl _ _) | (with_reducible assumption) | (with_reducible refine below_al ?_ _) | (with_reducible refine Below.drew ?_) | (with_reducible refine below_drewN ?_ _) | (with_reducible refine below_st ?_ ?_ _) | (with_reducible refine below_tr ?_ (by assumption)) | (with_reducible exact Nat.le_refl _) | (focus (simp; done)) | (focus (simp; omega)))
      · rw [hv] at c1
        obtain ⟨⟨p1, p2⟩, ⟨p3, p4⟩, ⟨p5, p6⟩⟩ := farB hv e0 e2
        have hok2 := Lib.hid (hok1 hv)
        have vin := ratioOf_in (n := a * q.x + b * q.y) (d := q.d) ⟨by omega, by omega⟩ ⟨by omega, by omega⟩
        have rin := farR_in (p := st) ⟨bb3, bb4⟩ bb5 bb7
        have c2 := fun W => sRatioOf_c (a * q.x + b * q.y) q.d W ⟨by omega, by omega⟩ ⟨by omega, by omega⟩
        have c3 := fun W => sRatioCmp_c (ratioOf (a * q.x + b * q.y) q.d) (farR st) W vin rin
        have ceq : ¬st.1 < 0 → ratioCmp (ratioOf (a * q.x + b * q.y) q.d) (farR st) = cmpF (a * q.x + b * q.y) q.d st.2.1 st.2.2 := fun h => by
          unfold farR; rw [if_neg h]
          exact ratioCmp_of ⟨by omega, by omega⟩ ⟨by omega, by omega⟩ ⟨by omega, by omega⟩ ⟨by omega, by omega⟩
        have hnew := Lib.hid (farR_new k (a * q.x + b * q.y) q.d)
        have cmb := cmpF_bd (a * q.x + b * q.y) q.d st.2.1 st.2.2
        clear hbad hok1 vin rin
        replace hyes := Lib.hid hyes
        replace hno := Lib.hid hno
        generalize cmpF (a * q.x + b * q.y) q.d st.2.1 st.2.2 = cm at *
        obtain ⟨cm1, cm2⟩ := cmb
        generalize ratioOf (a * q.x + b * q.y) q.d = v at *
        generalize hR : farR st = R at *
        replace hR := Lib.hid hR
        go_wp2_with (fail)
        refine (c1 _).mono ?_
        rintro e w1 ⟨rfl, hb1⟩
        have r1 := bcell1 hb1
        have l1 : wr.heap.size < w1.heap.size := blt hb1 (by first | (simp; done) | (simp; omega) | omega)
        go_wp2_with (fail)
        refine (c2 _).mono ?_
        rintro e w2 ⟨rfl, hb2⟩
        have HB1 := ((HB.alloc (.cells #[.int .i64 q.x, .int .i64 q.y, .int .i64 q.d] 32)).below hb1).below hb2
        have HB2 := HB1.alloc (.cells #[.int .i64 v.n, .int .i64 v.d] 74)
        have HV := Has.new w2 #[.int .i64 v.n, .int .i64 v.d] 74
        have hlw := hbr.size
        simp only [World.size_alloc] at hlw
        have hs1 := hb1.size
        simp only [World.size_alloc] at hs1
        have hs2 := hb2.size
        have BW := ((((hbr.alloc hlw (.cells #[.int .i64 q.x, .int .i64 q.y, .int .i64 q.d] 32)).trans (hb1.mono (by simp; omega)))).trans (hb2.mono (by omega))).alloc (show w.heap.size + 1 ≤ w2.heap.size by omega) (.cells #[.int .i64 v.n, .int .i64 v.d] 74)
        have nv : w2.heap.size ≠ w.heap.size + 1 := by omega
        clear hb1 hb2 hbr hbw hsw HB HB1 c1 c2 r1 l1 g0 g1 g2 hs1 hs2 hlw hblt
        go_upto_region 11 with fail
        generalize hW : w2.alloc (.cells #[.int .i64 v.n, .int .i64 v.d] 74) = w3 at *
        clear hW
        generalize hgv : w2.heap.size = gv at *
        clear hgv
        have lV := HV.1
        have lB := HB2.1
        by_cases hb0 : st.1 < 0
        · have hbest := Lib.hid (hyes.out (.inl hb0))
          clear hyes hno c3 ceq
          obtain ⟨cHV_0, fHV_0⟩ := HV.2 0 _ rfl
          obtain ⟨cHV_1, fHV_1⟩ := HV.2 1 _ rfl
          obtain ⟨cHB2_0, fHB2_0⟩ := HB2.2 0 _ rfl
          obtain ⟨cHB2_1, fHB2_1⟩ := HB2.2 1 _ rfl
          go_wp2
          go_roundw
          case rel =>
            refine ⟨k + 1, by omega, by go_num, by rw [hbest.out], hok2, ?_, ?_⟩
            · rw [hbest.out, hnew.out]; exact Has.stored HB2 [_, _] rfl
            · exact (BW.setCell (Nat.le_refl _) _).setCell (Nat.le_refl _) _
          case measure => simp [intOf]; omega
        · rw [ceq (by omega)] at c3
          clear ceq
          by_cases hp : 0 < cm
          · have hbest := Lib.hid (hyes.out (.inr hp))
            clear hyes hno
            obtain ⟨cHV_0, fHV_0⟩ := HV.2 0 _ rfl
            obtain ⟨cHV_1, fHV_1⟩ := HV.2 1 _ rfl
            obtain ⟨cHB2_0, fHB2_0⟩ := HB2.2 0 _ rfl
            obtain ⟨cHB2_1, fHB2_1⟩ := HB2.2 1 _ rfl
            go_wp2_with (fail)
            refine (c3 _).mono ?_
            rintro e w4 ⟨rfl, hb4⟩
            clear cHV_0 cHV_1 cHB2_0 cHB2_1 fHV_0 fHV_1 fHB2_0 fHB2_1
            have HV3 := HV.below hb4
            have HB3 := HB2.below hb4
            have BW3 := BW.trans (hb4.mono (Nat.le_of_lt lB))
            obtain ⟨cHV3_0, fHV3_0⟩ := HV3.2 0 _ rfl
            obtain ⟨cHV3_1, fHV3_1⟩ := HV3.2 1 _ rfl
            obtain ⟨cHB3_0, fHB3_0⟩ := HB3.2 0 _ rfl
            obtain ⟨cHB3_1, fHB3_1⟩ := HB3.2 1 _ rfl
            clear HV HB2 BW hb4 c3
            go_wp2
            go_roundw
            case rel =>
              refine ⟨k + 1, by omega, by go_num, by rw [hbest.out], hok2, ?_, ?_⟩
              · rw [hbest.out, hnew.out]; exact Has.stored HB3 [_, _] rfl
              · exact (BW3.setCell (Nat.le_refl _) _).setCell (Nat.le_refl _) _
            case measure => simp [intOf]; omega
          · have hbest := Lib.hid (hno.out (by omega))
            clear hyes hno
            obtain ⟨cHV_0, fHV_0⟩ := HV.2 0 _ rfl
            obtain ⟨cHV_1, fHV_1⟩ := HV.2 1 _ rfl
            obtain ⟨cHB2_0, fHB2_0⟩ := HB2.2 0 _ rfl
            obtain ⟨cHB2_1, fHB2_1⟩ := HB2.2 1 _ rfl
            go_wp2_with (fail)
            refine (c3 _).mono ?_
            rintro e w4 ⟨rfl, hb4⟩
            have HB3 := HB2.below hb4
            have BW3 := BW.trans (hb4.mono (Nat.le_of_lt lB))
            go_wp2
            go_roundw
            case rel =>
              refine ⟨k + 1, by omega, by go_num, by rw [hbest.out], hok2, ?_, BW3⟩
              rw [hbest.out, hR.out]; exact HB3
            case measure => simp [intOf]; omega
    · obtain rfl : k = x.spots.length := by omega
      have h1 := Lib.hid (show mostDistant x.spots a b = (farAt x.spots a b x.spots.length).1 by simp [mostDistant, e0, e2, farAll_yes hok.out])
      clear hok
      go_wp2
      go_ret
      exact ⟨ret_int h1.out.symm, hbw⟩
end Go.Proofs.Ytelkcmchokajaaa
