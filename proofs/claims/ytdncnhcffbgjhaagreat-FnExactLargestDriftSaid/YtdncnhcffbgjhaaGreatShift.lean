/-
 ShiftSpot of the program and of the reference: one function of mathematics.
-/
import Derived.Test.YtdncnhcffbgjhaaGreatGrD
import Derived.Deep.RegionHeld3
namespace Go.Proofs.YtdncnhcffbgjhaaGreat
open Go.RowKit
def shiftSpot (s : Spot) (dx dy : Int) : Option Spot :=
 if spotOk s = true ∧ inR dx (-2000) 2000 = true ∧ inR dy (-2000) 2000 = true then spotOf (s.x + dx * s.d) (s.y + dy * s.d) s.d else none
structure SB (s : Spot) (dx dy : Int) : Prop where
 d : 1 ≤ s.d ∧ s.d ≤ 5000000000
 x : -5000000000000 ≤ s.x ∧ s.x ≤ 5000000000000
 y : -5000000000000 ≤ s.y ∧ s.y ≤ 5000000000000
 m : -10000000000000 ≤ dx * s.d ∧ dx * s.d ≤ 10000000000000
 n : -10000000000000 ≤ dy * s.d ∧ dy * s.d ≤ 10000000000000
theorem mulD {a d : Int} (ha : -2000 ≤ a ∧ a ≤ 2000) (hd : 1 ≤ d ∧ d ≤ 5000000000) : -10000000000000 ≤ a * d ∧ a * d ≤ 10000000000000 := by
 have h1 : (2000 - a) * d ≥ 0 := Int.mul_nonneg (by omega) (by omega)
 have h2 : (a + 2000) * d ≥ 0 := Int.mul_nonneg (by omega) (by omega)
 rw [Int.sub_mul] at h1
 rw [Int.add_mul] at h2
 omega
theorem shiftBounds {s : Spot} {dx dy : Int} (hs : spotOk s = true) (h1 : inR dx (-2000) 2000 = true) (h2 : inR dy (-2000) 2000 = true) : SB s dx dy := by
 obtain ⟨⟨d1, d2⟩, ⟨x1, x2⟩, ⟨y1, y2⟩, _⟩ := spotOk_iff.1 hs
 exact ⟨⟨d1, d2⟩, ⟨by omega, by omega⟩, ⟨by omega, by omega⟩, mulD (inR_iff.1 h1) ⟨d1, d2⟩, mulD (inR_iff.1 h2) ⟨d1, d2⟩⟩
theorem isStep_c (a : Int) (w : World) :
  Calls Tryz.prog 106 #[.int .i64 a] w fun e w' => e = .returned (.bool (inR a (-2000) 2000)) ∧ w = w' := by
 go_enter Tryz.func106, Tryz.ntmps106
 go_wp2_with (first | (go_at_call 85; refine (inRange_c _ _ _ _).mono ?_; rintro e w' ⟨rfl, rfl⟩))
 go_ret
 exact ⟨rfl, rfl⟩
set_option maxRecDepth 100000 in
set_option maxHeartbeats 4000000 in
theorem iShiftSpot_c (s : Spot) (dx dy : Int) (w : World) (hs : s.In) :
  Calls Tryz.prog 45 #[spotV s, .int .i64 dx, .int .i64 dy] w fun e w' => e = .returned (optSpotV (shiftSpot s dx dy)) ∧ Below w.heap.size w w' := by
 have k1 := fun W => iSpotOk_c s W hs
 have k2 := fun W => isStep_c dx W
 have k3 := fun W => isStep_c dy W
 have hpb := fun h1 h2 h3 => @shiftBounds s dx dy h1 h2 h3
 have hfin : Hid (shiftSpot s dx dy = if spotOk s = true ∧ inR dx (-2000) 2000 = true ∧ inR dy (-2000) 2000 = true then spotOf (s.x + dx * s.d) (s.y + dy * s.d) s.d else none) := rfl
 have HA := Has.new w #[.int .i64 s.x, .int .i64 s.y, .int .i64 s.d] 57
 have HB := Has.new (w.alloc (.cells #[.int .i64 s.x, .int .i64 s.y, .int .i64 s.d] 57)) #[.int .i64 0, .int .i64 0, .int .i64 0] 57
 simp only [World.size_alloc] at HB
 generalize spotOk s = b1 at *
 generalize inR dx (-2000) 2000 = b2 at *
 generalize inR dy (-2000) 2000 = b3 at *
 by_cases hall : b1 = true ∧ b2 = true ∧ b3 = true
 ·obtain ⟨rfl, rfl, rfl⟩ := hall
  obtain ⟨⟨d1, d2⟩, ⟨x1, x2⟩, ⟨y1, y2⟩, ⟨m1, m2⟩, ⟨n1, n2⟩⟩ := hpb rfl rfl rfl
  have k4 := fun W => iSpotOf_c (s.x + dx * s.d) (s.y + dy * s.d) s.d W ⟨by omega, by omega⟩ ⟨by omega, by omega⟩ ⟨by omega, by omega⟩
  have hfin2 : Hid (shiftSpot s dx dy = spotOf (s.x + dx * s.d) (s.y + dy * s.d) s.d) := hfin.out
  rw [hfin2.out]
  clear hfin hfin2 hpb
  generalize spotOf (s.x + dx * s.d) (s.y + dy * s.d) s.d = r at *
  cases r
  all_goals
   go_enter Tryz.func45, Tryz.ntmps45
   go_wp2_with (fail)
   refine (k1 _).mono ?_
   rintro e w1 ⟨rfl, hb1⟩
   have H1 := HB.below hb1
   have H2 := (HA.alloc _).below hb1
   have hbw := below_tr (below_al (below_al (Below.refl w.heap.size w) _) _) hb1
   obtain ⟨cH2_0, fH2_0⟩ := H2.2 0 _ rfl
   obtain ⟨cH2_1, fH2_1⟩ := H2.2 1 _ rfl
   obtain ⟨cH2_2, fH2_2⟩ := H2.2 2 _ rfl
   go_wp2_with (fail)
   refine (k2 _).mono ?_
   rintro e w' ⟨rfl, rfl⟩
   go_wp2_with (fail)
   refine (k3 _).mono ?_
   rintro e w' ⟨rfl, rfl⟩
   go_wp2_with (fail)
   refine (k4 _).mono ?_
   rintro e w2 ⟨rfl, hb2⟩
   have H3 := H1.below hb2
   have hlt3 := H3.1
   have hbw2 := below_tr hbw hb2
   clear cH2_0 cH2_1 cH2_2 fH2_0 fH2_1 fH2_2
   obtain ⟨cH3_0, fH3_0⟩ := H3.2 0 _ rfl
   obtain ⟨cH3_1, fH3_1⟩ := H3.2 1 _ rfl
   obtain ⟨cH3_2, fH3_2⟩ := H3.2 2 _ rfl
   simp only [optSpotV]
   go_wp2
   refine bodyPost_ret (v := .tuple #[.agg #[_, _, _], .bool _]) (by simp [results, Tryz.results45, go_sem, *]) rfl ⟨rfl, ?_⟩
   exact belA
 ·have hn : Hid (shiftSpot s dx dy = none) := by have := hfin.out; rw [if_neg hall] at this; exact this
  rw [hn.out]
  clear hfin hn hpb
  have hall' := hall
  clear hall
  cases b1
  ·go_enter Tryz.func45, Tryz.ntmps45
   go_wp2_with (fail)
   refine (k1 _).mono ?_
   rintro e w1 ⟨rfl, hb1⟩
   have H1 := HB.below hb1
   have hlt := H1.1
   have hbw := below_tr (below_al (below_al (Below.refl w.heap.size w) _) _) hb1
   obtain ⟨cH1_0, fH1_0⟩ := H1.2 0 _ rfl
   obtain ⟨cH1_1, fH1_1⟩ := H1.2 1 _ rfl
   obtain ⟨cH1_2, fH1_2⟩ := H1.2 2 _ rfl
   go_wp2
   refine bodyPost_ret (v := .tuple #[.agg #[.int .i64 0, .int .i64 0, .int .i64 0], .bool false]) (by simp [results, Tryz.results45, go_sem, *]) rfl ⟨rfl, ?_⟩
   exact belA
  ·cases b2
   ·go_enter Tryz.func45, Tryz.ntmps45
    go_wp2_with (fail)
    refine (k1 _).mono ?_
    rintro e w1 ⟨rfl, hb1⟩
    have H1 := HB.below hb1
    have hlt := H1.1
    have hbw := below_tr (below_al (below_al (Below.refl w.heap.size w) _) _) hb1
    obtain ⟨cH1_0, fH1_0⟩ := H1.2 0 _ rfl
    obtain ⟨cH1_1, fH1_1⟩ := H1.2 1 _ rfl
    obtain ⟨cH1_2, fH1_2⟩ := H1.2 2 _ rfl
    go_wp2_with (fail)
    refine (k2 _).mono ?_
    rintro e w' ⟨rfl, rfl⟩
    go_wp2
    refine bodyPost_ret (v := .tuple #[.agg #[.int .i64 0, .int .i64 0, .int .i64 0], .bool false]) (by simp [results, Tryz.results45, go_sem, *]) rfl ⟨rfl, ?_⟩
    exact belA
   ·cases b3
    ·go_enter Tryz.func45, Tryz.ntmps45
     go_wp2_with (fail)
     refine (k1 _).mono ?_
     rintro e w1 ⟨rfl, hb1⟩
     have H1 := HB.below hb1
     have hlt := H1.1
     have hbw := below_tr (below_al (below_al (Below.refl w.heap.size w) _) _) hb1
     obtain ⟨cH1_0, fH1_0⟩ := H1.2 0 _ rfl
     obtain ⟨cH1_1, fH1_1⟩ := H1.2 1 _ rfl
     obtain ⟨cH1_2, fH1_2⟩ := H1.2 2 _ rfl
     go_wp2_with (fail)
     refine (k2 _).mono ?_
     rintro e w' ⟨rfl, rfl⟩
     go_wp2_with (fail)
     refine (k3 _).mono ?_
     rintro e w' ⟨rfl, rfl⟩
     go_wp2
     refine bodyPost_ret (v := .tuple #[.agg #[.int .i64 0, .int .i64 0, .int .i64 0], .bool false]) (by simp [results, Tryz.results45, go_sem, *]) rfl ⟨rfl, ?_⟩
     exact belA
    ·exact absurd hall' (by simp)
set_option maxRecDepth 100000 in
set_option maxHeartbeats 4000000 in
theorem sShiftSpot_c (s : Spot) (dx dy : Int) (w : World) (hs : s.In) :
  Calls Tryz.prog 140 #[spotV s, .int .i64 dx, .int .i64 dy] w fun e w' => e = .returned (optSpotV (shiftSpot s dx dy)) ∧ Below w.heap.size w w' := by
 have k1 := fun W => sSpotOk_c s W hs
 have k2 := fun W => l01In_c dx (-2000) 2000 W
 have k3 := fun W => l01In_c dy (-2000) 2000 W
 have hpb := fun h1 h2 h3 => @shiftBounds s dx dy h1 h2 h3
 have hfin : Hid (shiftSpot s dx dy = if spotOk s = true ∧ inR dx (-2000) 2000 = true ∧ inR dy (-2000) 2000 = true then spotOf (s.x + dx * s.d) (s.y + dy * s.d) s.d else none) := rfl
 have HA := Has.new w #[.int .i64 s.x, .int .i64 s.y, .int .i64 s.d] 57
 have HB := Has.new (w.alloc (.cells #[.int .i64 s.x, .int .i64 s.y, .int .i64 s.d] 57)) #[.int .i64 0, .int .i64 0, .int .i64 0] 57
 simp only [World.size_alloc] at HB
 generalize spotOk s = b1 at *
 generalize inR dx (-2000) 2000 = b2 at *
 generalize inR dy (-2000) 2000 = b3 at *
 by_cases hall : b1 = true ∧ b2 = true ∧ b3 = true
 ·obtain ⟨rfl, rfl, rfl⟩ := hall
  obtain ⟨⟨d1, d2⟩, ⟨x1, x2⟩, ⟨y1, y2⟩, ⟨m1, m2⟩, ⟨n1, n2⟩⟩ := hpb rfl rfl rfl
  have k4 := fun W => sSpotOf_c (s.x + dx * s.d) (s.y + dy * s.d) s.d W ⟨by omega, by omega⟩ ⟨by omega, by omega⟩ ⟨by omega, by omega⟩
  have hfin2 : Hid (shiftSpot s dx dy = spotOf (s.x + dx * s.d) (s.y + dy * s.d) s.d) := hfin.out
  rw [hfin2.out]
  clear hfin hfin2 hpb
  generalize spotOf (s.x + dx * s.d) (s.y + dy * s.d) s.d = r at *
  cases r
  all_goals
   go_enter Tryz.func140, Tryz.ntmps140
   go_wp2_with (fail)
   refine (k1 _).mono ?_
   rintro e w1 ⟨rfl, hb1⟩
   have H1 := HB.below hb1
   have H2 := (HA.alloc _).below hb1
   have hbw := below_tr (below_al (below_al (Below.refl w.heap.size w) _) _) hb1
   obtain ⟨cH2_0, fH2_0⟩ := H2.2 0 _ rfl
   obtain ⟨cH2_1, fH2_1⟩ := H2.2 1 _ rfl
   obtain ⟨cH2_2, fH2_2⟩ := H2.2 2 _ rfl
   go_wp2_with (fail)
   refine (k2 _).mono ?_
   rintro e w' ⟨rfl, rfl⟩
   go_wp2_with (fail)
   refine (k3 _).mono ?_
   rintro e w' ⟨rfl, rfl⟩
   go_wp2_with (fail)
   refine (k4 _).mono ?_
   rintro e w2 ⟨rfl, hb2⟩
   have H3 := H1.below hb2
   have hlt3 := H3.1
   have hbw2 := below_tr hbw hb2
   clear cH2_0 cH2_1 cH2_2 fH2_0 fH2_1 fH2_2
   obtain ⟨cH3_0, fH3_0⟩ := H3.2 0 _ rfl
   obtain ⟨cH3_1, fH3_1⟩ := H3.2 1 _ rfl
   obtain ⟨cH3_2, fH3_2⟩ := H3.2 2 _ rfl
   simp only [optSpotV]
   go_wp2
   refine bodyPost_ret (v := .tuple #[.agg #[_, _, _], .bool _]) (by simp [results, Tryz.results140, go_sem, *]) rfl ⟨rfl, ?_⟩
   exact belA
 ·have hn : Hid (shiftSpot s dx dy = none) := by have := hfin.out; rw [if_neg hall] at this; exact this
  rw [hn.out]
  clear hfin hn hpb
  have hall' := hall
  clear hall
  cases b1
  ·go_enter Tryz.func140, Tryz.ntmps140
   go_wp2_with (fail)
   refine (k1 _).mono ?_
   rintro e w1 ⟨rfl, hb1⟩
   have H1 := HB.below hb1
   have hlt := H1.1
   have hbw := below_tr (below_al (below_al (Below.refl w.heap.size w) _) _) hb1
   obtain ⟨cH1_0, fH1_0⟩ := H1.2 0 _ rfl
   obtain ⟨cH1_1, fH1_1⟩ := H1.2 1 _ rfl
   obtain ⟨cH1_2, fH1_2⟩ := H1.2 2 _ rfl
   go_wp2
   refine bodyPost_ret (v := .tuple #[.agg #[.int .i64 0, .int .i64 0, .int .i64 0], .bool false]) (by simp [results, Tryz.results140, go_sem, *]) rfl ⟨rfl, ?_⟩
   exact belA
  ·cases b2
   ·go_enter Tryz.func140, Tryz.ntmps140
    go_wp2_with (fail)
    refine (k1 _).mono ?_
    rintro e w1 ⟨rfl, hb1⟩
    have H1 := HB.below hb1
    have hlt := H1.1
    have hbw := below_tr (below_al (below_al (Below.refl w.heap.size w) _) _) hb1
    obtain ⟨cH1_0, fH1_0⟩ := H1.2 0 _ rfl
    obtain ⟨cH1_1, fH1_1⟩ := H1.2 1 _ rfl
    obtain ⟨cH1_2, fH1_2⟩ := H1.2 2 _ rfl
    go_wp2_with (fail)
    refine (k2 _).mono ?_
    rintro e w' ⟨rfl, rfl⟩
    go_wp2
    refine bodyPost_ret (v := .tuple #[.agg #[.int .i64 0, .int .i64 0, .int .i64 0], .bool false]) (by simp [results, Tryz.results140, go_sem, *]) rfl ⟨rfl, ?_⟩
    exact belA
   ·cases b3
    ·go_enter Tryz.func140, Tryz.ntmps140
     go_wp2_with (fail)
     refine (k1 _).mono ?_
     rintro e w1 ⟨rfl, hb1⟩
     have H1 := HB.below hb1
     have hlt := H1.1
     have hbw := below_tr (below_al (below_al (Below.refl w.heap.size w) _) _) hb1
     obtain ⟨cH1_0, fH1_0⟩ := H1.2 0 _ rfl
     obtain ⟨cH1_1, fH1_1⟩ := H1.2 1 _ rfl
     obtain ⟨cH1_2, fH1_2⟩ := H1.2 2 _ rfl
     go_wp2_with (fail)
     refine (k2 _).mono ?_
     rintro e w' ⟨rfl, rfl⟩
     go_wp2_with (fail)
     refine (k3 _).mono ?_
     rintro e w' ⟨rfl, rfl⟩
     go_wp2
     refine bodyPost_ret (v := .tuple #[.agg #[.int .i64 0, .int .i64 0, .int .i64 0], .bool false]) (by simp [results, Tryz.results140, go_sem, *]) rfl ⟨rfl, ?_⟩
     exact belA
    ·exact absurd hall' (by simp)
end Go.Proofs.YtdncnhcffbgjhaaGreat
