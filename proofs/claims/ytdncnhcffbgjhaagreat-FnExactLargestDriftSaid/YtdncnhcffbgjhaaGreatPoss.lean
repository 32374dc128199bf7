/-
 PossibleStates of the program and of the reference: one function of mathematics.
-/
import Derived.Test.YtdncnhcffbgjhaaGreatShift
import Derived.Test.YtdncnhcffbgjhaaGreatGrA
import Derived.Test.YtdncnhcffbgjhaaGreatGrF
namespace Go.Proofs.YtdncnhcffbgjhaaGreat
open Go.RowKit
def sh (s : Spot) (dx dy : Int) : Nat → Option Spot
 | 0 => shiftSpot s (-dx) (-dy)
 | 1 => shiftSpot s dx (-dy)
 | 2 => shiftSpot s dx dy
 | _ => shiftSpot s (-dx) dy
def shs (s : Spot) (dx dy : Int) : Nat → Option (List Spot)
 | 0 => some []
 | k + 1 => match shs s dx dy k, sh s dx dy k with
  | some l, some t => some (l ++ [t])
  | _, _ => none
def possStates (s : Spot) (dx dy : Int) : Option (List Spot) :=
 if inR dx 0 100 = true ∧ inR dy 0 100 = true then shs s dx dy 4 else none
theorem shs_succ {s : Spot} {dx dy : Int} {k : Nat} {l : List Spot} {t : Spot} (h1 : shs s dx dy k = some l) (h2 : sh s dx dy k = some t) : shs s dx dy (k + 1) = some (l ++ [t]) := by
 rw [shs, h1, h2]
theorem shs_fail {s : Spot} {dx dy : Int} {k : Nat} (h : sh s dx dy k = none) : shs s dx dy (k + 1) = none := by
 rw [shs, h]; split <;> simp_all
theorem shs_up {s : Spot} {dx dy : Int} {k : Nat} (h : shs s dx dy k = none) : shs s dx dy (k + 1) = none := by
 rw [shs, h]
theorem shs_none {s : Spot} {dx dy : Int} {k : Nat} (h : sh s dx dy k = none) (hk : k < 4) : shs s dx dy 4 = none := by
 have h1 := shs_fail h
 obtain rfl | rfl | rfl | rfl : k = 0 ∨ k = 1 ∨ k = 2 ∨ k = 3 := by omega
 ·exact shs_up (shs_up (shs_up h1))
 ·exact shs_up (shs_up h1)
 ·exact shs_up h1
 ·exact h1
theorem shs_len {s : Spot} {dx dy : Int} : ∀ {k : Nat} {l : List Spot}, shs s dx dy k = some l → l.length = k
 | 0, l, h => by rw [shs] at h; injection h with h; subst h; rfl
 | k + 1, l, h => by
  rw [shs] at h
  cases h1 : shs s dx dy k with
  | none => rw [h1] at h; simp at h
  | some m =>
   cases h2 : sh s dx dy k with
   | none => rw [h1, h2] at h; simp at h
   | some t =>
    rw [h1, h2] at h
    injection h with h
    subst h
    rw [List.length_append, shs_len h1]; rfl
theorem poss_no {s : Spot} {dx dy : Int} (h : spotOk s = false) : possStates s dx dy = none := by
 unfold possStates
 split
 ·exact shs_none (k := 0) (by rw [sh, shiftSpot, h]; simp) (by omega)
 ·rfl
theorem spotC_one (t : Spot) : ∀ u ∈ spotC t, u.oneCell' = true := by
 intro u hu
 simp [spotC] at hu
 rcases hu with rfl | rfl | rfl <;> rfl
theorem isDrift_c (a : Int) (w : World) :
  Calls Tryz.prog 83 #[.int .i64 a] w fun e w' => e = .returned (.bool (inR a 0 100)) ∧ w = w' := by
 go_enter Tryz.func83, Tryz.ntmps83
 go_wp2_with (first | (go_at_call 85; refine (inRange_c _ _ _ _).mono ?_; rintro e w' ⟨rfl, rfl⟩))
 go_ret
 exact ⟨rfl, rfl⟩
set_option maxRecDepth 100000 in
set_option maxHeartbeats 4000000 in
theorem iPossibleStates_c (s : Spot) (dx dy : Int) (w : World) (hs : s.In) :
  Calls Tryz.prog 42 #[spotV s, .int .i64 dx, .int .i64 dy] w fun e w' => ∃ v, e = .returned (.tuple #[v, .bool (possStates s dx dy).isSome]) ∧ New 57 3 spotC w' w.heap.size v ((possStates s dx dy).getD []) ∧ Below w.heap.size w w' := by
 obtain ⟨i0, hi0, hz0, hz1, hz2⟩ := info_parts (show (Tryz.prog.info? 57).map (fun i => (i.zero, i.size, i.bytes)) = some (some (.agg #[.int .i64 0, .int .i64 0, .int .i64 0]), 3, 24) by kernel_rfl)
 by_cases hall : inR dx 0 100 = true ∧ inR dy 0 100 = true
 ·obtain ⟨e1, e2⟩ := hall
  have hfin : Hid (possStates s dx dy = shs s dx dy 4) := by show _ = _; rw [possStates, if_pos ⟨e1, e2⟩]
  obtain ⟨r1, r2⟩ := inR_iff.1 e1
  obtain ⟨r3, r4⟩ := inR_iff.1 e2
  have k1 := fun W => isDrift_c dx W
  have k2 := fun W => isDrift_c dy W
  rw [e1] at k1
  rw [e2] at k2
  clear e1 e2
  obtain ⟨W0, hW0⟩ : ∃ W0, W0 = w.alloc (.cells #[.int .i64 s.x, .int .i64 s.y, .int .i64 s.d] 57) := ⟨_, rfl⟩
  have HA : Has W0 w.heap.size [.int .i64 s.x, .int .i64 s.y, .int .i64 s.d] := hW0 ▸ Has.new w #[.int .i64 s.x, .int .i64 s.y, .int .i64 s.d] 57
  have BW : Below w.heap.size w W0 := hW0 ▸ below_al (Below.refl w.heap.size w) _
  have HW : Hid (W0 = w.alloc (.cells #[.int .i64 s.x, .int .i64 s.y, .int .i64 s.d] 57)) := hW0
  clear hW0
  go_enter Tryz.func42, Tryz.ntmps42
  go_wp2_with (fail)
  refine (k1 _).mono ?_
  rintro e w' ⟨rfl, rfl⟩
  go_wp2_with (fail)
  refine (k2 _).mono ?_
  rintro e w' ⟨rfl, rfl⟩
  go_wp2
  go_loopw [8, 10, 11, 12, 38] (fun v _ _ _ i wr => ∃ k : Nat, k ≤ 4 ∧ i = .int .i64 k ∧ ∃ l, shs s dx dy k = some l ∧ New 57 3 spotC wr W0.heap.size v l ∧ Below W0.heap.size W0 wr) (fun _ _ _ _ i _ => 4 - (intOf i).toNat)
  case atStart => exact ⟨0, by omega, rfl, [], rfl, ⟨_, _, rfl, World.ownsRow_nil _ _ _ _⟩, HW.out ▸ Below.refl _ _⟩
  case round =>
  obtain ⟨k, hk, rfl, l, hl, hnew, hbr⟩ := hrel
  have HB := HA.below hbr
  have hltB := HB.1
  obtain rfl | rfl | rfl | rfl | rfl : k = 0 ∨ k = 1 ∨ k = 2 ∨ k = 3 ∨ k = 4 := by omega
  ·have hix : ∀ W : World, (Instr.index 142 (.agg #[.int .i64 (-dx), .int .i64 (-dy), .int .i64 dx, .int .i64 (-dy), .int .i64 dx, .int .i64 dy, .int .i64 (-dx), .int .i64 dy]) (.int .i64 0)).run Tryz.prog W = .ok (.agg #[.int .i64 (-dx), .int .i64 (-dy)]) W := by
    intro W; first | rfl | kernel_rfl | (simp [Instr.index]; done)
   have cK : ∀ W, Calls Tryz.prog 45 #[spotV s, .int .i64 (-dx), .int .i64 (-dy)] W fun e w' => e = .returned (optSpotV (sh s dx dy 0)) ∧ Below W.heap.size W w' := fun W => iShiftSpot_c s _ _ W hs
   have hlen := shs_len hl
   obtain ⟨cB_0, fB_0⟩ := HB.2 0 _ rfl
   obtain ⟨cB_1, fB_1⟩ := HB.2 1 _ rfl
   obtain ⟨cB_2, fB_2⟩ := HB.2 2 _ rfl
   cases hsk : sh s dx dy 0 with
   | none =>
    rw [hsk] at cK
    have hno : Hid (possStates s dx dy = none) := hfin.out.trans (shs_none hsk (by omega))
    clear hsk hfin hl
    go_wp2_with (fail)
    refine (cK _).mono ?_
    rintro e w3 ⟨rfl, hb3⟩
    have B3 := below_tr (below_al hbr _) hb3
    have hlt3 := (HB.alloc _).below hb3 |>.1
    simp only [optSpotV]
    go_wp2
    refine bodyPost_ret (v := .tuple #[.slice none 0 0, .bool false]) (by simp [results, Tryz.results42, go_sem]) rfl ?_
    refine ⟨_, by rw [hno.out]; rfl, by rw [hno.out]; exact ⟨_, _, rfl, World.ownsRow_nil _ _ _ _⟩, ?_⟩
    exact (below_al (BW.trans (B3.mono BW.size)) _)
   | some t =>
    rw [hsk] at cK
    have hl2 : Hid (shs s dx dy (0 + 1) = some (l ++ [t])) := shs_succ hl hsk
    clear hsk
    go_wp2_with (fail)
    refine (cK _).mono ?_
    rintro e w3 ⟨rfl, hb3⟩
    have B3 := below_tr (below_al hbr _) hb3
    have hlt3 := (HB.alloc _).below hb3 |>.1
    simp only [optSpotV]
    have N3 := (hnew.alloc _).below hb3 (Nat.le_refl _)
    clear hnew
    go_wp2_with (at_builtin; refine wpList_app1 spotC_len _ rfl _ _ 80 rfl _ i0 _ 24 Tryz.underlying80 hi0 hz0 hz1 hz2 rfl (by decide) rfl ((N3.alloc _).alloc _) _ 1 rfl t ?c1 (spotC_one t) (below_al (below_al B3 _) _) (below_al (below_al B3 _) _).size (by omega) (by decide) ?_)
    case c1 =>
     intro j u hj
     match j, hj with
     | 0, hj => simp [spotC] at hj; subst hj; simp [Addr.add]
     | 1, hj => simp [spotC] at hj; subst hj; simp [Addr.add]
     | 2, hj => simp [spotC] at hj; subst hj; simp [Addr.add]
     | (n + 3), hj => simp [spotC] at hj
    ·intro v' w4 hn4 hb4
     clear cB_0 cB_1 cB_2 fB_0 fB_1 fB_2 B3 hb3 hbr N3
     go_wp2
     go_roundw
     case rel => exact ⟨1, by omega, by go_num, _, hl2.out, hn4, hb4⟩
     case measure => simp [intOf]
  ·have hix : ∀ W : World, (Instr.index 142 (.agg #[.int .i64 (-dx), .int .i64 (-dy), .int .i64 dx, .int .i64 (-dy), .int .i64 dx, .int .i64 dy, .int .i64 (-dx), .int .i64 dy]) (.int .i64 1)).run Tryz.prog W = .ok (.agg #[.int .i64 dx, .int .i64 (-dy)]) W := by
    intro W; first | rfl | kernel_rfl | (simp [Instr.index]; done)
   have cK : ∀ W, Calls Tryz.prog 45 #[spotV s, .int .i64 dx, .int .i64 (-dy)] W fun e w' => e = .returned (optSpotV (sh s dx dy 1)) ∧ Below W.heap.size W w' := fun W => iShiftSpot_c s _ _ W hs
   have hlen := shs_len hl
   obtain ⟨cB_0, fB_0⟩ := HB.2 0 _ rfl
   obtain ⟨cB_1, fB_1⟩ := HB.2 1 _ rfl
   obtain ⟨cB_2, fB_2⟩ := HB.2 2 _ rfl
   cases hsk : sh s dx dy 1 with
   | none =>
    rw [hsk] at cK
    have hno : Hid (possStates s dx dy = none) := hfin.out.trans (shs_none hsk (by omega))
    clear hsk hfin hl
    go_wp2_with (fail)
    refine (cK _).mono ?_
    rintro e w3 ⟨rfl, hb3⟩
    have B3 := below_tr (below_al hbr _) hb3
    have hlt3 := (HB.alloc _).below hb3 |>.1
    simp only [optSpotV]
    go_wp2
    refine bodyPost_ret (v := .tuple #[.slice none 0 0, .bool false]) (by simp [results, Tryz.results42, go_sem]) rfl ?_
    refine ⟨_, by rw [hno.out]; rfl, by rw [hno.out]; exact ⟨_, _, rfl, World.ownsRow_nil _ _ _ _⟩, ?_⟩
    exact (below_al (BW.trans (B3.mono BW.size)) _)
   | some t =>
    rw [hsk] at cK
    have hl2 : Hid (shs s dx dy (1 + 1) = some (l ++ [t])) := shs_succ hl hsk
    clear hsk
    go_wp2_with (fail)
    refine (cK _).mono ?_
    rintro e w3 ⟨rfl, hb3⟩
    have B3 := below_tr (below_al hbr _) hb3
    have hlt3 := (HB.alloc _).below hb3 |>.1
    simp only [optSpotV]
    have N3 := (hnew.alloc _).below hb3 (Nat.le_refl _)
    clear hnew
    go_wp2_with (at_builtin; refine wpList_app1 spotC_len _ rfl _ _ 80 rfl _ i0 _ 24 Tryz.underlying80 hi0 hz0 hz1 hz2 rfl (by decide) rfl ((N3.alloc _).alloc _) _ 1 rfl t ?c1 (spotC_one t) (below_al (below_al B3 _) _) (below_al (below_al B3 _) _).size (by omega) (by decide) ?_)
    case c1 =>
     intro j u hj
     match j, hj with
     | 0, hj => simp [spotC] at hj; subst hj; simp [Addr.add]
     | 1, hj => simp [spotC] at hj; subst hj; simp [Addr.add]
     | 2, hj => simp [spotC] at hj; subst hj; simp [Addr.add]
     | (n + 3), hj => simp [spotC] at hj
    ·intro v' w4 hn4 hb4
     clear cB_0 cB_1 cB_2 fB_0 fB_1 fB_2 B3 hb3 hbr N3
     go_wp2
     go_roundw
     case rel => exact ⟨2, by omega, by go_num, _, hl2.out, hn4, hb4⟩
     case measure => simp [intOf]
  ·have hix : ∀ W : World, (Instr.index 142 (.agg #[.int .i64 (-dx), .int .i64 (-dy), .int .i64 dx, .int .i64 (-dy), .int .i64 dx, .int .i64 dy, .int .i64 (-dx), .int .i64 dy]) (.int .i64 2)).run Tryz.prog W = .ok (.agg #[.int .i64 dx, .int .i64 dy]) W := by
    intro W; first | rfl | kernel_rfl | (simp [Instr.index]; done)
   have cK : ∀ W, Calls Tryz.prog 45 #[spotV s, .int .i64 dx, .int .i64 dy] W fun e w' => e = .returned (optSpotV (sh s dx dy 2)) ∧ Below W.heap.size W w' := fun W => iShiftSpot_c s _ _ W hs
   have hlen := shs_len hl
   obtain ⟨cB_0, fB_0⟩ := HB.2 0 _ rfl
   obtain ⟨cB_1, fB_1⟩ := HB.2 1 _ rfl
   obtain ⟨cB_2, fB_2⟩ := HB.2 2 _ rfl
   cases hsk : sh s dx dy 2 with
   | none =>
    rw [hsk] at cK
    have hno : Hid (possStates s dx dy = none) := hfin.out.trans (shs_none hsk (by omega))
    clear hsk hfin hl
    go_wp2_with (fail)
    refine (cK _).mono ?_
    rintro e w3 ⟨rfl, hb3⟩
    have B3 := below_tr (below_al hbr _) hb3
    have hlt3 := (HB.alloc _).below hb3 |>.1
    simp only [optSpotV]
    go_wp2
    refine bodyPost_ret (v := .tuple #[.slice none 0 0, .bool false]) (by simp [results, Tryz.results42, go_sem]) rfl ?_
    refine ⟨_, by rw [hno.out]; rfl, by rw [hno.out]; exact ⟨_, _, rfl, World.ownsRow_nil _ _ _ _⟩, ?_⟩
    exact (below_al (BW.trans (B3.mono BW.size)) _)
   | some t =>
    rw [hsk] at cK
    have hl2 : Hid (shs s dx dy (2 + 1) = some (l ++ [t])) := shs_succ hl hsk
    clear hsk
    go_wp2_with (fail)
    refine (cK _).mono ?_
    rintro e w3 ⟨rfl, hb3⟩
    have B3 := below_tr (below_al hbr _) hb3
    have hlt3 := (HB.alloc _).below hb3 |>.1
    simp only [optSpotV]
    have N3 := (hnew.alloc _).below hb3 (Nat.le_refl _)
    clear hnew
    go_wp2_with (at_builtin; refine wpList_app1 spotC_len _ rfl _ _ 80 rfl _ i0 _ 24 Tryz.underlying80 hi0 hz0 hz1 hz2 rfl (by decide) rfl ((N3.alloc _).alloc _) _ 1 rfl t ?c1 (spotC_one t) (below_al (below_al B3 _) _) (below_al (below_al B3 _) _).size (by omega) (by decide) ?_)
    case c1 =>
     intro j u hj
     match j, hj with
     | 0, hj => simp [spotC] at hj; subst hj; simp [Addr.add]
     | 1, hj => simp [spotC] at hj; subst hj; simp [Addr.add]
     | 2, hj => simp [spotC] at hj; subst hj; simp [Addr.add]
     | (n + 3), hj => simp [spotC] at hj
    ·intro v' w4 hn4 hb4
     clear cB_0 cB_1 cB_2 fB_0 fB_1 fB_2 B3 hb3 hbr N3
     go_wp2
     go_roundw
     case rel => exact ⟨3, by omega, by go_num, _, hl2.out, hn4, hb4⟩
     case measure => simp [intOf]
  ·have hix : ∀ W : World, (Instr.index 142 (.agg #[.int .i64 (-dx), .int .i64 (-dy), .int .i64 dx, .int .i64 (-dy), .int .i64 dx, .int .i64 dy, .int .i64 (-dx), .int .i64 dy]) (.int .i64 3)).run Tryz.prog W = .ok (.agg #[.int .i64 (-dx), .int .i64 dy]) W := by
    intro W; first | rfl | kernel_rfl | (simp [Instr.index]; done)
   have cK : ∀ W, Calls Tryz.prog 45 #[spotV s, .int .i64 (-dx), .int .i64 dy] W fun e w' => e = .returned (optSpotV (sh s dx dy 3)) ∧ Below W.heap.size W w' := fun W => iShiftSpot_c s _ _ W hs
   have hlen := shs_len hl
   obtain ⟨cB_0, fB_0⟩ := HB.2 0 _ rfl
   obtain ⟨cB_1, fB_1⟩ := HB.2 1 _ rfl
   obtain ⟨cB_2, fB_2⟩ := HB.2 2 _ rfl
   cases hsk : sh s dx dy 3 with
   | none =>
    rw [hsk] at cK
    have hno : Hid (possStates s dx dy = none) := hfin.out.trans (shs_none hsk (by omega))
    clear hsk hfin hl
    go_wp2_with (fail)
    refine (cK _).mono ?_
    rintro e w3 ⟨rfl, hb3⟩
    have B3 := below_tr (below_al hbr _) hb3
    have hlt3 := (HB.alloc _).below hb3 |>.1
    simp only [optSpotV]
    go_wp2
    refine bodyPost_ret (v := .tuple #[.slice none 0 0, .bool false]) (by simp [results, Tryz.results42, go_sem]) rfl ?_
    refine ⟨_, by rw [hno.out]; rfl, by rw [hno.out]; exact ⟨_, _, rfl, World.ownsRow_nil _ _ _ _⟩, ?_⟩
    exact (below_al (BW.trans (B3.mono BW.size)) _)
   | some t =>
    rw [hsk] at cK
    have hl2 : Hid (shs s dx dy (3 + 1) = some (l ++ [t])) := shs_succ hl hsk
    clear hsk
    go_wp2_with (fail)
    refine (cK _).mono ?_
    rintro e w3 ⟨rfl, hb3⟩
    have B3 := below_tr (below_al hbr _) hb3
    have hlt3 := (HB.alloc _).below hb3 |>.1
    simp only [optSpotV]
    have N3 := (hnew.alloc _).below hb3 (Nat.le_refl _)
    clear hnew
    go_wp2_with (at_builtin; refine wpList_app1 spotC_len _ rfl _ _ 80 rfl _ i0 _ 24 Tryz.underlying80 hi0 hz0 hz1 hz2 rfl (by decide) rfl ((N3.alloc _).alloc _) _ 1 rfl t ?c1 (spotC_one t) (below_al (below_al B3 _) _) (below_al (below_al B3 _) _).size (by omega) (by decide) ?_)
    case c1 =>
     intro j u hj
     match j, hj with
     | 0, hj => simp [spotC] at hj; subst hj; simp [Addr.add]
     | 1, hj => simp [spotC] at hj; subst hj; simp [Addr.add]
     | 2, hj => simp [spotC] at hj; subst hj; simp [Addr.add]
     | (n + 3), hj => simp [spotC] at hj
    ·intro v' w4 hn4 hb4
     clear cB_0 cB_1 cB_2 fB_0 fB_1 fB_2 B3 hb3 hbr N3
     go_wp2
     go_roundw
     case rel => exact ⟨4, by omega, by go_num, _, hl2.out, hn4, hb4⟩
     case measure => simp [intOf]
  ·have hy : Hid (possStates s dx dy = some l) := hfin.out.trans hl
   clear hl hfin HB
   have hnew' := hnew
   obtain ⟨A8, c8, rfl, _⟩ := hnew'
   go_wp2
   refine bodyPost_ret (v := .tuple #[.slice A8 l.length c8, .bool true]) (by simp [results, Tryz.results42, go_sem]) rfl ?_
   exact ⟨_, by rw [hy.out]; rfl, by rw [hy.out]; exact hnew.mono BW.size, BW.trans (hbr.mono BW.size)⟩
 ·have hno : Hid (possStates s dx dy = none) := by show _ = _; rw [possStates, if_neg hall]
  have k1 := fun W => isDrift_c dx W
  have k2 := fun W => isDrift_c dy W
  generalize inR dx 0 100 = b1 at *
  generalize inR dy 0 100 = b2 at *
  cases b1
  ·clear hall
   go_enter Tryz.func42, Tryz.ntmps42
   go_wp2_with (fail)
   refine (k1 _).mono ?_
   rintro e w' ⟨rfl, rfl⟩
   go_wp2
   refine bodyPost_ret (v := .tuple #[.slice none 0 0, .bool false]) (by simp [results, Tryz.results42, go_sem]) rfl ?_
   refine ⟨_, by rw [hno.out]; rfl, by rw [hno.out]; exact ⟨_, _, rfl, World.ownsRow_nil _ _ _ _⟩, ?_⟩
   exact belA
  ·cases b2
   ·clear hall
    go_enter Tryz.func42, Tryz.ntmps42
    go_wp2_with (fail)
    refine (k1 _).mono ?_
    rintro e w' ⟨rfl, rfl⟩
    go_wp2_with (fail)
    refine (k2 _).mono ?_
    rintro e w' ⟨rfl, rfl⟩
    go_wp2
    refine bodyPost_ret (v := .tuple #[.slice none 0 0, .bool false]) (by simp [results, Tryz.results42, go_sem]) rfl ?_
    refine ⟨_, by rw [hno.out]; rfl, by rw [hno.out]; exact ⟨_, _, rfl, World.ownsRow_nil _ _ _ _⟩, ?_⟩
    exact belA
   ·exact absurd ⟨rfl, rfl⟩ hall
set_option maxRecDepth 100000 in
set_option maxHeartbeats 4000000 in
theorem sPossibleStates_c (s : Spot) (dx dy : Int) (w : World) (hs : s.In) :
  Calls Tryz.prog 78 #[spotV s, .int .i64 dx, .int .i64 dy] w fun e w' => ∃ v, e = .returned (.tuple #[v, .bool (possStates s dx dy).isSome]) ∧ New 57 3 spotC w' w.heap.size v ((possStates s dx dy).getD []) ∧ Below w.heap.size w w' := by
 obtain ⟨i0, hi0, hz0, hz1, hz2⟩ := info_parts (show (Tryz.prog.info? 57).map (fun i => (i.zero, i.size, i.bytes)) = some (some (.agg #[.int .i64 0, .int .i64 0, .int .i64 0]), 3, 24) by kernel_rfl)
 have k0 := fun W => sSpotOk_c s W hs
 have k1 := fun W => l01In_c dx 0 100 W
 have k2 := fun W => l01In_c dy 0 100 W
 have HA0 := Has.new w #[.int .i64 s.x, .int .i64 s.y, .int .i64 s.d] 57
 by_cases hsp : spotOk s = true
 ·rw [hsp] at k0
  clear hsp
  by_cases hall : inR dx 0 100 = true ∧ inR dy 0 100 = true
  ·obtain ⟨e1, e2⟩ := hall
   have hfin : Hid (possStates s dx dy = shs s dx dy 4) := by show _ = _; rw [possStates, if_pos ⟨e1, e2⟩]
   obtain ⟨r1, r2⟩ := inR_iff.1 e1
   obtain ⟨r3, r4⟩ := inR_iff.1 e2
   rw [e1] at k1
   rw [e2] at k2
   clear e1 e2
   go_enter Tryz.func78, Tryz.ntmps78
   go_wp2_with (fail)
   refine (k0 _).mono ?_
   rintro e w1 ⟨rfl, hb1⟩
   have HA1 := HA0.below hb1
   have B1 := below_tr (below_al (Below.refl w.heap.size w) _) hb1
   obtain ⟨cA_0, fA_0⟩ := HA1.2 0 _ rfl
   obtain ⟨cA_1, fA_1⟩ := HA1.2 1 _ rfl
   obtain ⟨cA_2, fA_2⟩ := HA1.2 2 _ rfl
   go_wp2_with (fail)
   refine (k1 _).mono ?_
   rintro e w' ⟨rfl, rfl⟩
   go_wp2_with (fail)
   refine (k2 _).mono ?_
   rintro e w' ⟨rfl, rfl⟩
   obtain ⟨W0, hW0⟩ : ∃ W0, W0 = (w1.alloc (.cells #[] 57)).alloc (.cells #[.int .i64 (-dx), .int .i64 (-dy), .int .i64 0, .int .i64 dx, .int .i64 (-dy), .int .i64 0, .int .i64 dx, .int .i64 dy, .int .i64 0, .int .i64 (-dx), .int .i64 dy, .int .i64 0] 57) := ⟨_, rfl⟩
   have HA : Has W0 w.heap.size [.int .i64 s.x, .int .i64 s.y, .int .i64 s.d] := hW0 ▸ (HA1.alloc _).alloc _
   have HS0 : Has W0 (w1.heap.size + 1) [.int .i64 (-dx), .int .i64 (-dy), .int .i64 0, .int .i64 dx, .int .i64 (-dy), .int .i64 0, .int .i64 dx, .int .i64 dy, .int .i64 0, .int .i64 (-dx), .int .i64 dy, .int .i64 0] := by
    rw [hW0]
    have h := Has.new (w1.alloc (.cells #[] 57)) #[.int .i64 (-dx), .int .i64 (-dy), .int .i64 0, .int .i64 dx, .int .i64 (-dy), .int .i64 0, .int .i64 dx, .int .i64 dy, .int .i64 0, .int .i64 (-dx), .int .i64 dy, .int .i64 0] 57
    rw [World.size_alloc] at h
    exact h
   have BW : Below w.heap.size w W0 := hW0 ▸ below_al (below_al B1 _) _
   have HW : Hid (W0 = (w1.alloc (.cells #[] 57)).alloc (.cells #[.int .i64 (-dx), .int .i64 (-dy), .int .i64 0, .int .i64 dx, .int .i64 (-dy), .int .i64 0, .int .i64 dx, .int .i64 dy, .int .i64 0, .int .i64 (-dx), .int .i64 dy, .int .i64 0] 57)) := hW0
   clear hW0 HA0 B1 hb1 HA1
   go_wp2
   clear cA_0 cA_1 cA_2 fA_0 fA_1 fA_2
   go_loopw [8, 10, 11, 12, 45] (fun v _ _ _ i wr => ∃ k : Nat, k ≤ 4 ∧ i = .int .i64 k ∧ ∃ l, shs s dx dy k = some l ∧ ((k = 0 → ∃ ao, v = .slice ao 0 0) ∧ (0 < k → New 57 3 spotC wr W0.heap.size v l)) ∧ Below W0.heap.size W0 wr) (fun _ _ _ _ i _ => 4 - (intOf i).toNat)
   case atStart => exact ⟨0, by omega, rfl, [], rfl, ⟨fun _ => ⟨_, rfl⟩, fun h => absurd h (by omega)⟩, HW.out ▸ Below.refl _ _⟩
   case round =>
   obtain ⟨k, hk, rfl, l, hl, hv, hbr⟩ := hrel
   have HB := HA.below hbr
   have HS := HS0.below hbr
   have hltB := HB.1
   have hltS := HS.1
   obtain rfl | rfl | rfl | rfl | rfl : k = 0 ∨ k = 1 ∨ k = 2 ∨ k = 3 ∨ k = 4 := by omega
   ·have cK : ∀ W, Calls Tryz.prog 140 #[spotV s, .int .i64 (-dx), .int .i64 (-dy)] W fun e w' => e = .returned (optSpotV (sh s dx dy 0)) ∧ Below W.heap.size W w' := fun W => sShiftSpot_c s _ _ W hs
    have hlen := shs_len hl
    obtain ⟨ao, rfl⟩ := hv.1 rfl
    clear hv
    obtain ⟨cS_0, fS_0⟩ := HS.2 0 _ rfl
    obtain ⟨cS_1, fS_1⟩ := HS.2 1 _ rfl
    obtain ⟨cS_2, fS_2⟩ := HS.2 2 _ rfl
    obtain ⟨cB_0, fB_0⟩ := HB.2 0 _ rfl
    obtain ⟨cB_1, fB_1⟩ := HB.2 1 _ rfl
    obtain ⟨cB_2, fB_2⟩ := HB.2 2 _ rfl
    cases hsk : sh s dx dy 0 with
    | none =>
     rw [hsk] at cK
     have hno : Hid (possStates s dx dy = none) := hfin.out.trans (shs_none hsk (by omega))
     clear hsk hfin hl
     go_wp2_with (fail)
     refine (cK _).mono ?_
     rintro e w3 ⟨rfl, hb3⟩
     have B3 := below_tr (below_al hbr _) hb3
     have hlt3 := (HB.alloc _).below hb3 |>.1
     simp only [optSpotV]
     go_wp2
     refine bodyPost_ret (v := .tuple #[.slice none 0 0, .bool false]) (by simp [results, Tryz.results78, go_sem]) rfl ?_
     refine ⟨_, by rw [hno.out]; rfl, by rw [hno.out]; exact ⟨_, _, rfl, World.ownsRow_nil _ _ _ _⟩, ?_⟩
     exact (below_al (BW.trans (B3.mono BW.size)) _)
    | some t =>
     rw [hsk] at cK
     have hl2 : Hid (shs s dx dy (0 + 1) = some (l ++ [t])) := shs_succ hl hsk
     clear hsk
     go_wp2_with (fail)
     refine (cK _).mono ?_
     rintro e w3 ⟨rfl, hb3⟩
     have B3 := below_tr (below_al hbr _) hb3
     have hlt3 := (HB.alloc _).below hb3 |>.1
     simp only [optSpotV]
     go_wp2_with (at_builtin; refine wpList_app1g spotC_len _ rfl _ _ 80 rfl i0 _ 24 Tryz.underlying80 hi0 hz0 hz1 hz2 rfl (by decide) _ rfl _ 1 rfl t ?c1 (spotC_one t) (below_al (below_al B3 _) _) (below_al (below_al B3 _) _).size (by decide) ?_)
     case c1 =>
      intro j u hj
      match j, hj with
      | 0, hj => simp [spotC] at hj; subst hj; simp [Addr.add]
      | 1, hj => simp [spotC] at hj; subst hj; simp [Addr.add]
      | 2, hj => simp [spotC] at hj; subst hj; simp [Addr.add]
      | (n + 3), hj => simp [spotC] at hj
     ·have hl0 : l = [] := List.length_eq_zero_iff.1 hlen
      subst hl0
      intro v' w4 hn4 hb4
      clear cS_0 cS_1 cS_2 fS_0 fS_1 fS_2 cB_0 cB_1 cB_2 fB_0 fB_1 fB_2 B3 hb3 hbr 
      go_wp2
      go_roundw
      case rel => exact ⟨1, by omega, by go_num, _, hl2.out, ⟨fun h => absurd h (by omega), fun _ => hn4⟩, hb4⟩
      case measure => simp [intOf]
   ·have cK : ∀ W, Calls Tryz.prog 140 #[spotV s, .int .i64 dx, .int .i64 (-dy)] W fun e w' => e = .returned (optSpotV (sh s dx dy 1)) ∧ Below W.heap.size W w' := fun W => sShiftSpot_c s _ _ W hs
    have hlen := shs_len hl
    have hnew := hv.2 (by omega)
    clear hv
    obtain ⟨cS_0, fS_0⟩ := HS.2 3 _ rfl
    obtain ⟨cS_1, fS_1⟩ := HS.2 4 _ rfl
    obtain ⟨cS_2, fS_2⟩ := HS.2 5 _ rfl
    obtain ⟨cB_0, fB_0⟩ := HB.2 0 _ rfl
    obtain ⟨cB_1, fB_1⟩ := HB.2 1 _ rfl
    obtain ⟨cB_2, fB_2⟩ := HB.2 2 _ rfl
    cases hsk : sh s dx dy 1 with
    | none =>
     rw [hsk] at cK
     have hno : Hid (possStates s dx dy = none) := hfin.out.trans (shs_none hsk (by omega))
     clear hsk hfin hl
     go_wp2_with (fail)
     refine (cK _).mono ?_
     rintro e w3 ⟨rfl, hb3⟩
     have B3 := below_tr (below_al hbr _) hb3
     have hlt3 := (HB.alloc _).below hb3 |>.1
     simp only [optSpotV]
     go_wp2
     refine bodyPost_ret (v := .tuple #[.slice none 0 0, .bool false]) (by simp [results, Tryz.results78, go_sem]) rfl ?_
     refine ⟨_, by rw [hno.out]; rfl, by rw [hno.out]; exact ⟨_, _, rfl, World.ownsRow_nil _ _ _ _⟩, ?_⟩
     exact (below_al (BW.trans (B3.mono BW.size)) _)
    | some t =>
     rw [hsk] at cK
     have hl2 : Hid (shs s dx dy (1 + 1) = some (l ++ [t])) := shs_succ hl hsk
     clear hsk
     go_wp2_with (fail)
     refine (cK _).mono ?_
     rintro e w3 ⟨rfl, hb3⟩
     have B3 := below_tr (below_al hbr _) hb3
     have hlt3 := (HB.alloc _).below hb3 |>.1
     simp only [optSpotV]
     have N3 := (hnew.alloc _).below hb3 (Nat.le_refl _)
     clear hnew
     go_wp2_with (at_builtin; refine wpList_app1 spotC_len _ rfl _ _ 80 rfl _ i0 _ 24 Tryz.underlying80 hi0 hz0 hz1 hz2 rfl (by decide) rfl ((N3.alloc _).alloc _) _ 1 rfl t ?c1 (spotC_one t) (below_al (below_al B3 _) _) (below_al (below_al B3 _) _).size (by omega) (by decide) ?_)
     case c1 =>
      intro j u hj
      match j, hj with
      | 0, hj => simp [spotC] at hj; subst hj; simp [Addr.add]
      | 1, hj => simp [spotC] at hj; subst hj; simp [Addr.add]
      | 2, hj => simp [spotC] at hj; subst hj; simp [Addr.add]
      | (n + 3), hj => simp [spotC] at hj
     ·intro v' w4 hn4 hb4
      clear cS_0 cS_1 cS_2 fS_0 fS_1 fS_2 cB_0 cB_1 cB_2 fB_0 fB_1 fB_2 B3 hb3 hbr N3
      go_wp2
      go_roundw
      case rel => exact ⟨2, by omega, by go_num, _, hl2.out, ⟨fun h => absurd h (by omega), fun _ => hn4⟩, hb4⟩
      case measure => simp [intOf]
   ·have cK : ∀ W, Calls Tryz.prog 140 #[spotV s, .int .i64 dx, .int .i64 dy] W fun e w' => e = .returned (optSpotV (sh s dx dy 2)) ∧ Below W.heap.size W w' := fun W => sShiftSpot_c s _ _ W hs
    have hlen := shs_len hl
    have hnew := hv.2 (by omega)
    clear hv
    obtain ⟨cS_0, fS_0⟩ := HS.2 6 _ rfl
    obtain ⟨cS_1, fS_1⟩ := HS.2 7 _ rfl
    obtain ⟨cS_2, fS_2⟩ := HS.2 8 _ rfl
    obtain ⟨cB_0, fB_0⟩ := HB.2 0 _ rfl
    obtain ⟨cB_1, fB_1⟩ := HB.2 1 _ rfl
    obtain ⟨cB_2, fB_2⟩ := HB.2 2 _ rfl
    cases hsk : sh s dx dy 2 with
    | none =>
     rw [hsk] at cK
     have hno : Hid (possStates s dx dy = none) := hfin.out.trans (shs_none hsk (by omega))
     clear hsk hfin hl
     go_wp2_with (fail)
     refine (cK _).mono ?_
     rintro e w3 ⟨rfl, hb3⟩
     have B3 := below_tr (below_al hbr _) hb3
     have hlt3 := (HB.alloc _).below hb3 |>.1
     simp only [optSpotV]
     go_wp2
     refine bodyPost_ret (v := .tuple #[.slice none 0 0, .bool false]) (by simp [results, Tryz.results78, go_sem]) rfl ?_
     refine ⟨_, by rw [hno.out]; rfl, by rw [hno.out]; exact ⟨_, _, rfl, World.ownsRow_nil _ _ _ _⟩, ?_⟩
     exact (below_al (BW.trans (B3.mono BW.size)) _)
    | some t =>
     rw [hsk] at cK
     have hl2 : Hid (shs s dx dy (2 + 1) = some (l ++ [t])) := shs_succ hl hsk
     clear hsk
     go_wp2_with (fail)
     refine (cK _).mono ?_
     rintro e w3 ⟨rfl, hb3⟩
     have B3 := below_tr (below_al hbr _) hb3
     have hlt3 := (HB.alloc _).below hb3 |>.1
     simp only [optSpotV]
     have N3 := (hnew.alloc _).below hb3 (Nat.le_refl _)
     clear hnew
     go_wp2_with (at_builtin; refine wpList_app1 spotC_len _ rfl _ _ 80 rfl _ i0 _ 24 Tryz.underlying80 hi0 hz0 hz1 hz2 rfl (by decide) rfl ((N3.alloc _).alloc _) _ 1 rfl t ?c1 (spotC_one t) (below_al (below_al B3 _) _) (below_al (below_al B3 _) _).size (by omega) (by decide) ?_)
     case c1 =>
      intro j u hj
      match j, hj with
      | 0, hj => simp [spotC] at hj; subst hj; simp [Addr.add]
      | 1, hj => simp [spotC] at hj; subst hj; simp [Addr.add]
      | 2, hj => simp [spotC] at hj; subst hj; simp [Addr.add]
      | (n + 3), hj => simp [spotC] at hj
     ·intro v' w4 hn4 hb4
      clear cS_0 cS_1 cS_2 fS_0 fS_1 fS_2 cB_0 cB_1 cB_2 fB_0 fB_1 fB_2 B3 hb3 hbr N3
      go_wp2
      go_roundw
      case rel => exact ⟨3, by omega, by go_num, _, hl2.out, ⟨fun h => absurd h (by omega), fun _ => hn4⟩, hb4⟩
      case measure => simp [intOf]
   ·have cK : ∀ W, Calls Tryz.prog 140 #[spotV s, .int .i64 (-dx), .int .i64 dy] W fun e w' => e = .returned (optSpotV (sh s dx dy 3)) ∧ Below W.heap.size W w' := fun W => sShiftSpot_c s _ _ W hs
    have hlen := shs_len hl
    have hnew := hv.2 (by omega)
    clear hv
    obtain ⟨cS_0, fS_0⟩ := HS.2 9 _ rfl
    obtain ⟨cS_1, fS_1⟩ := HS.2 10 _ rfl
    obtain ⟨cS_2, fS_2⟩ := HS.2 11 _ rfl
    obtain ⟨cB_0, fB_0⟩ := HB.2 0 _ rfl
    obtain ⟨cB_1, fB_1⟩ := HB.2 1 _ rfl
    obtain ⟨cB_2, fB_2⟩ := HB.2 2 _ rfl
    cases hsk : sh s dx dy 3 with
    | none =>
     rw [hsk] at cK
     have hno : Hid (possStates s dx dy = none) := hfin.out.trans (shs_none hsk (by omega))
     clear hsk hfin hl
     go_wp2_with (fail)
     refine (cK _).mono ?_
     rintro e w3 ⟨rfl, hb3⟩
     have B3 := below_tr (below_al hbr _) hb3
     have hlt3 := (HB.alloc _).below hb3 |>.1
     simp only [optSpotV]
     go_wp2
     refine bodyPost_ret (v := .tuple #[.slice none 0 0, .bool false]) (by simp [results, Tryz.results78, go_sem]) rfl ?_
     refine ⟨_, by rw [hno.out]; rfl, by rw [hno.out]; exact ⟨_, _, rfl, World.ownsRow_nil _ _ _ _⟩, ?_⟩
     exact (below_al (BW.trans (B3.mono BW.size)) _)
    | some t =>
     rw [hsk] at cK
     have hl2 : Hid (shs s dx dy (3 + 1) = some (l ++ [t])) := shs_succ hl hsk
     clear hsk
     go_wp2_with (fail)
     refine (cK _).mono ?_
     rintro e w3 ⟨rfl, hb3⟩
     have B3 := below_tr (below_al hbr _) hb3
     have hlt3 := (HB.alloc _).below hb3 |>.1
     simp only [optSpotV]
     have N3 := (hnew.alloc _).below hb3 (Nat.le_refl _)
     clear hnew
     go_wp2_with (at_builtin; refine wpList_app1 spotC_len _ rfl _ _ 80 rfl _ i0 _ 24 Tryz.underlying80 hi0 hz0 hz1 hz2 rfl (by decide) rfl ((N3.alloc _).alloc _) _ 1 rfl t ?c1 (spotC_one t) (below_al (below_al B3 _) _) (below_al (below_al B3 _) _).size (by omega) (by decide) ?_)
     case c1 =>
      intro j u hj
      match j, hj with
      | 0, hj => simp [spotC] at hj; subst hj; simp [Addr.add]
      | 1, hj => simp [spotC] at hj; subst hj; simp [Addr.add]
      | 2, hj => simp [spotC] at hj; subst hj; simp [Addr.add]
      | (n + 3), hj => simp [spotC] at hj
     ·intro v' w4 hn4 hb4
      clear cS_0 cS_1 cS_2 fS_0 fS_1 fS_2 cB_0 cB_1 cB_2 fB_0 fB_1 fB_2 B3 hb3 hbr N3
      go_wp2
      go_roundw
      case rel => exact ⟨4, by omega, by go_num, _, hl2.out, ⟨fun h => absurd h (by omega), fun _ => hn4⟩, hb4⟩
      case measure => simp [intOf]
   ·have hy : Hid (possStates s dx dy = some l) := hfin.out.trans hl
    have hnew := hv.2 (by omega)
    clear hl hfin HB HS hv
    have hnew' := hnew
    obtain ⟨A8, c8, rfl, _⟩ := hnew'
    go_wp2
    refine bodyPost_ret (v := .tuple #[.slice A8 l.length c8, .bool true]) (by simp [results, Tryz.results78, go_sem]) rfl ?_
    exact ⟨_, by rw [hy.out]; rfl, by rw [hy.out]; exact hnew.mono BW.size, BW.trans (hbr.mono BW.size)⟩
  ·have hno : Hid (possStates s dx dy = none) := by show _ = _; rw [possStates, if_neg hall]
   generalize inR dx 0 100 = b1 at *
   generalize inR dy 0 100 = b2 at *
   cases b1
   ·clear hall
    go_enter Tryz.func78, Tryz.ntmps78
    go_wp2_with (fail)
    refine (k0 _).mono ?_
    rintro e w1 ⟨rfl, hb1⟩
    have B1 := below_tr (below_al (Below.refl w.heap.size w) _) hb1
    go_wp2_with (fail)
    refine (k1 _).mono ?_
    rintro e w' ⟨rfl, rfl⟩
    go_wp2
    refine bodyPost_ret (v := .tuple #[.slice none 0 0, .bool false]) (by simp [results, Tryz.results78, go_sem]) rfl ?_
    refine ⟨_, by rw [hno.out]; rfl, by rw [hno.out]; exact ⟨_, _, rfl, World.ownsRow_nil _ _ _ _⟩, ?_⟩
    exact belA
   ·cases b2
    ·clear hall
     go_enter Tryz.func78, Tryz.ntmps78
     go_wp2_with (fail)
     refine (k0 _).mono ?_
     rintro e w1 ⟨rfl, hb1⟩
     have B1 := below_tr (below_al (Below.refl w.heap.size w) _) hb1
     go_wp2_with (fail)
     refine (k1 _).mono ?_
     rintro e w' ⟨rfl, rfl⟩
     go_wp2_with (fail)
     refine (k2 _).mono ?_
     rintro e w' ⟨rfl, rfl⟩
     go_wp2
     refine bodyPost_ret (v := .tuple #[.slice none 0 0, .bool false]) (by simp [results, Tryz.results78, go_sem]) rfl ?_
     refine ⟨_, by rw [hno.out]; rfl, by rw [hno.out]; exact ⟨_, _, rfl, World.ownsRow_nil _ _ _ _⟩, ?_⟩
     exact belA
    ·exact absurd ⟨rfl, rfl⟩ hall
 ·have hsp : spotOk s = false := by simpa using hsp
  have hno : Hid (possStates s dx dy = none) := poss_no hsp
  rw [hsp] at k0
  clear hsp
  go_enter Tryz.func78, Tryz.ntmps78
  go_wp2_with (fail)
  refine (k0 _).mono ?_
  rintro e w1 ⟨rfl, hb1⟩
  have B1 := below_tr (below_al (Below.refl w.heap.size w) _) hb1
  go_wp2
  refine bodyPost_ret (v := .tuple #[.slice none 0 0, .bool false]) (by simp [results, Tryz.results78, go_sem]) rfl ?_
  refine ⟨_, by rw [hno.out]; rfl, by rw [hno.out]; exact ⟨_, _, rfl, World.ownsRow_nil _ _ _ _⟩, ?_⟩
  exact belA
end Go.Proofs.YtdncnhcffbgjhaaGreat
