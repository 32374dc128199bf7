/-
  What the conversions of regions, rooms, watches, tracks and laws return.
  Conditions: the slices hold at most 2^20 elements.
-/
import Derived.Test.YtbdihgcjopbnjaaCompN
import Derived.Test.YtbdihgcjopbnjaaConv
import Derived.Test.YtbdihgcjopbnjaaConvS
import Derived.Test.YtbdihgcjopbnjaaConvT
namespace Go.Proofs.Ytbdihgcjopbnjaa
open Go.RowKit

set_option maxRecDepth 100000 in
set_option maxHeartbeats 1000000 in
theorem szRegion_c (x : List Half) (a : SlA) (left : Int) (w : World) (hn : List.length x ≤ 9223372036854775807) (h0 : 0 ≤ left) (h1 : left ≤ 1048576) :
    Calls Try.prog 141 #[regionV x a, .int .i64 left] w fun e w' => e = .returned (.int .i64 (if left - regionLen x < 0 then -1 else left - regionLen x)) ∧ Below w.heap.size w w' := by
  have hn0 := hn
  have hlen : Hid (((regionLen x : Nat) : Int) = ((List.length x : Nat) : Int)) := by show _ = _; simp only [regionLen]; (try omega)
  have p0 : (0 : Int) ≤ ((List.length x : Nat) : Int) := by omega
  by_cases c0 : left - ((List.length x : Nat) : Int) < 0
  · skip
    have hfin : (if left - ((regionLen x : Nat) : Int) < 0 then (-1 : Int) else left - ((regionLen x : Nat) : Int)) = -1 := by have := hlen.out; rw [if_pos (by omega)]
    rw [hfin]
    clear hfin
    go_enter Try.func141, Try.ntmps141
    go_wp2_with (fail)
    refine (szHalfS_c a.A (List.length x) a.c (left) _ hn0 (by omega) (by omega)).mono ?_
    rw [if_pos (by omega)]
    rintro e w' ⟨rfl, rfl⟩
    go_wp2
    go_ret
    refine ⟨rfl, ?_⟩
    repeat (first | (with_reducible exact Below.refl _ _) | (with_reducible assumption) | (with_reducible refine below_al ?_ _) | (with_reducible refine Below.drew ?_) | (with_reducible refine below_drewN ?_ _) | (with_reducible refine below_st ?_ ?_ _) | (with_reducible refine below_tr ?_ (by assumption)) | (with_reducible exact Nat.le_refl _) | (focus (simp; done)) | (focus (simp; omega)))
  · skip
    have hfin : (if left - ((regionLen x : Nat) : Int) < 0 then (-1 : Int) else left - ((regionLen x : Nat) : Int)) = left - ((List.length x : Nat) : Int) := by have := hlen.out; (rw [if_neg (by omega)]; omega)
    rw [hfin]
    clear hfin
    go_enter Try.func141, Try.ntmps141
    go_wp2_with (fail)
    refine (szHalfS_c a.A (List.length x) a.c (left) _ hn0 (by omega) (by omega)).mono ?_
    rw [if_neg (by omega)]
    rintro e w' ⟨rfl, rfl⟩
    go_wp2
    go_ret
    refine ⟨rfl, ?_⟩
    repeat (first | (with_reducible exact Below.refl _ _) | (with_reducible assumption) | (with_reducible refine below_al ?_ _) | (with_reducible refine Below.drew ?_) | (with_reducible refine below_drewN ?_ _) | (with_reducible refine below_st ?_ ?_ _) | (with_reducible refine below_tr ?_ (by assumption)) | (with_reducible exact Nat.le_refl _) | (focus (simp; done)) | (focus (simp; omega)))
set_option maxRecDepth 100000 in
set_option maxHeartbeats 1000000 in
theorem eqRegion_t (x : List Half) (a b : SlA) (w : World) (hn : regionLen x ≤ 1048576) (ha : RegionSl w x a) (hb : RegionSl w x b) :
    Calls Try.prog 58 #[regionV x a, regionV x b] w fun e w' => e = .returned (.bool true) ∧ Below w.heap.size w w' := by
  simp only [regionLen] at hn
  go_enter Try.func58, Try.ntmps58
  go_wp2_with (fail)
  refine (eqHalfS_t a.A b.A x _ _ _ (by omega) (Sl.below ha.halves (by (repeat (first | (with_reducible exact Below.refl _ _) | (with_reducible assumption) | (with_reducible refine below_al ?_ _) | (with_reducible refine Below.drew ?_) | (with_reducible refine below_drewN ?_ _) | (with_reducible refine below_st ?_ ?_ _) | (with_reducible refine below_tr ?_ (by assumption)) | (with_reducible exact Nat.le_refl _) | (focus (simp; done)) | (focus (simp; omega)))))) (Sl.below hb.halves (by (repeat (first | (with_reducible exact Below.refl _ _) | (with_reducible assumption) | (with_reducible refine below_al ?_ _) | (with_reducible refine Below.drew ?_) | (with_reducible refine below_drewN ?_ _) | (with_reducible refine below_st ?_ ?_ _) | (with_reducible refine below_tr ?_ (by assumption)) | (with_reducible exact Nat.le_refl _) | (focus (simp; done)) | (focus (simp; omega))))))).mono ?_
  rintro e w0 ⟨rfl, hb0⟩
  have r0 := bcell1 hb0
  have l0 : w.heap.size < w0.heap.size := blt hb0 (by first | (simp; done) | (simp; omega) | omega)
  have m0 : w.heap.size + 1 < w0.heap.size := blt hb0 (by first | (simp; done) | (simp; omega) | omega)
  go_wp2
  go_ret
  refine ⟨rfl, ?_⟩
  repeat (first | (with_reducible exact Below.refl _ _) | (with_reducible assumption) | (with_reducible refine below_al ?_ _) | (with_reducible refine Below.drew ?_) | (with_reducible refine below_drewN ?_ _) | (with_reducible refine below_st ?_ ?_ _) | (with_reducible refine below_tr ?_ (by assumption)) | (with_reducible exact Nat.le_refl _) | (focus (simp; done)) | (focus (simp; omega)))
set_option maxRecDepth 100000 in
set_option maxHeartbeats 2000000 in
theorem toRegion_c (x : List Half) (a : SlA) (w : World) (hn : regionLen x ≤ 1048576) (hs : RegionSl w x a) :
    Calls Try.prog 143 #[regionV x a] w fun e w' => ∃ a', e = .returned (regionV x a') ∧ RegionNew w' w.heap.size x a' ∧ Below w.heap.size w w' := by
  simp only [regionLen] at hn
  go_enter Try.func143, Try.ntmps143
  go_wp2_with (fail)
  refine (toHalfS_c a.A x _ _ (by omega) (Sl.below hs.halves (by (repeat (first | (with_reducible exact Below.refl _ _) | (with_reducible assumption) | (with_reducible refine below_al ?_ _) | (with_reducible refine Below.drew ?_) | (with_reducible refine below_drewN ?_ _) | (with_reducible refine below_st ?_ ?_ _) | (with_reducible refine below_tr ?_ (by assumption)) | (with_reducible exact Nat.le_refl _) | (focus (simp; done)) | (focus (simp; omega))))))).mono ?_
  rintro e w0 ⟨v0, rfl, N0, hb0⟩
  obtain ⟨A0, k0, rfl, ho0⟩ := N0
  have N0 : New 177 3 halfC w0 _ (.slice A0 (List.length x) k0) x := ⟨A0, k0, rfl, ho0⟩
  clear ho0
  have K0 := N0.blk
  replace N0 := N0.mono (base' := w.heap.size + 1 + 1 + 1) (by first | (simp; done) | (simp; omega) | omega)
  have r0 := bcell1 hb0
  have f0 := (bcell hb0).2
  have l0 : w.heap.size < w0.heap.size := blt hb0 (by first | (simp; done) | (simp; omega) | omega)
  have m0 : w.heap.size + 1 < w0.heap.size := blt hb0 (by first | (simp; done) | (simp; omega) | omega)
  have n0 : w.heap.size + 1 + 1 < w0.heap.size := blt hb0 (by first | (simp; done) | (simp; omega) | omega)
  have H : Has w0 (w.heap.size + 1) [.slice none 0 0] := by
    repeat (first | ((with_reducible refine Has.new_at ?_ _ _ rfl); (first | rfl | (focus (simp; done)))) | (with_reducible refine Has.set_ ?_ ?_ _) | (with_reducible refine Has.alloc ?_ _) | (with_reducible refine Has.below ?_ (by assumption)) | (focus (simp; done)) | (focus (simp; omega)))
  obtain ⟨cH_0, fH_0⟩ := H.2 0 _ rfl
  go_wp2
  refine bodyPost_ret (v := regionV x ⟨A0, k0⟩) (by simp [results, Try.results143, go_sem, cH_0]) rfl ?_
  refine ⟨⟨A0, k0⟩, rfl, ⟨?_⟩, ?_⟩
  · refine New.mono (base := w.heap.size + 1 + 1 + 1) ?_ (by omega)
    repeat (first | (with_reducible exact N0) | (with_reducible refine New.low ?_ (by first | (simp; done) | (simp; omega) | omega) _) | (with_reducible refine New.below ?_ (by assumption) (Nat.le_refl _)))
  · repeat (first | (with_reducible exact Below.refl _ _) | (with_reducible assumption) | (with_reducible refine below_al ?_ _) | (with_reducible refine Below.drew ?_) | (with_reducible refine below_drewN ?_ _) | (with_reducible refine below_st ?_ ?_ _) | (with_reducible refine below_tr ?_ (by assumption)) | (with_reducible exact Nat.le_refl _) | (focus (simp; done)) | (focus (simp; omega)))
set_option maxRecDepth 100000 in
set_option maxHeartbeats 1000000 in
theorem szRoom_c (x : Room) (a : RoomA) (left : Int) (w : World) (hn : List.length x.map ≤ 9223372036854775807 ∧ List.length x.noise ≤ 9223372036854775807 ∧ List.length x.limits ≤ 9223372036854775807) (h0 : 0 ≤ left) (h1 : left ≤ 1048576) :
    Calls Try.prog 62 #[roomV x a, .int .i64 left] w fun e w' => e = .returned (.int .i64 (if left - roomLen x < 0 then -1 else left - roomLen x)) ∧ Below w.heap.size w w' := by
  obtain ⟨hn0, hn1, hn2⟩ := hn
  have hlen : Hid (((roomLen x : Nat) : Int) = ((List.length x.map : Nat) : Int) + ((regionLen x.noise : Nat) : Int) + ((regionLen x.limits : Nat) : Int)) := by show _ = _; simp only [regionLen, roomLen]; (try omega)
  have p0 : (0 : Int) ≤ ((List.length x.map : Nat) : Int) := by omega
  have p1 : (0 : Int) ≤ ((regionLen x.noise : Nat) : Int) := by omega
  have p2 : (0 : Int) ≤ ((regionLen x.limits : Nat) : Int) := by omega
  by_cases c0 : left - ((List.length x.map : Nat) : Int) < 0
  · skip
    have hfin : (if left - ((roomLen x : Nat) : Int) < 0 then (-1 : Int) else left - ((roomLen x : Nat) : Int)) = -1 := by have := hlen.out; rw [if_pos (by omega)]
    rw [hfin]
    clear hfin
    go_enter Try.func62, Try.ntmps62
    go_wp2_with (fail)
    refine (szIntS_c a.map.A (List.length x.map) a.map.c (left) _ hn0 (by omega) (by omega)).mono ?_
    rw [if_pos (by omega)]
    rintro e w' ⟨rfl, rfl⟩
    go_wp2
    go_ret
    refine ⟨rfl, ?_⟩
    repeat (first | (with_reducible exact Below.refl _ _) | (with_reducible assumption) | (with_reducible refine below_al ?_ _) | (with_reducible refine Below.drew ?_) | (with_reducible refine below_drewN ?_ _) | (with_reducible refine below_st ?_ ?_ _) | (with_reducible refine below_tr ?_ (by assumption)) | (with_reducible exact Nat.le_refl _) | (focus (simp; done)) | (focus (simp; omega)))
  · skip
    by_cases c1 : left - ((List.length x.map : Nat) : Int) - ((regionLen x.noise : Nat) : Int) < 0
    · skip
      have hfin : (if left - ((roomLen x : Nat) : Int) < 0 then (-1 : Int) else left - ((roomLen x : Nat) : Int)) = -1 := by have := hlen.out; rw [if_pos (by omega)]
      rw [hfin]
      clear hfin
      go_enter Try.func62, Try.ntmps62
      go_wp2_with (fail)
      refine (szIntS_c a.map.A (List.length x.map) a.map.c (left) _ hn0 (by omega) (by omega)).mono ?_
      rw [if_neg (by omega)]
      rintro e w' ⟨rfl, rfl⟩
      go_wp2_with (fail)
      refine (szRegion_c x.noise a.noise (left - ((List.length x.map : Nat) : Int)) _ hn1 (by omega) (by omega)).mono ?_
      rw [if_pos (by omega)]
      rintro e w1 ⟨rfl, hb1⟩
      have r1 := bcell1 hb1
      have l1 : w.heap.size < w1.heap.size := blt hb1 (by first | (simp; done) | (simp; omega) | omega)
      go_wp2
      go_ret
      refine ⟨rfl, ?_⟩
      repeat (first | (with_reducible exact Below.refl _ _) | (with_reducible assumption) | (with_reducible refine below_al ?_ _) | (with_reducible refine Below.drew ?_) | (with_reducible refine below_drewN ?_ _) | (with_reducible refine below_st ?_ ?_ _) | (with_reducible refine below_tr ?_ (by assumption)) | (with_reducible exact Nat.le_refl _) | (focus (simp; done)) | (focus (simp; omega)))
    · skip
      by_cases c2 : left - ((List.length x.map : Nat) : Int) - ((regionLen x.noise : Nat) : Int) - ((regionLen x.limits : Nat) : Int) < 0
      · skip
        have hfin : (if left - ((roomLen x : Nat) : Int) < 0 then (-1 : Int) else left - ((roomLen x : Nat) : Int)) = -1 := by have := hlen.out; rw [if_pos (by omega)]
        rw [hfin]
        clear hfin
        go_enter Try.func62, Try.ntmps62
        go_wp2_with (fail)
        refine (szIntS_c a.map.A (List.length x.map) a.map.c (left) _ hn0 (by omega) (by omega)).mono ?_
        rw [if_neg (by omega)]
        rintro e w' ⟨rfl, rfl⟩
        go_wp2_with (fail)
        refine (szRegion_c x.noise a.noise (left - ((List.length x.map : Nat) : Int)) _ hn1 (by omega) (by omega)).mono ?_
        rw [if_neg (by omega)]
        rintro e w1 ⟨rfl, hb1⟩
        have r1 := bcell1 hb1
        have l1 : w.heap.size < w1.heap.size := blt hb1 (by first | (simp; done) | (simp; omega) | omega)
        go_wp2_with (fail)
        refine (szRegion_c x.limits a.limits (left - ((List.length x.map : Nat) : Int) - ((regionLen x.noise : Nat) : Int)) _ hn2 (by omega) (by omega)).mono ?_
        rw [if_pos (by omega)]
        rintro e w2 ⟨rfl, hb2⟩
        have r2 := bcell1 hb2
        have l2 : w.heap.size < w2.heap.size := blt hb2 (by first | (simp; done) | (simp; omega) | omega)
        go_wp2
        go_ret
        refine ⟨rfl, ?_⟩
        repeat (first | (with_reducible exact Below.refl _ _) | (with_reducible assumption) | (with_reducible refine below_al ?_ _) | (with_reducible refine Below.drew ?_) | (with_reducible refine below_drewN ?_ _) | (with_reducible refine below_st ?_ ?_ _) | (with_reducible refine below_tr ?_ (by assumption)) | (with_reducible exact Nat.le_refl _) | (focus (simp; done)) | (focus (simp; omega)))
      · skip
        have hfin : (if left - ((roomLen x : Nat) : Int) < 0 then (-1 : Int) else left - ((roomLen x : Nat) : Int)) = left - ((List.length x.map : Nat) : Int) - ((regionLen x.noise : Nat) : Int) - ((regionLen x.limits : Nat) : Int) := by have := hlen.out; (rw [if_neg (by omega)]; omega)
        rw [hfin]
        clear hfin
        go_enter Try.func62, Try.ntmps62
        go_wp2_with (fail)
        refine (szIntS_c a.map.A (List.length x.map) a.map.c (left) _ hn0 (by omega) (by omega)).mono ?_
        rw [if_neg (by omega)]
        rintro e w' ⟨rfl, rfl⟩
        go_wp2_with (fail)
        refine (szRegion_c x.noise a.noise (left - ((List.length x.map : Nat) : Int)) _ hn1 (by omega) (by omega)).mono ?_
        rw [if_neg (by omega)]
        rintro e w1 ⟨rfl, hb1⟩
        have r1 := bcell1 hb1
        have l1 : w.heap.size < w1.heap.size := blt hb1 (by first | (simp; done) | (simp; omega) | omega)
        go_wp2_with (fail)
        refine (szRegion_c x.limits a.limits (left - ((List.length x.map : Nat) : Int) - ((regionLen x.noise : Nat) : Int)) _ hn2 (by omega) (by omega)).mono ?_
        rw [if_neg (by omega)]
        rintro e w2 ⟨rfl, hb2⟩
        have r2 := bcell1 hb2
        have l2 : w.heap.size < w2.heap.size := blt hb2 (by first | (simp; done) | (simp; omega) | omega)
        go_wp2
        go_ret
        refine ⟨rfl, ?_⟩
        repeat (first | (with_reducible exact Below.refl _ _) | (with_reducible assumption) | (with_reducible refine below_al ?_ _) | (with_reducible refine Below.drew ?_) | (with_reducible refine below_drewN ?_ _) | (with_reducible refine below_st ?_ ?_ _) | (with_reducible refine below_tr ?_ (by assumption)) | (with_reducible exact Nat.le_refl _) | (focus (simp; done)) | (focus (simp; omega)))
set_option maxRecDepth 100000 in
set_option maxHeartbeats 1000000 in
theorem eqRoom_t (x : Room) (a b : RoomA) (w : World) (hn : roomLen x ≤ 1048576) (ha : RoomSl w x a) (hb : RoomSl w x b) :
    Calls Try.prog 68 #[roomV x a, roomV x b] w fun e w' => e = .returned (.bool true) ∧ Below w.heap.size w w' := by
  simp only [roomLen] at hn
  go_enter Try.func68, Try.ntmps68
  go_wp2_with (fail)
  refine (eqIntS_t a.map.A b.map.A x.map _ _ _ (by omega) (Sl.below ha.map (by (repeat (first | (with_reducible exact Below.refl _ _) | (with_reducible assumption) | (with_reducible refine below_al ?_ _) | (with_reducible refine Below.drew ?_) | (with_reducible refine below_drewN ?_ _) | (with_reducible refine below_st ?_ ?_ _) | (with_reducible refine below_tr ?_ (by assumption)) | (with_reducible exact Nat.le_refl _) | (focus (simp; done)) | (focus (simp; omega)))))) (Sl.below hb.map (by (repeat (first | (with_reducible exact Below.refl _ _) | (with_reducible assumption) | (with_reducible refine below_al ?_ _) | (with_reducible refine Below.drew ?_) | (with_reducible refine below_drewN ?_ _) | (with_reducible refine below_st ?_ ?_ _) | (with_reducible refine below_tr ?_ (by assumption)) | (with_reducible exact Nat.le_refl _) | (focus (simp; done)) | (focus (simp; omega))))))).mono ?_
  rintro e w0 ⟨rfl, hb0⟩
  have r0 := bcell1 hb0
  have l0 : w.heap.size < w0.heap.size := blt hb0 (by first | (simp; done) | (simp; omega) | omega)
  have m0 : w.heap.size + 1 < w0.heap.size := blt hb0 (by first | (simp; done) | (simp; omega) | omega)
  go_wp2_with (fail)
  refine (eqRegion_t x.noise a.noise b.noise _ (by simp only [regionLen]; omega) (RegionSl.below ha.noise (by (repeat (first | (with_reducible exact Below.refl _ _) | (with_reducible assumption) | (with_reducible refine below_al ?_ _) | (with_reducible refine Below.drew ?_) | (with_reducible refine below_drewN ?_ _) | (with_reducible refine below_st ?_ ?_ _) | (with_reducible refine below_tr ?_ (by assumption)) | (with_reducible exact Nat.le_refl _) | (focus (simp; done)) | (focus (simp; omega)))))) (RegionSl.below hb.noise (by (repeat (first | (with_reducible exact Below.refl _ _) | (with_reducible assumption) | (with_reducible refine below_al ?_ _) | (with_reducible refine Below.drew ?_) | (with_reducible refine below_drewN ?_ _) | (with_reducible refine below_st ?_ ?_ _) | (with_reducible refine below_tr ?_ (by assumption)) | (with_reducible exact Nat.le_refl _) | (focus (simp; done)) | (focus (simp; omega))))))).mono ?_
  rintro e w1 ⟨rfl, hb1⟩
  have r1 := bcell1 hb1
  have l1 : w.heap.size < w1.heap.size := blt hb1 (by first | (simp; done) | (simp; omega) | omega)
  have m1 : w.heap.size + 1 < w1.heap.size := blt hb1 (by first | (simp; done) | (simp; omega) | omega)
  go_wp2_with (fail)
  refine (eqRegion_t x.limits a.limits b.limits _ (by simp only [regionLen]; omega) (RegionSl.below ha.limits (by (repeat (first | (with_reducible exact Below.refl _ _) | (with_reducible assumption) | (with_reducible refine below_al ?_ _) | (with_reducible refine Below.drew ?_) | (with_reducible refine below_drewN ?_ _) | (with_reducible refine below_st ?_ ?_ _) | (with_reducible refine below_tr ?_ (by assumption)) | (with_reducible exact Nat.le_refl _) | (focus (simp; done)) | (focus (simp; omega)))))) (RegionSl.below hb.limits (by (repeat (first | (with_reducible exact Below.refl _ _) | (with_reducible assumption) | (with_reducible refine below_al ?_ _) | (with_reducible refine Below.drew ?_) | (with_reducible refine below_drewN ?_ _) | (with_reducible refine below_st ?_ ?_ _) | (with_reducible refine below_tr ?_ (by assumption)) | (with_reducible exact Nat.le_refl _) | (focus (simp; done)) | (focus (simp; omega))))))).mono ?_
  rintro e w2 ⟨rfl, hb2⟩
  have r2 := bcell1 hb2
  have l2 : w.heap.size < w2.heap.size := blt hb2 (by first | (simp; done) | (simp; omega) | omega)
  have m2 : w.heap.size + 1 < w2.heap.size := blt hb2 (by first | (simp; done) | (simp; omega) | omega)
  go_wp2
  go_ret
  refine ⟨rfl, ?_⟩
  repeat (first | (with_reducible exact Below.refl _ _) | (with_reducible assumption) | (with_reducible refine below_al ?_ _) | (with_reducible refine Below.drew ?_) | (with_reducible refine below_drewN ?_ _) | (with_reducible refine below_st ?_ ?_ _) | (with_reducible refine below_tr ?_ (by assumption)) | (with_reducible exact Nat.le_refl _) | (focus (simp; done)) | (focus (simp; omega)))
set_option maxRecDepth 100000 in
set_option maxHeartbeats 2000000 in
theorem toRoom_c (x : Room) (a : RoomA) (w : World) (hn : roomLen x ≤ 1048576) (hs : RoomSl w x a) :
    Calls Try.prog 65 #[roomV x a] w fun e w' => ∃ a', e = .returned (roomV x a') ∧ RoomNew w' w.heap.size x a' ∧ Below w.heap.size w w' := by
  simp only [roomLen] at hn
  go_enter Try.func65, Try.ntmps65
  go_wp2_with (fail)
  refine (toIntS_c a.map.A x.map _ _ (by omega) (Sl.below hs.map (by (repeat (first | (with_reducible exact Below.refl _ _) | (with_reducible assumption) | (with_reducible refine below_al ?_ _) | (with_reducible refine Below.drew ?_) | (with_reducible refine below_drewN ?_ _) | (with_reducible refine below_st ?_ ?_ _) | (with_reducible refine below_tr ?_ (by assumption)) | (with_reducible exact Nat.le_refl _) | (focus (simp; done)) | (focus (simp; omega))))))).mono ?_
  rintro e w0 ⟨v0, rfl, N0, hb0⟩
  obtain ⟨A0, k0, rfl, ho0⟩ := N0
  have N0 : New 3 1 intC w0 _ (.slice A0 (List.length x.map) k0) x.map := ⟨A0, k0, rfl, ho0⟩
  clear ho0
  have K0 := N0.blk
  replace N0 := N0.mono (base' := w.heap.size + 1 + 1 + 1) (by first | (simp; done) | (simp; omega) | omega)
  have r0 := bcell1 hb0
  have f0 := (bcell hb0).2
  have l0 : w.heap.size < w0.heap.size := blt hb0 (by first | (simp; done) | (simp; omega) | omega)
  have m0 : w.heap.size + 1 < w0.heap.size := blt hb0 (by first | (simp; done) | (simp; omega) | omega)
  have n0 : w.heap.size + 1 + 1 < w0.heap.size := blt hb0 (by first | (simp; done) | (simp; omega) | omega)
  go_wp2_with (fail)
  refine (toRegion_c x.noise a.noise _ (by simp only [regionLen]; omega) (RegionSl.below hs.noise (by (repeat (first | (with_reducible exact Below.refl _ _) | (with_reducible assumption) | (with_reducible refine below_al ?_ _) | (with_reducible refine Below.drew ?_) | (with_reducible refine below_drewN ?_ _) | (with_reducible refine below_st ?_ ?_ _) | (with_reducible refine below_tr ?_ (by assumption)) | (with_reducible exact Nat.le_refl _) | (focus (simp; done)) | (focus (simp; omega))))))).mono ?_
  rintro e w1 ⟨a1, rfl, N1, hb1⟩
  have K1 := N1.blk
  replace N1 := N1.mono (base' := w.heap.size + 1 + 1 + 1) (by first | (simp; done) | (simp; omega) | omega)
  have r1 := bcell1 hb1
  have f1 := (bcell hb1).2
  have s1 : w0.heap.size ≤ w1.heap.size := by simpa using hb1.size
  have l1 : w.heap.size < w1.heap.size := blt hb1 (by first | (simp; done) | (simp; omega) | omega)
  have m1 : w.heap.size + 1 < w1.heap.size := blt hb1 (by first | (simp; done) | (simp; omega) | omega)
  have n1 : w.heap.size + 1 + 1 < w1.heap.size := blt hb1 (by first | (simp; done) | (simp; omega) | omega)
  go_wp2_with (fail)
  refine (toRegion_c x.limits a.limits _ (by simp only [regionLen]; omega) (RegionSl.below hs.limits (by (repeat (first | (with_reducible exact Below.refl _ _) | (with_reducible assumption) | (with_reducible refine below_al ?_ _) | (with_reducible refine Below.drew ?_) | (with_reducible refine below_drewN ?_ _) | (with_reducible refine below_st ?_ ?_ _) | (with_reducible refine below_tr ?_ (by assumption)) | (with_reducible exact Nat.le_refl _) | (focus (simp; done)) | (focus (simp; omega))))))).mono ?_
  rintro e w2 ⟨a2, rfl, N2, hb2⟩
  have K2 := N2.blk
  replace N2 := N2.mono (base' := w.heap.size + 1 + 1 + 1) (by first | (simp; done) | (simp; omega) | omega)
  have r2 := bcell1 hb2
  have f2 := (bcell hb2).2
  have s2 : w1.heap.size ≤ w2.heap.size := by simpa using hb2.size
  have l2 : w.heap.size < w2.heap.size := blt hb2 (by first | (simp; done) | (simp; omega) | omega)
  have m2 : w.heap.size + 1 < w2.heap.size := blt hb2 (by first | (simp; done) | (simp; omega) | omega)
  have n2 : w.heap.size + 1 + 1 < w2.heap.size := blt hb2 (by first | (simp; done) | (simp; omega) | omega)
  have H : Has w2 (w.heap.size + 1) [.slice none 0 0, .int .i64 0, .int .i64 0, .int .i64 0, .int .i64 0, .int .i64 0, .slice none 0 0, .slice none 0 0] := by
    repeat (first | ((with_reducible refine Has.new_at ?_ _ _ rfl); (first | rfl | (focus (simp; done)))) | (with_reducible refine Has.set_ ?_ ?_ _) | (with_reducible refine Has.alloc ?_ _) | (with_reducible refine Has.below ?_ (by assumption)) | (focus (simp; done)) | (focus (simp; omega)))
  obtain ⟨cH_0, fH_0⟩ := H.2 0 _ rfl
  obtain ⟨cH_1, fH_1⟩ := H.2 1 _ rfl
  obtain ⟨cH_2, fH_2⟩ := H.2 2 _ rfl
  obtain ⟨cH_3, fH_3⟩ := H.2 3 _ rfl
  obtain ⟨cH_4, fH_4⟩ := H.2 4 _ rfl
  obtain ⟨cH_5, fH_5⟩ := H.2 5 _ rfl
  obtain ⟨cH_6, fH_6⟩ := H.2 6 _ rfl
  obtain ⟨cH_7, fH_7⟩ := H.2 7 _ rfl
  go_wp2
  refine bodyPost_ret (v := roomV x ⟨⟨A0, k0⟩, a1, a2⟩) (by simp [results, Try.results65, go_sem, cH_0, cH_1, cH_2, cH_3, cH_4, cH_5, cH_6, cH_7]) rfl ?_
  refine ⟨⟨⟨A0, k0⟩, a1, a2⟩, rfl, ⟨?_, ?_, ?_, ?_⟩, ?_⟩
  · refine New.mono (base := w.heap.size + 1 + 1 + 1) ?_ (by omega)
    repeat (first | (with_reducible exact N0) | (with_reducible refine New.low ?_ (by first | (simp; done) | (simp; omega) | omega) _) | (with_reducible refine New.below ?_ (by assumption) (Nat.le_refl _)))
  · refine RegionNew.mono (base := w.heap.size + 1 + 1 + 1) ?_ (by omega)
    repeat (first | (with_reducible exact N1) | (with_reducible refine RegionNew.low ?_ (by first | (simp; done) | (simp; omega) | omega) _) | (with_reducible refine RegionNew.below ?_ (by assumption) (Nat.le_refl _)))
  · refine RegionNew.mono (base := w.heap.size + 1 + 1 + 1) ?_ (by omega)
    repeat (first | (with_reducible exact N2) | (with_reducible refine RegionNew.low ?_ (by first | (simp; done) | (simp; omega) | omega) _) | (with_reducible refine RegionNew.below ?_ (by assumption) (Nat.le_refl _)))
  · simp only [List.pairwise_cons, List.mem_cons, List.not_mem_nil, or_false, forall_eq_or_imp, forall_eq, false_implies, implies_true, List.Pairwise.nil, and_true]
    exact ⟨⟨Blk.apart (K0) (K1) (by first | (simp; done) | (simp; omega) | omega), Blk.apart (K0) (K2) (by first | (simp; done) | (simp; omega) | omega)⟩, Blk.apart (K1) (K2) (by first | (simp; done) | (simp; omega) | omega)⟩
  · repeat (first | (with_reducible exact Below.refl _ _) | (with_reducible assumption) | (with_reducible refine below_al ?_ _) | (with_reducible refine Below.drew ?_) | (with_reducible refine below_drewN ?_ _) | (with_reducible refine below_st ?_ ?_ _) | (with_reducible refine below_tr ?_ (by assumption)) | (with_reducible exact Nat.le_refl _) | (focus (simp; done)) | (focus (simp; omega)))
set_option maxRecDepth 100000 in
set_option maxHeartbeats 1000000 in
theorem szTrack_c (x : Track) (a : TrackA) (left : Int) (w : World) (hn : List.length x.spots ≤ 9223372036854775807 ∧ List.length x.inputs ≤ 9223372036854775807) (h0 : 0 ≤ left) (h1 : left ≤ 1048576) :
    Calls Try.prog 22 #[trackV x a, .int .i64 left] w fun e w' => e = .returned (.int .i64 (if left - trackLen x < 0 then -1 else left - trackLen x)) ∧ Below w.heap.size w w' := by
  obtain ⟨hn0, hn1⟩ := hn
  have hlen : Hid (((trackLen x : Nat) : Int) = ((List.length x.spots : Nat) : Int) + ((List.length x.inputs : Nat) : Int)) := by show _ = _; simp only [trackLen]; (try omega)
  have p0 : (0 : Int) ≤ ((List.length x.spots : Nat) : Int) := by omega
  have p1 : (0 : Int) ≤ ((List.length x.inputs : Nat) : Int) := by omega
  by_cases c0 : left - ((List.length x.spots : Nat) : Int) < 0
  · skip
    have hfin : (if left - ((trackLen x : Nat) : Int) < 0 then (-1 : Int) else left - ((trackLen x : Nat) : Int)) = -1 := by have := hlen.out; rw [if_pos (by omega)]
    rw [hfin]
    clear hfin
    go_enter Try.func22, Try.ntmps22
    go_wp2_with (fail)
    refine (szSpotS_c a.spots.A (List.length x.spots) a.spots.c (left) _ hn0 (by omega) (by omega)).mono ?_
    rw [if_pos (by omega)]
    rintro e w' ⟨rfl, rfl⟩
    go_wp2
    go_ret
    refine ⟨rfl, ?_⟩
    repeat (first | (with_reducible exact Below.refl _ _) | (with_reducible assumption) | (with_reducible refine below_al ?_ _) | (with_reducible refine Below.drew ?_) | (with_reducible refine below_drewN ?_ _) | (with_reducible refine below_st ?_ ?_ _) | (with_reducible refine below_tr ?_ (by assumption)) | (with_reducible exact Nat.le_refl _) | (focus (simp; done)) | (focus (simp; omega)))
  · skip
    by_cases c1 : left - ((List.length x.spots : Nat) : Int) - ((List.length x.inputs : Nat) : Int) < 0
    · skip
      have hfin : (if left - ((trackLen x : Nat) : Int) < 0 then (-1 : Int) else left - ((trackLen x : Nat) : Int)) = -1 := by have := hlen.out; rw [if_pos (by omega)]
      rw [hfin]
      clear hfin
      go_enter Try.func22, Try.ntmps22
      go_wp2_with (fail)
      refine (szSpotS_c a.spots.A (List.length x.spots) a.spots.c (left) _ hn0 (by omega) (by omega)).mono ?_
      rw [if_neg (by omega)]
      rintro e w' ⟨rfl, rfl⟩
      go_wp2_with (fail)
      refine (szRatioS_c a.inputs.A (List.length x.inputs) a.inputs.c (left - ((List.length x.spots : Nat) : Int)) _ hn1 (by omega) (by omega)).mono ?_
      rw [if_pos (by omega)]
      rintro e w' ⟨rfl, rfl⟩
      go_wp2
      go_ret
      refine ⟨rfl, ?_⟩
      repeat (first | (with_reducible exact Below.refl _ _) | (with_reducible assumption) | (with_reducible refine below_al ?_ _) | (with_reducible refine Below.drew ?_) | (with_reducible refine below_drewN ?_ _) | (with_reducible refine below_st ?_ ?_ _) | (with_reducible refine below_tr ?_ (by assumption)) | (with_reducible exact Nat.le_refl _) | (focus (simp; done)) | (focus (simp; omega)))
    · skip
      have hfin : (if left - ((trackLen x : Nat) : Int) < 0 then (-1 : Int) else left - ((trackLen x : Nat) : Int)) = left - ((List.length x.spots : Nat) : Int) - ((List.length x.inputs : Nat) : Int) := by have := hlen.out; (rw [if_neg (by omega)]; omega)
      rw [hfin]
      clear hfin
      go_enter Try.func22, Try.ntmps22
      go_wp2_with (fail)
      refine (szSpotS_c a.spots.A (List.length x.spots) a.spots.c (left) _ hn0 (by omega) (by omega)).mono ?_
      rw [if_neg (by omega)]
      rintro e w' ⟨rfl, rfl⟩
      go_wp2_with (fail)
      refine (szRatioS_c a.inputs.A (List.length x.inputs) a.inputs.c (left - ((List.length x.spots : Nat) : Int)) _ hn1 (by omega) (by omega)).mono ?_
      rw [if_neg (by omega)]
      rintro e w' ⟨rfl, rfl⟩
      go_wp2
      go_ret
      refine ⟨rfl, ?_⟩
      repeat (first | (with_reducible exact Below.refl _ _) | (with_reducible assumption) | (with_reducible refine below_al ?_ _) | (with_reducible refine Below.drew ?_) | (with_reducible refine below_drewN ?_ _) | (with_reducible refine below_st ?_ ?_ _) | (with_reducible refine below_tr ?_ (by assumption)) | (with_reducible exact Nat.le_refl _) | (focus (simp; done)) | (focus (simp; omega)))
set_option maxRecDepth 100000 in
set_option maxHeartbeats 1000000 in
theorem eqTrack_t (x : Track) (a b : TrackA) (w : World) (hn : trackLen x ≤ 1048576) (ha : TrackSl w x a) (hb : TrackSl w x b) :
    Calls Try.prog 27 #[trackV x a, trackV x b] w fun e w' => e = .returned (.bool true) ∧ Below w.heap.size w w' := by
  simp only [trackLen] at hn
  go_enter Try.func27, Try.ntmps27
  go_wp2_with (fail)
  refine (eqSpotS_t a.spots.A b.spots.A x.spots _ _ _ (by omega) (Sl.below ha.spots (by (repeat (first | (with_reducible exact Below.refl _ _) | (with_reducible assumption) | (with_reducible refine below_al ?_ _) | (with_reducible refine Below.drew ?_) | (with_reducible refine below_drewN ?_ _) | (with_reducible refine below_st ?_ ?_ _) | (with_reducible refine below_tr ?_ (by assumption)) | (with_reducible exact Nat.le_refl _) | (focus (simp; done)) | (focus (simp; omega)))))) (Sl.below hb.spots (by (repeat (first | (with_reducible exact Below.refl _ _) | (with_reducible assumption) | (with_reducible refine below_al ?_ _) | (with_reducible refine Below.drew ?_) | (with_reducible refine below_drewN ?_ _) | (with_reducible refine below_st ?_ ?_ _) | (with_reducible refine below_tr ?_ (by assumption)) | (with_reducible exact Nat.le_refl _) | (focus (simp; done)) | (focus (simp; omega))))))).mono ?_
  rintro e w0 ⟨rfl, hb0⟩
  have r0 := bcell1 hb0
  have l0 : w.heap.size < w0.heap.size := blt hb0 (by first | (simp; done) | (simp; omega) | omega)
  have m0 : w.heap.size + 1 < w0.heap.size := blt hb0 (by first | (simp; done) | (simp; omega) | omega)
  go_wp2_with (fail)
  refine (eqRatioS_t a.inputs.A b.inputs.A x.inputs _ _ _ (by omega) (Sl.below ha.inputs (by (repeat (first | (with_reducible exact Below.refl _ _) | (with_reducible assumption) | (with_reducible refine below_al ?_ _) | (with_reducible refine Below.drew ?_) | (with_reducible refine below_drewN ?_ _) | (with_reducible refine below_st ?_ ?_ _) | (with_reducible refine below_tr ?_ (by assumption)) | (with_reducible exact Nat.le_refl _) | (focus (simp; done)) | (focus (simp; omega)))))) (Sl.below hb.inputs (by (repeat (first | (with_reducible exact Below.refl _ _) | (with_reducible assumption) | (with_reducible refine below_al ?_ _) | (with_reducible refine Below.drew ?_) | (with_reducible refine below_drewN ?_ _) | (with_reducible refine below_st ?_ ?_ _) | (with_reducible refine below_tr ?_ (by assumption)) | (with_reducible exact Nat.le_refl _) | (focus (simp; done)) | (focus (simp; omega))))))).mono ?_
  rintro e w1 ⟨rfl, hb1⟩
  have r1 := bcell1 hb1
  have l1 : w.heap.size < w1.heap.size := blt hb1 (by first | (simp; done) | (simp; omega) | omega)
  have m1 : w.heap.size + 1 < w1.heap.size := blt hb1 (by first | (simp; done) | (simp; omega) | omega)
  go_wp2
  go_ret
  refine ⟨rfl, ?_⟩
  repeat (first | (with_reducible exact Below.refl _ _) | (with_reducible assumption) | (with_reducible refine below_al ?_ _) | (with_reducible refine Below.drew ?_) | (with_reducible refine below_drewN ?_ _) | (with_reducible refine below_st ?_ ?_ _) | (with_reducible refine below_tr ?_ (by assumption)) | (with_reducible exact Nat.le_refl _) | (focus (simp; done)) | (focus (simp; omega)))
set_option maxRecDepth 100000 in
set_option maxHeartbeats 2000000 in
theorem toTrack_c (x : Track) (a : TrackA) (w : World) (hn : trackLen x ≤ 1048576) (hs : TrackSl w x a) :
    Calls Try.prog 24 #[trackV x a] w fun e w' => ∃ a', e = .returned (trackV x a') ∧ TrackNew w' w.heap.size x a' ∧ Below w.heap.size w w' := by
  simp only [trackLen] at hn
  go_enter Try.func24, Try.ntmps24
  go_wp2_with (fail)
  refine (toSpotS_c a.spots.A x.spots _ _ (by omega) (Sl.below hs.spots (by (repeat (first | (with_reducible exact Below.refl _ _) | (with_reducible assumption) | (with_reducible refine below_al ?_ _) | (with_reducible refine Below.drew ?_) | (with_reducible refine below_drewN ?_ _) | (with_reducible refine below_st ?_ ?_ _) | (with_reducible refine below_tr ?_ (by assumption)) | (with_reducible exact Nat.le_refl _) | (focus (simp; done)) | (focus (simp; omega))))))).mono ?_
  rintro e w0 ⟨v0, rfl, N0, hb0⟩
  obtain ⟨A0, k0, rfl, ho0⟩ := N0
  have N0 : New 65 3 spotC w0 _ (.slice A0 (List.length x.spots) k0) x.spots := ⟨A0, k0, rfl, ho0⟩
  clear ho0
  have K0 := N0.blk
  replace N0 := N0.mono (base' := w.heap.size + 1 + 1 + 1) (by first | (simp; done) | (simp; omega) | omega)
  have r0 := bcell1 hb0
  have f0 := (bcell hb0).2
  have l0 : w.heap.size < w0.heap.size := blt hb0 (by first | (simp; done) | (simp; omega) | omega)
  have m0 : w.heap.size + 1 < w0.heap.size := blt hb0 (by first | (simp; done) | (simp; omega) | omega)
  have n0 : w.heap.size + 1 + 1 < w0.heap.size := blt hb0 (by first | (simp; done) | (simp; omega) | omega)
  go_wp2_with (fail)
  refine (toRatioS_c a.inputs.A x.inputs _ _ (by omega) (Sl.below hs.inputs (by (repeat (first | (with_reducible exact Below.refl _ _) | (with_reducible assumption) | (with_reducible refine below_al ?_ _) | (with_reducible refine Below.drew ?_) | (with_reducible refine below_drewN ?_ _) | (with_reducible refine below_st ?_ ?_ _) | (with_reducible refine below_tr ?_ (by assumption)) | (with_reducible exact Nat.le_refl _) | (focus (simp; done)) | (focus (simp; omega))))))).mono ?_
  rintro e w1 ⟨v1, rfl, N1, hb1⟩
  obtain ⟨A1, k1, rfl, ho1⟩ := N1
  have N1 : New 41 2 ratioC w1 _ (.slice A1 (List.length x.inputs) k1) x.inputs := ⟨A1, k1, rfl, ho1⟩
  clear ho1
  have K1 := N1.blk
  replace N1 := N1.mono (base' := w.heap.size + 1 + 1 + 1) (by first | (simp; done) | (simp; omega) | omega)
  have r1 := bcell1 hb1
  have f1 := (bcell hb1).2
  have s1 : w0.heap.size ≤ w1.heap.size := by simpa using hb1.size
  have l1 : w.heap.size < w1.heap.size := blt hb1 (by first | (simp; done) | (simp; omega) | omega)
  have m1 : w.heap.size + 1 < w1.heap.size := blt hb1 (by first | (simp; done) | (simp; omega) | omega)
  have n1 : w.heap.size + 1 + 1 < w1.heap.size := blt hb1 (by first | (simp; done) | (simp; omega) | omega)
  have H : Has w1 (w.heap.size + 1) [.slice none 0 0, .slice none 0 0] := by
    repeat (first | ((with_reducible refine Has.new_at ?_ _ _ rfl); (first | rfl | (focus (simp; done)))) | (with_reducible refine Has.set_ ?_ ?_ _) | (with_reducible refine Has.alloc ?_ _) | (with_reducible refine Has.below ?_ (by assumption)) | (focus (simp; done)) | (focus (simp; omega)))
  obtain ⟨cH_0, fH_0⟩ := H.2 0 _ rfl
  obtain ⟨cH_1, fH_1⟩ := H.2 1 _ rfl
  go_wp2
  refine bodyPost_ret (v := trackV x ⟨⟨A0, k0⟩, ⟨A1, k1⟩⟩) (by simp [results, Try.results24, go_sem, cH_0, cH_1]) rfl ?_
  refine ⟨⟨⟨A0, k0⟩, ⟨A1, k1⟩⟩, rfl, ⟨?_, ?_, ?_⟩, ?_⟩
  · refine New.mono (base := w.heap.size + 1 + 1 + 1) ?_ (by omega)
    repeat (first | (with_reducible exact N0) | (with_reducible refine New.low ?_ (by first | (simp; done) | (simp; omega) | omega) _) | (with_reducible refine New.below ?_ (by assumption) (Nat.le_refl _)))
  · refine New.mono (base := w.heap.size + 1 + 1 + 1) ?_ (by omega)
    repeat (first | (with_reducible exact N1) | (with_reducible refine New.low ?_ (by first | (simp; done) | (simp; omega) | omega) _) | (with_reducible refine New.below ?_ (by assumption) (Nat.le_refl _)))
  · simp only [List.pairwise_cons, List.mem_cons, List.not_mem_nil, or_false, forall_eq, false_implies, implies_true, List.Pairwise.nil, and_true]
    exact Blk.apart (K0) (K1) (by first | (simp; done) | (simp; omega) | omega)
  · repeat (first | (with_reducible exact Below.refl _ _) | (with_reducible assumption) | (with_reducible refine below_al ?_ _) | (with_reducible refine Below.drew ?_) | (with_reducible refine below_drewN ?_ _) | (with_reducible refine below_st ?_ ?_ _) | (with_reducible refine below_tr ?_ (by assumption)) | (with_reducible exact Nat.le_refl _) | (focus (simp; done)) | (focus (simp; omega)))
set_option maxRecDepth 100000 in
set_option maxHeartbeats 1000000 in
theorem szLaw_c (x : Law) (a : LawA) (left : Int) (w : World) (hn : List.length x.lows ≤ 9223372036854775807 ∧ List.length x.highs ≤ 9223372036854775807) (h0 : 0 ≤ left) (h1 : left ≤ 1048576) :
    Calls Try.prog 28 #[lawV x a, .int .i64 left] w fun e w' => e = .returned (.int .i64 (if left - lawLen x < 0 then -1 else left - lawLen x)) ∧ Below w.heap.size w w' := by
  obtain ⟨hn0, hn1⟩ := hn
  have hlen : Hid (((lawLen x : Nat) : Int) = ((List.length x.lows : Nat) : Int) + ((List.length x.highs : Nat) : Int)) := by show _ = _; simp only [lawLen]; (try omega)
  have p0 : (0 : Int) ≤ ((List.length x.lows : Nat) : Int) := by omega
  have p1 : (0 : Int) ≤ ((List.length x.highs : Nat) : Int) := by omega
  by_cases c0 : left - ((List.length x.lows : Nat) : Int) < 0
  · skip
    have hfin : (if left - ((lawLen x : Nat) : Int) < 0 then (-1 : Int) else left - ((lawLen x : Nat) : Int)) = -1 := by have := hlen.out; rw [if_pos (by omega)]
    rw [hfin]
    clear hfin
    go_enter Try.func28, Try.ntmps28
    go_wp2_with (fail)
    refine (szPieceS_c a.lows.A (List.length x.lows) a.lows.c (left) _ hn0 (by omega) (by omega)).mono ?_
    rw [if_pos (by omega)]
    rintro e w' ⟨rfl, rfl⟩
    go_wp2
    go_ret
    refine ⟨rfl, ?_⟩
    repeat (first | (with_reducible exact Below.refl _ _) | (with_reducible assumption) | (with_reducible refine below_al ?_ _) | (with_reducible refine Below.drew ?_) | (with_reducible refine below_drewN ?_ _) | (with_reducible refine below_st ?_ ?_ _) | (with_reducible refine below_tr ?_ (by assumption)) | (with_reducible exact Nat.le_refl _) | (focus (simp; done)) | (focus (simp; omega)))
  · skip
    by_cases c1 : left - ((List.length x.lows : Nat) : Int) - ((List.length x.highs : Nat) : Int) < 0
    · skip
      have hfin : (if left - ((lawLen x : Nat) : Int) < 0 then (-1 : Int) else left - ((lawLen x : Nat) : Int)) = -1 := by have := hlen.out; rw [if_pos (by omega)]
      rw [hfin]
      clear hfin
      go_enter Try.func28, Try.ntmps28
      go_wp2_with (fail)
      refine (szPieceS_c a.lows.A (List.length x.lows) a.lows.c (left) _ hn0 (by omega) (by omega)).mono ?_
      rw [if_neg (by omega)]
      rintro e w' ⟨rfl, rfl⟩
      go_wp2_with (fail)
      refine (szPieceS_c a.highs.A (List.length x.highs) a.highs.c (left - ((List.length x.lows : Nat) : Int)) _ hn1 (by omega) (by omega)).mono ?_
      rw [if_pos (by omega)]
      rintro e w' ⟨rfl, rfl⟩
      go_wp2
      go_ret
      refine ⟨rfl, ?_⟩
      repeat (first | (with_reducible exact Below.refl _ _) | (with_reducible assumption) | (with_reducible refine below_al ?_ _) | (with_reducible refine Below.drew ?_) | (with_reducible refine below_drewN ?_ _) | (with_reducible refine below_st ?_ ?_ _) | (with_reducible refine below_tr ?_ (by assumption)) | (with_reducible exact Nat.le_refl _) | (focus (simp; done)) | (focus (simp; omega)))
    · skip
      have hfin : (if left - ((lawLen x : Nat) : Int) < 0 then (-1 : Int) else left - ((lawLen x : Nat) : Int)) = left - ((List.length x.lows : Nat) : Int) - ((List.length x.highs : Nat) : Int) := by have := hlen.out; (rw [if_neg (by omega)]; omega)
      rw [hfin]
      clear hfin
      go_enter Try.func28, Try.ntmps28
      go_wp2_with (fail)
      refine (szPieceS_c a.lows.A (List.length x.lows) a.lows.c (left) _ hn0 (by omega) (by omega)).mono ?_
      rw [if_neg (by omega)]
      rintro e w' ⟨rfl, rfl⟩
      go_wp2_with (fail)
      refine (szPieceS_c a.highs.A (List.length x.highs) a.highs.c (left - ((List.length x.lows : Nat) : Int)) _ hn1 (by omega) (by omega)).mono ?_
      rw [if_neg (by omega)]
      rintro e w' ⟨rfl, rfl⟩
      go_wp2
      go_ret
      refine ⟨rfl, ?_⟩
      repeat (first | (with_reducible exact Below.refl _ _) | (with_reducible assumption) | (with_reducible refine below_al ?_ _) | (with_reducible refine Below.drew ?_) | (with_reducible refine below_drewN ?_ _) | (with_reducible refine below_st ?_ ?_ _) | (with_reducible refine below_tr ?_ (by assumption)) | (with_reducible exact Nat.le_refl _) | (focus (simp; done)) | (focus (simp; omega)))
set_option maxRecDepth 100000 in
set_option maxHeartbeats 1000000 in
theorem eqLaw_t (x : Law) (a b : LawA) (w : World) (hn : lawLen x ≤ 1048576) (ha : LawSl w x a) (hb : LawSl w x b) :
    Calls Try.prog 34 #[lawV x a, lawV x b] w fun e w' => e = .returned (.bool true) ∧ Below w.heap.size w w' := by
  simp only [lawLen] at hn
  go_enter Try.func34, Try.ntmps34
  go_wp2_with (fail)
  refine (eqPieceS_t a.lows.A b.lows.A x.lows _ _ _ (by omega) (Sl.below ha.lows (by (repeat (first | (with_reducible exact Below.refl _ _) | (with_reducible assumption) | (with_reducible refine below_al ?_ _) | (with_reducible refine Below.drew ?_) | (with_reducible refine below_drewN ?_ _) | (with_reducible refine below_st ?_ ?_ _) | (with_reducible refine below_tr ?_ (by assumption)) | (with_reducible exact Nat.le_refl _) | (focus (simp; done)) | (focus (simp; omega)))))) (Sl.below hb.lows (by (repeat (first | (with_reducible exact Below.refl _ _) | (with_reducible assumption) | (with_reducible refine below_al ?_ _) | (with_reducible refine Below.drew ?_) | (with_reducible refine below_drewN ?_ _) | (with_reducible refine below_st ?_ ?_ _) | (with_reducible refine below_tr ?_ (by assumption)) | (with_reducible exact Nat.le_refl _) | (focus (simp; done)) | (focus (simp; omega))))))).mono ?_
  rintro e w0 ⟨rfl, hb0⟩
  have r0 := bcell1 hb0
  have l0 : w.heap.size < w0.heap.size := blt hb0 (by first | (simp; done) | (simp; omega) | omega)
  have m0 : w.heap.size + 1 < w0.heap.size := blt hb0 (by first | (simp; done) | (simp; omega) | omega)
  go_wp2_with (fail)
  refine (eqPieceS_t a.highs.A b.highs.A x.highs _ _ _ (by omega) (Sl.below ha.highs (by (repeat (first | (with_reducible exact Below.refl _ _) | (with_reducible assumption) | (with_reducible refine below_al ?_ _) | (with_reducible refine Below.drew ?_) | (with_reducible refine below_drewN ?_ _) | (with_reducible refine below_st ?_ ?_ _) | (with_reducible refine below_tr ?_ (by assumption)) | (with_reducible exact Nat.le_refl _) | (focus (simp; done)) | (focus (simp; omega)))))) (Sl.below hb.highs (by (repeat (first | (with_reducible exact Below.refl _ _) | (with_reducible assumption) | (with_reducible refine below_al ?_ _) | (with_reducible refine Below.drew ?_) | (with_reducible refine below_drewN ?_ _) | (with_reducible refine below_st ?_ ?_ _) | (with_reducible refine below_tr ?_ (by assumption)) | (with_reducible exact Nat.le_refl _) | (focus (simp; done)) | (focus (simp; omega))))))).mono ?_
  rintro e w1 ⟨rfl, hb1⟩
  have r1 := bcell1 hb1
  have l1 : w.heap.size < w1.heap.size := blt hb1 (by first | (simp; done) | (simp; omega) | omega)
  have m1 : w.heap.size + 1 < w1.heap.size := blt hb1 (by first | (simp; done) | (simp; omega) | omega)
  go_wp2
  go_ret
  refine ⟨rfl, ?_⟩
  repeat (first | (with_reducible exact Below.refl _ _) | (with_reducible assumption) | (with_reducible refine below_al ?_ _) | (with_reducible refine Below.drew ?_) | (with_reducible refine below_drewN ?_ _) | (with_reducible refine below_st ?_ ?_ _) | (with_reducible refine below_tr ?_ (by assumption)) | (with_reducible exact Nat.le_refl _) | (focus (simp; done)) | (focus (simp; omega)))
set_option maxRecDepth 100000 in
set_option maxHeartbeats 2000000 in
theorem toLaw_c (x : Law) (a : LawA) (w : World) (hn : lawLen x ≤ 1048576) (hs : LawSl w x a) :
    Calls Try.prog 30 #[lawV x a] w fun e w' => ∃ a', e = .returned (lawV x a') ∧ LawNew w' w.heap.size x a' ∧ Below w.heap.size w w' := by
  simp only [lawLen] at hn
  go_enter Try.func30, Try.ntmps30
  go_wp2_with (fail)
  refine (toPieceS_c a.lows.A x.lows _ _ (by omega) (Sl.below hs.lows (by (repeat (first | (with_reducible exact Below.refl _ _) | (with_reducible assumption) | (with_reducible refine below_al ?_ _) | (with_reducible refine Below.drew ?_) | (with_reducible refine below_drewN ?_ _) | (with_reducible refine below_st ?_ ?_ _) | (with_reducible refine below_tr ?_ (by assumption)) | (with_reducible exact Nat.le_refl _) | (focus (simp; done)) | (focus (simp; omega))))))).mono ?_
  rintro e w0 ⟨v0, rfl, N0, hb0⟩
  obtain ⟨A0, k0, rfl, ho0⟩ := N0
  have N0 : New 193 4 pieceC w0 _ (.slice A0 (List.length x.lows) k0) x.lows := ⟨A0, k0, rfl, ho0⟩
  clear ho0
  have K0 := N0.blk
  replace N0 := N0.mono (base' := w.heap.size + 1 + 1 + 1) (by first | (simp; done) | (simp; omega) | omega)
  have r0 := bcell1 hb0
  have f0 := (bcell hb0).2
  have l0 : w.heap.size < w0.heap.size := blt hb0 (by first | (simp; done) | (simp; omega) | omega)
  have m0 : w.heap.size + 1 < w0.heap.size := blt hb0 (by first | (simp; done) | (simp; omega) | omega)
  have n0 : w.heap.size + 1 + 1 < w0.heap.size := blt hb0 (by first | (simp; done) | (simp; omega) | omega)
  go_wp2_with (fail)
  refine (toPieceS_c a.highs.A x.highs _ _ (by omega) (Sl.below hs.highs (by (repeat (first | (with_reducible exact Below.refl _ _) | (with_reducible assumption) | (with_reducible refine below_al ?_ _) | (with_reducible refine Below.drew ?_) | (with_reducible refine below_drewN ?_ _) | (with_reducible refine below_st ?_ ?_ _) | (with_reducible refine below_tr ?_ (by assumption)) | (with_reducible exact Nat.le_refl _) | (focus (simp; done)) | (focus (simp; omega))))))).mono ?_
  rintro e w1 ⟨v1, rfl, N1, hb1⟩
  obtain ⟨A1, k1, rfl, ho1⟩ := N1
  have N1 : New 193 4 pieceC w1 _ (.slice A1 (List.length x.highs) k1) x.highs := ⟨A1, k1, rfl, ho1⟩
  clear ho1
  have K1 := N1.blk
  replace N1 := N1.mono (base' := w.heap.size + 1 + 1 + 1) (by first | (simp; done) | (simp; omega) | omega)
  have r1 := bcell1 hb1
  have f1 := (bcell hb1).2
  have s1 : w0.heap.size ≤ w1.heap.size := by simpa using hb1.size
  have l1 : w.heap.size < w1.heap.size := blt hb1 (by first | (simp; done) | (simp; omega) | omega)
  have m1 : w.heap.size + 1 < w1.heap.size := blt hb1 (by first | (simp; done) | (simp; omega) | omega)
  have n1 : w.heap.size + 1 + 1 < w1.heap.size := blt hb1 (by first | (simp; done) | (simp; omega) | omega)
  have H : Has w1 (w.heap.size + 1) [.slice none 0 0, .slice none 0 0] := by
    repeat (first | ((with_reducible refine Has.new_at ?_ _ _ rfl); (first | rfl | (focus (simp; done)))) | (with_reducible refine Has.set_ ?_ ?_ _) | (with_reducible refine Has.alloc ?_ _) | (with_reducible refine Has.below ?_ (by assumption)) | (focus (simp; done)) | (focus (simp; omega)))
  obtain ⟨cH_0, fH_0⟩ := H.2 0 _ rfl
  obtain ⟨cH_1, fH_1⟩ := H.2 1 _ rfl
  go_wp2
  refine bodyPost_ret (v := lawV x ⟨⟨A0, k0⟩, ⟨A1, k1⟩⟩) (by simp [results, Try.results30, go_sem, cH_0, cH_1]) rfl ?_
  refine ⟨⟨⟨A0, k0⟩, ⟨A1, k1⟩⟩, rfl, ⟨?_, ?_, ?_⟩, ?_⟩
  · refine New.mono (base := w.heap.size + 1 + 1 + 1) ?_ (by omega)
    repeat (first | (with_reducible exact N0) | (with_reducible refine New.low ?_ (by first | (simp; done) | (simp; omega) | omega) _) | (with_reducible refine New.below ?_ (by assumption) (Nat.le_refl _)))
  · refine New.mono (base := w.heap.size + 1 + 1 + 1) ?_ (by omega)
    repeat (first | (with_reducible exact N1) | (with_reducible refine New.low ?_ (by first | (simp; done) | (simp; omega) | omega) _) | (with_reducible refine New.below ?_ (by assumption) (Nat.le_refl _)))
  · simp only [List.pairwise_cons, List.mem_cons, List.not_mem_nil, or_false, forall_eq, false_implies, implies_true, List.Pairwise.nil, and_true]
    exact Blk.apart (K0) (K1) (by first | (simp; done) | (simp; omega) | omega)
  · repeat (first | (with_reducible exact Below.refl _ _) | (with_reducible assumption) | (with_reducible refine below_al ?_ _) | (with_reducible refine Below.drew ?_) | (with_reducible refine below_drewN ?_ _) | (with_reducible refine below_st ?_ ?_ _) | (with_reducible refine below_tr ?_ (by assumption)) | (with_reducible exact Nat.le_refl _) | (focus (simp; done)) | (focus (simp; omega)))
end Go.Proofs.Ytbdihgcjopbnjaa
