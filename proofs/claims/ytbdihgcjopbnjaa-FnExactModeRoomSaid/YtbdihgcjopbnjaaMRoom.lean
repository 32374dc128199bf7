/-
  A room in a mode: of the program and of the reference.
  Conditions: the slices hold at most 2^20 elements.
-/
import Derived.Test.YtbdihgcjopbnjaaCopy
import Derived.Test.YtbdihgcjopbnjaaModes
import Derived.RegionTactic
import Derived.ChangeAlike
import Derived.Test.YtbdihgcjopbnjaaGrP
import Derived.Deep.DeepCutAuto
import Derived.Deep.RegionHeld3
namespace Go.Proofs.Ytbdihgcjopbnjaa
open Go.RowKit

def setR (x : Room) (lo hi : Int) : Room := ⟨x.map, x.div, x.bx, x.by_, lo, hi, x.noise, x.limits⟩
def room0 : Room := ⟨[], 0, 0, 0, 0, 0, [], []⟩
def modeRoomOk (x : Room) (m : Mode) : Bool := modesOk x [m]
def modeRoom (x : Room) (m : Mode) : Room := if modeRoomOk x m = true then setR x m.low m.high else room0
theorem modeRoom_le (x : Room) (m : Mode) (h : roomLen x ≤ 1048576) : roomLen (modeRoom x m) ≤ 1048576 := by
  unfold modeRoom
  split
  · exact h
  · decide
theorem roomOk_map {x : Room} (h : roomOk x = true) : x.map.length = 4 := by
  simp only [roomOk, turnOk, Bool.and_eq_true] at h
  obtain ⟨m0, m1, m2, m3, e, _⟩ := map_four (by first | exact h.1.1.1.1.1.1.1.1 | exact h.1.1.1.1.1.1.1 | exact h.1.1.1.1.1.1 | exact h.1.1.1.1.1 | exact h.1.1.1.1 | exact h.1.1.1 | exact h.1.1)
  rw [e]; rfl
theorem modes_map {x : Room} {ms : List Mode} (h : modesOk x ms = true) : x.map.length = 4 := by
  simp only [modesOk, Bool.and_eq_true] at h
  exact roomOk_map h.2
theorem Sl.some_ {α : Type} {sz c : Nat} {enc : α → List Value} {w : World} {A : Option Addr} {xs : List α} (h : Sl sz enc w A xs) (h0 : 0 < xs.length) : A = none → c = 0 := by
  intro e
  obtain ⟨b, off, e', _⟩ := h h0
  rw [e] at e'; cases e'
theorem setCell_other_heap (w : World) (p : Addr) (g : Nat) (u : Value) (h : p.block ≠ g) : (w.setCell p u).heap[g]? = w.heap[g]? := heap_setCell_other w p g u (fun e => h (by first | exact e | exact e.symm))
theorem New.ne1 {α : Type} {T sz base n c : Nat} {enc : α → List Value} {w : World} {A : Option Addr} {xs : List α} (h : New T sz enc w base (.slice A n c) xs) {p : Addr} (hp : ∀ q, A = some q → q.block ≠ p.block) (u : Value) : New T sz enc (w.setCell p u) base (.slice A n c) xs := by
  obtain ⟨A', c', e, h1, h2⟩ := h
  refine ⟨A', c', e, h1, ?_⟩
  rcases h2 with h2 | ⟨g, cap', cur, hv, hg, hh, r⟩
  · exact .inl h2
  · refine .inr ⟨g, cap', cur, hv, hg, (setCell_other_heap w p g u (fun e2 => ?_)).trans hh, r⟩
    injection hv with hv _ _
    exact hp ⟨g, 0, none⟩ hv e2.symm
theorem RoomNew.ne1 {w : World} {base : Nat} {x : Room} {a : RoomA} (h : RoomNew w base x a) {p : Addr} (hp : ∀ c ∈ [a.map, a.noise, a.limits], ∀ q, c.A = some q → q.block ≠ p.block) (u : Value) : RoomNew (w.setCell p u) base x a :=
  ⟨h.map.ne1 (hp a.map (by simp)) u, ⟨h.noise.halves.ne1 (hp a.noise (by simp)) u⟩, ⟨h.limits.halves.ne1 (hp a.limits (by simp)) u⟩, h.apart⟩
theorem RoomNew.drew {w : World} {base : Nat} {x : Room} {a : RoomA} (h : RoomNew w base x a) : RoomNew w.drew base x a := ⟨h.map, ⟨h.noise.halves⟩, ⟨h.limits.halves⟩, h.apart⟩
theorem mode_sl {w : World} {g : Nat} {m : Mode} (h : Has w g [.int .i64 m.low, .int .i64 m.high]) : Sl 2 modeC w (some ⟨g, 0, none⟩) [m] := by
  intro _
  refine ⟨g, 0, rfl, h.1, fun i hi j u hu => ?_⟩
  obtain rfl : i = 0 := by simp at hi; omega
  have := h.2 j u hu
  simpa using this.1
set_option maxRecDepth 100000 in
set_option maxHeartbeats 2000000 in
theorem iInMode_c (x : Room) (a : RoomA) (m : Mode) (w : World) (hn : roomLen x ≤ 1048576) (hs : RoomSl w x a) :
    Calls Try.prog 150 #[roomV x a, modeV m] w fun e w' => ∃ b, e = .returned (roomV (setR x m.low m.high) b) ∧ RoomNew w' w.heap.size (setR x m.low m.high) b ∧ Below w.heap.size w w' := by
  have c1 := fun W h => iCopyRoom_c x a W hn h
  obtain ⟨W, hW⟩ : ∃ W, W = ((w.alloc (.cells #[.slice a.map.A (List.length x.map) a.map.c, .int .i64 x.div, .int .i64 x.bx, .int .i64 x.by_, .int .i64 x.low, .int .i64 x.high, .slice a.noise.A (List.length x.noise) a.noise.c, .slice a.limits.A (List.length x.limits) a.limits.c] 118)).alloc (.cells #[.int .i64 m.low, .int .i64 m.high] 130)).alloc (.cells #[.slice none 0 0, .int .i64 0, .int .i64 0, .int .i64 0, .int .i64 0, .int .i64 0, .slice none 0 0, .slice none 0 0] 118) := ⟨_, rfl⟩
  have HR : Has W (w.heap.size + 1 + 1) [.slice none 0 0, .int .i64 0, .int .i64 0, .int .i64 0, .int .i64 0, .int .i64 0, .slice none 0 0, .slice none 0 0] := by
    rw [hW]
    repeat (first | ((with_reducible refine Has.new_at ?_ _ _ rfl); (first | rfl | (focus (simp; done)))) | (with_reducible refine Has.set_ ?_ ?_ _) | (with_reducible refine Has.alloc ?_ _) | (with_reducible refine Has.below ?_ (by assumption)) | (focus (simp; done)) | (focus (simp; omega)))
  have HM : Has W (w.heap.size + 1) [.int .i64 m.low, .int .i64 m.high] := by
    rw [hW]
    repeat (first | ((with_reducible refine Has.new_at ?_ _ _ rfl); (first | rfl | (focus (simp; done)))) | (with_reducible refine Has.set_ ?_ ?_ _) | (with_reducible refine Has.alloc ?_ _) | (with_reducible refine Has.below ?_ (by assumption)) | (focus (simp; done)) | (focus (simp; omega)))
  have HB : Has W w.heap.size [.slice a.map.A (List.length x.map) a.map.c, .int .i64 x.div, .int .i64 x.bx, .int .i64 x.by_, .int .i64 x.low, .int .i64 x.high, .slice a.noise.A (List.length x.noise) a.noise.c, .slice a.limits.A (List.length x.limits) a.limits.c] := by
    rw [hW]
    repeat (first | ((with_reducible refine Has.new_at ?_ _ _ rfl); (first | rfl | (focus (simp; done)))) | (with_reducible refine Has.set_ ?_ ?_ _) | (with_reducible refine Has.alloc ?_ _) | (with_reducible refine Has.below ?_ (by assumption)) | (focus (simp; done)) | (focus (simp; omega)))
  have b0 : Below w.heap.size w W := by
    rw [hW]
    repeat (first | (with_reducible exact Below.refl _ _) | (with_reducible assumption) | (with_reducible refine below_al ?_ _) | (with_reducible refine Below.drew ?_) | (with_reducible refine below_drewN ?_ _) | (with_reducible refine below_st ?_ ?_ _) | (with_reducible refine below_tr ?_ (by assumption)) | (with_reducible exact Nat.le_refl _) | (focus (simp; done)) | (focus (simp; omega)))
  have hsz : W.heap.size = w.heap.size + 1 + 1 + 1 := by rw [hW]; simp
  have hlt : w.heap.size + 1 + 1 < W.heap.size := by omega
  have hlt1 : w.heap.size + 1 < W.heap.size := by omega
  have hlt2 : w.heap.size < W.heap.size := by omega
  have hW' := Lib.hid hW
  have hs0 := hs.below b0
  clear hW hsz hs
  go_enter Try.func150, Try.ntmps150
  go_upto_region 1 with fail
  rw [← hW'.out]
  clear hW'
  obtain ⟨cHB_0, fHB_0⟩ := HB.2 0 _ rfl
  obtain ⟨cHB_1, fHB_1⟩ := HB.2 1 _ rfl
  obtain ⟨cHB_2, fHB_2⟩ := HB.2 2 _ rfl
  obtain ⟨cHB_3, fHB_3⟩ := HB.2 3 _ rfl
  obtain ⟨cHB_4, fHB_4⟩ := HB.2 4 _ rfl
  obtain ⟨cHB_5, fHB_5⟩ := HB.2 5 _ rfl
  obtain ⟨cHB_6, fHB_6⟩ := HB.2 6 _ rfl
  obtain ⟨cHB_7, fHB_7⟩ := HB.2 7 _ rfl
  go_wp2_with (fail)
  refine (c1 _ hs0).mono ?_
  rintro e w1 ⟨b, rfl, N1, hb1⟩
  have HM1 := (HM.below hb1).alloc (.cells #[.slice b.map.A (List.length x.map) b.map.c, .int .i64 x.div, .int .i64 x.bx, .int .i64 x.by_, .int .i64 x.low, .int .i64 x.high, .slice b.noise.A (List.length x.noise) b.noise.c, .slice b.limits.A (List.length x.limits) b.limits.c] 118)
  have HR1 := (HR.below hb1).alloc (.cells #[.slice b.map.A (List.length x.map) b.map.c, .int .i64 x.div, .int .i64 x.bx, .int .i64 x.by_, .int .i64 x.low, .int .i64 x.high, .slice b.noise.A (List.length x.noise) b.noise.c, .slice b.limits.A (List.length x.limits) b.limits.c] 118)
  have b1 := below_al (below_tr b0 hb1) (.cells #[.slice b.map.A (List.length x.map) b.map.c, .int .i64 x.div, .int .i64 x.bx, .int .i64 x.by_, .int .i64 x.low, .int .i64 x.high, .slice b.noise.A (List.length x.noise) b.noise.c, .slice b.limits.A (List.length x.limits) b.limits.c] 118)
  have z1 := hb1.size
  have HT : Has (w1.alloc (.cells #[.slice b.map.A (List.length x.map) b.map.c, .int .i64 x.div, .int .i64 x.bx, .int .i64 x.by_, .int .i64 x.low, .int .i64 x.high, .slice b.noise.A (List.length x.noise) b.noise.c, .slice b.limits.A (List.length x.limits) b.limits.c] 118)) w1.heap.size [.slice b.map.A (List.length x.map) b.map.c, .int .i64 x.div, .int .i64 x.bx, .int .i64 x.by_, .int .i64 x.low, .int .i64 x.high, .slice b.noise.A (List.length x.noise) b.noise.c, .slice b.limits.A (List.length x.limits) b.limits.c] := Has.new _ _ _
  have N2 := N1.below (below_al (Below.refl _ _) (.cells #[.slice b.map.A (List.length x.map) b.map.c, .int .i64 x.div, .int .i64 x.bx, .int .i64 x.by_, .int .i64 x.low, .int .i64 x.high, .slice b.noise.A (List.length x.noise) b.noise.c, .slice b.limits.A (List.length x.limits) b.limits.c] 118)) (Nat.le_refl _)
  have BK := N1.blkL
  have lT : w1.heap.size < (w1.alloc (.cells #[.slice b.map.A (List.length x.map) b.map.c, .int .i64 x.div, .int .i64 x.bx, .int .i64 x.by_, .int .i64 x.low, .int .i64 x.high, .slice b.noise.A (List.length x.noise) b.noise.c, .slice b.limits.A (List.length x.limits) b.limits.c] 118)).heap.size := by simp
  clear N1 hb1 HB HM HR cHB_0 cHB_1 cHB_2 cHB_3 cHB_4 cHB_5 cHB_6 cHB_7 fHB_0 fHB_1 fHB_2 fHB_3 fHB_4 fHB_5 fHB_6 fHB_7 b0 hs0
  go_upto_region 2 with fail
  generalize w1.alloc (.cells #[.slice b.map.A (List.length x.map) b.map.c, .int .i64 x.div, .int .i64 x.bx, .int .i64 x.by_, .int .i64 x.low, .int .i64 x.high, .slice b.noise.A (List.length x.noise) b.noise.c, .slice b.limits.A (List.length x.limits) b.limits.c] 118) = w2 at *
  have lM := HM1.1
  have lR := HR1.1
  have hgb : w.heap.size + 1 + 1 < w1.heap.size := by omega
  have hne := BK.ne (g := w1.heap.size) (.inr (Nat.le_refl _))
  have hwW : w.heap.size ≤ W.heap.size := by omega
  generalize w1.heap.size = g at *
  clear z1 c1
  obtain ⟨cHM1_0, fHM1_0⟩ := HM1.2 0 _ rfl
  obtain ⟨cHM1_1, fHM1_1⟩ := HM1.2 1 _ rfl
  obtain ⟨cHT_0, fHT_0⟩ := HT.2 0 _ rfl
  obtain ⟨cHT_1, fHT_1⟩ := HT.2 1 _ rfl
  obtain ⟨cHT_2, fHT_2⟩ := HT.2 2 _ rfl
  obtain ⟨cHT_3, fHT_3⟩ := HT.2 3 _ rfl
  obtain ⟨cHT_4, fHT_4⟩ := HT.2 4 _ rfl
  obtain ⟨cHT_5, fHT_5⟩ := HT.2 5 _ rfl
  obtain ⟨cHT_6, fHT_6⟩ := HT.2 6 _ rfl
  obtain ⟨cHT_7, fHT_7⟩ := HT.2 7 _ rfl
  have K1 := HT.put 4 (by simp) (.int .i64 m.low)
  have HR2 := HR1.set_ (p := ⟨g, 4, none⟩) (by simp only; omega) (.int .i64 m.low)
  have K2 := K1.put 5 (by simp) (.int .i64 m.high)
  have HR3 := HR2.set_ (p := ⟨g, 5, none⟩) (by simp only; omega) (.int .i64 m.high)
  have b2 := (b1.setCell (p := ⟨g, 4, none⟩) (by simp only; omega) (.int .i64 m.low)).setCell (p := ⟨g, 5, none⟩) (by simp only; omega) (.int .i64 m.high)
  simp only [List.set_cons_succ, List.set_cons_zero] at K2
  have N3 := (N2.ne1 (p := ⟨g, 4, none⟩) hne (.int .i64 m.low)).ne1 (p := ⟨g, 5, none⟩) hne (.int .i64 m.high)
  clear K1 HR2 HR1 HM1 b1 N2 HT
  go_cut [5] (fun x5 wx => ∃ W', W' = wx ∧ x5 = .pointer (some ⟨g, 0, none⟩) ∧ wx = ((w2.setCell ⟨g, 4, none⟩ (.int .i64 m.low)).setCell ⟨g, 5, none⟩ (.int .i64 m.high)).drew)
  case first =>
    go_region
    all_goals
      go_wp2_with fail
      go_meet
      exact ⟨_, rfl, rfl, rfl⟩
  case rest =>
    obtain ⟨W', rfl, rfl, e⟩ := hcut
    have K3 : Has W' g [.slice b.map.A (List.length x.map) b.map.c, .int .i64 x.div, .int .i64 x.bx, .int .i64 x.by_, .int .i64 m.low, .int .i64 m.high, .slice b.noise.A (List.length x.noise) b.noise.c, .slice b.limits.A (List.length x.limits) b.limits.c] := by rw [e]; exact K2
    have R3 : Has W' (w.heap.size + 1 + 1) [.slice none 0 0, .int .i64 0, .int .i64 0, .int .i64 0, .int .i64 0, .int .i64 0, .slice none 0 0, .slice none 0 0] := by rw [e]; exact HR3
    have B3 : Below w.heap.size w W' := by rw [e]; exact b2.drew
    have N4 : RoomNew W' W.heap.size x b := by rw [e]; exact N3.drew
    clear e K2 HR3 b2 N3 cHM1_0 cHM1_1 cHT_0 cHT_1 cHT_2 cHT_3 cHT_4 cHT_5 cHT_6 cHT_7
    have lK := K3.1
    have lR3 := R3.1
    obtain ⟨cK3_0, fK3_0⟩ := K3.2 0 _ rfl
    obtain ⟨cK3_1, fK3_1⟩ := K3.2 1 _ rfl
    obtain ⟨cK3_2, fK3_2⟩ := K3.2 2 _ rfl
    obtain ⟨cK3_3, fK3_3⟩ := K3.2 3 _ rfl
    obtain ⟨cK3_4, fK3_4⟩ := K3.2 4 _ rfl
    obtain ⟨cK3_5, fK3_5⟩ := K3.2 5 _ rfl
    obtain ⟨cK3_6, fK3_6⟩ := K3.2 6 _ rfl
    obtain ⟨cK3_7, fK3_7⟩ := K3.2 7 _ rfl
    obtain ⟨cR3_0, fR3_0⟩ := R3.2 0 _ rfl
    obtain ⟨cR3_1, fR3_1⟩ := R3.2 1 _ rfl
    obtain ⟨cR3_2, fR3_2⟩ := R3.2 2 _ rfl
    obtain ⟨cR3_3, fR3_3⟩ := R3.2 3 _ rfl
    obtain ⟨cR3_4, fR3_4⟩ := R3.2 4 _ rfl
    obtain ⟨cR3_5, fR3_5⟩ := R3.2 5 _ rfl
    obtain ⟨cR3_6, fR3_6⟩ := R3.2 6 _ rfl
    obtain ⟨cR3_7, fR3_7⟩ := R3.2 7 _ rfl
    go_wp2
    refine bodyPost_ret (v := .agg #[.slice b.map.A (List.length x.map) b.map.c, .int .i64 x.div, .int .i64 x.bx, .int .i64 x.by_, .int .i64 m.low, .int .i64 m.high, .slice b.noise.A (List.length x.noise) b.noise.c, .slice b.limits.A (List.length x.limits) b.limits.c]) (by simp [results, Try.results150, go_sem, cR3_0, cR3_1, cR3_2, cR3_3, cR3_4, cR3_5, cR3_6, cR3_7]) rfl ⟨b, rfl, ⟨?_, ⟨?_⟩, ⟨?_⟩, N4.apart⟩, ?_⟩
    · exact (N4.map.lowC (q := ⟨w.heap.size + 1 + 1, 0, none⟩) (by simp only; omega) [_, _, _, _, _, _, _, _]).mono (by omega)
    · exact (N4.noise.halves.lowC (q := ⟨w.heap.size + 1 + 1, 0, none⟩) (by simp only; omega) [_, _, _, _, _, _, _, _]).mono (by omega)
    · exact (N4.limits.halves.lowC (q := ⟨w.heap.size + 1 + 1, 0, none⟩) (by simp only; omega) [_, _, _, _, _, _, _, _]).mono (by omega)
    · exact below_cells B3 (by omega) (o := 0) [_, _, _, _, _, _, _, _]
set_option maxRecDepth 100000 in
set_option maxHeartbeats 2000000 in
theorem sInMode_c (x : Room) (a : RoomA) (m : Mode) (w : World) (hn : roomLen x ≤ 1048576) (hs : RoomSl w x a) (hnl : RoomNil a) (hmn : a.map.A = none → a.map.c = 0) :
    Calls Try.prog 149 #[roomV x a, modeV m] w fun e w' => ∃ b, e = .returned (roomV (setR x m.low m.high) b) ∧ RoomNew w' w.heap.size (setR x m.low m.high) b ∧ Below w.heap.size w w' := by
  have c1 := fun W h => sCopyRoom_c x a W hn h hnl.noise hnl.limits hmn
  obtain ⟨W, hW⟩ : ∃ W, W = ((w.alloc (.cells #[.slice a.map.A (List.length x.map) a.map.c, .int .i64 x.div, .int .i64 x.bx, .int .i64 x.by_, .int .i64 x.low, .int .i64 x.high, .slice a.noise.A (List.length x.noise) a.noise.c, .slice a.limits.A (List.length x.limits) a.limits.c] 118)).alloc (.cells #[.int .i64 m.low, .int .i64 m.high] 130)).alloc (.cells #[.slice none 0 0, .int .i64 0, .int .i64 0, .int .i64 0, .int .i64 0, .int .i64 0, .slice none 0 0, .slice none 0 0] 118) := ⟨_, rfl⟩
  have HR : Has W (w.heap.size + 1 + 1) [.slice none 0 0, .int .i64 0, .int .i64 0, .int .i64 0, .int .i64 0, .int .i64 0, .slice none 0 0, .slice none 0 0] := by
    rw [hW]
    repeat (first | ((with_reducible refine Has.new_at ?_ _ _ rfl); (first | rfl | (focus (simp; done)))) | (with_reducible refine Has.set_ ?_ ?_ _) | (with_reducible refine Has.alloc ?_ _) | (with_reducible refine Has.below ?_ (by assumption)) | (focus (simp; done)) | (focus (simp; omega)))
  have HM : Has W (w.heap.size + 1) [.int .i64 m.low, .int .i64 m.high] := by
    rw [hW]
    repeat (first | ((with_reducible refine Has.new_at ?_ _ _ rfl); (first | rfl | (focus (simp; done)))) | (with_reducible refine Has.set_ ?_ ?_ _) | (with_reducible refine Has.alloc ?_ _) | (with_reducible refine Has.below ?_ (by assumption)) | (focus (simp; done)) | (focus (simp; omega)))
  have HB : Has W w.heap.size [.slice a.map.A (List.length x.map) a.map.c, .int .i64 x.div, .int .i64 x.bx, .int .i64 x.by_, .int .i64 x.low, .int .i64 x.high, .slice a.noise.A (List.length x.noise) a.noise.c, .slice a.limits.A (List.length x.limits) a.limits.c] := by
    rw [hW]
    repeat (first | ((with_reducible refine Has.new_at ?_ _ _ rfl); (first | rfl | (focus (simp; done)))) | (with_reducible refine Has.set_ ?_ ?_ _) | (with_reducible refine Has.alloc ?_ _) | (with_reducible refine Has.below ?_ (by assumption)) | (focus (simp; done)) | (focus (simp; omega)))
  have b0 : Below w.heap.size w W := by
    rw [hW]
    repeat (first | (with_reducible exact Below.refl _ _) | (with_reducible assumption) | (with_reducible refine below_al ?_ _) | (with_reducible refine Below.drew ?_) | (with_reducible refine below_drewN ?_ _) | (with_reducible refine below_st ?_ ?_ _) | (with_reducible refine below_tr ?_ (by assumption)) | (with_reducible exact Nat.le_refl _) | (focus (simp; done)) | (focus (simp; omega)))
  have hsz : W.heap.size = w.heap.size + 1 + 1 + 1 := by rw [hW]; simp
  have hlt : w.heap.size + 1 + 1 < W.heap.size := by omega
  have hlt1 : w.heap.size + 1 < W.heap.size := by omega
  have hlt2 : w.heap.size < W.heap.size := by omega
  have hW' := Lib.hid hW
  have hs0 := hs.below b0
  clear hW hsz hs
  go_enter Try.func149, Try.ntmps149
  go_upto_region 1 with fail
  rw [← hW'.out]
  clear hW'
  obtain ⟨cHB_0, fHB_0⟩ := HB.2 0 _ rfl
  obtain ⟨cHB_1, fHB_1⟩ := HB.2 1 _ rfl
  obtain ⟨cHB_2, fHB_2⟩ := HB.2 2 _ rfl
  obtain ⟨cHB_3, fHB_3⟩ := HB.2 3 _ rfl
  obtain ⟨cHB_4, fHB_4⟩ := HB.2 4 _ rfl
  obtain ⟨cHB_5, fHB_5⟩ := HB.2 5 _ rfl
  obtain ⟨cHB_6, fHB_6⟩ := HB.2 6 _ rfl
  obtain ⟨cHB_7, fHB_7⟩ := HB.2 7 _ rfl
  go_wp2_with (fail)
  refine (c1 _ hs0).mono ?_
  rintro e w1 ⟨b, rfl, N1, hb1⟩
  have HM1 := (HM.below hb1).alloc (.cells #[.slice b.map.A (List.length x.map) b.map.c, .int .i64 x.div, .int .i64 x.bx, .int .i64 x.by_, .int .i64 x.low, .int .i64 x.high, .slice b.noise.A (List.length x.noise) b.noise.c, .slice b.limits.A (List.length x.limits) b.limits.c] 118)
  have HR1 := (HR.below hb1).alloc (.cells #[.slice b.map.A (List.length x.map) b.map.c, .int .i64 x.div, .int .i64 x.bx, .int .i64 x.by_, .int .i64 x.low, .int .i64 x.high, .slice b.noise.A (List.length x.noise) b.noise.c, .slice b.limits.A (List.length x.limits) b.limits.c] 118)
  have b1 := below_al (below_tr b0 hb1) (.cells #[.slice b.map.A (List.length x.map) b.map.c, .int .i64 x.div, .int .i64 x.bx, .int .i64 x.by_, .int .i64 x.low, .int .i64 x.high, .slice b.noise.A (List.length x.noise) b.noise.c, .slice b.limits.A (List.length x.limits) b.limits.c] 118)
  have z1 := hb1.size
  have HT : Has (w1.alloc (.cells #[.slice b.map.A (List.length x.map) b.map.c, .int .i64 x.div, .int .i64 x.bx, .int .i64 x.by_, .int .i64 x.low, .int .i64 x.high, .slice b.noise.A (List.length x.noise) b.noise.c, .slice b.limits.A (List.length x.limits) b.limits.c] 118)) w1.heap.size [.slice b.map.A (List.length x.map) b.map.c, .int .i64 x.div, .int .i64 x.bx, .int .i64 x.by_, .int .i64 x.low, .int .i64 x.high, .slice b.noise.A (List.length x.noise) b.noise.c, .slice b.limits.A (List.length x.limits) b.limits.c] := Has.new _ _ _
  have N2 := N1.below (below_al (Below.refl _ _) (.cells #[.slice b.map.A (List.length x.map) b.map.c, .int .i64 x.div, .int .i64 x.bx, .int .i64 x.by_, .int .i64 x.low, .int .i64 x.high, .slice b.noise.A (List.length x.noise) b.noise.c, .slice b.limits.A (List.length x.limits) b.limits.c] 118)) (Nat.le_refl _)
  have BK := N1.blkL
  have lT : w1.heap.size < (w1.alloc (.cells #[.slice b.map.A (List.length x.map) b.map.c, .int .i64 x.div, .int .i64 x.bx, .int .i64 x.by_, .int .i64 x.low, .int .i64 x.high, .slice b.noise.A (List.length x.noise) b.noise.c, .slice b.limits.A (List.length x.limits) b.limits.c] 118)).heap.size := by simp
  clear N1 hb1 HB HM HR cHB_0 cHB_1 cHB_2 cHB_3 cHB_4 cHB_5 cHB_6 cHB_7 fHB_0 fHB_1 fHB_2 fHB_3 fHB_4 fHB_5 fHB_6 fHB_7 b0 hs0
  go_upto_region 2 with fail
  generalize w1.alloc (.cells #[.slice b.map.A (List.length x.map) b.map.c, .int .i64 x.div, .int .i64 x.bx, .int .i64 x.by_, .int .i64 x.low, .int .i64 x.high, .slice b.noise.A (List.length x.noise) b.noise.c, .slice b.limits.A (List.length x.limits) b.limits.c] 118) = w2 at *
  have lM := HM1.1
  have lR := HR1.1
  have hgb : w.heap.size + 1 + 1 < w1.heap.size := by omega
  have hne := BK.ne (g := w1.heap.size) (.inr (Nat.le_refl _))
  have hwW : w.heap.size ≤ W.heap.size := by omega
  generalize w1.heap.size = g at *
  clear z1 c1
  obtain ⟨cHM1_0, fHM1_0⟩ := HM1.2 0 _ rfl
  obtain ⟨cHM1_1, fHM1_1⟩ := HM1.2 1 _ rfl
  obtain ⟨cHT_0, fHT_0⟩ := HT.2 0 _ rfl
  obtain ⟨cHT_1, fHT_1⟩ := HT.2 1 _ rfl
  obtain ⟨cHT_2, fHT_2⟩ := HT.2 2 _ rfl
  obtain ⟨cHT_3, fHT_3⟩ := HT.2 3 _ rfl
  obtain ⟨cHT_4, fHT_4⟩ := HT.2 4 _ rfl
  obtain ⟨cHT_5, fHT_5⟩ := HT.2 5 _ rfl
  obtain ⟨cHT_6, fHT_6⟩ := HT.2 6 _ rfl
  obtain ⟨cHT_7, fHT_7⟩ := HT.2 7 _ rfl
  have K1 := HT.put 4 (by simp) (.int .i64 m.low)
  have HR2 := HR1.set_ (p := ⟨g, 4, none⟩) (by simp only; omega) (.int .i64 m.low)
  have K2 := K1.put 5 (by simp) (.int .i64 m.high)
  have HR3 := HR2.set_ (p := ⟨g, 5, none⟩) (by simp only; omega) (.int .i64 m.high)
  have b2 := (b1.setCell (p := ⟨g, 4, none⟩) (by simp only; omega) (.int .i64 m.low)).setCell (p := ⟨g, 5, none⟩) (by simp only; omega) (.int .i64 m.high)
  simp only [List.set_cons_succ, List.set_cons_zero] at K2
  have N3 := (N2.ne1 (p := ⟨g, 4, none⟩) hne (.int .i64 m.low)).ne1 (p := ⟨g, 5, none⟩) hne (.int .i64 m.high)
  clear K1 HR2 HR1 HM1 b1 N2 HT
  go_upto_region 4 with fail
  generalize (w2.setCell ⟨g, 4, none⟩ (.int .i64 m.low)).setCell ⟨g, 5, none⟩ (.int .i64 m.high) = W' at *
  have K3 := K2
  have R3 := HR3
  have B3 := b2
  have N4 := N3
  clear K2 HR3 b2 N3 cHM1_0 cHM1_1 cHT_0 cHT_1 cHT_2 cHT_3 cHT_4 cHT_5 cHT_6 cHT_7
  have lK := K3.1
  have lR3 := R3.1
  obtain ⟨cK3_0, fK3_0⟩ := K3.2 0 _ rfl
  obtain ⟨cK3_1, fK3_1⟩ := K3.2 1 _ rfl
  obtain ⟨cK3_2, fK3_2⟩ := K3.2 2 _ rfl
  obtain ⟨cK3_3, fK3_3⟩ := K3.2 3 _ rfl
  obtain ⟨cK3_4, fK3_4⟩ := K3.2 4 _ rfl
  obtain ⟨cK3_5, fK3_5⟩ := K3.2 5 _ rfl
  obtain ⟨cK3_6, fK3_6⟩ := K3.2 6 _ rfl
  obtain ⟨cK3_7, fK3_7⟩ := K3.2 7 _ rfl
  obtain ⟨cR3_0, fR3_0⟩ := R3.2 0 _ rfl
  obtain ⟨cR3_1, fR3_1⟩ := R3.2 1 _ rfl
  obtain ⟨cR3_2, fR3_2⟩ := R3.2 2 _ rfl
  obtain ⟨cR3_3, fR3_3⟩ := R3.2 3 _ rfl
  obtain ⟨cR3_4, fR3_4⟩ := R3.2 4 _ rfl
  obtain ⟨cR3_5, fR3_5⟩ := R3.2 5 _ rfl
  obtain ⟨cR3_6, fR3_6⟩ := R3.2 6 _ rfl
  obtain ⟨cR3_7, fR3_7⟩ := R3.2 7 _ rfl
  go_wp2
  refine bodyPost_ret (v := .agg #[.slice b.map.A (List.length x.map) b.map.c, .int .i64 x.div, .int .i64 x.bx, .int .i64 x.by_, .int .i64 m.low, .int .i64 m.high, .slice b.noise.A (List.length x.noise) b.noise.c, .slice b.limits.A (List.length x.limits) b.limits.c]) (by simp [results, Try.results149, go_sem, cR3_0, cR3_1, cR3_2, cR3_3, cR3_4, cR3_5, cR3_6, cR3_7]) rfl ⟨b, rfl, ⟨?_, ⟨?_⟩, ⟨?_⟩, N4.apart⟩, ?_⟩
  · exact (N4.map.lowC (q := ⟨w.heap.size + 1 + 1, 0, none⟩) (by simp only; omega) [_, _, _, _, _, _, _, _]).mono (by omega)
  · exact (N4.noise.halves.lowC (q := ⟨w.heap.size + 1 + 1, 0, none⟩) (by simp only; omega) [_, _, _, _, _, _, _, _]).mono (by omega)
  · exact (N4.limits.halves.lowC (q := ⟨w.heap.size + 1 + 1, 0, none⟩) (by simp only; omega) [_, _, _, _, _, _, _, _]).mono (by omega)
  · exact below_cells B3 (by omega) (o := 0) [_, _, _, _, _, _, _, _]
set_option maxRecDepth 100000 in
set_option maxHeartbeats 2000000 in
theorem iModeRoom_c (x : Room) (a : RoomA) (m : Mode) (w : World) (hn : roomLen x ≤ 1048576) (hin : RoomIn x) (_ : m.In) (hs : RoomSl w x a) (hnl : RoomNil a) :
    Calls Try.prog 73 #[roomV x a, modeV m] w fun e w' => ∃ b, e = .returned (.tuple #[roomV (modeRoom x m) b, .bool (modeRoomOk x m)]) ∧ RoomNew w' w.heap.size (modeRoom x m) b ∧ Below w.heap.size w w' := by
  have c1 := fun W M c h h2 => iModesOk_c x a M [m] c W hn hin (by simp) h hnl h2
  have c2 := fun W h (hmn : a.map.A = none → a.map.c = 0) => iInMode_c x a m W hn h
  have hdef := Lib.hid (show modeRoomOk x m = modesOk x [m] ∧ modeRoom x m = if modeRoomOk x m = true then setR x m.low m.high else room0 from ⟨rfl, rfl⟩)
  have hmp := Lib.hid (@modes_map x [m])
  obtain ⟨W, hW⟩ : ∃ W, W = ((w.alloc (.cells #[.slice a.map.A (List.length x.map) a.map.c, .int .i64 x.div, .int .i64 x.bx, .int .i64 x.by_, .int .i64 x.low, .int .i64 x.high, .slice a.noise.A (List.length x.noise) a.noise.c, .slice a.limits.A (List.length x.limits) a.limits.c] 118)).alloc (.cells #[.int .i64 m.low, .int .i64 m.high] 130)).alloc (.cells #[.slice none 0 0, .int .i64 0, .int .i64 0, .int .i64 0, .int .i64 0, .int .i64 0, .slice none 0 0, .slice none 0 0] 118) := ⟨_, rfl⟩
  have HR : Has W (w.heap.size + 1 + 1) [.slice none 0 0, .int .i64 0, .int .i64 0, .int .i64 0, .int .i64 0, .int .i64 0, .slice none 0 0, .slice none 0 0] := by
    rw [hW]
    repeat (first | ((with_reducible refine Has.new_at ?_ _ _ rfl); (first | rfl | (focus (simp; done)))) | (with_reducible refine Has.set_ ?_ ?_ _) | (with_reducible refine Has.alloc ?_ _) | (with_reducible refine Has.below ?_ (by assumption)) | (focus (simp; done)) | (focus (simp; omega)))
  have HM : Has W (w.heap.size + 1) [.int .i64 m.low, .int .i64 m.high] := by
    rw [hW]
    repeat (first | ((with_reducible refine Has.new_at ?_ _ _ rfl); (first | rfl | (focus (simp; done)))) | (with_reducible refine Has.set_ ?_ ?_ _) | (with_reducible refine Has.alloc ?_ _) | (with_reducible refine Has.below ?_ (by assumption)) | (focus (simp; done)) | (focus (simp; omega)))
  have HB : Has W w.heap.size [.slice a.map.A (List.length x.map) a.map.c, .int .i64 x.div, .int .i64 x.bx, .int .i64 x.by_, .int .i64 x.low, .int .i64 x.high, .slice a.noise.A (List.length x.noise) a.noise.c, .slice a.limits.A (List.length x.limits) a.limits.c] := by
    rw [hW]
    repeat (first | ((with_reducible refine Has.new_at ?_ _ _ rfl); (first | rfl | (focus (simp; done)))) | (with_reducible refine Has.set_ ?_ ?_ _) | (with_reducible refine Has.alloc ?_ _) | (with_reducible refine Has.below ?_ (by assumption)) | (focus (simp; done)) | (focus (simp; omega)))
  have b0 : Below w.heap.size w W := by
    rw [hW]
    repeat (first | (with_reducible exact Below.refl _ _) | (with_reducible assumption) | (with_reducible refine below_al ?_ _) | (with_reducible refine Below.drew ?_) | (with_reducible refine below_drewN ?_ _) | (with_reducible refine below_st ?_ ?_ _) | (with_reducible refine below_tr ?_ (by assumption)) | (with_reducible exact Nat.le_refl _) | (focus (simp; done)) | (focus (simp; omega)))
  have hsz : W.heap.size = w.heap.size + 1 + 1 + 1 := by rw [hW]; simp
  have hlt : w.heap.size + 1 + 1 < W.heap.size := by omega
  have hlt1 : w.heap.size + 1 < W.heap.size := by omega
  have hlt2 : w.heap.size < W.heap.size := by omega
  have HL : Has (W.alloc (.cells #[.int .i64 m.low, .int .i64 m.high] 130)) (w.heap.size + 1 + 1 + 1) [.int .i64 m.low, .int .i64 m.high] := Has.new_at hsz.symm _ _ rfl
  have hml := mode_sl HL
  have hW' := Lib.hid hW
  have hs0 := hs.below b0
  have hs1 := hs0.below (below_al (Below.refl W.heap.size W) (.cells #[.int .i64 m.low, .int .i64 m.high] 130))
  have HR1 := HR.alloc (.cells #[.int .i64 m.low, .int .i64 m.high] 130)
  have HM1 := HM.alloc (.cells #[.int .i64 m.low, .int .i64 m.high] 130)
  have HB1 := HB.alloc (.cells #[.int .i64 m.low, .int .i64 m.high] 130)
  have b1 := below_al b0 (.cells #[.int .i64 m.low, .int .i64 m.high] 130)
  have hszH := Lib.hid hsz
  clear hW hsz hs
  cases e1 : modesOk x [m]
  · rw [e1] at c1
    have h1 := Lib.hid (show modeRoomOk x m = false by rw [hdef.out.1, e1])
    have h2 := Lib.hid (show modeRoom x m = room0 by rw [hdef.out.2, h1.out]; rfl)
    clear e1 hdef c2 hmp
    go_enter Try.func73, Try.ntmps73
    go_upto_region 1 with fail
    rw [← hW'.out]
    clear hW'
    obtain ⟨cHB_0, fHB_0⟩ := HB.2 0 _ rfl
    obtain ⟨cHB_1, fHB_1⟩ := HB.2 1 _ rfl
    obtain ⟨cHB_2, fHB_2⟩ := HB.2 2 _ rfl
    obtain ⟨cHB_3, fHB_3⟩ := HB.2 3 _ rfl
    obtain ⟨cHB_4, fHB_4⟩ := HB.2 4 _ rfl
    obtain ⟨cHB_5, fHB_5⟩ := HB.2 5 _ rfl
    obtain ⟨cHB_6, fHB_6⟩ := HB.2 6 _ rfl
    obtain ⟨cHB_7, fHB_7⟩ := HB.2 7 _ rfl
    obtain ⟨cHM_0, fHM_0⟩ := HM.2 0 _ rfl
    obtain ⟨cHM_1, fHM_1⟩ := HM.2 1 _ rfl
    go_wp2_with (fail)
    refine (c1 _ _ _ (by simpa using hs1) (by rw [hszH.out]; exact hml)).mono ?_
    rintro e w1 ⟨rfl, hb1⟩
    have R1 := HR1.below hb1
    have B1 := below_tr b1 hb1
    have lR := R1.1
    clear hb1
    obtain ⟨cR1_0, fR1_0⟩ := R1.2 0 _ rfl
    obtain ⟨cR1_1, fR1_1⟩ := R1.2 1 _ rfl
    obtain ⟨cR1_2, fR1_2⟩ := R1.2 2 _ rfl
    obtain ⟨cR1_3, fR1_3⟩ := R1.2 3 _ rfl
    obtain ⟨cR1_4, fR1_4⟩ := R1.2 4 _ rfl
    obtain ⟨cR1_5, fR1_5⟩ := R1.2 5 _ rfl
    obtain ⟨cR1_6, fR1_6⟩ := R1.2 6 _ rfl
    obtain ⟨cR1_7, fR1_7⟩ := R1.2 7 _ rfl
    go_wp2
    rw [h1.out, h2.out]
    refine bodyPost_ret (v := .tuple #[.agg #[.slice none 0 0, .int .i64 0, .int .i64 0, .int .i64 0, .int .i64 0, .int .i64 0, .slice none 0 0, .slice none 0 0], .bool false]) (by simp [results, Try.results73, go_sem, cR1_0, cR1_1, cR1_2, cR1_3, cR1_4, cR1_5, cR1_6, cR1_7]) rfl ⟨⟨⟨none, 0⟩, ⟨none, 0⟩, ⟨none, 0⟩⟩, rfl, ⟨⟨none, 0, rfl, World.ownsRow_nil _ _ _ _⟩, ⟨⟨none, 0, rfl, World.ownsRow_nil _ _ _ _⟩⟩, ⟨⟨none, 0, rfl, World.ownsRow_nil _ _ _ _⟩⟩, ?_⟩, ?_⟩
    · simp [Apart]
    · exact below_cells B1 (by omega) (o := 0) [_, _, _, _, _, _, _, _]
  · rw [e1] at c1
    have h1 := Lib.hid (show modeRoomOk x m = true by rw [hdef.out.1, e1])
    have h2 := Lib.hid (show modeRoom x m = setR x m.low m.high by rw [hdef.out.2, h1.out]; rfl)
    have h4 := hmp.out e1
    have hmn := Lib.hid (show a.map.A = none → a.map.c = 0 from hs0.map.some_ (by omega))
    clear e1 hdef hmp h4
    go_enter Try.func73, Try.ntmps73
    go_upto_region 1 with fail
    rw [← hW'.out]
    clear hW'
    obtain ⟨cHB_0, fHB_0⟩ := HB.2 0 _ rfl
    obtain ⟨cHB_1, fHB_1⟩ := HB.2 1 _ rfl
    obtain ⟨cHB_2, fHB_2⟩ := HB.2 2 _ rfl
    obtain ⟨cHB_3, fHB_3⟩ := HB.2 3 _ rfl
    obtain ⟨cHB_4, fHB_4⟩ := HB.2 4 _ rfl
    obtain ⟨cHB_5, fHB_5⟩ := HB.2 5 _ rfl
    obtain ⟨cHB_6, fHB_6⟩ := HB.2 6 _ rfl
    obtain ⟨cHB_7, fHB_7⟩ := HB.2 7 _ rfl
    obtain ⟨cHM_0, fHM_0⟩ := HM.2 0 _ rfl
    obtain ⟨cHM_1, fHM_1⟩ := HM.2 1 _ rfl
    go_wp2_with (fail)
    refine (c1 _ _ _ (by simpa using hs1) (by rw [hszH.out]; exact hml)).mono ?_
    rintro e w1 ⟨rfl, hb1⟩
    have R1 := HR1.below hb1
    have M1 := HM1.below hb1
    have D1 := HB1.below hb1
    have B1 := below_tr b1 hb1
    have hs2 := hs1.below hb1
    have lR := R1.1
    have lM := M1.1
    have lD := D1.1
    clear hb1 HR1 HM1 HB1 HB HM HR HL hml b0 b1 hs0 hs1 cHB_0 cHB_1 cHB_2 cHB_3 cHB_4 cHB_5 cHB_6 cHB_7 fHB_0 fHB_1 fHB_2 fHB_3 fHB_4 fHB_5 fHB_6 fHB_7 cHM_0 cHM_1 fHM_0 fHM_1
    obtain ⟨cD1_0, fD1_0⟩ := D1.2 0 _ rfl
    obtain ⟨cD1_1, fD1_1⟩ := D1.2 1 _ rfl
    obtain ⟨cD1_2, fD1_2⟩ := D1.2 2 _ rfl
    obtain ⟨cD1_3, fD1_3⟩ := D1.2 3 _ rfl
    obtain ⟨cD1_4, fD1_4⟩ := D1.2 4 _ rfl
    obtain ⟨cD1_5, fD1_5⟩ := D1.2 5 _ rfl
    obtain ⟨cD1_6, fD1_6⟩ := D1.2 6 _ rfl
    obtain ⟨cD1_7, fD1_7⟩ := D1.2 7 _ rfl
    obtain ⟨cM1_0, fM1_0⟩ := M1.2 0 _ rfl
    obtain ⟨cM1_1, fM1_1⟩ := M1.2 1 _ rfl
    go_wp2_with (fail)
    refine (c2 _ hs2 hmn.out).mono ?_
    rintro e w2 ⟨b, rfl, N2, hb2⟩
    have R2 := R1.below hb2
    have B2 := below_tr B1 hb2
    have lR2 := R2.1
    clear hb2 R1 M1 D1
    obtain ⟨cR2_0, fR2_0⟩ := R2.2 0 _ rfl
    obtain ⟨cR2_1, fR2_1⟩ := R2.2 1 _ rfl
    obtain ⟨cR2_2, fR2_2⟩ := R2.2 2 _ rfl
    obtain ⟨cR2_3, fR2_3⟩ := R2.2 3 _ rfl
    obtain ⟨cR2_4, fR2_4⟩ := R2.2 4 _ rfl
    obtain ⟨cR2_5, fR2_5⟩ := R2.2 5 _ rfl
    obtain ⟨cR2_6, fR2_6⟩ := R2.2 6 _ rfl
    obtain ⟨cR2_7, fR2_7⟩ := R2.2 7 _ rfl
    go_wp2
    rw [h1.out, h2.out]
    refine bodyPost_ret (v := .tuple #[.agg #[.slice b.map.A (List.length x.map) b.map.c, .int .i64 x.div, .int .i64 x.bx, .int .i64 x.by_, .int .i64 m.low, .int .i64 m.high, .slice b.noise.A (List.length x.noise) b.noise.c, .slice b.limits.A (List.length x.limits) b.limits.c], .bool true]) (by simp [results, Try.results73, go_sem, setR, cR2_0, cR2_1, cR2_2, cR2_3, cR2_4, cR2_5, cR2_6, cR2_7]) rfl ⟨b, rfl, ⟨?_, ⟨?_⟩, ⟨?_⟩, N2.apart⟩, ?_⟩
    · exact (N2.map.lowC (q := ⟨w.heap.size + 1 + 1, 0, none⟩) (by simp only; omega) [_, _, _, _, _, _, _, _]).mono (by omega)
    · exact (N2.noise.halves.lowC (q := ⟨w.heap.size + 1 + 1, 0, none⟩) (by simp only; omega) [_, _, _, _, _, _, _, _]).mono (by omega)
    · exact (N2.limits.halves.lowC (q := ⟨w.heap.size + 1 + 1, 0, none⟩) (by simp only; omega) [_, _, _, _, _, _, _, _]).mono (by omega)
    · exact below_cells B2 (by omega) (o := 0) [_, _, _, _, _, _, _, _]
set_option maxRecDepth 100000 in
set_option maxHeartbeats 2000000 in
theorem sModeRoom_c (x : Room) (a : RoomA) (m : Mode) (w : World) (hn : roomLen x ≤ 1048576) (hin : RoomIn x) (_ : m.In) (hs : RoomSl w x a) (hnl : RoomNil a) :
    Calls Try.prog 71 #[roomV x a, modeV m] w fun e w' => ∃ b, e = .returned (.tuple #[roomV (modeRoom x m) b, .bool (modeRoomOk x m)]) ∧ RoomNew w' w.heap.size (modeRoom x m) b ∧ Below w.heap.size w w' := by
  have c1 := fun W M c h h2 => sModesOk_c x a M [m] c W hn hin (by simp) h hnl h2
  have c2 := fun W h (hmn : a.map.A = none → a.map.c = 0) => sInMode_c x a m W hn h hnl hmn
  have hdef := Lib.hid (show modeRoomOk x m = modesOk x [m] ∧ modeRoom x m = if modeRoomOk x m = true then setR x m.low m.high else room0 from ⟨rfl, rfl⟩)
  have hmp := Lib.hid (@modes_map x [m])
  obtain ⟨W, hW⟩ : ∃ W, W = ((w.alloc (.cells #[.slice a.map.A (List.length x.map) a.map.c, .int .i64 x.div, .int .i64 x.bx, .int .i64 x.by_, .int .i64 x.low, .int .i64 x.high, .slice a.noise.A (List.length x.noise) a.noise.c, .slice a.limits.A (List.length x.limits) a.limits.c] 118)).alloc (.cells #[.int .i64 m.low, .int .i64 m.high] 130)).alloc (.cells #[.slice none 0 0, .int .i64 0, .int .i64 0, .int .i64 0, .int .i64 0, .int .i64 0, .slice none 0 0, .slice none 0 0] 118) := ⟨_, rfl⟩
  have HR : Has W (w.heap.size + 1 + 1) [.slice none 0 0, .int .i64 0, .int .i64 0, .int .i64 0, .int .i64 0, .int .i64 0, .slice none 0 0, .slice none 0 0] := by
    rw [hW]
    repeat (first | ((with_reducible refine Has.new_at ?_ _ _ rfl); (first | rfl | (focus (simp; done)))) | (with_reducible refine Has.set_ ?_ ?_ _) | (with_reducible refine Has.alloc ?_ _) | (with_reducible refine Has.below ?_ (by assumption)) | (focus (simp; done)) | (focus (simp; omega)))
  have HM : Has W (w.heap.size + 1) [.int .i64 m.low, .int .i64 m.high] := by
    rw [hW]
    repeat (first | ((with_reducible refine Has.new_at ?_ _ _ rfl); (first | rfl | (focus (simp; done)))) | (with_reducible refine Has.set_ ?_ ?_ _) | (with_reducible refine Has.alloc ?_ _) | (with_reducible refine Has.below ?_ (by assumption)) | (focus (simp; done)) | (focus (simp; omega)))
  have HB : Has W w.heap.size [.slice a.map.A (List.length x.map) a.map.c, .int .i64 x.div, .int .i64 x.bx, .int .i64 x.by_, .int .i64 x.low, .int .i64 x.high, .slice a.noise.A (List.length x.noise) a.noise.c, .slice a.limits.A (List.length x.limits) a.limits.c] := by
    rw [hW]
    repeat (first | ((with_reducible refine Has.new_at ?_ _ _ rfl); (first | rfl | (focus (simp; done)))) | (with_reducible refine Has.set_ ?_ ?_ _) | (with_reducible refine Has.alloc ?_ _) | (with_reducible refine Has.below ?_ (by assumption)) | (focus (simp; done)) | (focus (simp; omega)))
  have b0 : Below w.heap.size w W := by
    rw [hW]
    repeat (first | (with_reducible exact Below.refl _ _) | (with_reducible assumption) | (with_reducible refine below_al ?_ _) | (with_reducible refine Below.drew ?_) | (with_reducible refine below_drewN ?_ _) | (with_reducible refine below_st ?_ ?_ _) | (with_reducible refine below_tr ?_ (by assumption)) | (with_reducible exact Nat.le_refl _) | (focus (simp; done)) | (focus (simp; omega)))
  have hsz : W.heap.size = w.heap.size + 1 + 1 + 1 := by rw [hW]; simp
  have hlt : w.heap.size + 1 + 1 < W.heap.size := by omega
  have hlt1 : w.heap.size + 1 < W.heap.size := by omega
  have hlt2 : w.heap.size < W.heap.size := by omega
  have HL : Has (W.alloc (.cells #[.int .i64 m.low, .int .i64 m.high] 130)) (w.heap.size + 1 + 1 + 1) [.int .i64 m.low, .int .i64 m.high] := Has.new_at hsz.symm _ _ rfl
  have hml := mode_sl HL
  have hW' := Lib.hid hW
  have hs0 := hs.below b0
  have hs1 := hs0.below (below_al (Below.refl W.heap.size W) (.cells #[.int .i64 m.low, .int .i64 m.high] 130))
  have HR1 := HR.alloc (.cells #[.int .i64 m.low, .int .i64 m.high] 130)
  have HM1 := HM.alloc (.cells #[.int .i64 m.low, .int .i64 m.high] 130)
  have HB1 := HB.alloc (.cells #[.int .i64 m.low, .int .i64 m.high] 130)
  have b1 := below_al b0 (.cells #[.int .i64 m.low, .int .i64 m.high] 130)
  have hszH := Lib.hid hsz
  clear hW hsz hs
  cases e1 : modesOk x [m]
  · rw [e1] at c1
    have h1 := Lib.hid (show modeRoomOk x m = false by rw [hdef.out.1, e1])
    have h2 := Lib.hid (show modeRoom x m = room0 by rw [hdef.out.2, h1.out]; rfl)
    clear e1 hdef c2 hmp
    go_enter Try.func71, Try.ntmps71
    go_upto_region 1 with fail
    rw [← hW'.out]
    clear hW'
    obtain ⟨cHB_0, fHB_0⟩ := HB.2 0 _ rfl
    obtain ⟨cHB_1, fHB_1⟩ := HB.2 1 _ rfl
    obtain ⟨cHB_2, fHB_2⟩ := HB.2 2 _ rfl
    obtain ⟨cHB_3, fHB_3⟩ := HB.2 3 _ rfl
    obtain ⟨cHB_4, fHB_4⟩ := HB.2 4 _ rfl
    obtain ⟨cHB_5, fHB_5⟩ := HB.2 5 _ rfl
    obtain ⟨cHB_6, fHB_6⟩ := HB.2 6 _ rfl
    obtain ⟨cHB_7, fHB_7⟩ := HB.2 7 _ rfl
    obtain ⟨cHM_0, fHM_0⟩ := HM.2 0 _ rfl
    obtain ⟨cHM_1, fHM_1⟩ := HM.2 1 _ rfl
    go_wp2_with (fail)
    refine (c1 _ _ _ (by simpa using hs1) (by rw [hszH.out]; exact hml)).mono ?_
    rintro e w1 ⟨rfl, hb1⟩
    have R1 := HR1.below hb1
    have B1 := below_tr b1 hb1
    have lR := R1.1
    clear hb1
    obtain ⟨cR1_0, fR1_0⟩ := R1.2 0 _ rfl
    obtain ⟨cR1_1, fR1_1⟩ := R1.2 1 _ rfl
    obtain ⟨cR1_2, fR1_2⟩ := R1.2 2 _ rfl
    obtain ⟨cR1_3, fR1_3⟩ := R1.2 3 _ rfl
    obtain ⟨cR1_4, fR1_4⟩ := R1.2 4 _ rfl
    obtain ⟨cR1_5, fR1_5⟩ := R1.2 5 _ rfl
    obtain ⟨cR1_6, fR1_6⟩ := R1.2 6 _ rfl
    obtain ⟨cR1_7, fR1_7⟩ := R1.2 7 _ rfl
    go_wp2
    rw [h1.out, h2.out]
    refine bodyPost_ret (v := .tuple #[.agg #[.slice none 0 0, .int .i64 0, .int .i64 0, .int .i64 0, .int .i64 0, .int .i64 0, .slice none 0 0, .slice none 0 0], .bool false]) (by simp [results, Try.results71, go_sem, cR1_0, cR1_1, cR1_2, cR1_3, cR1_4, cR1_5, cR1_6, cR1_7]) rfl ⟨⟨⟨none, 0⟩, ⟨none, 0⟩, ⟨none, 0⟩⟩, rfl, ⟨⟨none, 0, rfl, World.ownsRow_nil _ _ _ _⟩, ⟨⟨none, 0, rfl, World.ownsRow_nil _ _ _ _⟩⟩, ⟨⟨none, 0, rfl, World.ownsRow_nil _ _ _ _⟩⟩, ?_⟩, ?_⟩
    · simp [Apart]
    · exact below_cells B1 (by omega) (o := 0) [_, _, _, _, _, _, _, _]
  · rw [e1] at c1
    have h1 := Lib.hid (show modeRoomOk x m = true by rw [hdef.out.1, e1])
    have h2 := Lib.hid (show modeRoom x m = setR x m.low m.high by rw [hdef.out.2, h1.out]; rfl)
    have h4 := hmp.out e1
    have hmn := Lib.hid (show a.map.A = none → a.map.c = 0 from hs0.map.some_ (by omega))
    clear e1 hdef hmp h4
    go_enter Try.func71, Try.ntmps71
    go_upto_region 1 with fail
    rw [← hW'.out]
    clear hW'
    obtain ⟨cHB_0, fHB_0⟩ := HB.2 0 _ rfl
    obtain ⟨cHB_1, fHB_1⟩ := HB.2 1 _ rfl
    obtain ⟨cHB_2, fHB_2⟩ := HB.2 2 _ rfl
    obtain ⟨cHB_3, fHB_3⟩ := HB.2 3 _ rfl
    obtain ⟨cHB_4, fHB_4⟩ := HB.2 4 _ rfl
    obtain ⟨cHB_5, fHB_5⟩ := HB.2 5 _ rfl
    obtain ⟨cHB_6, fHB_6⟩ := HB.2 6 _ rfl
    obtain ⟨cHB_7, fHB_7⟩ := HB.2 7 _ rfl
    obtain ⟨cHM_0, fHM_0⟩ := HM.2 0 _ rfl
    obtain ⟨cHM_1, fHM_1⟩ := HM.2 1 _ rfl
    go_wp2_with (fail)
    refine (c1 _ _ _ (by simpa using hs1) (by rw [hszH.out]; exact hml)).mono ?_
    rintro e w1 ⟨rfl, hb1⟩
    have R1 := HR1.below hb1
    have M1 := HM1.below hb1
    have D1 := HB1.below hb1
    have B1 := below_tr b1 hb1
    have hs2 := hs1.below hb1
    have lR := R1.1
    have lM := M1.1
    have lD := D1.1
    clear hb1 HR1 HM1 HB1 HB HM HR HL hml b0 b1 hs0 hs1 cHB_0 cHB_1 cHB_2 cHB_3 cHB_4 cHB_5 cHB_6 cHB_7 fHB_0 fHB_1 fHB_2 fHB_3 fHB_4 fHB_5 fHB_6 fHB_7 cHM_0 cHM_1 fHM_0 fHM_1
    obtain ⟨cD1_0, fD1_0⟩ := D1.2 0 _ rfl
    obtain ⟨cD1_1, fD1_1⟩ := D1.2 1 _ rfl
    obtain ⟨cD1_2, fD1_2⟩ := D1.2 2 _ rfl
    obtain ⟨cD1_3, fD1_3⟩ := D1.2 3 _ rfl
    obtain ⟨cD1_4, fD1_4⟩ := D1.2 4 _ rfl
    obtain ⟨cD1_5, fD1_5⟩ := D1.2 5 _ rfl
    obtain ⟨cD1_6, fD1_6⟩ := D1.2 6 _ rfl
    obtain ⟨cD1_7, fD1_7⟩ := D1.2 7 _ rfl
    obtain ⟨cM1_0, fM1_0⟩ := M1.2 0 _ rfl
    obtain ⟨cM1_1, fM1_1⟩ := M1.2 1 _ rfl
    go_wp2_with (fail)
    refine (c2 _ hs2 hmn.out).mono ?_
    rintro e w2 ⟨b, rfl, N2, hb2⟩
    have R2 := R1.below hb2
    have B2 := below_tr B1 hb2
    have lR2 := R2.1
    clear hb2 R1 M1 D1
    obtain ⟨cR2_0, fR2_0⟩ := R2.2 0 _ rfl
    obtain ⟨cR2_1, fR2_1⟩ := R2.2 1 _ rfl
    obtain ⟨cR2_2, fR2_2⟩ := R2.2 2 _ rfl
    obtain ⟨cR2_3, fR2_3⟩ := R2.2 3 _ rfl
    obtain ⟨cR2_4, fR2_4⟩ := R2.2 4 _ rfl
    obtain ⟨cR2_5, fR2_5⟩ := R2.2 5 _ rfl
    obtain ⟨cR2_6, fR2_6⟩ := R2.2 6 _ rfl
    obtain ⟨cR2_7, fR2_7⟩ := R2.2 7 _ rfl
    go_wp2
    rw [h1.out, h2.out]
    refine bodyPost_ret (v := .tuple #[.agg #[.slice b.map.A (List.length x.map) b.map.c, .int .i64 x.div, .int .i64 x.bx, .int .i64 x.by_, .int .i64 m.low, .int .i64 m.high, .slice b.noise.A (List.length x.noise) b.noise.c, .slice b.limits.A (List.length x.limits) b.limits.c], .bool true]) (by simp [results, Try.results71, go_sem, setR, cR2_0, cR2_1, cR2_2, cR2_3, cR2_4, cR2_5, cR2_6, cR2_7]) rfl ⟨b, rfl, ⟨?_, ⟨?_⟩, ⟨?_⟩, N2.apart⟩, ?_⟩
    · exact (N2.map.lowC (q := ⟨w.heap.size + 1 + 1, 0, none⟩) (by simp only; omega) [_, _, _, _, _, _, _, _]).mono (by omega)
    · exact (N2.noise.halves.lowC (q := ⟨w.heap.size + 1 + 1, 0, none⟩) (by simp only; omega) [_, _, _, _, _, _, _, _]).mono (by omega)
    · exact (N2.limits.halves.lowC (q := ⟨w.heap.size + 1 + 1, 0, none⟩) (by simp only; omega) [_, _, _, _, _, _, _, _]).mono (by omega)
    · exact below_cells B2 (by omega) (o := 0) [_, _, _, _, _, _, _, _]
end Go.Proofs.Ytbdihgcjopbnjaa
