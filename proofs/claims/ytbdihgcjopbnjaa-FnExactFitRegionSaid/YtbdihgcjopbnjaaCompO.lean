/-
  How regions, rooms, watches, tracks and laws read as arguments.
  Conditions: the slices hold at most 2^20 elements.
-/
import Derived.Test.YtbdihgcjopbnjaaComp
import Derived.Test.YtbdihgcjopbnjaaOpen2
namespace Go.Proofs.Ytbdihgcjopbnjaa
open Go.RowKit Go.ChangeShapes Go.WideShapes Go.ChangeAt Go.Deep

set_option maxRecDepth 100000 in
theorem openRegionC {H : Type} {enc : TypeId × Value → H} {W : World} {base : Nat} {spare : Nat → Bool} {held : Bool} {fuel : Nat} {cs : List Value} {y : DataW H × List MemPlace}
    (h : DataW.trod enc Try.prog W base spare held fuel 110 cs = some y) :
    ∃ (x : List Half) (a : SlA), RegionIn x ∧ cs = [.slice a.A (List.length x) a.c] ∧ (List.length x ≤ 9223372036854775807) ∧ RegionSl W x a := by
  obtain ⟨xs, n, rfl, _, hl, hxl, hf⟩ := DataW.trod_struct Try.underlying110 h
  have hl : cs.length = 1 := hl.trans (by kernel_rfl)
  have hxl : xs.length = 1 := hxl
  match cs, hl with
  | [c0], _ =>
    have t0 : DataW.trod enc Try.prog W base spare held n 108 [c0] = some (xs[0]'(by omega)) := by
      have q : DataW.trod enc Try.prog W base spare held n 108 (List.take (Try.prog.cellsOf 108) (List.drop 0 [c0])) = xs[0]? := hf 0 _ rfl
      rw [show Try.prog.cellsOf 108 = 1 from by kernel_rfl, List.getElem?_eq_getElem (by omega)] at q
      exact q
    obtain ⟨A0, k0, s0, e0, l0, i0, S0⟩ := openHalfS t0
    simp only [List.cons.injEq, and_true] at e0
    subst e0
    exact ⟨s0, ⟨A0, k0⟩, ⟨i0⟩, rfl, l0, ⟨S0⟩⟩
set_option maxRecDepth 100000 in
theorem openRegion {H : Type} {enc : TypeId × Value → H} {W : World} {base b0 : Nat} {spare : Nat → Bool} {held : Bool} {r : Reach} {v : Value} {d : DataW H} {p : List MemPlace}
    (hv : Value.okWide Try.prog W r b0 110 v) (h : DataW.Trod enc Try.prog W base spare held 110 v d p) :
    ∃ (x : List Half) (a : SlA), RegionIn x ∧ v = regionV x a ∧ (List.length x ≤ 9223372036854775807) ∧ RegionSl W x a := by
  obtain ⟨cs, rfl, _⟩ := okWide_struct Try.underlying110 hv
  obtain ⟨fuel, hf⟩ := h
  obtain ⟨x, a, h1, h2, h3, h4⟩ := openRegionC (cs := cs.toList) (by simpa [Value.cells] using hf)
  refine ⟨x, a, h1, ?_, h3, h4⟩
  cases cs
  simp only at h2
  rw [h2]
set_option maxRecDepth 100000 in
theorem openRoomC {H : Type} {enc : TypeId × Value → H} {W : World} {base : Nat} {spare : Nat → Bool} {held : Bool} {fuel : Nat} {cs : List Value} {y : DataW H × List MemPlace}
    (h : DataW.trod enc Try.prog W base spare held fuel 112 cs = some y) :
    ∃ (x : Room) (a : RoomA), RoomIn x ∧ cs = [.slice a.map.A (List.length x.map) a.map.c, .int .i64 x.div, .int .i64 x.bx, .int .i64 x.by_, .int .i64 x.low, .int .i64 x.high, .slice a.noise.A (List.length x.noise) a.noise.c, .slice a.limits.A (List.length x.limits) a.limits.c] ∧ (List.length x.map ≤ 9223372036854775807 ∧ List.length x.noise ≤ 9223372036854775807 ∧ List.length x.limits ≤ 9223372036854775807) ∧ RoomSl W x a := by
  obtain ⟨xs, n, rfl, _, hl, hxl, hf⟩ := DataW.trod_struct Try.underlying112 h
  have hl : cs.length = 8 := hl.trans (by kernel_rfl)
  have hxl : xs.length = 8 := hxl
  match cs, hl with
  | [c0, c1, c2, c3, c4, c5, c6, c7], _ =>
    have t0 : DataW.trod enc Try.prog W base spare held n 22 [c0] = some (xs[0]'(by omega)) := by
      have q : DataW.trod enc Try.prog W base spare held n 22 (List.take (Try.prog.cellsOf 22) (List.drop 0 [c0, c1, c2, c3, c4, c5, c6, c7])) = xs[0]? := hf 0 _ rfl
      rw [show Try.prog.cellsOf 22 = 1 from by kernel_rfl, List.getElem?_eq_getElem (by omega)] at q
      exact q
    have t1 : DataW.trod enc Try.prog W base spare held n 3 [c1] = some (xs[1]'(by omega)) := by
      have q : DataW.trod enc Try.prog W base spare held n 3 (List.take (Try.prog.cellsOf 3) (List.drop 1 [c0, c1, c2, c3, c4, c5, c6, c7])) = xs[1]? := hf 1 _ rfl
      rw [show Try.prog.cellsOf 3 = 1 from by kernel_rfl, List.getElem?_eq_getElem (by omega)] at q
      exact q
    have t2 : DataW.trod enc Try.prog W base spare held n 3 [c2] = some (xs[2]'(by omega)) := by
      have q : DataW.trod enc Try.prog W base spare held n 3 (List.take (Try.prog.cellsOf 3) (List.drop 2 [c0, c1, c2, c3, c4, c5, c6, c7])) = xs[2]? := hf 2 _ rfl
      rw [show Try.prog.cellsOf 3 = 1 from by kernel_rfl, List.getElem?_eq_getElem (by omega)] at q
      exact q
    have t3 : DataW.trod enc Try.prog W base spare held n 3 [c3] = some (xs[3]'(by omega)) := by
      have q : DataW.trod enc Try.prog W base spare held n 3 (List.take (Try.prog.cellsOf 3) (List.drop 3 [c0, c1, c2, c3, c4, c5, c6, c7])) = xs[3]? := hf 3 _ rfl
      rw [show Try.prog.cellsOf 3 = 1 from by kernel_rfl, List.getElem?_eq_getElem (by omega)] at q
      exact q
    have t4 : DataW.trod enc Try.prog W base spare held n 3 [c4] = some (xs[4]'(by omega)) := by
      have q : DataW.trod enc Try.prog W base spare held n 3 (List.take (Try.prog.cellsOf 3) (List.drop 4 [c0, c1, c2, c3, c4, c5, c6, c7])) = xs[4]? := hf 4 _ rfl
      rw [show Try.prog.cellsOf 3 = 1 from by kernel_rfl, List.getElem?_eq_getElem (by omega)] at q
      exact q
    have t5 : DataW.trod enc Try.prog W base spare held n 3 [c5] = some (xs[5]'(by omega)) := by
      have q : DataW.trod enc Try.prog W base spare held n 3 (List.take (Try.prog.cellsOf 3) (List.drop 5 [c0, c1, c2, c3, c4, c5, c6, c7])) = xs[5]? := hf 5 _ rfl
      rw [show Try.prog.cellsOf 3 = 1 from by kernel_rfl, List.getElem?_eq_getElem (by omega)] at q
      exact q
    have t6 : DataW.trod enc Try.prog W base spare held n 110 [c6] = some (xs[6]'(by omega)) := by
      have q : DataW.trod enc Try.prog W base spare held n 110 (List.take (Try.prog.cellsOf 110) (List.drop 6 [c0, c1, c2, c3, c4, c5, c6, c7])) = xs[6]? := hf 6 _ rfl
      rw [show Try.prog.cellsOf 110 = 1 from by kernel_rfl, List.getElem?_eq_getElem (by omega)] at q
      exact q
    have t7 : DataW.trod enc Try.prog W base spare held n 110 [c7] = some (xs[7]'(by omega)) := by
      have q : DataW.trod enc Try.prog W base spare held n 110 (List.take (Try.prog.cellsOf 110) (List.drop 7 [c0, c1, c2, c3, c4, c5, c6, c7])) = xs[7]? := hf 7 _ rfl
      rw [show Try.prog.cellsOf 110 = 1 from by kernel_rfl, List.getElem?_eq_getElem (by omega)] at q
      exact q
    obtain ⟨A0, k0, s0, e0, l0, i0, S0⟩ := open_intS Try.underlying22 Try.underlying3 (by kernel_rfl) t0
    simp only [List.cons.injEq, and_true] at e0
    subst e0
    obtain ⟨a1, e1, _, w1⟩ := DataW.trod_int Try.underlying3 t1
    simp only [List.cons.injEq, and_true] at e1
    subst e1
    obtain ⟨a2, e2, _, w2⟩ := DataW.trod_int Try.underlying3 t2
    simp only [List.cons.injEq, and_true] at e2
    subst e2
    obtain ⟨a3, e3, _, w3⟩ := DataW.trod_int Try.underlying3 t3
    simp only [List.cons.injEq, and_true] at e3
    subst e3
    obtain ⟨a4, e4, _, w4⟩ := DataW.trod_int Try.underlying3 t4
    simp only [List.cons.injEq, and_true] at e4
    subst e4
    obtain ⟨a5, e5, _, w5⟩ := DataW.trod_int Try.underlying3 t5
    simp only [List.cons.injEq, and_true] at e5
    subst e5
    obtain ⟨x6, a6, i6, e6, l6, S6⟩ := openRegionC t6
    simp only [List.cons.injEq, and_true] at e6
    subst e6
    obtain ⟨x7, a7, i7, e7, l7, S7⟩ := openRegionC t7
    simp only [List.cons.injEq, and_true] at e7
    subst e7
    exact ⟨⟨s0, a1, a2, a3, a4, a5, x6, x7⟩, ⟨⟨A0, k0⟩, a6, a7⟩, ⟨i0, in64_of_wf w1, in64_of_wf w2, in64_of_wf w3, in64_of_wf w4, in64_of_wf w5, i6, i7⟩, rfl, ⟨l0, l6, l7⟩, ⟨S0, S6, S7⟩⟩
set_option maxRecDepth 100000 in
theorem openRoom {H : Type} {enc : TypeId × Value → H} {W : World} {base b0 : Nat} {spare : Nat → Bool} {held : Bool} {r : Reach} {v : Value} {d : DataW H} {p : List MemPlace}
    (hv : Value.okWide Try.prog W r b0 112 v) (h : DataW.Trod enc Try.prog W base spare held 112 v d p) :
    ∃ (x : Room) (a : RoomA), RoomIn x ∧ v = roomV x a ∧ (List.length x.map ≤ 9223372036854775807 ∧ List.length x.noise ≤ 9223372036854775807 ∧ List.length x.limits ≤ 9223372036854775807) ∧ RoomSl W x a := by
  obtain ⟨cs, rfl, _⟩ := okWide_struct Try.underlying112 hv
  obtain ⟨fuel, hf⟩ := h
  obtain ⟨x, a, h1, h2, h3, h4⟩ := openRoomC (cs := cs.toList) (by simpa [Value.cells] using hf)
  refine ⟨x, a, h1, ?_, h3, h4⟩
  cases cs
  simp only at h2
  rw [h2]
set_option maxRecDepth 100000 in
theorem openTrackC {H : Type} {enc : TypeId × Value → H} {W : World} {base : Nat} {spare : Nat → Bool} {held : Bool} {fuel : Nat} {cs : List Value} {y : DataW H × List MemPlace}
    (h : DataW.trod enc Try.prog W base spare held fuel 38 cs = some y) :
    ∃ (x : Track) (a : TrackA), TrackIn x ∧ cs = [.slice a.spots.A (List.length x.spots) a.spots.c, .slice a.inputs.A (List.length x.inputs) a.inputs.c] ∧ (List.length x.spots ≤ 9223372036854775807 ∧ List.length x.inputs ≤ 9223372036854775807) ∧ TrackSl W x a := by
  obtain ⟨xs, n, rfl, _, hl, hxl, hf⟩ := DataW.trod_struct Try.underlying38 h
  have hl : cs.length = 2 := hl.trans (by kernel_rfl)
  have hxl : xs.length = 2 := hxl
  match cs, hl with
  | [c0, c1], _ =>
    have t0 : DataW.trod enc Try.prog W base spare held n 35 [c0] = some (xs[0]'(by omega)) := by
      have q : DataW.trod enc Try.prog W base spare held n 35 (List.take (Try.prog.cellsOf 35) (List.drop 0 [c0, c1])) = xs[0]? := hf 0 _ rfl
      rw [show Try.prog.cellsOf 35 = 1 from by kernel_rfl, List.getElem?_eq_getElem (by omega)] at q
      exact q
    have t1 : DataW.trod enc Try.prog W base spare held n 36 [c1] = some (xs[1]'(by omega)) := by
      have q : DataW.trod enc Try.prog W base spare held n 36 (List.take (Try.prog.cellsOf 36) (List.drop 1 [c0, c1])) = xs[1]? := hf 1 _ rfl
      rw [show Try.prog.cellsOf 36 = 1 from by kernel_rfl, List.getElem?_eq_getElem (by omega)] at q
      exact q
    obtain ⟨A0, k0, s0, e0, l0, i0, S0⟩ := openSpotS t0
    simp only [List.cons.injEq, and_true] at e0
    subst e0
    obtain ⟨A1, k1, s1, e1, l1, i1, S1⟩ := openRatioS t1
    simp only [List.cons.injEq, and_true] at e1
    subst e1
    exact ⟨⟨s0, s1⟩, ⟨⟨A0, k0⟩, ⟨A1, k1⟩⟩, ⟨i0, i1⟩, rfl, ⟨l0, l1⟩, ⟨S0, S1⟩⟩
set_option maxRecDepth 100000 in
theorem openTrack {H : Type} {enc : TypeId × Value → H} {W : World} {base b0 : Nat} {spare : Nat → Bool} {held : Bool} {r : Reach} {v : Value} {d : DataW H} {p : List MemPlace}
    (hv : Value.okWide Try.prog W r b0 38 v) (h : DataW.Trod enc Try.prog W base spare held 38 v d p) :
    ∃ (x : Track) (a : TrackA), TrackIn x ∧ v = trackV x a ∧ (List.length x.spots ≤ 9223372036854775807 ∧ List.length x.inputs ≤ 9223372036854775807) ∧ TrackSl W x a := by
  obtain ⟨cs, rfl, _⟩ := okWide_struct Try.underlying38 hv
  obtain ⟨fuel, hf⟩ := h
  obtain ⟨x, a, h1, h2, h3, h4⟩ := openTrackC (cs := cs.toList) (by simpa [Value.cells] using hf)
  refine ⟨x, a, h1, ?_, h3, h4⟩
  cases cs
  simp only at h2
  rw [h2]
set_option maxRecDepth 100000 in
theorem openLawC {H : Type} {enc : TypeId × Value → H} {W : World} {base : Nat} {spare : Nat → Bool} {held : Bool} {fuel : Nat} {cs : List Value} {y : DataW H × List MemPlace}
    (h : DataW.trod enc Try.prog W base spare held fuel 53 cs = some y) :
    ∃ (x : Law) (a : LawA), LawIn x ∧ cs = [.slice a.lows.A (List.length x.lows) a.lows.c, .slice a.highs.A (List.length x.highs) a.highs.c] ∧ (List.length x.lows ≤ 9223372036854775807 ∧ List.length x.highs ≤ 9223372036854775807) ∧ LawSl W x a := by
  obtain ⟨xs, n, rfl, _, hl, hxl, hf⟩ := DataW.trod_struct Try.underlying53 h
  have hl : cs.length = 2 := hl.trans (by kernel_rfl)
  have hxl : xs.length = 2 := hxl
  match cs, hl with
  | [c0, c1], _ =>
    have t0 : DataW.trod enc Try.prog W base spare held n 51 [c0] = some (xs[0]'(by omega)) := by
      have q : DataW.trod enc Try.prog W base spare held n 51 (List.take (Try.prog.cellsOf 51) (List.drop 0 [c0, c1])) = xs[0]? := hf 0 _ rfl
      rw [show Try.prog.cellsOf 51 = 1 from by kernel_rfl, List.getElem?_eq_getElem (by omega)] at q
      exact q
    have t1 : DataW.trod enc Try.prog W base spare held n 51 [c1] = some (xs[1]'(by omega)) := by
      have q : DataW.trod enc Try.prog W base spare held n 51 (List.take (Try.prog.cellsOf 51) (List.drop 1 [c0, c1])) = xs[1]? := hf 1 _ rfl
      rw [show Try.prog.cellsOf 51 = 1 from by kernel_rfl, List.getElem?_eq_getElem (by omega)] at q
      exact q
    obtain ⟨A0, k0, s0, e0, l0, i0, S0⟩ := openPieceS t0
    simp only [List.cons.injEq, and_true] at e0
    subst e0
    obtain ⟨A1, k1, s1, e1, l1, i1, S1⟩ := openPieceS t1
    simp only [List.cons.injEq, and_true] at e1
    subst e1
    exact ⟨⟨s0, s1⟩, ⟨⟨A0, k0⟩, ⟨A1, k1⟩⟩, ⟨i0, i1⟩, rfl, ⟨l0, l1⟩, ⟨S0, S1⟩⟩
set_option maxRecDepth 100000 in
theorem openLaw {H : Type} {enc : TypeId × Value → H} {W : World} {base b0 : Nat} {spare : Nat → Bool} {held : Bool} {r : Reach} {v : Value} {d : DataW H} {p : List MemPlace}
    (hv : Value.okWide Try.prog W r b0 53 v) (h : DataW.Trod enc Try.prog W base spare held 53 v d p) :
    ∃ (x : Law) (a : LawA), LawIn x ∧ v = lawV x a ∧ (List.length x.lows ≤ 9223372036854775807 ∧ List.length x.highs ≤ 9223372036854775807) ∧ LawSl W x a := by
  obtain ⟨cs, rfl, _⟩ := okWide_struct Try.underlying53 hv
  obtain ⟨fuel, hf⟩ := h
  obtain ⟨x, a, h1, h2, h3, h4⟩ := openLawC (cs := cs.toList) (by simpa [Value.cells] using hf)
  refine ⟨x, a, h1, ?_, h3, h4⟩
  cases cs
  simp only at h2
  rw [h2]
set_option maxRecDepth 100000 in
theorem openIntSV {H : Type} {enc : TypeId × Value → H} {W : World} {base b0 : Nat} {spare : Nat → Bool} {held : Bool} {r : Reach} {v : Value} {d : DataW H} {p : List MemPlace}
    (hv : Value.okWide Try.prog W r b0 22 v) (h : DataW.Trod enc Try.prog W base spare held 22 v d p) :
    ∃ A cap, ∃ xs : List Int, v = .slice A xs.length cap ∧ xs.length ≤ 9223372036854775807 ∧ (∀ y ∈ xs, In64 y) ∧ Sl 1 intC W A xs := by
  obtain ⟨a0, len, cap, rfl⟩ := okWide_slice Try.underlying22 hv
  obtain ⟨fuel, hf⟩ := h
  obtain ⟨A, cap', xs, e1, h1, h2, h3⟩ := open_intS Try.underlying22 Try.underlying3 (by kernel_rfl) hf
  simp only [Value.cells, List.cons.injEq, and_true] at e1
  exact ⟨A, cap', xs, e1, h1, h2, h3⟩
set_option maxRecDepth 100000 in
theorem openHalfSV {H : Type} {enc : TypeId × Value → H} {W : World} {base b0 : Nat} {spare : Nat → Bool} {held : Bool} {r : Reach} {v : Value} {d : DataW H} {p : List MemPlace}
    (hv : Value.okWide Try.prog W r b0 108 v) (h : DataW.Trod enc Try.prog W base spare held 108 v d p) :
    ∃ A cap, ∃ xs : List Half, v = .slice A xs.length cap ∧ xs.length ≤ 9223372036854775807 ∧ (∀ y ∈ xs, Half.In y) ∧ Sl 3 halfC W A xs := by
  obtain ⟨a0, len, cap, rfl⟩ := okWide_slice Try.underlying108 hv
  obtain ⟨fuel, hf⟩ := h
  obtain ⟨A, cap', xs, e1, h1, h2, h3⟩ := openHalfS hf
  simp only [Value.cells, List.cons.injEq, and_true] at e1
  exact ⟨A, cap', xs, e1, h1, h2, h3⟩
set_option maxRecDepth 100000 in
theorem openSpotSV {H : Type} {enc : TypeId × Value → H} {W : World} {base b0 : Nat} {spare : Nat → Bool} {held : Bool} {r : Reach} {v : Value} {d : DataW H} {p : List MemPlace}
    (hv : Value.okWide Try.prog W r b0 35 v) (h : DataW.Trod enc Try.prog W base spare held 35 v d p) :
    ∃ A cap, ∃ xs : List Spot, v = .slice A xs.length cap ∧ xs.length ≤ 9223372036854775807 ∧ (∀ y ∈ xs, Spot.In y) ∧ Sl 3 spotC W A xs := by
  obtain ⟨a0, len, cap, rfl⟩ := okWide_slice Try.underlying35 hv
  obtain ⟨fuel, hf⟩ := h
  obtain ⟨A, cap', xs, e1, h1, h2, h3⟩ := openSpotS hf
  simp only [Value.cells, List.cons.injEq, and_true] at e1
  exact ⟨A, cap', xs, e1, h1, h2, h3⟩
set_option maxRecDepth 100000 in
theorem openRatioSV {H : Type} {enc : TypeId × Value → H} {W : World} {base b0 : Nat} {spare : Nat → Bool} {held : Bool} {r : Reach} {v : Value} {d : DataW H} {p : List MemPlace}
    (hv : Value.okWide Try.prog W r b0 36 v) (h : DataW.Trod enc Try.prog W base spare held 36 v d p) :
    ∃ A cap, ∃ xs : List Ratio, v = .slice A xs.length cap ∧ xs.length ≤ 9223372036854775807 ∧ (∀ y ∈ xs, Ratio.In y) ∧ Sl 2 ratioC W A xs := by
  obtain ⟨a0, len, cap, rfl⟩ := okWide_slice Try.underlying36 hv
  obtain ⟨fuel, hf⟩ := h
  obtain ⟨A, cap', xs, e1, h1, h2, h3⟩ := openRatioS hf
  simp only [Value.cells, List.cons.injEq, and_true] at e1
  exact ⟨A, cap', xs, e1, h1, h2, h3⟩
set_option maxRecDepth 100000 in
theorem openPieceSV {H : Type} {enc : TypeId × Value → H} {W : World} {base b0 : Nat} {spare : Nat → Bool} {held : Bool} {r : Reach} {v : Value} {d : DataW H} {p : List MemPlace}
    (hv : Value.okWide Try.prog W r b0 51 v) (h : DataW.Trod enc Try.prog W base spare held 51 v d p) :
    ∃ A cap, ∃ xs : List Piece, v = .slice A xs.length cap ∧ xs.length ≤ 9223372036854775807 ∧ (∀ y ∈ xs, Piece.In y) ∧ Sl 4 pieceC W A xs := by
  obtain ⟨a0, len, cap, rfl⟩ := okWide_slice Try.underlying51 hv
  obtain ⟨fuel, hf⟩ := h
  obtain ⟨A, cap', xs, e1, h1, h2, h3⟩ := openPieceS hf
  simp only [Value.cells, List.cons.injEq, and_true] at e1
  exact ⟨A, cap', xs, e1, h1, h2, h3⟩
set_option maxRecDepth 100000 in
theorem openRecordSV {H : Type} {enc : TypeId × Value → H} {W : World} {base b0 : Nat} {spare : Nat → Bool} {held : Bool} {r : Reach} {v : Value} {d : DataW H} {p : List MemPlace}
    (hv : Value.okWide Try.prog W r b0 98 v) (h : DataW.Trod enc Try.prog W base spare held 98 v d p) :
    ∃ A cap, ∃ xs : List Record, v = .slice A xs.length cap ∧ xs.length ≤ 9223372036854775807 ∧ (∀ y ∈ xs, Record.In y) ∧ Sl 3 recordC W A xs := by
  obtain ⟨a0, len, cap, rfl⟩ := okWide_slice Try.underlying98 hv
  obtain ⟨fuel, hf⟩ := h
  obtain ⟨A, cap', xs, e1, h1, h2, h3⟩ := openRecordS hf
  simp only [Value.cells, List.cons.injEq, and_true] at e1
  exact ⟨A, cap', xs, e1, h1, h2, h3⟩
set_option maxRecDepth 100000 in
theorem openModeSV {H : Type} {enc : TypeId × Value → H} {W : World} {base b0 : Nat} {spare : Nat → Bool} {held : Bool} {r : Reach} {v : Value} {d : DataW H} {p : List MemPlace}
    (hv : Value.okWide Try.prog W r b0 113 v) (h : DataW.Trod enc Try.prog W base spare held 113 v d p) :
    ∃ A cap, ∃ xs : List Mode, v = .slice A xs.length cap ∧ xs.length ≤ 9223372036854775807 ∧ (∀ y ∈ xs, Mode.In y) ∧ Sl 2 modeC W A xs := by
  obtain ⟨a0, len, cap, rfl⟩ := okWide_slice Try.underlying113 hv
  obtain ⟨fuel, hf⟩ := h
  obtain ⟨A, cap', xs, e1, h1, h2, h3⟩ := openModeS hf
  simp only [Value.cells, List.cons.injEq, and_true] at e1
  exact ⟨A, cap', xs, e1, h1, h2, h3⟩
end Go.Proofs.Ytbdihgcjopbnjaa
