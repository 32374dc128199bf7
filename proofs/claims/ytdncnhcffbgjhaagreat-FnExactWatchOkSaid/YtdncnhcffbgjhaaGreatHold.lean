/-
 Whether a region contains a point: of the program.
 Conditions: valid half planes, valid points.
-/
import Derived.Test.YtdncnhcffbgjhaaGreatGrL
import Derived.Test.YtdncnhcffbgjhaaGreatGrR
import Derived.Test.YtdncnhcffbgjhaaGreatGrZ
import Derived.Test.YtdncnhcffbgjhaaGreatGrW
import Derived.Test.YtdncnhcffbgjhaaGreatGrS
namespace Go.Proofs.YtdncnhcffbgjhaaGreat
open Go.RowKit
def valS (h : Half) (s : Spot) : Int := h.a * s.x + h.b * s.y - h.c * s.d
def holdsH (s : Spot) (h : Half) : Bool := decide (valS h s ≤ 0)
def holdsB (p : List Half) (s : Spot) : Bool := !decide (p.length = 0) && p.all (holdsH s)
def withinB (p q : List Half) : Bool := (corners p).all (holdsB q)
theorem holds_no {p : List Half} {s : Spot} {k : Nat} (h : k < p.length) (hb : 0 < sgn (valS p[k] s)) : holdsB p s = false := by
 unfold holdsB
 have : p.all (holdsH s) = false := by
  rw [List.all_eq_false]
  refine ⟨p[k], List.getElem_mem h, ?_⟩
  unfold holdsH
  have : ¬ valS p[k] s ≤ 0 := fun h2 => by have := sgn_le.2 h2; omega
  rw [decide_eq_false this]; decide
 rw [this, Bool.and_false]
theorem holds_step {p : List Half} {s : Spot} {k : Nat} (h : k < p.length) (h1 : (p.take k).all (holdsH s) = true) (hb : ¬ 0 < sgn (valS p[k] s)) : (p.take (k + 1)).all (holdsH s) = true := by
 rw [List.take_add_one, List.getElem?_eq_getElem h, List.all_append, h1]
 have : valS p[k] s ≤ 0 := sgn_le.1 (by omega)
 simp [holdsH, this]
theorem valS_bd {h : Half} {s : Spot} (hh : halfOk h = true) (hs : spotOk s = true) : (-250000000000000000 ≤ h.a * s.x ∧ h.a * s.x ≤ 250000000000000000) ∧ (-250000000000000000 ≤ h.b * s.y ∧ h.b * s.y ≤ 250000000000000000) ∧ (-500000000000000000 ≤ h.c * s.d ∧ h.c * s.d ≤ 500000000000000000) := by
 obtain ⟨h1, h2, h3, _⟩ := spotOk_iff.1 hs
 obtain ⟨a1, a2, a3, _⟩ := halfOk_iff.1 hh
 have p := mulB (a := h.a) (b := s.x) (A := 50000) (B := 5000000000000) ⟨by omega, by omega⟩ ⟨by omega, by omega⟩
 have q := mulB (a := h.b) (b := s.y) (A := 50000) (B := 5000000000000) ⟨by omega, by omega⟩ ⟨by omega, by omega⟩
 have r := mulB (a := h.c) (b := s.d) (A := 100000000) (B := 5000000000) ⟨by omega, by omega⟩ ⟨by omega, by omega⟩
 exact ⟨⟨by omega, by omega⟩, ⟨by omega, by omega⟩, ⟨by omega, by omega⟩⟩
theorem spot_In {s : Spot} (hs : spotOk s = true) : s.In := by
 obtain ⟨h1, h2, h3, _⟩ := spotOk_iff.1 hs
 exact ⟨⟨by omega, by omega⟩, ⟨by omega, by omega⟩, ⟨by omega, by omega⟩⟩
theorem iSignOf_c (n : Int) (w : World) :
  Calls Tryz.prog 201 #[.int .i64 n] w fun e w' => e = .returned (.int .i64 (sgn n)) ∧ Below w.heap.size w w' := by
 rcases (show n < 0 ∨ n = 0 ∨ 0 < n by omega) with h | h | h
 ·rw [sgn_of_neg h]
  go_enter Tryz.func201, Tryz.ntmps201
  go_wp2
  go_ret
  refine ⟨rfl, ?_⟩
  exact belA
 ·subst h
  rw [sgn_zero]
  go_enter Tryz.func201, Tryz.ntmps201
  go_wp2
  go_ret
  refine ⟨rfl, ?_⟩
  exact belA
 ·rw [sgn_of_pos h]
  go_enter Tryz.func201, Tryz.ntmps201
  go_wp2
  go_ret
  refine ⟨rfl, ?_⟩
  exact belA
set_option maxHeartbeats 1000000 in
theorem iSideOf_c (h : Half) (s : Spot) (w : World) (hh : halfOk h = true) (hs : spotOk s = true) :
  Calls Tryz.prog 136 #[halfV h, spotV s] w fun e w' => e = .returned (.int .i64 (sgn (valS h s))) ∧ Below w.heap.size w w' := by
 have k1 := fun W => iHalfOk_c h W (hIn (hOk hh))
 have k2 := fun W => iSpotOk_c s W (spot_In hs)
 have k3 := fun W => iSignOf_c (valS h s) W
 obtain ⟨⟨b1, b2⟩, ⟨b3, b4⟩, ⟨b5, b6⟩⟩ := valS_bd hh hs
 rw [hh] at k1
 rw [hs] at k2
 clear hh hs
 change ∀ W, Calls _ _ #[.int .i64 (h.a * s.x + h.b * s.y - h.c * s.d)] W _ at k3
 generalize sgn (valS h s) = v at *
 go_enter Tryz.func136, Tryz.ntmps136
 go_wp2_with (fail)
 refine (k1 _).mono ?_
 rintro e w3 ⟨rfl, hb_w3⟩
 have r_w3 := bcell1 hb_w3
 have l_w3_0 : w.heap.size < w3.heap.size := blt hb_w3 (by first | (simp; done) | (simp; omega) | omega)
 have l_w3_1 : w.heap.size + 1 < w3.heap.size := blt hb_w3 (by first | (simp; done) | (simp; omega) | omega)
 go_wp2_with (fail)
 refine (k2 _).mono ?_
 rintro e w4 ⟨rfl, hb_w4⟩
 have r_w4 := bcell1 hb_w4
 have l_w4_0 : w.heap.size < w4.heap.size := blt hb_w4 (by first | (simp; done) | (simp; omega) | omega)
 have l_w4_1 : w.heap.size + 1 < w4.heap.size := blt hb_w4 (by first | (simp; done) | (simp; omega) | omega)
 go_wp2_with (fail)
 refine (k3 _).mono ?_
 rintro e w5 ⟨rfl, hb_w5⟩
 have r_w5 := bcell1 hb_w5
 have l_w5_0 : w.heap.size < w5.heap.size := blt hb_w5 (by first | (simp; done) | (simp; omega) | omega)
 have l_w5_1 : w.heap.size + 1 < w5.heap.size := blt hb_w5 (by first | (simp; done) | (simp; omega) | omega)
 go_wp2
 go_ret
 refine ⟨rfl, ?_⟩
 exact belA
set_option maxRecDepth 100000 in
set_option maxHeartbeats 4000000 in
theorem iHolds_c (p : List Half) (a : SlA) (s : Spot) (w : World) (hl : p.length ≤ 1000000) (hok : ∀ h ∈ p, halfOk h = true) (hs : spotOk s = true) (hsl : Sl 3 halfC w a.A p) :
  Calls Tryz.prog 104 #[regionV p a, spotV s] w fun e w' => e = .returned (.bool (holdsB p s)) ∧ Below w.heap.size w w' := by
 obtain ⟨A, cap⟩ := a
 simp only at hsl
 obtain ⟨W, hW⟩ : ∃ W, W = (w.alloc (.cells #[.slice A p.length cap] 37)).alloc (.cells #[.int .i64 s.x, .int .i64 s.y, .int .i64 s.d] 57) := ⟨_, rfl⟩
 have HA : Has W w.heap.size [.slice A p.length cap] := by rw [hW]; exact hasA
 have HB : Has W (w.heap.size + 1) [.int .i64 s.x, .int .i64 s.y, .int .i64 s.d] := by rw [hW]; exact hasA
 have b0 : Below w.heap.size w W := by rw [hW]; exact belA
 have hs0 := hsl.below b0
 have hW' := Lib.hid hW
 have hok' := Lib.hid hok
 clear hW hsl hok
 go_enter Tryz.func104, Tryz.ntmps104
 go_upto_region 1 with fail
 rw [← hW'.out]
 clear hW'
 obtain ⟨cHA_0, fHA_0⟩ := HA.2 0 _ rfl
 go_wp2
 go_loopw [6, 10] (fun _ i wr => ∃ k : Nat, k ≤ p.length ∧ i = .int .i64 k ∧ (p.take k).all (holdsH s) = true ∧ Below W.heap.size W wr) (fun _ i _ => p.length - (intOf i).toNat)
 case atStart => exact ⟨0, Nat.zero_le _, rfl, rfl, Below.refl _ _⟩
 case round =>
  obtain ⟨k, hk, rfl, hall, hbw⟩ := hrel
  have H1 := HA.below hbw
  have H2 := HB.below hbw
  have hS := hs0.below hbw
  have bw := b0.trans (hbw.mono b0.size)
  by_cases hlt : k < p.length
  ·obtain ⟨b, off, hA, hblt, hc⟩ := hS.at_ hlt
   have g0 := hc 0 _ rfl
   have g1 := hc 1 _ rfl
   have g2 := hc 2 _ rfl
   simp only [Nat.add_zero] at g0
   subst hA
   have c1 := fun W => iSideOf_c p[k] s W (hok'.out _ (List.getElem_mem hlt)) hs
   have hn := Lib.hid (fun h => @holds_no p s k hlt h)
   have hy := Lib.hid (fun h => @holds_step p s k hlt hall h)
   clear hc hall
   generalize sgn (valS p[k] s) = sg at *
   generalize p[k] = h at *
   have H1x := H1.alloc (.cells #[.int .i64 h.a, .int .i64 h.b, .int .i64 h.c] 111)
   have H2x := H2.alloc (.cells #[.int .i64 h.a, .int .i64 h.b, .int .i64 h.c] 111)
   have bx := hbw.alloc hbw.size (.cells #[.int .i64 h.a, .int .i64 h.b, .int .i64 h.c] 111)
   obtain ⟨cH2x_0, fH2x_0⟩ := H2x.2 0 _ rfl
   obtain ⟨cH2x_1, fH2x_1⟩ := H2x.2 1 _ rfl
   obtain ⟨cH2x_2, fH2x_2⟩ := H2x.2 2 _ rfl
   have l2 := H2x.1
   have e20 : wr.cell? ⟨w.heap.size + 1, 0, none⟩ = some (.int .i64 s.x) := (H2.2 0 _ rfl).1
   have e21 : wr.cell? ⟨w.heap.size + 1, 1, none⟩ = some (.int .i64 s.y) := (H2.2 1 _ rfl).1
   have e22 : wr.cell? ⟨w.heap.size + 1, 2, none⟩ = some (.int .i64 s.d) := (H2.2 2 _ rfl).1
   have lr := H2.1
   by_cases hp : 0 < sg
   ·have hv := Lib.hid (hn.out hp)
    go_wp2_with (fail)
    refine (c1 _).mono ?_
    rintro e w3 ⟨rfl, hb3⟩
    go_wp2
    go_ret
    exact ⟨by rw [hv.out]; rfl, b0.trans ((below_tr bx hb3).mono b0.size)⟩
   ·have hv := Lib.hid (hy.out hp)
    go_wp2_with (fail)
    refine (c1 _).mono ?_
    rintro e w3 ⟨rfl, hb3⟩
    go_wp2
    go_roundw
    case rel => exact ⟨k + 1, by omega, by go_num, hv.out, below_tr bx hb3⟩
    case measure => simp [intOf]; omega
  ·obtain rfl : k = p.length := by omega
   rw [List.take_length] at hall
   have hv := Lib.hid (show holdsB p s = !decide (p.length = 0) by unfold holdsB; rw [hall, Bool.and_true])
   have cv := fun W => iIsVoid_c p ⟨A, cap⟩ W
   obtain ⟨cH1_0, fH1_0⟩ := H1.2 0 _ rfl
   have l1 := H1.1
   generalize decide (p.length = 0) = vd at *
   clear hall hs0 hS
   go_wp2_with (fail)
   refine (cv _).mono ?_
   rintro e w3 ⟨rfl, hb3⟩
   go_wp2
   go_ret
   exact ⟨by rw [hv.out]; rfl, below_tr bw hb3⟩
end Go.Proofs.YtdncnhcffbgjhaaGreat
