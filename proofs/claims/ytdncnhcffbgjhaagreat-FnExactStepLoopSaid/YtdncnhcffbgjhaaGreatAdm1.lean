/-
 Parts of the inputs that a region admits: of the program and of the reference.
 Conditions: valid rooms, half planes and states.
-/
import Derived.Test.YtdncnhcffbgjhaaGreatGrV
import Derived.Test.YtdncnhcffbgjhaaGreatGrG
import Derived.Test.YtdncnhcffbgjhaaGreatInvK
import Derived.Test.YtdncnhcffbgjhaaGreatNewR
namespace Go.Proofs.YtdncnhcffbgjhaaGreat
open Go.RowKit
theorem ratio_one {n : Int} (h : -1000 ≤ n ∧ n ≤ 1000) : ratioOf n 1 = ⟨n, 1⟩ := by
 have := ratio_less (c := n) (n := 0) (d := 1) ⟨by omega, by omega⟩ ⟨by omega, by omega⟩ ⟨by omega, by omega⟩ (by decide)
 simpa using this
theorem four_of {m : List Int} (h : m.length = 4) : m = [m.getD 0 0, m.getD 1 0, m.getD 2 0, m.getD 3 0] := by
 match m, h with
 | [_, _, _, _], _ => rfl
theorem whole_c (n : Int) (w : World) :
  Calls Tryz.prog 165 #[.int .i64 n] w fun e w' => e = .returned (ratioV ⟨n, 1⟩) ∧ Below w.heap.size w w' := by
 have H0 := Has.new w #[.int .i64 0, .int .i64 0] 52
 have b0 := below_al (Below.refl w.heap.size w) (.cells #[.int .i64 0, .int .i64 0] 52)
 generalize hW : w.alloc (.cells #[.int .i64 0, .int .i64 0] 52) = W at *
 have hW' := Lib.hid hW
 clear hW
 obtain ⟨cH0_0, fH0_0⟩ := H0.2 0 _ rfl
 obtain ⟨cH0_1, fH0_1⟩ := H0.2 1 _ rfl
 have l0 := H0.1
 go_enter Tryz.func165, Tryz.ntmps165
 go_upto_region 1 with fail
 rw [hW'.out]
 clear hW'
 go_wp2
 refine bodyPost_ret (v := .agg #[.int .i64 n, .int .i64 1]) (by simp [results, Tryz.results165, go_sem, *]) rfl ⟨rfl, ?_⟩
 exact below_cells b0 (by omega) (o := 0) [_, _]
theorem slope_c (r : Room) (a : RoomA) (h : Half) (w : World) (ha : -5000000 ≤ h.a * r.bx ∧ h.a * r.bx ≤ 5000000) (hb : -5000000 ≤ h.b * r.by_ ∧ h.b * r.by_ ≤ 5000000) :
  Calls Tryz.prog 68 #[roomV r a, halfV h] w fun e w' => e = .returned (.int .i64 (slopeA r h)) ∧ Below w.heap.size w w' := by
 go_enter Tryz.func68, Tryz.ntmps68
 go_wp2
 go_ret
 refine ⟨rfl, ?_⟩
 exact belA
set_option maxRecDepth 100000 in
set_option maxHeartbeats 2000000 in
theorem mapped_c (m : List Int) (q : Int) (A : Option Addr) (c : Nat) (s : Spot) (w : World) (hm : m.length = 4) (h0 : -2000000000 ≤ m.getD 0 0 * s.x ∧ m.getD 0 0 * s.x ≤ 2000000000) (h1 : -2000000000 ≤ m.getD 1 0 * s.y ∧ m.getD 1 0 * s.y ≤ 2000000000) (h2 : -2000000000 ≤ m.getD 2 0 * s.x ∧ m.getD 2 0 * s.x ≤ 2000000000) (h3 : -2000000000 ≤ m.getD 3 0 * s.y ∧ m.getD 3 0 * s.y ≤ 2000000000) (hd : 1 ≤ q * s.d ∧ q * s.d ≤ 2000000) (hs : Sl 1 intC w A m) :
  Calls Tryz.prog 166 #[spotV s, .slice A m.length c, .int .i64 q] w fun e w' => e = .returned (.tuple #[.int .i64 (m.getD 0 0 * s.x + m.getD 1 0 * s.y), .int .i64 (m.getD 2 0 * s.x + m.getD 3 0 * s.y), .int .i64 (q * s.d)]) ∧ Below w.heap.size w w' := by
 have e := four_of hm
 generalize m.getD 0 0 = m0 at *
 generalize m.getD 1 0 = m1 at *
 generalize m.getD 2 0 = m2 at *
 generalize m.getD 3 0 = m3 at *
 subst e
 have H0 := Has.new w #[.int .i64 s.x, .int .i64 s.y, .int .i64 s.d] 57
 have b0 := below_al (Below.refl w.heap.size w) (.cells #[.int .i64 s.x, .int .i64 s.y, .int .i64 s.d] 57)
 have hs0 := hs.below b0
 generalize hW : w.alloc (.cells #[.int .i64 s.x, .int .i64 s.y, .int .i64 s.d] 57) = W at *
 have hW' := Lib.hid hW
 clear hW
 obtain ⟨b, off, hA, hblt, hc⟩ := hs0.at_ (show 0 < [m0, m1, m2, m3].length by simp)
 have g0 := hc 0 _ rfl
 obtain ⟨b1, off1, hA1, _, hc1⟩ := hs0.at_ (show 1 < [m0, m1, m2, m3].length by simp)
 obtain ⟨b2, off2, hA2, _, hc2⟩ := hs0.at_ (show 2 < [m0, m1, m2, m3].length by simp)
 obtain ⟨b3, off3, hA3, _, hc3⟩ := hs0.at_ (show 3 < [m0, m1, m2, m3].length by simp)
 rw [hA] at hA1 hA2 hA3
 cases hA1; cases hA2; cases hA3
 have g1 := hc1 0 _ rfl
 have g2 := hc2 0 _ rfl
 have g3 := hc3 0 _ rfl
 subst hA
 simp only [Nat.mul_one, Nat.add_zero, List.getElem_cons_zero, List.getElem_cons_succ] at g0 g1 g2 g3
 clear hc hc1 hc2 hc3 hs0
 obtain ⟨cH0_0, fH0_0⟩ := H0.2 0 _ rfl
 obtain ⟨cH0_1, fH0_1⟩ := H0.2 1 _ rfl
 obtain ⟨cH0_2, fH0_2⟩ := H0.2 2 _ rfl
 have l0 := H0.1
 go_enter Tryz.func166, Tryz.ntmps166
 go_upto_region 1 with fail
 rw [hW'.out]
 clear hW'
 go_big_quiet (fail)
 go_wp2
 refine bodyPost_ret (v := .tuple #[.int .i64 (m0 * s.x + m1 * s.y), .int .i64 (m2 * s.x + m3 * s.y), .int .i64 (q * s.d)]) (by simp [results, Tryz.results166, go_sem]) rfl ⟨rfl, ?_⟩
 exact belA
set_option maxRecDepth 100000 in
set_option maxHeartbeats 4000000 in
theorem l11Top_c (r : Room) (a : RoomA) (h : Half) (s : Spot) (w : World) (B : RoomB r) (M : MapB r s) (P : AdmP r s h) (hs : Sl 1 intC w a.map.A r.map) :
  Calls Tryz.prog 202 #[roomV r a, halfV h, spotV s] w fun e w' => e = .returned (.tuple #[.int .i64 (topA r s h), .int .i64 (mapD r s)]) ∧ Below w.heap.size w w' := by
 obtain ⟨h0, h1, h2, h3, hd⟩ := M
 obtain ⟨_, _, pc, px, py, _⟩ := P
 have e := four_of B.len
 clear B
 obtain ⟨map, div, bx, by_, low, high, noise, limits⟩ := r
 simp only [topA, mapX, mapY, mapD] at *
 generalize map.getD 0 0 = m0 at *
 generalize map.getD 1 0 = m1 at *
 generalize map.getD 2 0 = m2 at *
 generalize map.getD 3 0 = m3 at *
 subst e
 obtain ⟨W, hW⟩ : ∃ W, W = ((w.alloc (.cells #[.slice a.map.A 4 a.map.c, .int .i64 div, .int .i64 bx, .int .i64 by_, .int .i64 low, .int .i64 high, .slice a.noise.A noise.length a.noise.c, .slice a.limits.A limits.length a.limits.c] 39)).alloc (.cells #[.int .i64 h.a, .int .i64 h.b, .int .i64 h.c] 111)).alloc (.cells #[.int .i64 s.x, .int .i64 s.y, .int .i64 s.d] 57) := ⟨_, rfl⟩
 have HB : Has W w.heap.size [.slice a.map.A 4 a.map.c, .int .i64 div, .int .i64 bx, .int .i64 by_, .int .i64 low, .int .i64 high, .slice a.noise.A noise.length a.noise.c, .slice a.limits.A limits.length a.limits.c] := by
  rw [hW]
  exact hasA
 have HH : Has W (w.heap.size + 1) [.int .i64 h.a, .int .i64 h.b, .int .i64 h.c] := by
  rw [hW]
  exact hasA
 have HS : Has W (w.heap.size + 1 + 1) [.int .i64 s.x, .int .i64 s.y, .int .i64 s.d] := by
  rw [hW]
  exact hasA
 have b0 : Below w.heap.size w W := by
  rw [hW]
  exact belA
 have hs0 := hs.below b0
 have hW' := Lib.hid hW
 clear hW hs
 obtain ⟨b, off, hA, hblt, hc⟩ := hs0.at_ (show 0 < [m0, m1, m2, m3].length by simp)
 have g0 := hc 0 _ rfl
 obtain ⟨b1, off1, hA1, _, hc1⟩ := hs0.at_ (show 1 < [m0, m1, m2, m3].length by simp)
 obtain ⟨b2, off2, hA2, _, hc2⟩ := hs0.at_ (show 2 < [m0, m1, m2, m3].length by simp)
 obtain ⟨b3, off3, hA3, _, hc3⟩ := hs0.at_ (show 3 < [m0, m1, m2, m3].length by simp)
 rw [hA] at hA1 hA2 hA3
 cases hA1; cases hA2; cases hA3
 have g1 := hc1 0 _ rfl
 have g2 := hc2 0 _ rfl
 have g3 := hc3 0 _ rfl
 rw [hA] at HB hW'
 simp only [Nat.mul_one, Nat.add_zero, List.getElem_cons_zero, List.getElem_cons_succ] at g0 g1 g2 g3
 clear hc hc1 hc2 hc3 hs0
 obtain ⟨cHB_0, fHB_0⟩ := HB.2 0 _ rfl
 obtain ⟨cHB_1, fHB_1⟩ := HB.2 1 _ rfl
 obtain ⟨cHB_2, fHB_2⟩ := HB.2 2 _ rfl
 obtain ⟨cHB_3, fHB_3⟩ := HB.2 3 _ rfl
 obtain ⟨cHB_4, fHB_4⟩ := HB.2 4 _ rfl
 obtain ⟨cHB_5, fHB_5⟩ := HB.2 5 _ rfl
 obtain ⟨cHB_6, fHB_6⟩ := HB.2 6 _ rfl
 obtain ⟨cHB_7, fHB_7⟩ := HB.2 7 _ rfl
 obtain ⟨cHH_0, fHH_0⟩ := HH.2 0 _ rfl
 obtain ⟨cHH_1, fHH_1⟩ := HH.2 1 _ rfl
 obtain ⟨cHH_2, fHH_2⟩ := HH.2 2 _ rfl
 obtain ⟨cHS_0, fHS_0⟩ := HS.2 0 _ rfl
 obtain ⟨cHS_1, fHS_1⟩ := HS.2 1 _ rfl
 obtain ⟨cHS_2, fHS_2⟩ := HS.2 2 _ rfl
 have lB := HB.1
 have lH := HH.1
 have lS := HS.1
 obtain ⟨⟨mA, mc⟩, nA, lA⟩ := a
 simp only at *
 subst hA
 go_enter Tryz.func202, Tryz.ntmps202
 go_upto_region 1 with fail
 rw [← hW'.out]
 clear hW'
 go_big_quiet (fail)
 go_upto_region 2 with fail
 go_big_quiet (fail)
 go_wp2
 refine bodyPost_ret (v := .tuple #[.int .i64 (h.c * (div * s.d) - h.a * (m0 * s.x + m1 * s.y) - h.b * (m2 * s.x + m3 * s.y)), .int .i64 (div * s.d)]) (by simp [results, Tryz.results202, go_sem]) rfl ⟨rfl, ?_⟩
 exact belA
end Go.Proofs.YtdncnhcffbgjhaaGreat
