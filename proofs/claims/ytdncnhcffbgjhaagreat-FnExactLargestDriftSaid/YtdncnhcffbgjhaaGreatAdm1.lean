/-
 Parts of the inputs that a region admits: of the program and of the reference.
 Conditions: valid rooms, half planes and states.
-/
import Derived.Test.YtdncnhcffbgjhaaGreatGrV
import Derived.Test.YtdncnhcffbgjhaaGreatGrG
import Derived.Test.YtdncnhcffbgjhaaGreatInvK
import Derived.Test.YtdncnhcffbgjhaaGreatNewR
namespace Go.Proofs.YtdncnhcffbgjhaaGreat
open Go.RowKit
theorem ratio_one {n : Int} (h : -1000 ≤ n ∧ n ≤ 1000) : ratioOf n 1 = ⟨n, 1⟩ := by
 have := ratio_less (c := n) (n := 0) (d := 1) ⟨by omega, by omega⟩ ⟨by omega, by omega⟩ ⟨by omega, by omega⟩ (by decide)
 simpa using this
theorem four_of {m : List Int} (h : m.length = 4) : m = [m.getD 0 0, m.getD 1 0, m.getD 2 0, m.getD 3 0] := by
 match m, h with
 | [_, _, _, _], _ => rfl
theorem whole_c (n : Int) (w : World) :
  Calls Tryz.prog 165 #[.int .i64 n] w fun e w' => e = .returned (ratioV ⟨n, 1⟩) ∧ Below w.heap.size w w' := by
 have H0 := Has.new w #[.int .i64 0, .int .i64 0] 52
 have b0 := below_al (Below.refl w.heap.size w) (.cells #[.int .i64 0, .int .i64 0] 52)
 generalize hW : w.alloc (.cells #[.int .i64 0, .int .i64 0] 52) = W at *
 have hW' := Lib.hid hW
 clear hW
 obtain ⟨cH0_0, fH0_0⟩ := H0.2 0 _ rfl
 obtain ⟨cH0_1, fH0_1⟩ := H0.2 1 _ rfl
 have l0 := H0.1
 go_enter Tryz.func165, Tryz.ntmps165
 go_upto_region 1 with fail
 rw [hW'.out]
 clear hW'
 go_wp2
 refine bodyPost_ret (v := .agg #[.int .i64 n, .int .i64 1]) (by simp [results, Tryz.results165, go_sem, *]) rfl ⟨rfl, ?_⟩
 exact below_cells b0 (by omega) (o := 0) [_, _]
theorem slope_c (r : Room) (a : RoomA) (h : Half) (w : World) (ha : -5000000 ≤ h.a * r.bx ∧ h.a * r.bx ≤ 5000000) (hb : -5000000 ≤ h.b * r.by_ ∧ h.b * r.by_ ≤ 5000000) :
  Calls Tryz.prog 68 #[roomV r a, halfV h] w fun e w' => e = .returned (.int .i64 (slopeA r h)) ∧ Below w.heap.size w w' := by
 go_enter Tryz.func68, Tryz.ntmps68
 go_wp2
 go_ret
 refine ⟨rfl, ?_⟩
 exact belA
set_option maxRecDepth 100000 in
set_option maxHeartbeats 2000000 in
theorem mapped_c (m : List Int) (q : Int) (A : Option Addr) (c : Nat) (s : Spot) (w : World) (hm : m.length = 4) (h0 : -2000000000 ≤ m.getD 0 0 * s.x ∧ m.getD 0 0 * s.x ≤ 2000000000) (h1 : -2000000000 ≤ m.getD 1 0 * s.y ∧ m.getD 1 0 * s.y ≤ 2000000000) (h2 : -2000000000 ≤ m.getD 2 0 * s.x ∧ m.getD 2 0 * s.x ≤ 2000000000) (h3 : -2000000000 ≤ m.getD 3 0 * s.y ∧ m.getD 3 0 * s.y ≤ 2000000000) (hd : 1 ≤ q * s.d ∧ q * s.d ≤ 2000000) (hs : Sl 1 intC w A m) :
  Calls Tryz.prog 166 #[spotV s, .slice A m.length c, .int .i64 q] w fun e w' => e = .returned (.tuple #[.int .i64 (m.getD 0 0 * s.x + m.getD 1 0 * s.y), .int .i64 (m.getD 2 0 * s.x + m.getD 3 0 * s.y), .int .i64 (q * s.d)]) ∧ Below w.heap.size w w' := by
 have e := four_of hm
 generalize m.getD 0 0 = m0 at *
 generalize m.getD 1 0 = m1 at *
 generalize m.getD 2 0 = m2 at *
 generalize m.getD 3 0 = m3 at *
 subst e
 have H0 := Has.new w #[.int .i64 s.x, .int .i64 s.y, .int .i64 s.d] 57
 have b0 := below_al (Below.refl w.heap.size w) (.cells #[.int .i64 s.x, .int .i64 s.y, .int .i64 s.d] 57)
 have hs0 := hs.below b0
 generalize hW : w.alloc (.cells #[.int .i64 s.x, .int .i64 s.y, .int .i64 s.d] 57) = W at *
 have hW' := Lib.hid hW
 clear hW
 obtain ⟨b, off, hA, hblt, hc⟩ := hs0.at_ (show 0 < [m0, m1, m2, m3].length by simp)
 have g0 := hc 0 _ rfl
 obtain ⟨b1, off1, hA1, _, hc1⟩ := hs0.at_ (show 1 < [m0, m1, m2, m3].length by simp)
 obtain ⟨b2, off2, hA2, _, hc2⟩ := hs0.at_ (show 2 < [m0, m1, m2, m3].length by simp)
 obtain ⟨b3, off3, hA3, _, hc3⟩ := hs0.at_ (show 3 < [m0, m1, m2, m3].length by simp)
 rw [hA] at hA1 hA2 hA3
 cases hA1; cases hA2; cases hA3
 have g1 := hc1 0 _ rfl
 have g2 := hc2 0 _ rfl
 have g3 := hc3 0 _ rfl
 subst hA
 simp only [Nat.mul_one, Nat.add_zero, List.getElem_cons_zero, List.getElem_cons_succ] at g0 g1 g2 g3
 clear hc hc1 hc2 hc3 hs0
 obtain ⟨cH0_0, fH0_0⟩ := H0.2 0 _ rfl
 obtain ⟨cH0_1, fH0_1⟩ := H0.2 1 _ rfl
 obtain ⟨cH0_2, fH0_2⟩ := H0.2 2 _ rfl
 have l0 := H0.1
 go_enter Tryz.func166, Tryz.ntmps166
 go_upto_region 1 with fail
 rw [hW'.out]
 clear hW'
 go_big_quiet (fail)
 go_wp2
 refine bodyPost_ret (v := .tuple #[.int .i64 (m0 * s.x + m1 * s.y), .int .i64 (m2 * s.x + m3 * s.y), .int .i64 (q * s.d)]) (by simp [results, Tryz.results166, go_sem]) rfl ⟨rfl, ?_⟩
 exact belA
set_option maxRecDepth 100000 in
set_option maxHeartbeats 4000000 in
theorem l11Top_c (r : Room) (a : RoomA) (h : Half) (s : Spot) (w : World) (B : RoomB r) (M : MapB r s) (P : AdmP r s h) (hs : Sl 1 intC w a.map.A r.map) :
  Calls Tryz.prog 202 #[roomV r a, halfV h, spotV s] w fun e w' => e = .returned (.tuple #[.int .i64 (topA r s h), .int .i64 (mapD r s)]) ∧ Below w.heap.size w w' := by
 obtain ⟨h0, h1, h2, h3, hd⟩ := M
 obtain ⟨_, _, pc, px, py, _⟩ := P
 have e := four_of B.len
 clear B
 obtain ⟨map, div, bx, by_, low, high, noise, limits⟩ := r
 simp only [topA, mapX, mapY, mapD] at *
 generalize map.getD 0 0 = m0 at *
 generalize map.getD 1 0 = m1 at *
 generalize map.getD 2 0 = m2 at *
 generalize map.getD 3 0 = m3 at *
 subst e
 obtain ⟨W, hW⟩ : ∃ W, W = ((w.alloc (.cells #[.slice a.map.A 4 a.map.c, .int .i64 div, .int .i64 bx, .int .i64 by_, .int .i64 low, .int .i64 high, .slice a.noise.A noise.length a.noise.c, .slice a.limits.A limits.length a.limits.c] 39)).alloc (.cells #[.int .i64 h.a, .int .i64 h.b, .int .i64 h.c] 111)).alloc (.cells #[.int .i64 s.x, .int .i64 s.y, .int .i64 s.d] 57) := ⟨_, rfl⟩
 have HB : Has W w.heap.size [.slice a.map.A 4 a.map.c, .int .i64 div, .int .i64 bx, .int .i64 by_, .int .i64 low, .int .i64 high, .slice a.noise.A noise.length a.noise.c, .slice a.limits.A limits.length a.limits.c] := by
  rw [hW]
  exact hasA
 have HH : Has W (w.heap.size + 1) [.int .i64 h.a, .int .i64 h.b, .int .i64 h.c] := by
  rw [hW]
  exact hasA
 have HS : Has W (w.heap.size + 1 + 1) [.int .i64 s.x, .int .i64 s.y, .int .i64 s.d] := by
  rw [hW]
  exact hasA
 have b0 : Below w.heap.size w W := by
  rw [hW]
  exact belA
 have hs0 := hs.below b0
 have hW' := Lib.hid hW
 clear hW hs
 obtain ⟨b, off, hA, hblt, hc⟩ := hs0.at_ (show 0 < [m0, m1, m2, m3].length by simp)
 have g0 := hc 0 _ rfl
 obtain ⟨b1, off1, hA1, _, hc1⟩ := hs0.at_ (show 1 < [m0, m1, m2, m3].length by simp)
 obtain ⟨b2, off2, hA2, _, hc2⟩ := hs0.at_ (show 2 < [m0, m1, m2, m3].length by simp)
 obtain ⟨b3, off3, hA3, _, hc3⟩ := hs0.at_ (show 3 < [m0, m1, m2, m3].length by simp)
 rw [hA] at hA1 hA2 hA3
 cases hA1; cases hA2; cases hA3
 have g1 := hc1 0 _ rfl
 have g2 := hc2 0 _ rfl
 have g3 := hc3 0 _ rfl
 rw [hA] at HB hW'
 simp only [Nat.mul_one, Nat.add_zero, List.getElem_cons_zero, List.getElem_cons_succ] at g0 g1 g2 g3
 clear hc hc1 hc2 hc3 hs0
 obtain ⟨cHB_0, fHB_0⟩ := HB.2 0 _ rfl
 obtain ⟨cHB_1, fHB_1⟩ := HB.2 1 _ rfl
 obtain ⟨cHB_2, fHB_2⟩ := HB.2 2 _ rfl
 obtain ⟨cHB_3, fHB_3⟩ := HB.2 3 _ rfl
 obtain ⟨cHB_4, fHB_4⟩ := HB.2 4 _ rfl
 obtain ⟨cHB_5, fHB_5⟩ := HB.2 5 _ rfl
 obtain ⟨cHB_6, fHB_6⟩ := HB.2 6 _ rfl
 obtain ⟨cHB_7, fHB_7⟩ := HB.2 7 _ rfl
 obtain ⟨cHH_0, fHH_0⟩ := HH.2 0 _ rfl
 obtain ⟨cHH_1, fHH_1⟩ := HH.2 1 _ rfl
 obtain ⟨cHH_2, fHH_2⟩ := HH.2 2 _ rfl
 obtain ⟨cHS_0, fHS_0⟩ := HS.2 0 _ rfl
 obtain ⟨cHS_1, fHS_1⟩ := HS.2 1 _ rfl
 obtain ⟨cHS_2, fHS_2⟩ := HS.2 2 _ rfl
 have lB := HB.1
 have lH := HH.1
 have lS := HS.1
 obtain ⟨⟨mA, mc⟩, nA, lA⟩ := a
 simp only at *
 subst hA
 go_enter Tryz.func202, Tryz.ntmps202
 go_upto_region 1 with fail
 rw [← hW'.out]
 clear hW'
 go_big_quiet (fail)
 go_upto_region 2 with fail
 go_big_quiet (fail)
 go_wp2
 refine bodyPost_ret (v := .tuple #[.int .i64 (h.c * (div * s.d) - h.a * (m0 * s.x + m1 * s.y) - h.b * (m2 * s.x + m3 * s.y)), .int .i64 (div * s.d)]) (by simp [results, Tryz.results202, go_sem]) rfl ⟨rfl, ?_⟩
 exact belA
set_option maxRecDepth 100000 in
set_option maxHeartbeats 8000000 in
theorem iMeet2_c (x y : Span) (w : World) (hx : x.In) (hy : y.In) :
  Calls Tryz.prog 145 #[spanV x, spanV y] w fun e w' => e = .returned (optSpanV (meetSp x y)) ∧ Below w.heap.size w w' := by
 have c1 := fun W => iSpanOk_c x W hx
 have c2 := fun W => iSpanOk_c y W hy
 obtain ⟨W, hW⟩ : ∃ W, W = ((w.alloc (.cells #[.int .i64 x.low.n, .int .i64 x.low.d, .int .i64 x.high.n, .int .i64 x.high.d] 54)).alloc (.cells #[.int .i64 y.low.n, .int .i64 y.low.d, .int .i64 y.high.n, .int .i64 y.high.d] 54)).alloc (.cells #[.int .i64 0, .int .i64 0, .int .i64 0, .int .i64 0] 54) := ⟨_, rfl⟩
 have HA : HasT W w.heap.size 54 [.int .i64 x.low.n, .int .i64 x.low.d, .int .i64 x.high.n, .int .i64 x.high.d] := by
  rw [hW]
  exact ((HasT.new w [.int .i64 x.low.n, .int .i64 x.low.d, .int .i64 x.high.n, .int .i64 x.high.d] 54).alloc _).alloc _
 have HB : HasT W (w.heap.size + 1) 54 [.int .i64 y.low.n, .int .i64 y.low.d, .int .i64 y.high.n, .int .i64 y.high.d] := by
  rw [hW]
  have h1 := ((HasT.new (w.alloc (.cells #[.int .i64 x.low.n, .int .i64 x.low.d, .int .i64 x.high.n, .int .i64 x.high.d] 54)) [.int .i64 y.low.n, .int .i64 y.low.d, .int .i64 y.high.n, .int .i64 y.high.d] 54).alloc (.cells #[.int .i64 0, .int .i64 0, .int .i64 0, .int .i64 0] 54))
  simp only [World.size_alloc] at h1
  exact h1
 have HR : HasT W (w.heap.size + 1 + 1) 54 [.int .i64 0, .int .i64 0, .int .i64 0, .int .i64 0] := by
  rw [hW]
  have h1 := HasT.new ((w.alloc (.cells #[.int .i64 x.low.n, .int .i64 x.low.d, .int .i64 x.high.n, .int .i64 x.high.d] 54)).alloc (.cells #[.int .i64 y.low.n, .int .i64 y.low.d, .int .i64 y.high.n, .int .i64 y.high.d] 54)) [.int .i64 0, .int .i64 0, .int .i64 0, .int .i64 0] 54
  simp only [World.size_alloc] at h1
  exact h1
 have b0 : Below w.heap.size w W := by
  rw [hW]
  exact belA
 have zW := lt_of_heap HR
 have hW' := Lib.hid hW
 clear hW
 cases e1 : spanOk x
 ·have hF := Lib.hid (show meetSp x y = none by unfold meetSp; rw [if_neg (by rw [e1]; simp)])
  rw [e1] at c1
  have HA_ := HA.has
  have HB_ := HB.has
  obtain ⟨cHA__0, fHA__0⟩ := HA_.2 0 _ rfl
  obtain ⟨cHA__1, fHA__1⟩ := HA_.2 1 _ rfl
  obtain ⟨cHA__2, fHA__2⟩ := HA_.2 2 _ rfl
  obtain ⟨cHA__3, fHA__3⟩ := HA_.2 3 _ rfl
  obtain ⟨cHB__0, fHB__0⟩ := HB_.2 0 _ rfl
  obtain ⟨cHB__1, fHB__1⟩ := HB_.2 1 _ rfl
  obtain ⟨cHB__2, fHB__2⟩ := HB_.2 2 _ rfl
  obtain ⟨cHB__3, fHB__3⟩ := HB_.2 3 _ rfl
  have lA := HA_.1
  have lB := HB_.1
  go_enter Tryz.func145, Tryz.ntmps145
  go_upto_region 1 with fail
  rw [← hW'.out]
  clear hW'
  go_wp2_with (fail)
  refine (c1 _).mono ?_
  rintro e w1 ⟨rfl, hb1⟩
  have b1 := below_tr b0 hb1
  have HZ := (HR.below hb1).has
  obtain ⟨cHZ_0, fHZ_0⟩ := HZ.2 0 _ rfl
  obtain ⟨cHZ_1, fHZ_1⟩ := HZ.2 1 _ rfl
  obtain ⟨cHZ_2, fHZ_2⟩ := HZ.2 2 _ rfl
  obtain ⟨cHZ_3, fHZ_3⟩ := HZ.2 3 _ rfl
  have lZ := HZ.1
  go_wp2
  refine bodyPost_ret (v := .tuple #[.agg #[.int .i64 0, .int .i64 0, .int .i64 0, .int .i64 0], .bool false]) (by simp [results, Tryz.results145, go_sem, *]) rfl ⟨by rw [hF.out]; rfl, ?_⟩
  exact below_cells b1 (by omega) (o := 0) [_, _, _, _]
 rw [e1] at c1
 cases e2 : spanOk y
 ·have hF := Lib.hid (show meetSp x y = none by unfold meetSp; rw [if_neg (by rw [e2]; simp)])
  rw [e2] at c2
  have HA_ := HA.has
  have HB_ := HB.has
  obtain ⟨cHA__0, fHA__0⟩ := HA_.2 0 _ rfl
  obtain ⟨cHA__1, fHA__1⟩ := HA_.2 1 _ rfl
  obtain ⟨cHA__2, fHA__2⟩ := HA_.2 2 _ rfl
  obtain ⟨cHA__3, fHA__3⟩ := HA_.2 3 _ rfl
  obtain ⟨cHB__0, fHB__0⟩ := HB_.2 0 _ rfl
  obtain ⟨cHB__1, fHB__1⟩ := HB_.2 1 _ rfl
  obtain ⟨cHB__2, fHB__2⟩ := HB_.2 2 _ rfl
  obtain ⟨cHB__3, fHB__3⟩ := HB_.2 3 _ rfl
  have lA := HA_.1
  have lB := HB_.1
  go_enter Tryz.func145, Tryz.ntmps145
  go_upto_region 1 with fail
  rw [← hW'.out]
  clear hW'
  go_wp2_with (fail)
  refine (c1 _).mono ?_
  rintro e w1 ⟨rfl, hb1⟩
  have r1 := bcell1 hb1
  have l1 := blt hb1 lB
  go_wp2_with (fail)
  refine (c2 _).mono ?_
  rintro e w2 ⟨rfl, hb2⟩
  have b2 := below_tr (below_tr b0 hb1) hb2
  have HZ := ((HR.below hb1).below hb2).has
  obtain ⟨cHZ_0, fHZ_0⟩ := HZ.2 0 _ rfl
  obtain ⟨cHZ_1, fHZ_1⟩ := HZ.2 1 _ rfl
  obtain ⟨cHZ_2, fHZ_2⟩ := HZ.2 2 _ rfl
  obtain ⟨cHZ_3, fHZ_3⟩ := HZ.2 3 _ rfl
  have lZ := HZ.1
  go_wp2
  refine bodyPost_ret (v := .tuple #[.agg #[.int .i64 0, .int .i64 0, .int .i64 0, .int .i64 0], .bool false]) (by simp [results, Tryz.results145, go_sem, *]) rfl ⟨by rw [hF.out]; rfl, ?_⟩
  exact below_cells b2 (by omega) (o := 0) [_, _, _, _]
 rw [e2] at c2
 have ok1 := e1
 have ok2 := e2
 simp only [spanOk, Bool.and_eq_true] at ok1 ok2
 have kM := fun W => iRatioMax_c x.low y.low W hx.1 hy.1
 have kN := fun W => iRatioMin_c x.high y.high W hx.2 hy.2
 have hmx := ratioMax_in hx.1 hy.1
 have hmn := ratioMin_in hx.2 hy.2
 have hdef := Lib.hid (show meetSp x y = if spanOk ⟨ratioMax x.low y.low, ratioMin x.high y.high⟩ = true then some ⟨ratioMax x.low y.low, ratioMin x.high y.high⟩ else none by unfold meetSp; rw [e1, e2]; simp)
 clear ok1 ok2 e1 e2
 obtain ⟨lw_, hlo⟩ : ∃ lw_, lw_ = ratioMax x.low y.low := ⟨_, rfl⟩
 obtain ⟨up_, hhi⟩ : ∃ up_, up_ = ratioMin x.high y.high := ⟨_, rfl⟩
 rw [← hlo] at kM hmx
 rw [← hhi] at kN hmn
 rw [← hlo, ← hhi] at hdef
 clear hlo hhi
 have c3 := fun W => iSpanOk_c ⟨lw_, up_⟩ W ⟨hmx, hmn⟩
 have HA_ := HA.has
 have HB_ := HB.has
 obtain ⟨cHA__0, fHA__0⟩ := HA_.2 0 _ rfl
 obtain ⟨cHA__1, fHA__1⟩ := HA_.2 1 _ rfl
 obtain ⟨cHA__2, fHA__2⟩ := HA_.2 2 _ rfl
 obtain ⟨cHA__3, fHA__3⟩ := HA_.2 3 _ rfl
 obtain ⟨cHB__0, fHB__0⟩ := HB_.2 0 _ rfl
 obtain ⟨cHB__1, fHB__1⟩ := HB_.2 1 _ rfl
 obtain ⟨cHB__2, fHB__2⟩ := HB_.2 2 _ rfl
 obtain ⟨cHB__3, fHB__3⟩ := HB_.2 3 _ rfl
 have lA := HA_.1
 have lB := HB_.1
 go_enter Tryz.func145, Tryz.ntmps145
 go_upto_region 1 with fail
 rw [← hW'.out]
 clear hW'
 go_wp2_with (fail)
 refine (c1 _).mono ?_
 rintro e w1 ⟨rfl, hb1⟩
 have r1 := bcell1 hb1
 have l1 := blt hb1 lB
 go_wp2_with (fail)
 refine (c2 _).mono ?_
 rintro e w2 ⟨rfl, hb2⟩
 have A2 := (HA.below hb1).below hb2
 have B2 := (HB.below hb1).below hb2
 have R2 := (HR.below hb1).below hb2
 have b2 := below_tr (below_tr b0 hb1) hb2
 clear HA_ HB_ cHA__0 cHA__1 cHA__2 cHA__3 fHA__0 fHA__1 fHA__2 fHA__3 cHB__0 cHB__1 cHB__2 cHB__3 fHB__0 fHB__1 fHB__2 fHB__3 lA lB HA HB HR b0 c1 c2 r1 l1 hb1 hb2
 go_upto_region 3 with fail
 have lA := lt_of_heap A2
 have lB := lt_of_heap B2
 have lR := lt_of_heap R2
 have hBWA : w2.heap.size ≤ w2.heap.size := Nat.le_refl _
 have hTA_0 := A2
 have hTA_1 := B2
 have hTA_2 := R2
 obtain ⟨IA, hIA⟩ : ∃ I : Act → (Nat → Bool) → Act → World → Prop, I = (fun a0 L a w' => FrameOf a0 a [16, 17, 18, 19, 20, 21, 22, 23, 24, 25, 26, 6] ∧ Below (w2.heap.size) w2 w' ∧ (L 0 = true → a.tmps[16]?.getD undef = .pointer (some ⟨w.heap.size, 0, none⟩)) ∧ (L 1 = true → a.tmps[17]?.getD undef = .agg #[.int .i64 x.low.n, .int .i64 x.low.d]) ∧ (L 2 = true → a.tmps[18]?.getD undef = .pointer (some ⟨w.heap.size + 1, 0, none⟩)) ∧ (L 3 = true → a.tmps[19]?.getD undef = .agg #[.int .i64 y.low.n, .int .i64 y.low.d]) ∧ (L 4 = true → a.tmps[20]?.getD undef = ratioV lw_) ∧ (L 5 = true → a.tmps[21]?.getD undef = .pointer (some ⟨w.heap.size, 2, none⟩)) ∧ (L 6 = true → a.tmps[22]?.getD undef = .agg #[.int .i64 x.high.n, .int .i64 x.high.d]) ∧ (L 7 = true → a.tmps[23]?.getD undef = .pointer (some ⟨w.heap.size + 1, 2, none⟩)) ∧ (L 8 = true → a.tmps[24]?.getD undef = .agg #[.int .i64 y.high.n, .int .i64 y.high.d]) ∧ (L 9 = true → a.tmps[25]?.getD undef = ratioV up_) ∧ (L 10 = true → a.tmps[26]?.getD undef = .agg #[.int .i64 lw_.n, .int .i64 lw_.d, .int .i64 up_.n, .int .i64 up_.d]) ∧ (L 1 = true → L 0 = true) ∧ (L 3 = true → L 2 = true) ∧ (L 4 = true → L 1 = true) ∧ (L 4 = true → L 3 = true) ∧ (L 6 = true → L 5 = true) ∧ (L 8 = true → L 7 = true) ∧ (L 9 = true → L 6 = true) ∧ (L 9 = true → L 8 = true) ∧ (L 10 = true → L 4 = true) ∧ (L 10 = true → L 9 = true) ∧ (L 12 = true → L 10 = true) ∧ (L 12 = true → L 11 = true) ∧ (L 11 = true → ∃ g : Nat, a.tmps[6]?.getD undef = .pointer (some ⟨g, 0, none⟩) ∧ w2.heap.size ≤ g ∧ (L 12 = false → HasT w' g 54 [.int .i64 0, .int .i64 0, .int .i64 0, .int .i64 0]) ∧ (L 12 = true → HasT w' (g) 54 [.int .i64 lw_.n, .int .i64 lw_.d, .int .i64 up_.n, .int .i64 up_.d])) ∧ HasT w' (w.heap.size) 54 [.int .i64 x.low.n, .int .i64 x.low.d, .int .i64 x.high.n, .int .i64 x.high.d] ∧ HasT w' (w.heap.size + 1) 54 [.int .i64 y.low.n, .int .i64 y.low.d, .int .i64 y.high.n, .int .i64 y.high.d] ∧ HasT w' (w.heap.size + 1 + 1) 54 [.int .i64 0, .int .i64 0, .int .i64 0, .int .i64 0]) := ⟨_, rfl⟩
 refine wp_region_I0 (by kernel_rfl) (by kernel_rfl) IA ?h0 ?hs ?he
 case h0 =>
  rw [hIA]
  exact ⟨FrameOf.refl _ _, (Below.refl _ _).drew, fun h => absurd h (by simp), fun h => absurd h (by simp), fun h => absurd h (by simp), fun h => absurd h (by simp), fun h => absurd h (by simp), fun h => absurd h (by simp), fun h => absurd h (by simp), fun h => absurd h (by simp), fun h => absurd h (by simp), fun h => absurd h (by simp), fun h => absurd h (by simp), fun h => absurd h (by simp), fun h => absurd h (by simp), fun h => absurd h (by simp), fun h => absurd h (by simp), fun h => absurd h (by simp), fun h => absurd h (by simp), fun h => absurd h (by simp), fun h => absurd h (by simp), fun h => absurd h (by simp), fun h => absurd h (by simp), fun h => absurd h (by simp), fun h => absurd h (by simp), fun h => absurd h (by simp), hTA_0, hTA_1, hTA_2⟩
 case hs =>
  intro L a w' i o ho hLi hd hI'
  rw [hIA] at hI'
  obtain ⟨hF, hB, ci0, ci1, ci2, ci3, ci4, ci5, ci6, ci7, ci8, ci9, ci10, cp1_0, cp3_2, cp4_1, cp4_3, cp6_5, cp8_7, cp9_6, cp9_8, cp10_4, cp10_9, cp12_10, cp12_11, ca3, cy0, cy1, cy2⟩ := hI'
  have hi : i < 13 := by
   rcases Nat.lt_or_ge i 13 with h | h
   ·exact h
   ·rw [List.getElem?_eq_none (by simpa using h)] at ho; cases ho
  have zB := hB.size
  have hBw : w2.heap.size ≤ w'.heap.size := Nat.le_trans hBWA zB
  obtain rfl | rfl | rfl | rfl | rfl | rfl | rfl | rfl | rfl | rfl | rfl | rfl | rfl : i = 0 ∨ i = 1 ∨ i = 2 ∨ i = 3 ∨ i = 4 ∨ i = 5 ∨ i = 6 ∨ i = 7 ∨ i = 8 ∨ i = 9 ∨ i = 10 ∨ i = 11 ∨ i = 12 := by omega
  ·simp only [List.getElem?_cons_zero, Option.some.injEq] at ho
   subst ho
   rw [if_pos (by simp [Region.wanted])]
   have e0 : a.tmps[2]?.getD undef = .pointer (some ⟨w.heap.size, 0, none⟩) := hF.get (by decide)
   simp [go_sem, Array.getD_eq_getD_getElem?, e0]
   rw [hIA]
   exact ⟨hF.put (by decide) _, hB, fun _ => put_get_self (hF.lt (by simp)) _, pgK ci1 (by decide) rfl, pgK ci2 (by decide) rfl, pgK ci3 (by decide) rfl, pgK ci4 (by decide) rfl, pgK ci5 (by decide) rfl, pgK ci6 (by decide) rfl, pgK ci7 (by decide) rfl, pgK ci8 (by decide) rfl, pgK ci9 (by decide) rfl, pgK ci10 (by decide) rfl, fun _ => by simp, prK cp3_2 rfl, prK cp4_1 rfl, prK cp4_3 rfl, prK cp6_5 rfl, prK cp8_7 rfl, prK cp9_6 rfl, prK cp9_8 rfl, prK cp10_4 rfl, prK cp10_9 rfl, prK cp12_10 rfl, prK cp12_11 rfl, fun h => by obtain ⟨g2, e2, hg2, y2, z2⟩ := ca3 (by simpa using h); exact ⟨g2, (put_get_ne (by decide) _).trans e2, hg2, fun h => y2 (by simpa using h), fun h => z2 (by simpa using h)⟩, cy0, cy1, cy2⟩
  ·simp only [List.getElem?_cons_zero, List.getElem?_cons_succ, Option.some.injEq] at ho
   subst ho
   rw [if_pos (by simp [Region.wanted])]
   have d0 := hd { on := 0, ground := .data } (by simp) (by decide)
   have v0 := ci0 d0
   have HT0 := cy0
   have HH0 := HT0.has
   have lH0 := HH0.1
   obtain ⟨cH0_0, fH0_0⟩ := HH0.2 0 _ rfl
   obtain ⟨cH0_1, fH0_1⟩ := HH0.2 1 _ rfl
   simp [go_sem, Array.getD_eq_getD_getElem?, v0, cH0_0, cH0_1]
   rw [hIA]
   exact ⟨hF.put (by decide) _, hB, pgK ci0 (by decide) rfl, fun _ => put_get_self (hF.lt (by simp)) _, pgK ci2 (by decide) rfl, pgK ci3 (by decide) rfl, pgK ci4 (by decide) rfl, pgK ci5 (by decide) rfl, pgK ci6 (by decide) rfl, pgK ci7 (by decide) rfl, pgK ci8 (by decide) rfl, pgK ci9 (by decide) rfl, pgK ci10 (by decide) rfl, fun _ => by simp [d0], prK cp3_2 rfl, fun _ => by simp, prK cp4_3 rfl, prK cp6_5 rfl, prK cp8_7 rfl, prK cp9_6 rfl, prK cp9_8 rfl, prK cp10_4 rfl, prK cp10_9 rfl, prK cp12_10 rfl, prK cp12_11 rfl, fun h => by obtain ⟨g2, e2, hg2, y2, z2⟩ := ca3 (by simpa using h); exact ⟨g2, (put_get_ne (by decide) _).trans e2, hg2, fun h => y2 (by simpa using h), fun h => z2 (by simpa using h)⟩, cy0, cy1, cy2⟩
  ·simp only [List.getElem?_cons_zero, List.getElem?_cons_succ, Option.some.injEq] at ho
   subst ho
   rw [if_pos (by simp [Region.wanted])]
   have e0 : a.tmps[3]?.getD undef = .pointer (some ⟨w.heap.size + 1, 0, none⟩) := hF.get (by decide)
   simp [go_sem, Array.getD_eq_getD_getElem?, e0]
   rw [hIA]
   exact ⟨hF.put (by decide) _, hB, pgK ci0 (by decide) rfl, pgK ci1 (by decide) rfl, fun _ => put_get_self (hF.lt (by simp)) _, pgK ci3 (by decide) rfl, pgK ci4 (by decide) rfl, pgK ci5 (by decide) rfl, pgK ci6 (by decide) rfl, pgK ci7 (by decide) rfl, pgK ci8 (by decide) rfl, pgK ci9 (by decide) rfl, pgK ci10 (by decide) rfl, prK cp1_0 rfl, fun _ => by simp, prK cp4_1 rfl, prK cp4_3 rfl, prK cp6_5 rfl, prK cp8_7 rfl, prK cp9_6 rfl, prK cp9_8 rfl, prK cp10_4 rfl, prK cp10_9 rfl, prK cp12_10 rfl, prK cp12_11 rfl, fun h => by obtain ⟨g2, e2, hg2, y2, z2⟩ := ca3 (by simpa using h); exact ⟨g2, (put_get_ne (by decide) _).trans e2, hg2, fun h => y2 (by simpa using h), fun h => z2 (by simpa using h)⟩, cy0, cy1, cy2⟩
  ·simp only [List.getElem?_cons_zero, List.getElem?_cons_succ, Option.some.injEq] at ho
   subst ho
   rw [if_pos (by simp [Region.wanted])]
   have d2 := hd { on := 2, ground := .data } (by simp) (by decide)
   have v2 := ci2 d2
   have HT1 := cy1
   have HH1 := HT1.has
   have lH1 := HH1.1
   obtain ⟨cH1_0, fH1_0⟩ := HH1.2 0 _ rfl
   obtain ⟨cH1_1, fH1_1⟩ := HH1.2 1 _ rfl
   simp [go_sem, Array.getD_eq_getD_getElem?, v2, cH1_0, cH1_1]
   rw [hIA]
   exact ⟨hF.put (by decide) _, hB, pgK ci0 (by decide) rfl, pgK ci1 (by decide) rfl, pgK ci2 (by decide) rfl, fun _ => put_get_self (hF.lt (by simp)) _, pgK ci4 (by decide) rfl, pgK ci5 (by decide) rfl, pgK ci6 (by decide) rfl, pgK ci7 (by decide) rfl, pgK ci8 (by decide) rfl, pgK ci9 (by decide) rfl, pgK ci10 (by decide) rfl, prK cp1_0 rfl, fun _ => by simp [d2], prK cp4_1 rfl, fun _ => by simp, prK cp6_5 rfl, prK cp8_7 rfl, prK cp9_6 rfl, prK cp9_8 rfl, prK cp10_4 rfl, prK cp10_9 rfl, prK cp12_10 rfl, prK cp12_11 rfl, fun h => by obtain ⟨g2, e2, hg2, y2, z2⟩ := ca3 (by simpa using h); exact ⟨g2, (put_get_ne (by decide) _).trans e2, hg2, fun h => y2 (by simpa using h), fun h => z2 (by simpa using h)⟩, cy0, cy1, cy2⟩
  ·simp only [List.getElem?_cons_zero, List.getElem?_cons_succ, Option.some.injEq] at ho
   subst ho
   rw [if_pos (by simp [Region.wanted])]
   have d1 := hd { on := 1, ground := .data } (by simp) (by decide)
   have v1 := ci1 d1
   have d3 := hd { on := 3, ground := .data } (by simp) (by decide)
   have v3 := ci3 d3
   simp [go_sem, Array.getD_eq_getD_getElem?, v1, v3]
   refine (kM _).mono ?_
   rintro e wx ⟨rfl, hbx⟩
   rw [hIA]
   exact ⟨hF.put (by decide) _, hB.trans (hbx.mono hBw), pgK ci0 (by decide) rfl, pgK ci1 (by decide) rfl, pgK ci2 (by decide) rfl, pgK ci3 (by decide) rfl, fun _ => put_get_self (hF.lt (by simp)) _, pgK ci5 (by decide) rfl, pgK ci6 (by decide) rfl, pgK ci7 (by decide) rfl, pgK ci8 (by decide) rfl, pgK ci9 (by decide) rfl, pgK ci10 (by decide) rfl, prK cp1_0 rfl, prK cp3_2 rfl, fun _ => by simp [d1], fun _ => by simp [d3], prK cp6_5 rfl, prK cp8_7 rfl, prK cp9_6 rfl, prK cp9_8 rfl, fun _ => by simp, prK cp10_9 rfl, prK cp12_10 rfl, prK cp12_11 rfl, fun h => by obtain ⟨g2, e2, hg2, y2, z2⟩ := ca3 (by simpa using h); exact ⟨g2, (put_get_ne (by decide) _).trans e2, hg2, fun h => (y2 (by simpa using h)).below hbx, fun h => (z2 (by simpa using h)).below hbx⟩, (cy0).below hbx, (cy1).below hbx, (cy2).below hbx⟩
  ·simp only [List.getElem?_cons_zero, List.getElem?_cons_succ, Option.some.injEq] at ho
   subst ho
   rw [if_pos (by simp [Region.wanted])]
   have e0 : a.tmps[2]?.getD undef = .pointer (some ⟨w.heap.size, 0, none⟩) := hF.get (by decide)
   simp [go_sem, Array.getD_eq_getD_getElem?, e0]
   rw [hIA]
   exact ⟨hF.put (by decide) _, hB, pgK ci0 (by decide) rfl, pgK ci1 (by decide) rfl, pgK ci2 (by decide) rfl, pgK ci3 (by decide) rfl, pgK ci4 (by decide) rfl, fun _ => put_get_self (hF.lt (by simp)) _, pgK ci6 (by decide) rfl, pgK ci7 (by decide) rfl, pgK ci8 (by decide) rfl, pgK ci9 (by decide) rfl, pgK ci10 (by decide) rfl, prK cp1_0 rfl, prK cp3_2 rfl, prK cp4_1 rfl, prK cp4_3 rfl, fun _ => by simp, prK cp8_7 rfl, prK cp9_6 rfl, prK cp9_8 rfl, prK cp10_4 rfl, prK cp10_9 rfl, prK cp12_10 rfl, prK cp12_11 rfl, fun h => by obtain ⟨g2, e2, hg2, y2, z2⟩ := ca3 (by simpa using h); exact ⟨g2, (put_get_ne (by decide) _).trans e2, hg2, fun h => y2 (by simpa using h), fun h => z2 (by simpa using h)⟩, cy0, cy1, cy2⟩
  ·simp only [List.getElem?_cons_zero, List.getElem?_cons_succ, Option.some.injEq] at ho
   subst ho
   rw [if_pos (by simp [Region.wanted])]
   have d5 := hd { on := 5, ground := .data } (by simp) (by decide)
   have v5 := ci5 d5
   have HT0 := cy0
   have HH0 := HT0.has
   have lH0 := HH0.1
   obtain ⟨cH0_2, fH0_2⟩ := HH0.2 2 _ rfl
   obtain ⟨cH0_3, fH0_3⟩ := HH0.2 3 _ rfl
   simp [go_sem, Array.getD_eq_getD_getElem?, v5, cH0_2, cH0_3]
   rw [hIA]
   exact ⟨hF.put (by decide) _, hB, pgK ci0 (by decide) rfl, pgK ci1 (by decide) rfl, pgK ci2 (by decide) rfl, pgK ci3 (by decide) rfl, pgK ci4 (by decide) rfl, pgK ci5 (by decide) rfl, fun _ => put_get_self (hF.lt (by simp)) _, pgK ci7 (by decide) rfl, pgK ci8 (by decide) rfl, pgK ci9 (by decide) rfl, pgK ci10 (by decide) rfl, prK cp1_0 rfl, prK cp3_2 rfl, prK cp4_1 rfl, prK cp4_3 rfl, fun _ => by simp [d5], prK cp8_7 rfl, fun _ => by simp, prK cp9_8 rfl, prK cp10_4 rfl, prK cp10_9 rfl, prK cp12_10 rfl, prK cp12_11 rfl, fun h => by obtain ⟨g2, e2, hg2, y2, z2⟩ := ca3 (by simpa using h); exact ⟨g2, (put_get_ne (by decide) _).trans e2, hg2, fun h => y2 (by simpa using h), fun h => z2 (by simpa using h)⟩, cy0, cy1, cy2⟩
  ·simp only [List.getElem?_cons_zero, List.getElem?_cons_succ, Option.some.injEq] at ho
   subst ho
   rw [if_pos (by simp [Region.wanted])]
   have e0 : a.tmps[3]?.getD undef = .pointer (some ⟨w.heap.size + 1, 0, none⟩) := hF.get (by decide)
   simp [go_sem, Array.getD_eq_getD_getElem?, e0]
   rw [hIA]
   exact ⟨hF.put (by decide) _, hB, pgK ci0 (by decide) rfl, pgK ci1 (by decide) rfl, pgK ci2 (by decide) rfl, pgK ci3 (by decide) rfl, pgK ci4 (by decide) rfl, pgK ci5 (by decide) rfl, pgK ci6 (by decide) rfl, fun _ => put_get_self (hF.lt (by simp)) _, pgK ci8 (by decide) rfl, pgK ci9 (by decide) rfl, pgK ci10 (by decide) rfl, prK cp1_0 rfl, prK cp3_2 rfl, prK cp4_1 rfl, prK cp4_3 rfl, prK cp6_5 rfl, fun _ => by simp, prK cp9_6 rfl, prK cp9_8 rfl, prK cp10_4 rfl, prK cp10_9 rfl, prK cp12_10 rfl, prK cp12_11 rfl, fun h => by obtain ⟨g2, e2, hg2, y2, z2⟩ := ca3 (by simpa using h); exact ⟨g2, (put_get_ne (by decide) _).trans e2, hg2, fun h => y2 (by simpa using h), fun h => z2 (by simpa using h)⟩, cy0, cy1, cy2⟩
  ·simp only [List.getElem?_cons_zero, List.getElem?_cons_succ, Option.some.injEq] at ho
   subst ho
   rw [if_pos (by simp [Region.wanted])]
   have d7 := hd { on := 7, ground := .data } (by simp) (by decide)
   have v7 := ci7 d7
   have HT1 := cy1
   have HH1 := HT1.has
   have lH1 := HH1.1
   obtain ⟨cH1_2, fH1_2⟩ := HH1.2 2 _ rfl
   obtain ⟨cH1_3, fH1_3⟩ := HH1.2 3 _ rfl
   simp [go_sem, Array.getD_eq_getD_getElem?, v7, cH1_2, cH1_3]
   rw [hIA]
   exact ⟨hF.put (by decide) _, hB, pgK ci0 (by decide) rfl, pgK ci1 (by decide) rfl, pgK ci2 (by decide) rfl, pgK ci3 (by decide) rfl, pgK ci4 (by decide) rfl, pgK ci5 (by decide) rfl, pgK ci6 (by decide) rfl, pgK ci7 (by decide) rfl, fun _ => put_get_self (hF.lt (by simp)) _, pgK ci9 (by decide) rfl, pgK ci10 (by decide) rfl, prK cp1_0 rfl, prK cp3_2 rfl, prK cp4_1 rfl, prK cp4_3 rfl, prK cp6_5 rfl, fun _ => by simp [d7], prK cp9_6 rfl, fun _ => by simp, prK cp10_4 rfl, prK cp10_9 rfl, prK cp12_10 rfl, prK cp12_11 rfl, fun h => by obtain ⟨g2, e2, hg2, y2, z2⟩ := ca3 (by simpa using h); exact ⟨g2, (put_get_ne (by decide) _).trans e2, hg2, fun h => y2 (by simpa using h), fun h => z2 (by simpa using h)⟩, cy0, cy1, cy2⟩
  ·simp only [List.getElem?_cons_zero, List.getElem?_cons_succ, Option.some.injEq] at ho
   subst ho
   rw [if_pos (by simp [Region.wanted])]
   have d6 := hd { on := 6, ground := .data } (by simp) (by decide)
   have v6 := ci6 d6
   have d8 := hd { on := 8, ground := .data } (by simp) (by decide)
   have v8 := ci8 d8
   simp [go_sem, Array.getD_eq_getD_getElem?, v6, v8]
   refine (kN _).mono ?_
   rintro e wx ⟨rfl, hbx⟩
   rw [hIA]
   exact ⟨hF.put (by decide) _, hB.trans (hbx.mono hBw), pgK ci0 (by decide) rfl, pgK ci1 (by decide) rfl, pgK ci2 (by decide) rfl, pgK ci3 (by decide) rfl, pgK ci4 (by decide) rfl, pgK ci5 (by decide) rfl, pgK ci6 (by decide) rfl, pgK ci7 (by decide) rfl, pgK ci8 (by decide) rfl, fun _ => put_get_self (hF.lt (by simp)) _, pgK ci10 (by decide) rfl, prK cp1_0 rfl, prK cp3_2 rfl, prK cp4_1 rfl, prK cp4_3 rfl, prK cp6_5 rfl, prK cp8_7 rfl, fun _ => by simp [d6], fun _ => by simp [d8], prK cp10_4 rfl, fun _ => by simp, prK cp12_10 rfl, prK cp12_11 rfl, fun h => by obtain ⟨g2, e2, hg2, y2, z2⟩ := ca3 (by simpa using h); exact ⟨g2, (put_get_ne (by decide) _).trans e2, hg2, fun h => (y2 (by simpa using h)).below hbx, fun h => (z2 (by simpa using h)).below hbx⟩, (cy0).below hbx, (cy1).below hbx, (cy2).below hbx⟩
  ·simp only [List.getElem?_cons_zero, List.getElem?_cons_succ, Option.some.injEq] at ho
   subst ho
   rw [if_pos (by simp [Region.wanted])]
   have d4 := hd { on := 4, ground := .data } (by simp) (by decide)
   have v4 := ci4 d4
   have d9 := hd { on := 9, ground := .data } (by simp) (by decide)
   have v9 := ci9 d9
   simp [go_sem, Array.getD_eq_getD_getElem?, v4, v9]
   rw [hIA]
   exact ⟨hF.put (by decide) _, hB, pgK ci0 (by decide) rfl, pgK ci1 (by decide) rfl, pgK ci2 (by decide) rfl, pgK ci3 (by decide) rfl, pgK ci4 (by decide) rfl, pgK ci5 (by decide) rfl, pgK ci6 (by decide) rfl, pgK ci7 (by decide) rfl, pgK ci8 (by decide) rfl, pgK ci9 (by decide) rfl, fun _ => put_get_self (hF.lt (by simp)) _, prK cp1_0 rfl, prK cp3_2 rfl, prK cp4_1 rfl, prK cp4_3 rfl, prK cp6_5 rfl, prK cp8_7 rfl, prK cp9_6 rfl, prK cp9_8 rfl, fun _ => by simp [d4], fun _ => by simp [d9], fun _ => by simp, prK cp12_11 rfl, fun h => by obtain ⟨g2, e2, hg2, y2, z2⟩ := ca3 (by simpa using h); exact ⟨g2, (put_get_ne (by decide) _).trans e2, hg2, fun h => y2 (by simpa using h), fun h => z2 (by simpa using h)⟩, cy0, cy1, cy2⟩
  ·simp only [List.getElem?_cons_zero, List.getElem?_cons_succ, Option.some.injEq] at ho
   subst ho
   rw [if_pos (by simp [Region.wanted])]
   simp [go_sem]
   rw [hIA]
   exact ⟨hF.put (by decide) _, hB.alloc hBw _, pgK ci0 (by decide) rfl, pgK ci1 (by decide) rfl, pgK ci2 (by decide) rfl, pgK ci3 (by decide) rfl, pgK ci4 (by decide) rfl, pgK ci5 (by decide) rfl, pgK ci6 (by decide) rfl, pgK ci7 (by decide) rfl, pgK ci8 (by decide) rfl, pgK ci9 (by decide) rfl, pgK ci10 (by decide) rfl, prK cp1_0 rfl, prK cp3_2 rfl, prK cp4_1 rfl, prK cp4_3 rfl, prK cp6_5 rfl, prK cp8_7 rfl, prK cp9_6 rfl, prK cp9_8 rfl, prK cp10_4 rfl, prK cp10_9 rfl, prK cp12_10 rfl, fun _ => by simp, fun _ => ⟨w'.heap.size, put_get_self (hF.lt (by simp)) _, zB, fun _ => HasT.new w' [.int .i64 0, .int .i64 0, .int .i64 0, .int .i64 0] 54, fun h => by have hq := cp12_11 (by simpa using h); rw [hLi] at hq; cases hq⟩, (cy0).alloc _, (cy1).alloc _, (cy2).alloc _⟩
  ·simp only [List.getElem?_cons_zero, List.getElem?_cons_succ, Option.some.injEq] at ho
   subst ho
   rw [if_pos (by simp [Region.wanted])]
   have d10 := hd { on := 10, ground := .data } (by simp) (by decide)
   have v10 := ci10 d10
   have d11 := hd { on := 11, ground := .data } (by simp) (by decide)
   obtain ⟨gk, ek, hgk, yk, _⟩ := ca3 d11
   have HT3 := yk hLi
   have HH3 := HT3.has
   have lH3 := HH3.1
   obtain ⟨cH3_0, fH3_0⟩ := HH3.2 0 _ rfl
   obtain ⟨cH3_1, fH3_1⟩ := HH3.2 1 _ rfl
   obtain ⟨cH3_2, fH3_2⟩ := HH3.2 2 _ rfl
   obtain ⟨cH3_3, fH3_3⟩ := HH3.2 3 _ rfl
   simp [go_sem, Array.getD_eq_getD_getElem?, v10, ek, cH3_0, fH3_0, cH3_1, fH3_1, cH3_2, fH3_2, cH3_3, fH3_3]
   rw [hIA]
   exact ⟨hF, below_setCells_at (by omega) [_, _, _, _] 0 _ hB, kpK ci0 rfl, kpK ci1 rfl, kpK ci2 rfl, kpK ci3 rfl, kpK ci4 rfl, kpK ci5 rfl, kpK ci6 rfl, kpK ci7 rfl, kpK ci8 rfl, kpK ci9 rfl, kpK ci10 rfl, prK cp1_0 rfl, prK cp3_2 rfl, prK cp4_1 rfl, prK cp4_3 rfl, prK cp6_5 rfl, prK cp8_7 rfl, prK cp9_6 rfl, prK cp9_8 rfl, prK cp10_4 rfl, prK cp10_9 rfl, fun _ => by simp [d10], fun _ => by simp [d11], fun _ => ⟨gk, ek, hgk, fun h => by simp at h, fun _ => HT3.store (us := [.int .i64 lw_.n, .int .i64 lw_.d, .int .i64 up_.n, .int .i64 up_.d]) rfl⟩, (cy0).other (g' := gk) (by have hl := lt_of_heap hTA_0; omega) [.int .i64 lw_.n, .int .i64 lw_.d, .int .i64 up_.n, .int .i64 up_.d] 0, (cy1).other (g' := gk) (by have hl := lt_of_heap hTA_1; omega) [.int .i64 lw_.n, .int .i64 lw_.d, .int .i64 up_.n, .int .i64 up_.d] 0, (cy2).other (g' := gk) (by have hl := lt_of_heap hTA_2; omega) [.int .i64 lw_.n, .int .i64 lw_.d, .int .i64 up_.n, .int .i64 up_.d] 0⟩
 case he =>
  intro L a' wA hL hI'
  rw [hIA] at hI'
  obtain ⟨hF, hbA, ci0, ci1, ci2, ci3, ci4, ci5, ci6, ci7, ci8, ci9, ci10, cp1_0, cp3_2, cp4_1, cp4_3, cp6_5, cp8_7, cp9_6, cp9_8, cp10_4, cp10_9, cp12_10, cp12_11, ca3, cy0, cy1, cy2⟩ := hI'
  obtain ⟨gA_3, eA_b3, hgA_3, _, cz3⟩ := ca3 (hL 11 (by decide))
  have HTA_3 := cz3 (hL 12 (by decide))
  have HTA_0 := cy0
  have HTA_1 := cy1
  have HTA_2 := cy2
  have hout := hF.outG (by simp)
  simp only [List.foldl_cons, List.foldl_nil, eA_b3] at hout
  rw [hout]
  generalize a'.tmps[16]?.getD undef = xA_16
  generalize a'.tmps[17]?.getD undef = xA_17
  generalize a'.tmps[18]?.getD undef = xA_18
  generalize a'.tmps[19]?.getD undef = xA_19
  generalize a'.tmps[20]?.getD undef = xA_20
  generalize a'.tmps[21]?.getD undef = xA_21
  generalize a'.tmps[22]?.getD undef = xA_22
  generalize a'.tmps[23]?.getD undef = xA_23
  generalize a'.tmps[24]?.getD undef = xA_24
  generalize a'.tmps[25]?.getD undef = xA_25
  generalize a'.tmps[26]?.getD undef = xA_26
  clear hout hIA hF hL ci0 ci1 ci2 ci3 ci4 ci5 ci6 ci7 ci8 ci9 ci10 cp1_0 cp3_2 cp4_1 cp4_3 cp6_5 cp8_7 cp9_6 cp9_8 cp10_4 cp10_9 cp12_10 cp12_11 ca3 cy0 cy1 cy2
  go_simp
  have HG := HTA_3.has
  obtain ⟨cHG_0, fHG_0⟩ := HG.2 0 _ rfl
  obtain ⟨cHG_1, fHG_1⟩ := HG.2 1 _ rfl
  obtain ⟨cHG_2, fHG_2⟩ := HG.2 2 _ rfl
  obtain ⟨cHG_3, fHG_3⟩ := HG.2 3 _ rfl
  have lG := HG.1
  go_wp2_with (fail)
  refine (c3 _).mono ?_
  rintro e w5 ⟨rfl, hb5⟩
  have R5 := HTA_2.below hb5
  have G5 := (HTA_3.below hb5).has
  have b5 := below_tr (b2.trans (hbA.mono b2.size)) hb5
  clear HG cHG_0 cHG_1 cHG_2 cHG_3 fHG_0 fHG_1 fHG_2 fHG_3 lG
  cases e3 : spanOk ⟨lw_, up_⟩
  ·have hF := Lib.hid (hdef.out.trans (by rw [e3]))
   have HZ := (R5).has
   obtain ⟨cHZ_0, fHZ_0⟩ := HZ.2 0 _ rfl
   obtain ⟨cHZ_1, fHZ_1⟩ := HZ.2 1 _ rfl
   obtain ⟨cHZ_2, fHZ_2⟩ := HZ.2 2 _ rfl
   obtain ⟨cHZ_3, fHZ_3⟩ := HZ.2 3 _ rfl
   have lZ := HZ.1
   go_wp2
   refine bodyPost_ret (v := .tuple #[.agg #[.int .i64 0, .int .i64 0, .int .i64 0, .int .i64 0], .bool false]) (by simp [results, Tryz.results145, go_sem, *]) rfl ⟨by rw [hF.out]; rfl, ?_⟩
   exact below_cells b5 (by omega) (o := 0) [_, _, _, _]
  have hF := Lib.hid (hdef.out.trans (by rw [e3]))
  obtain ⟨cG5_0, fG5_0⟩ := G5.2 0 _ rfl
  obtain ⟨cG5_1, fG5_1⟩ := G5.2 1 _ rfl
  obtain ⟨cG5_2, fG5_2⟩ := G5.2 2 _ rfl
  obtain ⟨cG5_3, fG5_3⟩ := G5.2 3 _ rfl
  have lG := G5.1
  have HZ := (R5).has
  obtain ⟨cHZ_0, fHZ_0⟩ := HZ.2 0 _ rfl
  obtain ⟨cHZ_1, fHZ_1⟩ := HZ.2 1 _ rfl
  obtain ⟨cHZ_2, fHZ_2⟩ := HZ.2 2 _ rfl
  obtain ⟨cHZ_3, fHZ_3⟩ := HZ.2 3 _ rfl
  have lZ := HZ.1
  go_wp2
  refine bodyPost_ret (v := .tuple #[.agg #[.int .i64 lw_.n, .int .i64 lw_.d, .int .i64 up_.n, .int .i64 up_.d], .bool true]) (by simp [results, Tryz.results145, go_sem, *]) rfl ⟨by rw [hF.out]; rfl, ?_⟩
  exact below_cells b5 (by omega) (o := 0) [_, _, _, _]
set_option maxRecDepth 100000 in
set_option maxHeartbeats 8000000 in
theorem sMeet2_c (x y : Span) (w : World) (hx : x.In) (hy : y.In) :
  Calls Tryz.prog 80 #[spanV x, spanV y] w fun e w' => e = .returned (optSpanV (meetSp x y)) ∧ Below w.heap.size w w' := by
 have c1 := fun W => sSpanOk_c x W hx
 have c2 := fun W => sSpanOk_c y W hy
 obtain ⟨W, hW⟩ : ∃ W, W = ((w.alloc (.cells #[.int .i64 x.low.n, .int .i64 x.low.d, .int .i64 x.high.n, .int .i64 x.high.d] 54)).alloc (.cells #[.int .i64 y.low.n, .int .i64 y.low.d, .int .i64 y.high.n, .int .i64 y.high.d] 54)).alloc (.cells #[.int .i64 0, .int .i64 0, .int .i64 0, .int .i64 0] 54) := ⟨_, rfl⟩
 have HA : HasT W w.heap.size 54 [.int .i64 x.low.n, .int .i64 x.low.d, .int .i64 x.high.n, .int .i64 x.high.d] := by
  rw [hW]
  exact ((HasT.new w [.int .i64 x.low.n, .int .i64 x.low.d, .int .i64 x.high.n, .int .i64 x.high.d] 54).alloc _).alloc _
 have HB : HasT W (w.heap.size + 1) 54 [.int .i64 y.low.n, .int .i64 y.low.d, .int .i64 y.high.n, .int .i64 y.high.d] := by
  rw [hW]
  have h1 := ((HasT.new (w.alloc (.cells #[.int .i64 x.low.n, .int .i64 x.low.d, .int .i64 x.high.n, .int .i64 x.high.d] 54)) [.int .i64 y.low.n, .int .i64 y.low.d, .int .i64 y.high.n, .int .i64 y.high.d] 54).alloc (.cells #[.int .i64 0, .int .i64 0, .int .i64 0, .int .i64 0] 54))
  simp only [World.size_alloc] at h1
  exact h1
 have HR : HasT W (w.heap.size + 1 + 1) 54 [.int .i64 0, .int .i64 0, .int .i64 0, .int .i64 0] := by
  rw [hW]
  have h1 := HasT.new ((w.alloc (.cells #[.int .i64 x.low.n, .int .i64 x.low.d, .int .i64 x.high.n, .int .i64 x.high.d] 54)).alloc (.cells #[.int .i64 y.low.n, .int .i64 y.low.d, .int .i64 y.high.n, .int .i64 y.high.d] 54)) [.int .i64 0, .int .i64 0, .int .i64 0, .int .i64 0] 54
  simp only [World.size_alloc] at h1
  exact h1
 have b0 : Below w.heap.size w W := by
  rw [hW]
  exact belA
 have zW := lt_of_heap HR
 have hW' := Lib.hid hW
 clear hW
 cases e1 : spanOk x
 ·have hF := Lib.hid (show meetSp x y = none by unfold meetSp; rw [if_neg (by rw [e1]; simp)])
  rw [e1] at c1
  have HA_ := HA.has
  have HB_ := HB.has
  obtain ⟨cHA__0, fHA__0⟩ := HA_.2 0 _ rfl
  obtain ⟨cHA__1, fHA__1⟩ := HA_.2 1 _ rfl
  obtain ⟨cHA__2, fHA__2⟩ := HA_.2 2 _ rfl
  obtain ⟨cHA__3, fHA__3⟩ := HA_.2 3 _ rfl
  obtain ⟨cHB__0, fHB__0⟩ := HB_.2 0 _ rfl
  obtain ⟨cHB__1, fHB__1⟩ := HB_.2 1 _ rfl
  obtain ⟨cHB__2, fHB__2⟩ := HB_.2 2 _ rfl
  obtain ⟨cHB__3, fHB__3⟩ := HB_.2 3 _ rfl
  have lA := HA_.1
  have lB := HB_.1
  go_enter Tryz.func80, Tryz.ntmps80
  go_upto_region 1 with fail
  rw [← hW'.out]
  clear hW'
  go_wp2_with (fail)
  refine (c1 _).mono ?_
  rintro e w1 ⟨rfl, hb1⟩
  have b1 := below_tr b0 hb1
  have HZ := (HR.below hb1).has
  obtain ⟨cHZ_0, fHZ_0⟩ := HZ.2 0 _ rfl
  obtain ⟨cHZ_1, fHZ_1⟩ := HZ.2 1 _ rfl
  obtain ⟨cHZ_2, fHZ_2⟩ := HZ.2 2 _ rfl
  obtain ⟨cHZ_3, fHZ_3⟩ := HZ.2 3 _ rfl
  have lZ := HZ.1
  go_wp2
  refine bodyPost_ret (v := .tuple #[.agg #[.int .i64 0, .int .i64 0, .int .i64 0, .int .i64 0], .bool false]) (by simp [results, Tryz.results80, go_sem, *]) rfl ⟨by rw [hF.out]; rfl, ?_⟩
  exact below_cells b1 (by omega) (o := 0) [_, _, _, _]
 rw [e1] at c1
 cases e2 : spanOk y
 ·have hF := Lib.hid (show meetSp x y = none by unfold meetSp; rw [if_neg (by rw [e2]; simp)])
  rw [e2] at c2
  have HA_ := HA.has
  have HB_ := HB.has
  obtain ⟨cHA__0, fHA__0⟩ := HA_.2 0 _ rfl
  obtain ⟨cHA__1, fHA__1⟩ := HA_.2 1 _ rfl
  obtain ⟨cHA__2, fHA__2⟩ := HA_.2 2 _ rfl
  obtain ⟨cHA__3, fHA__3⟩ := HA_.2 3 _ rfl
  obtain ⟨cHB__0, fHB__0⟩ := HB_.2 0 _ rfl
  obtain ⟨cHB__1, fHB__1⟩ := HB_.2 1 _ rfl
  obtain ⟨cHB__2, fHB__2⟩ := HB_.2 2 _ rfl
  obtain ⟨cHB__3, fHB__3⟩ := HB_.2 3 _ rfl
  have lA := HA_.1
  have lB := HB_.1
  go_enter Tryz.func80, Tryz.ntmps80
  go_upto_region 1 with fail
  rw [← hW'.out]
  clear hW'
  go_wp2_with (fail)
  refine (c1 _).mono ?_
  rintro e w1 ⟨rfl, hb1⟩
  have r1 := bcell1 hb1
  have l1 := blt hb1 lB
  go_wp2_with (fail)
  refine (c2 _).mono ?_
  rintro e w2 ⟨rfl, hb2⟩
  have b2 := below_tr (below_tr b0 hb1) hb2
  have HZ := ((HR.below hb1).below hb2).has
  obtain ⟨cHZ_0, fHZ_0⟩ := HZ.2 0 _ rfl
  obtain ⟨cHZ_1, fHZ_1⟩ := HZ.2 1 _ rfl
  obtain ⟨cHZ_2, fHZ_2⟩ := HZ.2 2 _ rfl
  obtain ⟨cHZ_3, fHZ_3⟩ := HZ.2 3 _ rfl
  have lZ := HZ.1
  go_wp2
  refine bodyPost_ret (v := .tuple #[.agg #[.int .i64 0, .int .i64 0, .int .i64 0, .int .i64 0], .bool false]) (by simp [results, Tryz.results80, go_sem, *]) rfl ⟨by rw [hF.out]; rfl, ?_⟩
  exact below_cells b2 (by omega) (o := 0) [_, _, _, _]
 rw [e2] at c2
 have ok1 := e1
 have ok2 := e2
 simp only [spanOk, Bool.and_eq_true] at ok1 ok2
 have kM := fun W => sRatioMax_c x.low y.low W hx.1 hy.1
 have kN := fun W => sRatioMin_c x.high y.high W hx.2 hy.2
 have hmx := ratioMax_in hx.1 hy.1
 have hmn := ratioMin_in hx.2 hy.2
 have hdef := Lib.hid (show meetSp x y = if spanOk ⟨ratioMax x.low y.low, ratioMin x.high y.high⟩ = true then some ⟨ratioMax x.low y.low, ratioMin x.high y.high⟩ else none by unfold meetSp; rw [e1, e2]; simp)
 clear ok1 ok2 e1 e2
 obtain ⟨lw_, hlo⟩ : ∃ lw_, lw_ = ratioMax x.low y.low := ⟨_, rfl⟩
 obtain ⟨up_, hhi⟩ : ∃ up_, up_ = ratioMin x.high y.high := ⟨_, rfl⟩
 rw [← hlo] at kM hmx
 rw [← hhi] at kN hmn
 rw [← hlo, ← hhi] at hdef
 clear hlo hhi
 have c3 := fun W => sSpanOk_c ⟨lw_, up_⟩ W ⟨hmx, hmn⟩
 have HA_ := HA.has
 have HB_ := HB.has
 obtain ⟨cHA__0, fHA__0⟩ := HA_.2 0 _ rfl
 obtain ⟨cHA__1, fHA__1⟩ := HA_.2 1 _ rfl
 obtain ⟨cHA__2, fHA__2⟩ := HA_.2 2 _ rfl
 obtain ⟨cHA__3, fHA__3⟩ := HA_.2 3 _ rfl
 obtain ⟨cHB__0, fHB__0⟩ := HB_.2 0 _ rfl
 obtain ⟨cHB__1, fHB__1⟩ := HB_.2 1 _ rfl
 obtain ⟨cHB__2, fHB__2⟩ := HB_.2 2 _ rfl
 obtain ⟨cHB__3, fHB__3⟩ := HB_.2 3 _ rfl
 have lA := HA_.1
 have lB := HB_.1
 go_enter Tryz.func80, Tryz.ntmps80
 go_upto_region 1 with fail
 rw [← hW'.out]
 clear hW'
 go_wp2_with (fail)
 refine (c1 _).mono ?_
 rintro e w1 ⟨rfl, hb1⟩
 have r1 := bcell1 hb1
 have l1 := blt hb1 lB
 go_wp2_with (fail)
 refine (c2 _).mono ?_
 rintro e w2 ⟨rfl, hb2⟩
 have A2 := (HA.below hb1).below hb2
 have B2 := (HB.below hb1).below hb2
 have R2 := (HR.below hb1).below hb2
 have b2 := below_tr (below_tr b0 hb1) hb2
 clear HA_ HB_ cHA__0 cHA__1 cHA__2 cHA__3 fHA__0 fHA__1 fHA__2 fHA__3 cHB__0 cHB__1 cHB__2 cHB__3 fHB__0 fHB__1 fHB__2 fHB__3 lA lB HA HB HR b0 c1 c2 r1 l1 hb1 hb2
 go_upto_region 3 with fail
 have lA := lt_of_heap A2
 have lB := lt_of_heap B2
 have lR := lt_of_heap R2
 have hBWA : w2.heap.size ≤ w2.heap.size := Nat.le_refl _
 have hTA_0 := A2
 have hTA_1 := B2
 have hTA_2 := R2
 obtain ⟨IA, hIA⟩ : ∃ I : Act → (Nat → Bool) → Act → World → Prop, I = (fun a0 L a w' => FrameOf a0 a [16, 17, 18, 19, 20, 21, 22, 23, 24, 25, 26, 6] ∧ Below (w2.heap.size) w2 w' ∧ (L 0 = true → a.tmps[16]?.getD undef = .pointer (some ⟨w.heap.size, 0, none⟩)) ∧ (L 1 = true → a.tmps[17]?.getD undef = .agg #[.int .i64 x.low.n, .int .i64 x.low.d]) ∧ (L 2 = true → a.tmps[18]?.getD undef = .pointer (some ⟨w.heap.size + 1, 0, none⟩)) ∧ (L 3 = true → a.tmps[19]?.getD undef = .agg #[.int .i64 y.low.n, .int .i64 y.low.d]) ∧ (L 4 = true → a.tmps[20]?.getD undef = ratioV lw_) ∧ (L 5 = true → a.tmps[21]?.getD undef = .pointer (some ⟨w.heap.size, 2, none⟩)) ∧ (L 6 = true → a.tmps[22]?.getD undef = .agg #[.int .i64 x.high.n, .int .i64 x.high.d]) ∧ (L 7 = true → a.tmps[23]?.getD undef = .pointer (some ⟨w.heap.size + 1, 2, none⟩)) ∧ (L 8 = true → a.tmps[24]?.getD undef = .agg #[.int .i64 y.high.n, .int .i64 y.high.d]) ∧ (L 9 = true → a.tmps[25]?.getD undef = ratioV up_) ∧ (L 10 = true → a.tmps[26]?.getD undef = .agg #[.int .i64 lw_.n, .int .i64 lw_.d, .int .i64 up_.n, .int .i64 up_.d]) ∧ (L 1 = true → L 0 = true) ∧ (L 3 = true → L 2 = true) ∧ (L 4 = true → L 1 = true) ∧ (L 4 = true → L 3 = true) ∧ (L 6 = true → L 5 = true) ∧ (L 8 = true → L 7 = true) ∧ (L 9 = true → L 6 = true) ∧ (L 9 = true → L 8 = true) ∧ (L 10 = true → L 4 = true) ∧ (L 10 = true → L 9 = true) ∧ (L 12 = true → L 10 = true) ∧ (L 12 = true → L 11 = true) ∧ (L 11 = true → ∃ g : Nat, a.tmps[6]?.getD undef = .pointer (some ⟨g, 0, none⟩) ∧ w2.heap.size ≤ g ∧ (L 12 = false → HasT w' g 54 [.int .i64 0, .int .i64 0, .int .i64 0, .int .i64 0]) ∧ (L 12 = true → HasT w' (g) 54 [.int .i64 lw_.n, .int .i64 lw_.d, .int .i64 up_.n, .int .i64 up_.d])) ∧ HasT w' (w.heap.size) 54 [.int .i64 x.low.n, .int .i64 x.low.d, .int .i64 x.high.n, .int .i64 x.high.d] ∧ HasT w' (w.heap.size + 1) 54 [.int .i64 y.low.n, .int .i64 y.low.d, .int .i64 y.high.n, .int .i64 y.high.d] ∧ HasT w' (w.heap.size + 1 + 1) 54 [.int .i64 0, .int .i64 0, .int .i64 0, .int .i64 0]) := ⟨_, rfl⟩
 refine wp_region_I0 (by kernel_rfl) (by kernel_rfl) IA ?h0 ?hs ?he
 case h0 =>
  rw [hIA]
  exact ⟨FrameOf.refl _ _, (Below.refl _ _).drew, fun h => absurd h (by simp), fun h => absurd h (by simp), fun h => absurd h (by simp), fun h => absurd h (by simp), fun h => absurd h (by simp), fun h => absurd h (by simp), fun h => absurd h (by simp), fun h => absurd h (by simp), fun h => absurd h (by simp), fun h => absurd h (by simp), fun h => absurd h (by simp), fun h => absurd h (by simp), fun h => absurd h (by simp), fun h => absurd h (by simp), fun h => absurd h (by simp), fun h => absurd h (by simp), fun h => absurd h (by simp), fun h => absurd h (by simp), fun h => absurd h (by simp), fun h => absurd h (by simp), fun h => absurd h (by simp), fun h => absurd h (by simp), fun h => absurd h (by simp), fun h => absurd h (by simp), hTA_0, hTA_1, hTA_2⟩
 case hs =>
  intro L a w' i o ho hLi hd hI'
  rw [hIA] at hI'
  obtain ⟨hF, hB, ci0, ci1, ci2, ci3, ci4, ci5, ci6, ci7, ci8, ci9, ci10, cp1_0, cp3_2, cp4_1, cp4_3, cp6_5, cp8_7, cp9_6, cp9_8, cp10_4, cp10_9, cp12_10, cp12_11, ca3, cy0, cy1, cy2⟩ := hI'
  have hi : i < 13 := by
   rcases Nat.lt_or_ge i 13 with h | h
   ·exact h
   ·rw [List.getElem?_eq_none (by simpa using h)] at ho; cases ho
  have zB := hB.size
  have hBw : w2.heap.size ≤ w'.heap.size := Nat.le_trans hBWA zB
  obtain rfl | rfl | rfl | rfl | rfl | rfl | rfl | rfl | rfl | rfl | rfl | rfl | rfl : i = 0 ∨ i = 1 ∨ i = 2 ∨ i = 3 ∨ i = 4 ∨ i = 5 ∨ i = 6 ∨ i = 7 ∨ i = 8 ∨ i = 9 ∨ i = 10 ∨ i = 11 ∨ i = 12 := by omega
  ·simp only [List.getElem?_cons_zero, Option.some.injEq] at ho
   subst ho
   rw [if_pos (by simp [Region.wanted])]
   have e0 : a.tmps[2]?.getD undef = .pointer (some ⟨w.heap.size, 0, none⟩) := hF.get (by decide)
   simp [go_sem, Array.getD_eq_getD_getElem?, e0]
   rw [hIA]
   exact ⟨hF.put (by decide) _, hB, fun _ => put_get_self (hF.lt (by simp)) _, pgK ci1 (by decide) rfl, pgK ci2 (by decide) rfl, pgK ci3 (by decide) rfl, pgK ci4 (by decide) rfl, pgK ci5 (by decide) rfl, pgK ci6 (by decide) rfl, pgK ci7 (by decide) rfl, pgK ci8 (by decide) rfl, pgK ci9 (by decide) rfl, pgK ci10 (by decide) rfl, fun _ => by simp, prK cp3_2 rfl, prK cp4_1 rfl, prK cp4_3 rfl, prK cp6_5 rfl, prK cp8_7 rfl, prK cp9_6 rfl, prK cp9_8 rfl, prK cp10_4 rfl, prK cp10_9 rfl, prK cp12_10 rfl, prK cp12_11 rfl, fun h => by obtain ⟨g2, e2, hg2, y2, z2⟩ := ca3 (by simpa using h); exact ⟨g2, (put_get_ne (by decide) _).trans e2, hg2, fun h => y2 (by simpa using h), fun h => z2 (by simpa using h)⟩, cy0, cy1, cy2⟩
  ·simp only [List.getElem?_cons_zero, List.getElem?_cons_succ, Option.some.injEq] at ho
   subst ho
   rw [if_pos (by simp [Region.wanted])]
   have d0 := hd { on := 0, ground := .data } (by simp) (by decide)
   have v0 := ci0 d0
   have HT0 := cy0
   have HH0 := HT0.has
   have lH0 := HH0.1
   obtain ⟨cH0_0, fH0_0⟩ := HH0.2 0 _ rfl
   obtain ⟨cH0_1, fH0_1⟩ := HH0.2 1 _ rfl
   simp [go_sem, Array.getD_eq_getD_getElem?, v0, cH0_0, cH0_1]
   rw [hIA]
   exact ⟨hF.put (by decide) _, hB, pgK ci0 (by decide) rfl, fun _ => put_get_self (hF.lt (by simp)) _, pgK ci2 (by decide) rfl, pgK ci3 (by decide) rfl, pgK ci4 (by decide) rfl, pgK ci5 (by decide) rfl, pgK ci6 (by decide) rfl, pgK ci7 (by decide) rfl, pgK ci8 (by decide) rfl, pgK ci9 (by decide) rfl, pgK ci10 (by decide) rfl, fun _ => by simp [d0], prK cp3_2 rfl, fun _ => by simp, prK cp4_3 rfl, prK cp6_5 rfl, prK cp8_7 rfl, prK cp9_6 rfl, prK cp9_8 rfl, prK cp10_4 rfl, prK cp10_9 rfl, prK cp12_10 rfl, prK cp12_11 rfl, fun h => by obtain ⟨g2, e2, hg2, y2, z2⟩ := ca3 (by simpa using h); exact ⟨g2, (put_get_ne (by decide) _).trans e2, hg2, fun h => y2 (by simpa using h), fun h => z2 (by simpa using h)⟩, cy0, cy1, cy2⟩
  ·simp only [List.getElem?_cons_zero, List.getElem?_cons_succ, Option.some.injEq] at ho
   subst ho
   rw [if_pos (by simp [Region.wanted])]
   have e0 : a.tmps[3]?.getD undef = .pointer (some ⟨w.heap.size + 1, 0, none⟩) := hF.get (by decide)
   simp [go_sem, Array.getD_eq_getD_getElem?, e0]
   rw [hIA]
   exact ⟨hF.put (by decide) _, hB, pgK ci0 (by decide) rfl, pgK ci1 (by decide) rfl, fun _ => put_get_self (hF.lt (by simp)) _, pgK ci3 (by decide) rfl, pgK ci4 (by decide) rfl, pgK ci5 (by decide) rfl, pgK ci6 (by decide) rfl, pgK ci7 (by decide) rfl, pgK ci8 (by decide) rfl, pgK ci9 (by decide) rfl, pgK ci10 (by decide) rfl, prK cp1_0 rfl, fun _ => by simp, prK cp4_1 rfl, prK cp4_3 rfl, prK cp6_5 rfl, prK cp8_7 rfl, prK cp9_6 rfl, prK cp9_8 rfl, prK cp10_4 rfl, prK cp10_9 rfl, prK cp12_10 rfl, prK cp12_11 rfl, fun h => by obtain ⟨g2, e2, hg2, y2, z2⟩ := ca3 (by simpa using h); exact ⟨g2, (put_get_ne (by decide) _).trans e2, hg2, fun h => y2 (by simpa using h), fun h => z2 (by simpa using h)⟩, cy0, cy1, cy2⟩
  ·simp only [List.getElem?_cons_zero, List.getElem?_cons_succ, Option.some.injEq] at ho
   subst ho
   rw [if_pos (by simp [Region.wanted])]
   have d2 := hd { on := 2, ground := .data } (by simp) (by decide)
   have v2 := ci2 d2
   have HT1 := cy1
   have HH1 := HT1.has
   have lH1 := HH1.1
   obtain ⟨cH1_0, fH1_0⟩ := HH1.2 0 _ rfl
   obtain ⟨cH1_1, fH1_1⟩ := HH1.2 1 _ rfl
   simp [go_sem, Array.getD_eq_getD_getElem?, v2, cH1_0, cH1_1]
   rw [hIA]
   exact ⟨hF.put (by decide) _, hB, pgK ci0 (by decide) rfl, pgK ci1 (by decide) rfl, pgK ci2 (by decide) rfl, fun _ => put_get_self (hF.lt (by simp)) _, pgK ci4 (by decide) rfl, pgK ci5 (by decide) rfl, pgK ci6 (by decide) rfl, pgK ci7 (by decide) rfl, pgK ci8 (by decide) rfl, pgK ci9 (by decide) rfl, pgK ci10 (by decide) rfl, prK cp1_0 rfl, fun _ => by simp [d2], prK cp4_1 rfl, fun _ => by simp, prK cp6_5 rfl, prK cp8_7 rfl, prK cp9_6 rfl, prK cp9_8 rfl, prK cp10_4 rfl, prK cp10_9 rfl, prK cp12_10 rfl, prK cp12_11 rfl, fun h => by obtain ⟨g2, e2, hg2, y2, z2⟩ := ca3 (by simpa using h); exact ⟨g2, (put_get_ne (by decide) _).trans e2, hg2, fun h => y2 (by simpa using h), fun h => z2 (by simpa using h)⟩, cy0, cy1, cy2⟩
  ·simp only [List.getElem?_cons_zero, List.getElem?_cons_succ, Option.some.injEq] at ho
   subst ho
   rw [if_pos (by simp [Region.wanted])]
   have d1 := hd { on := 1, ground := .data } (by simp) (by decide)
   have v1 := ci1 d1
   have d3 := hd { on := 3, ground := .data } (by simp) (by decide)
   have v3 := ci3 d3
   simp [go_sem, Array.getD_eq_getD_getElem?, v1, v3]
   refine (kM _).mono ?_
   rintro e wx ⟨rfl, hbx⟩
   rw [hIA]
   exact ⟨hF.put (by decide) _, hB.trans (hbx.mono hBw), pgK ci0 (by decide) rfl, pgK ci1 (by decide) rfl, pgK ci2 (by decide) rfl, pgK ci3 (by decide) rfl, fun _ => put_get_self (hF.lt (by simp)) _, pgK ci5 (by decide) rfl, pgK ci6 (by decide) rfl, pgK ci7 (by decide) rfl, pgK ci8 (by decide) rfl, pgK ci9 (by decide) rfl, pgK ci10 (by decide) rfl, prK cp1_0 rfl, prK cp3_2 rfl, fun _ => by simp [d1], fun _ => by simp [d3], prK cp6_5 rfl, prK cp8_7 rfl, prK cp9_6 rfl, prK cp9_8 rfl, fun _ => by simp, prK cp10_9 rfl, prK cp12_10 rfl, prK cp12_11 rfl, fun h => by obtain ⟨g2, e2, hg2, y2, z2⟩ := ca3 (by simpa using h); exact ⟨g2, (put_get_ne (by decide) _).trans e2, hg2, fun h => (y2 (by simpa using h)).below hbx, fun h => (z2 (by simpa using h)).below hbx⟩, (cy0).below hbx, (cy1).below hbx, (cy2).below hbx⟩
  ·simp only [List.getElem?_cons_zero, List.getElem?_cons_succ, Option.some.injEq] at ho
   subst ho
   rw [if_pos (by simp [Region.wanted])]
   have e0 : a.tmps[2]?.getD undef = .pointer (some ⟨w.heap.size, 0, none⟩) := hF.get (by decide)
   simp [go_sem, Array.getD_eq_getD_getElem?, e0]
   rw [hIA]
   exact ⟨hF.put (by decide) _, hB, pgK ci0 (by decide) rfl, pgK ci1 (by decide) rfl, pgK ci2 (by decide) rfl, pgK ci3 (by decide) rfl, pgK ci4 (by decide) rfl, fun _ => put_get_self (hF.lt (by simp)) _, pgK ci6 (by decide) rfl, pgK ci7 (by decide) rfl, pgK ci8 (by decide) rfl, pgK ci9 (by decide) rfl, pgK ci10 (by decide) rfl, prK cp1_0 rfl, prK cp3_2 rfl, prK cp4_1 rfl, prK cp4_3 rfl, fun _ => by simp, prK cp8_7 rfl, prK cp9_6 rfl, prK cp9_8 rfl, prK cp10_4 rfl, prK cp10_9 rfl, prK cp12_10 rfl, prK cp12_11 rfl, fun h => by obtain ⟨g2, e2, hg2, y2, z2⟩ := ca3 (by simpa using h); exact ⟨g2, (put_get_ne (by decide) _).trans e2, hg2, fun h => y2 (by simpa using h), fun h => z2 (by simpa using h)⟩, cy0, cy1, cy2⟩
  ·simp only [List.getElem?_cons_zero, List.getElem?_cons_succ, Option.some.injEq] at ho
   subst ho
   rw [if_pos (by simp [Region.wanted])]
   have d5 := hd { on := 5, ground := .data } (by simp) (by decide)
   have v5 := ci5 d5
   have HT0 := cy0
   have HH0 := HT0.has
   have lH0 := HH0.1
   obtain ⟨cH0_2, fH0_2⟩ := HH0.2 2 _ rfl
   obtain ⟨cH0_3, fH0_3⟩ := HH0.2 3 _ rfl
   simp [go_sem, Array.getD_eq_getD_getElem?, v5, cH0_2, cH0_3]
   rw [hIA]
   exact ⟨hF.put (by decide) _, hB, pgK ci0 (by decide) rfl, pgK ci1 (by decide) rfl, pgK ci2 (by decide) rfl, pgK ci3 (by decide) rfl, pgK ci4 (by decide) rfl, pgK ci5 (by decide) rfl, fun _ => put_get_self (hF.lt (by simp)) _, pgK ci7 (by decide) rfl, pgK ci8 (by decide) rfl, pgK ci9 (by decide) rfl, pgK ci10 (by decide) rfl, prK cp1_0 rfl, prK cp3_2 rfl, prK cp4_1 rfl, prK cp4_3 rfl, fun _ => by simp [d5], prK cp8_7 rfl, fun _ => by simp, prK cp9_8 rfl, prK cp10_4 rfl, prK cp10_9 rfl, prK cp12_10 rfl, prK cp12_11 rfl, fun h => by obtain ⟨g2, e2, hg2, y2, z2⟩ := ca3 (by simpa using h); exact ⟨g2, (put_get_ne (by decide) _).trans e2, hg2, fun h => y2 (by simpa using h), fun h => z2 (by simpa using h)⟩, cy0, cy1, cy2⟩
  ·simp only [List.getElem?_cons_zero, List.getElem?_cons_succ, Option.some.injEq] at ho
   subst ho
   rw [if_pos (by simp [Region.wanted])]
   have e0 : a.tmps[3]?.getD undef = .pointer (some ⟨w.heap.size + 1, 0, none⟩) := hF.get (by decide)
   simp [go_sem, Array.getD_eq_getD_getElem?, e0]
   rw [hIA]
   exact ⟨hF.put (by decide) _, hB, pgK ci0 (by decide) rfl, pgK ci1 (by decide) rfl, pgK ci2 (by decide) rfl, pgK ci3 (by decide) rfl, pgK ci4 (by decide) rfl, pgK ci5 (by decide) rfl, pgK ci6 (by decide) rfl, fun _ => put_get_self (hF.lt (by simp)) _, pgK ci8 (by decide) rfl, pgK ci9 (by decide) rfl, pgK ci10 (by decide) rfl, prK cp1_0 rfl, prK cp3_2 rfl, prK cp4_1 rfl, prK cp4_3 rfl, prK cp6_5 rfl, fun _ => by simp, prK cp9_6 rfl, prK cp9_8 rfl, prK cp10_4 rfl, prK cp10_9 rfl, prK cp12_10 rfl, prK cp12_11 rfl, fun h => by obtain ⟨g2, e2, hg2, y2, z2⟩ := ca3 (by simpa using h); exact ⟨g2, (put_get_ne (by decide) _).trans e2, hg2, fun h => y2 (by simpa using h), fun h => z2 (by simpa using h)⟩, cy0, cy1, cy2⟩
  ·simp only [List.getElem?_cons_zero, List.getElem?_cons_succ, Option.some.injEq] at ho
   subst ho
   rw [if_pos (by simp [Region.wanted])]
   have d7 := hd { on := 7, ground := .data } (by simp) (by decide)
   have v7 := ci7 d7
   have HT1 := cy1
   have HH1 := HT1.has
   have lH1 := HH1.1
   obtain ⟨cH1_2, fH1_2⟩ := HH1.2 2 _ rfl
   obtain ⟨cH1_3, fH1_3⟩ := HH1.2 3 _ rfl
   simp [go_sem, Array.getD_eq_getD_getElem?, v7, cH1_2, cH1_3]
   rw [hIA]
   exact ⟨hF.put (by decide) _, hB, pgK ci0 (by decide) rfl, pgK ci1 (by decide) rfl, pgK ci2 (by decide) rfl, pgK ci3 (by decide) rfl, pgK ci4 (by decide) rfl, pgK ci5 (by decide) rfl, pgK ci6 (by decide) rfl, pgK ci7 (by decide) rfl, fun _ => put_get_self (hF.lt (by simp)) _, pgK ci9 (by decide) rfl, pgK ci10 (by decide) rfl, prK cp1_0 rfl, prK cp3_2 rfl, prK cp4_1 rfl, prK cp4_3 rfl, prK cp6_5 rfl, fun _ => by simp [d7], prK cp9_6 rfl, fun _ => by simp, prK cp10_4 rfl, prK cp10_9 rfl, prK cp12_10 rfl, prK cp12_11 rfl, fun h => by obtain ⟨g2, e2, hg2, y2, z2⟩ := ca3 (by simpa using h); exact ⟨g2, (put_get_ne (by decide) _).trans e2, hg2, fun h => y2 (by simpa using h), fun h => z2 (by simpa using h)⟩, cy0, cy1, cy2⟩
  ·simp only [List.getElem?_cons_zero, List.getElem?_cons_succ, Option.some.injEq] at ho
   subst ho
   rw [if_pos (by simp [Region.wanted])]
   have d6 := hd { on := 6, ground := .data } (by simp) (by decide)
   have v6 := ci6 d6
   have d8 := hd { on := 8, ground := .data } (by simp) (by decide)
   have v8 := ci8 d8
   simp [go_sem, Array.getD_eq_getD_getElem?, v6, v8]
   refine (kN _).mono ?_
   rintro e wx ⟨rfl, hbx⟩
   rw [hIA]
   exact ⟨hF.put (by decide) _, hB.trans (hbx.mono hBw), pgK ci0 (by decide) rfl, pgK ci1 (by decide) rfl, pgK ci2 (by decide) rfl, pgK ci3 (by decide) rfl, pgK ci4 (by decide) rfl, pgK ci5 (by decide) rfl, pgK ci6 (by decide) rfl, pgK ci7 (by decide) rfl, pgK ci8 (by decide) rfl, fun _ => put_get_self (hF.lt (by simp)) _, pgK ci10 (by decide) rfl, prK cp1_0 rfl, prK cp3_2 rfl, prK cp4_1 rfl, prK cp4_3 rfl, prK cp6_5 rfl, prK cp8_7 rfl, fun _ => by simp [d6], fun _ => by simp [d8], prK cp10_4 rfl, fun _ => by simp, prK cp12_10 rfl, prK cp12_11 rfl, fun h => by obtain ⟨g2, e2, hg2, y2, z2⟩ := ca3 (by simpa using h); exact ⟨g2, (put_get_ne (by decide) _).trans e2, hg2, fun h => (y2 (by simpa using h)).below hbx, fun h => (z2 (by simpa using h)).below hbx⟩, (cy0).below hbx, (cy1).below hbx, (cy2).below hbx⟩
  ·simp only [List.getElem?_cons_zero, List.getElem?_cons_succ, Option.some.injEq] at ho
   subst ho
   rw [if_pos (by simp [Region.wanted])]
   have d4 := hd { on := 4, ground := .data } (by simp) (by decide)
   have v4 := ci4 d4
   have d9 := hd { on := 9, ground := .data } (by simp) (by decide)
   have v9 := ci9 d9
   simp [go_sem, Array.getD_eq_getD_getElem?, v4, v9]
   rw [hIA]
   exact ⟨hF.put (by decide) _, hB, pgK ci0 (by decide) rfl, pgK ci1 (by decide) rfl, pgK ci2 (by decide) rfl, pgK ci3 (by decide) rfl, pgK ci4 (by decide) rfl, pgK ci5 (by decide) rfl, pgK ci6 (by decide) rfl, pgK ci7 (by decide) rfl, pgK ci8 (by decide) rfl, pgK ci9 (by decide) rfl, fun _ => put_get_self (hF.lt (by simp)) _, prK cp1_0 rfl, prK cp3_2 rfl, prK cp4_1 rfl, prK cp4_3 rfl, prK cp6_5 rfl, prK cp8_7 rfl, prK cp9_6 rfl, prK cp9_8 rfl, fun _ => by simp [d4], fun _ => by simp [d9], fun _ => by simp, prK cp12_11 rfl, fun h => by obtain ⟨g2, e2, hg2, y2, z2⟩ := ca3 (by simpa using h); exact ⟨g2, (put_get_ne (by decide) _).trans e2, hg2, fun h => y2 (by simpa using h), fun h => z2 (by simpa using h)⟩, cy0, cy1, cy2⟩
  ·simp only [List.getElem?_cons_zero, List.getElem?_cons_succ, Option.some.injEq] at ho
   subst ho
   rw [if_pos (by simp [Region.wanted])]
   simp [go_sem]
   rw [hIA]
   exact ⟨hF.put (by decide) _, hB.alloc hBw _, pgK ci0 (by decide) rfl, pgK ci1 (by decide) rfl, pgK ci2 (by decide) rfl, pgK ci3 (by decide) rfl, pgK ci4 (by decide) rfl, pgK ci5 (by decide) rfl, pgK ci6 (by decide) rfl, pgK ci7 (by decide) rfl, pgK ci8 (by decide) rfl, pgK ci9 (by decide) rfl, pgK ci10 (by decide) rfl, prK cp1_0 rfl, prK cp3_2 rfl, prK cp4_1 rfl, prK cp4_3 rfl, prK cp6_5 rfl, prK cp8_7 rfl, prK cp9_6 rfl, prK cp9_8 rfl, prK cp10_4 rfl, prK cp10_9 rfl, prK cp12_10 rfl, fun _ => by simp, fun _ => ⟨w'.heap.size, put_get_self (hF.lt (by simp)) _, zB, fun _ => HasT.new w' [.int .i64 0, .int .i64 0, .int .i64 0, .int .i64 0] 54, fun h => by have hq := cp12_11 (by simpa using h); rw [hLi] at hq; cases hq⟩, (cy0).alloc _, (cy1).alloc _, (cy2).alloc _⟩
  ·simp only [List.getElem?_cons_zero, List.getElem?_cons_succ, Option.some.injEq] at ho
   subst ho
   rw [if_pos (by simp [Region.wanted])]
   have d10 := hd { on := 10, ground := .data } (by simp) (by decide)
   have v10 := ci10 d10
   have d11 := hd { on := 11, ground := .data } (by simp) (by decide)
   obtain ⟨gk, ek, hgk, yk, _⟩ := ca3 d11
   have HT3 := yk hLi
   have HH3 := HT3.has
   have lH3 := HH3.1
   obtain ⟨cH3_0, fH3_0⟩ := HH3.2 0 _ rfl
   obtain ⟨cH3_1, fH3_1⟩ := HH3.2 1 _ rfl
   obtain ⟨cH3_2, fH3_2⟩ := HH3.2 2 _ rfl
   obtain ⟨cH3_3, fH3_3⟩ := HH3.2 3 _ rfl
   simp [go_sem, Array.getD_eq_getD_getElem?, v10, ek, cH3_0, fH3_0, cH3_1, fH3_1, cH3_2, fH3_2, cH3_3, fH3_3]
   rw [hIA]
   exact ⟨hF, below_setCells_at (by omega) [_, _, _, _] 0 _ hB, kpK ci0 rfl, kpK ci1 rfl, kpK ci2 rfl, kpK ci3 rfl, kpK ci4 rfl, kpK ci5 rfl, kpK ci6 rfl, kpK ci7 rfl, kpK ci8 rfl, kpK ci9 rfl, kpK ci10 rfl, prK cp1_0 rfl, prK cp3_2 rfl, prK cp4_1 rfl, prK cp4_3 rfl, prK cp6_5 rfl, prK cp8_7 rfl, prK cp9_6 rfl, prK cp9_8 rfl, prK cp10_4 rfl, prK cp10_9 rfl, fun _ => by simp [d10], fun _ => by simp [d11], fun _ => ⟨gk, ek, hgk, fun h => by simp at h, fun _ => HT3.store (us := [.int .i64 lw_.n, .int .i64 lw_.d, .int .i64 up_.n, .int .i64 up_.d]) rfl⟩, (cy0).other (g' := gk) (by have hl := lt_of_heap hTA_0; omega) [.int .i64 lw_.n, .int .i64 lw_.d, .int .i64 up_.n, .int .i64 up_.d] 0, (cy1).other (g' := gk) (by have hl := lt_of_heap hTA_1; omega) [.int .i64 lw_.n, .int .i64 lw_.d, .int .i64 up_.n, .int .i64 up_.d] 0, (cy2).other (g' := gk) (by have hl := lt_of_heap hTA_2; omega) [.int .i64 lw_.n, .int .i64 lw_.d, .int .i64 up_.n, .int .i64 up_.d] 0⟩
 case he =>
  intro L a' wA hL hI'
  rw [hIA] at hI'
  obtain ⟨hF, hbA, ci0, ci1, ci2, ci3, ci4, ci5, ci6, ci7, ci8, ci9, ci10, cp1_0, cp3_2, cp4_1, cp4_3, cp6_5, cp8_7, cp9_6, cp9_8, cp10_4, cp10_9, cp12_10, cp12_11, ca3, cy0, cy1, cy2⟩ := hI'
  obtain ⟨gA_3, eA_b3, hgA_3, _, cz3⟩ := ca3 (hL 11 (by decide))
  have HTA_3 := cz3 (hL 12 (by decide))
  have HTA_0 := cy0
  have HTA_1 := cy1
  have HTA_2 := cy2
  have hout := hF.outG (by simp)
  simp only [List.foldl_cons, List.foldl_nil, eA_b3] at hout
  rw [hout]
  generalize a'.tmps[16]?.getD undef = xA_16
  generalize a'.tmps[17]?.getD undef = xA_17
  generalize a'.tmps[18]?.getD undef = xA_18
  generalize a'.tmps[19]?.getD undef = xA_19
  generalize a'.tmps[20]?.getD undef = xA_20
  generalize a'.tmps[21]?.getD undef = xA_21
  generalize a'.tmps[22]?.getD undef = xA_22
  generalize a'.tmps[23]?.getD undef = xA_23
  generalize a'.tmps[24]?.getD undef = xA_24
  generalize a'.tmps[25]?.getD undef = xA_25
  generalize a'.tmps[26]?.getD undef = xA_26
  clear hout hIA hF hL ci0 ci1 ci2 ci3 ci4 ci5 ci6 ci7 ci8 ci9 ci10 cp1_0 cp3_2 cp4_1 cp4_3 cp6_5 cp8_7 cp9_6 cp9_8 cp10_4 cp10_9 cp12_10 cp12_11 ca3 cy0 cy1 cy2
  go_simp
  have HG := HTA_3.has
  obtain ⟨cHG_0, fHG_0⟩ := HG.2 0 _ rfl
  obtain ⟨cHG_1, fHG_1⟩ := HG.2 1 _ rfl
  obtain ⟨cHG_2, fHG_2⟩ := HG.2 2 _ rfl
  obtain ⟨cHG_3, fHG_3⟩ := HG.2 3 _ rfl
  have lG := HG.1
  go_wp2_with (fail)
  refine (c3 _).mono ?_
  rintro e w5 ⟨rfl, hb5⟩
  have R5 := HTA_2.below hb5
  have G5 := (HTA_3.below hb5).has
  have b5 := below_tr (b2.trans (hbA.mono b2.size)) hb5
  clear HG cHG_0 cHG_1 cHG_2 cHG_3 fHG_0 fHG_1 fHG_2 fHG_3 lG
  cases e3 : spanOk ⟨lw_, up_⟩
  ·have hF := Lib.hid (hdef.out.trans (by rw [e3]))
   have HZ := (R5).has
   obtain ⟨cHZ_0, fHZ_0⟩ := HZ.2 0 _ rfl
   obtain ⟨cHZ_1, fHZ_1⟩ := HZ.2 1 _ rfl
   obtain ⟨cHZ_2, fHZ_2⟩ := HZ.2 2 _ rfl
   obtain ⟨cHZ_3, fHZ_3⟩ := HZ.2 3 _ rfl
   have lZ := HZ.1
   go_wp2
   refine bodyPost_ret (v := .tuple #[.agg #[.int .i64 0, .int .i64 0, .int .i64 0, .int .i64 0], .bool false]) (by simp [results, Tryz.results80, go_sem, *]) rfl ⟨by rw [hF.out]; rfl, ?_⟩
   exact below_cells b5 (by omega) (o := 0) [_, _, _, _]
  have hF := Lib.hid (hdef.out.trans (by rw [e3]))
  obtain ⟨cG5_0, fG5_0⟩ := G5.2 0 _ rfl
  obtain ⟨cG5_1, fG5_1⟩ := G5.2 1 _ rfl
  obtain ⟨cG5_2, fG5_2⟩ := G5.2 2 _ rfl
  obtain ⟨cG5_3, fG5_3⟩ := G5.2 3 _ rfl
  have lG := G5.1
  have HZ := (R5).has
  obtain ⟨cHZ_0, fHZ_0⟩ := HZ.2 0 _ rfl
  obtain ⟨cHZ_1, fHZ_1⟩ := HZ.2 1 _ rfl
  obtain ⟨cHZ_2, fHZ_2⟩ := HZ.2 2 _ rfl
  obtain ⟨cHZ_3, fHZ_3⟩ := HZ.2 3 _ rfl
  have lZ := HZ.1
  go_wp2
  refine bodyPost_ret (v := .tuple #[.agg #[.int .i64 lw_.n, .int .i64 lw_.d, .int .i64 up_.n, .int .i64 up_.d], .bool true]) (by simp [results, Tryz.results80, go_sem, *]) rfl ⟨by rw [hF.out]; rfl, ?_⟩
  exact below_cells b5 (by omega) (o := 0) [_, _, _, _]
end Go.Proofs.YtdncnhcffbgjhaaGreat
