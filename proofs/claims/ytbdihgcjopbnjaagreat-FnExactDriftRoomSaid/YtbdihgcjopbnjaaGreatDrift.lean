/-
  Rooms whose limits are narrowed by a drift: of the program and of the reference.
  Conditions: the slices hold at most 2^20 elements.
-/
import Derived.Test.YtbdihgcjopbnjaaGreatEroS
import Derived.Test.YtbdihgcjopbnjaaGreatCopy
import Derived.Test.YtbdihgcjopbnjaaGreatRoom
import Derived.Test.YtbdihgcjopbnjaaGreatGrQ
import Derived.Test.YtbdihgcjopbnjaaGreatPoss
import Derived.Test.YtbdihgcjopbnjaaGreatGrP
import Derived.Test.YtbdihgcjopbnjaaGreatInv2
import Derived.Test.YtbdihgcjopbnjaaGreatMRoom
namespace Go.Proofs.YtbdihgcjopbnjaaGreat
open Go.RowKit

def setLim (x : Room) (l : List Half) : Room := ⟨x.map, x.div, x.bx, x.by_, x.low, x.high, x.noise, l⟩
def driftPre (x : Room) (dx dy : Int) : Bool := inR dx 0 100 && inR dy 0 100 && (decide (dx = 0) == decide (dy = 0)) && roomOk x
def driftOk (x : Room) (dx dy : Int) : Bool := driftPre x dx dy && (decide (dx = 0) || (movOk (eroH (boxR dx dy)) x.limits && !decide ((movR (eroH (boxR dx dy)) x.limits).length = 0)))
def driftRoom (x : Room) (dx dy : Int) : Room := if driftOk x dx dy = true then (if dx = 0 then x else setLim x (movR (eroH (boxR dx dy)) x.limits)) else room0
theorem drift_no {x : Room} {dx dy : Int} (h : driftPre x dx dy = false) : driftOk x dx dy = false ∧ driftRoom x dx dy = room0 := by
  have h1 : driftOk x dx dy = false := by unfold driftOk; rw [h, Bool.false_and]
  exact ⟨h1, by unfold driftRoom; rw [h1]; rfl⟩
theorem drift_zero {x : Room} {dx dy : Int} (h : driftPre x dx dy = true) (h0 : dx = 0) : driftOk x dx dy = true ∧ driftRoom x dx dy = x := by
  have h1 : driftOk x dx dy = true := by unfold driftOk; rw [h, decide_eq_true h0]; rfl
  exact ⟨h1, by unfold driftRoom; rw [h1, if_pos rfl, if_pos h0]⟩
theorem drift_bad {x : Room} {dx dy : Int} (h0 : dx ≠ 0) (h : movOk (eroH (boxR dx dy)) x.limits = false ∨ (movR (eroH (boxR dx dy)) x.limits).length = 0) : driftOk x dx dy = false ∧ driftRoom x dx dy = room0 := by
  have h1 : driftOk x dx dy = false := by
    unfold driftOk
    rw [decide_eq_false h0, Bool.false_or]
    rcases h with h | h
    · rw [h, Bool.false_and, Bool.and_false]
    · rw [decide_eq_true h]; simp
  exact ⟨h1, by unfold driftRoom; rw [h1]; rfl⟩
theorem drift_yes {x : Room} {dx dy : Int} (hp : driftPre x dx dy = true) (h0 : dx ≠ 0) (h : movOk (eroH (boxR dx dy)) x.limits = true) (h2 : (movR (eroH (boxR dx dy)) x.limits).length ≠ 0) : driftOk x dx dy = true ∧ driftRoom x dx dy = setLim x (movR (eroH (boxR dx dy)) x.limits) := by
  have h1 : driftOk x dx dy = true := by unfold driftOk; rw [hp, h, decide_eq_false h2]; simp
  exact ⟨h1, by unfold driftRoom; rw [h1, if_pos rfl, if_neg h0]⟩
theorem pre_no {x : Room} {dx dy : Int} (h : inR dx 0 100 = false ∨ inR dy 0 100 = false ∨ ((decide (dx = 0) == decide (dy = 0)) = false) ∨ roomOk x = false) : driftPre x dx dy = false := by
  unfold driftPre
  rcases h with h | h | h | h <;> rw [h] <;> simp
theorem room_limits {x : Room} (h : roomOk x = true) : regionOk x.limits = true := by
  simp only [roomOk, Bool.and_eq_true] at h
  exact h.2
theorem movR_len {f : Half → Option Half} {p : List Half} (hf : ∀ h ∈ p, ∀ g, f h = some g → halfOk g = true) : (movR f p).length ≤ 40 := reg_len (movR_ok hf)
theorem driftRoom_le (x : Room) (dx dy : Int) (h : roomLen x ≤ 1048576) : roomLen (driftRoom x dx dy) ≤ 1048576 := by
  unfold driftRoom
  split
  · rename_i hok
    split
    · exact h
    · have hro : roomOk x = true := by
        unfold driftOk driftPre at hok
        simp only [Bool.and_eq_true] at hok
        exact hok.1.2
      have h1 := movR_len (f := eroH (boxR dx dy)) (p := x.limits) (fun h _ g e => eroH_ok e)
      have h2 := roomOk_map hro
      have h3 : x.noise.length ≤ 40 := by
        simp only [roomOk, Bool.and_eq_true] at hro
        exact reg_len hro.1.2
      simp only [roomLen, setLim]
      omega
  · decide
theorem boxHs_rf {x y : Int} (hx : 1 ≤ x ∧ x ≤ 100) (hy : 1 ≤ y ∧ y ≤ 100) : rfOk (boxHs x y) = true ∧ rfR (boxHs x y) = boxR x y := by
  have h1 : (boxHs x y).all halfOk = true := List.all_eq_true.2 (boxHs_ok hx hy)
  have h2 : rfOk (boxHs x y) = true := by
    unfold rfOk
    rw [h1, (box_meet x y).1]; rfl
  refine ⟨h2, ?_⟩
  unfold rfR
  rw [if_pos h2]; rfl
theorem areBounds_c (a b : Int) (w : World) (_ : -1000000 ≤ a ∧ b ≤ 1000000) :
    Calls Tryz.prog 91 #[.int .i64 a, .int .i64 b] w fun e w' => e = .returned (.bool (decide (-1000 ≤ a ∧ a < b ∧ b ≤ 1000))) ∧ w = w' := by
  by_cases h1 : -1000 ≤ a
  · by_cases h2 : a < b
    · by_cases h3 : b ≤ 1000
      all_goals
        go_enter Tryz.func91, Tryz.ntmps91
        go_wp2
        go_ret
        exact ⟨ret_bool (by first | (rw [decide_eq_true (by omega)]; done) | (rw [decide_eq_false (by omega)]; done)), rfl⟩
    · go_enter Tryz.func91, Tryz.ntmps91
      go_wp2
      go_ret
      exact ⟨ret_bool (by rw [decide_eq_false (by omega)]; rfl), rfl⟩
  · go_enter Tryz.func91, Tryz.ntmps91
    go_wp2
    go_ret
    exact ⟨ret_bool (by rw [decide_eq_false (by omega)]; rfl), rfl⟩
set_option maxRecDepth 100000 in
set_option maxHeartbeats 4000000 in
theorem iBox_c (x y : Int) (w : World) (hx : 1 ≤ x ∧ x ≤ 100) (hy : 1 ≤ y ∧ y ≤ 100) :
    Calls Tryz.prog 55 #[.int .i64 (-x), .int .i64 (-y), .int .i64 x, .int .i64 y] w fun e w' => ∃ v, e = .returned (.tuple #[.agg #[v], .bool true]) ∧ New 71 3 halfC w' w.heap.size v (boxR x y) ∧ Below w.heap.size w w' := by
  have hok := boxHs_ok hx hy
  have hrf := boxHs_rf hx hy
  have H0 : HasT (w.alloc (.cells #[.slice none 0 0] 39)) w.heap.size 39 [.slice none 0 0] := HasT.new w [.slice none 0 0] 39
  have b0 : Below w.heap.size w (w.alloc (.cells #[.slice none 0 0] 39)) := below_al (Below.refl _ _) _
  have z0 : w.heap.size < (w.alloc (.cells #[.slice none 0 0] 39)).heap.size := by simp
  generalize hW : w.alloc (.cells #[.slice none 0 0] 39) = W at *
  have hW' := Lib.hid hW
  clear hW
  have SB : Sl 3 halfC (W.alloc (.cells #[.int .i64 1, .int .i64 0, .int .i64 x, .int .i64 0, .int .i64 1, .int .i64 y, .int .i64 (-1), .int .i64 0, .int .i64 x, .int .i64 0, .int .i64 (-1), .int .i64 y] 71)) (some ⟨W.heap.size, 0, none⟩) (boxHs x y) := sl_new_at halfC_len W (boxHs x y) #[.int .i64 1, .int .i64 0, .int .i64 x, .int .i64 0, .int .i64 1, .int .i64 y, .int .i64 (-1), .int .i64 0, .int .i64 x, .int .i64 0, .int .i64 (-1), .int .i64 y] rfl rfl
  have b1 := below_al b0 (.cells #[.int .i64 1, .int .i64 0, .int .i64 x, .int .i64 0, .int .i64 1, .int .i64 y, .int .i64 (-1), .int .i64 0, .int .i64 x, .int .i64 0, .int .i64 (-1), .int .i64 y] 71)
  have R1 := H0.alloc (.cells #[.int .i64 1, .int .i64 0, .int .i64 x, .int .i64 0, .int .i64 1, .int .i64 y, .int .i64 (-1), .int .i64 0, .int .i64 x, .int .i64 0, .int .i64 (-1), .int .i64 y] 71)
  have k1 := iRegionFrom_c (some ⟨W.heap.size, 0, none⟩) (boxHs x y) 4 _ (by simp [boxHs]) (fun h hh => hIn (hOk (hok h hh))) SB (fun e => by cases e)
  rw [hrf.1, hrf.2] at k1
  clear hok hrf
  go_enter Tryz.func55, Tryz.ntmps55
  go_upto_region 1 with fail
  rw [hW'.out]
  clear hW'
  have ab := fun W => areBounds_c (-x) x W ⟨by omega, by omega⟩
  have ab2 := fun W => areBounds_c (-y) y W ⟨by omega, by omega⟩
  rw [show (decide (-1000 ≤ -x ∧ -x < x ∧ x ≤ 1000)) = true from decide_eq_true ⟨by omega, by omega, by omega⟩] at ab
  rw [show (decide (-1000 ≤ -y ∧ -y < y ∧ y ≤ 1000)) = true from decide_eq_true ⟨by omega, by omega, by omega⟩] at ab2
  go_wp2_with (fail)
  refine (ab _).mono ?_
  rintro e w' ⟨rfl, rfl⟩
  go_wp2_with (fail)
  refine (ab2 _).mono ?_
  rintro e w' ⟨rfl, rfl⟩
  go_wp2_with (fail)
  refine k1.mono ?_
  rintro e w3 ⟨v, rfl, N3, hb3⟩
  obtain ⟨Av, cv, rfl, o3⟩ := N3
  have N3 : New 71 3 halfC w3 (W.alloc (.cells #[.int .i64 1, .int .i64 0, .int .i64 x, .int .i64 0, .int .i64 1, .int .i64 y, .int .i64 (-1), .int .i64 0, .int .i64 x, .int .i64 0, .int .i64 (-1), .int .i64 y] 71)).heap.size (.slice Av (boxR x y).length cv) (boxR x y) := ⟨Av, cv, rfl, o3⟩
  have R3 := (R1.below hb3).has
  have b3 := below_tr b1 hb3
  have z3 : w.heap.size < w3.heap.size := R3.1
  clear o3 k1 R1 b1 hb3 H0 SB
  obtain ⟨cR3_0, fR3_0⟩ := R3.2 0 _ rfl
  go_wp2
  refine bodyPost_ret (v := .tuple #[.agg #[.slice Av (boxR x y).length cv], .bool true]) (by simp [results, Tryz.results55, go_sem, *]) rfl ⟨.slice Av (boxR x y).length cv, rfl, ?_, below_st b3 (by simp only; omega) _⟩
  exact (N3.lowC (q := ⟨w.heap.size, 0, none⟩) (by simp only [World.size_alloc]; omega) [.slice Av (boxR x y).length cv]).mono (base' := w.heap.size) (by simp only [World.size_alloc]; omega)
set_option maxRecDepth 100000 in
set_option maxHeartbeats 4000000 in
theorem sBox_c (x y : Int) (w : World) (hx : 1 ≤ x ∧ x ≤ 100) (hy : 1 ≤ y ∧ y ≤ 100) :
    Calls Tryz.prog 51 #[.int .i64 (-x), .int .i64 (-y), .int .i64 x, .int .i64 y] w fun e w' => ∃ v, e = .returned (.tuple #[.agg #[v], .bool true]) ∧ New 71 3 halfC w' w.heap.size v (boxR x y) ∧ Below w.heap.size w w' := by
  have hok := boxHs_ok hx hy
  have hrf := boxHs_rf hx hy
  have H0 : HasT (w.alloc (.cells #[.slice none 0 0] 39)) w.heap.size 39 [.slice none 0 0] := HasT.new w [.slice none 0 0] 39
  have b0 : Below w.heap.size w (w.alloc (.cells #[.slice none 0 0] 39)) := below_al (Below.refl _ _) _
  have z0 : w.heap.size < (w.alloc (.cells #[.slice none 0 0] 39)).heap.size := by simp
  generalize hW : w.alloc (.cells #[.slice none 0 0] 39) = W at *
  have hW' := Lib.hid hW
  clear hW
  have SB : Sl 3 halfC (W.alloc (.cells #[.int .i64 1, .int .i64 0, .int .i64 x, .int .i64 0, .int .i64 1, .int .i64 y, .int .i64 (-1), .int .i64 0, .int .i64 x, .int .i64 0, .int .i64 (-1), .int .i64 y] 71)) (some ⟨W.heap.size, 0, none⟩) (boxHs x y) := sl_new_at halfC_len W (boxHs x y) #[.int .i64 1, .int .i64 0, .int .i64 x, .int .i64 0, .int .i64 1, .int .i64 y, .int .i64 (-1), .int .i64 0, .int .i64 x, .int .i64 0, .int .i64 (-1), .int .i64 y] rfl rfl
  have b1 := below_al b0 (.cells #[.int .i64 1, .int .i64 0, .int .i64 x, .int .i64 0, .int .i64 1, .int .i64 y, .int .i64 (-1), .int .i64 0, .int .i64 x, .int .i64 0, .int .i64 (-1), .int .i64 y] 71)
  have R1 := H0.alloc (.cells #[.int .i64 1, .int .i64 0, .int .i64 x, .int .i64 0, .int .i64 1, .int .i64 y, .int .i64 (-1), .int .i64 0, .int .i64 x, .int .i64 0, .int .i64 (-1), .int .i64 y] 71)
  have k1 := sMake_c (some ⟨W.heap.size, 0, none⟩) (boxHs x y) 4 _ (by simp [boxHs]) hok SB (fun e => by cases e)
  change Calls _ _ _ _ fun e w' => ∃ v, e = .returned (.agg #[v]) ∧ New _ 3 halfC w' _ v (boxR x y) ∧ _ at k1
  have e1 := l01In_v (-x) (-1000) 1000 true (inR_iff.2 ⟨by omega, by omega⟩)
  have e2 := l01In_v x (-x + 1) 1000 true (inR_iff.2 ⟨by omega, by omega⟩)
  have e3 := l01In_v (-y) (-1000) 1000 true (inR_iff.2 ⟨by omega, by omega⟩)
  have e4 := l01In_v y (-y + 1) 1000 true (inR_iff.2 ⟨by omega, by omega⟩)
  clear hok hrf
  go_enter Tryz.func51, Tryz.ntmps51
  go_upto_region 1 with fail
  rw [hW'.out]
  clear hW'
  go_wp2_with (fail)
  refine (e1 _).mono ?_
  rintro e w' ⟨rfl, rfl⟩
  go_wp2_with (fail)
  refine (e2 _).mono ?_
  rintro e w' ⟨rfl, rfl⟩
  go_wp2_with (fail)
  refine (e3 _).mono ?_
  rintro e w' ⟨rfl, rfl⟩
  go_wp2_with (fail)
  refine (e4 _).mono ?_
  rintro e w' ⟨rfl, rfl⟩
  go_wp2_with (fail)
  refine k1.mono ?_
  rintro e w3 ⟨v, rfl, N3, hb3⟩
  obtain ⟨Av, cv, rfl, o3⟩ := N3
  have N3 : New 71 3 halfC w3 (W.alloc (.cells #[.int .i64 1, .int .i64 0, .int .i64 x, .int .i64 0, .int .i64 1, .int .i64 y, .int .i64 (-1), .int .i64 0, .int .i64 x, .int .i64 0, .int .i64 (-1), .int .i64 y] 71)).heap.size (.slice Av (boxR x y).length cv) (boxR x y) := ⟨Av, cv, rfl, o3⟩
  have R3 := (R1.below hb3).has
  have b3 := below_tr b1 hb3
  have z3 : w.heap.size < w3.heap.size := R3.1
  clear o3 k1 R1 b1 hb3 H0 SB
  obtain ⟨cR3_0, fR3_0⟩ := R3.2 0 _ rfl
  go_wp2
  refine bodyPost_ret (v := .tuple #[.agg #[.slice Av (boxR x y).length cv], .bool true]) (by simp [results, Tryz.results51, go_sem, *]) rfl ⟨.slice Av (boxR x y).length cv, rfl, ?_, below_st b3 (by simp only; omega) _⟩
  exact (N3.lowC (q := ⟨w.heap.size, 0, none⟩) (by simp only [World.size_alloc]; omega) [.slice Av (boxR x y).length cv]).mono (base' := w.heap.size) (by simp only [World.size_alloc]; omega)
set_option maxRecDepth 100000 in
set_option maxHeartbeats 8000000 in
theorem iDrift_c (x : Room) (a : RoomA) (dx dy : Int) (w : World) (hn : roomLen x ≤ 1048576) (hin : RoomIn x) (hs : RoomSl w x a) (hnl : RoomNil a) :
    Calls Tryz.prog 23 #[roomV x a, .int .i64 dx, .int .i64 dy] w fun e w' => ∃ b, e = .returned (.tuple #[roomV (driftRoom x dx dy) b, .bool (driftOk x dx dy)]) ∧ RoomNew w' w.heap.size (driftRoom x dx dy) b ∧ Below w.heap.size w w' := by
  have c1 := fun W h => iRoomOk_c x a W hn hin h hnl
  have cx := fun W => isDrift_c dx W
  have cy := fun W => isDrift_c dy W
  obtain ⟨W, hW⟩ : ∃ W, W = (w.alloc (.cells #[.slice a.map.A (List.length x.map) a.map.c, .int .i64 x.div, .int .i64 x.bx, .int .i64 x.by_, .int .i64 x.low, .int .i64 x.high, .slice a.noise.A (List.length x.noise) a.noise.c, .slice a.limits.A (List.length x.limits) a.limits.c] 41)).alloc (.cells #[.slice none 0 0, .int .i64 0, .int .i64 0, .int .i64 0, .int .i64 0, .int .i64 0, .slice none 0 0, .slice none 0 0] 41) := ⟨_, rfl⟩
  have HR : HasT W (w.heap.size + 1) 41 [.slice none 0 0, .int .i64 0, .int .i64 0, .int .i64 0, .int .i64 0, .int .i64 0, .slice none 0 0, .slice none 0 0] := by
    have h1 := HasT.new (w.alloc (.cells #[.slice a.map.A (List.length x.map) a.map.c, .int .i64 x.div, .int .i64 x.bx, .int .i64 x.by_, .int .i64 x.low, .int .i64 x.high, .slice a.noise.A (List.length x.noise) a.noise.c, .slice a.limits.A (List.length x.limits) a.limits.c] 41)) [.slice none 0 0, .int .i64 0, .int .i64 0, .int .i64 0, .int .i64 0, .int .i64 0, .slice none 0 0, .slice none 0 0] 41
    simp only [World.size_alloc] at h1
    rw [hW]; exact h1
  have HB : Has W w.heap.size [.slice a.map.A (List.length x.map) a.map.c, .int .i64 x.div, .int .i64 x.bx, .int .i64 x.by_, .int .i64 x.low, .int .i64 x.high, .slice a.noise.A (List.length x.noise) a.noise.c, .slice a.limits.A (List.length x.limits) a.limits.c] := by
    rw [hW]
    repeat (first | ((with_reducible refine Has.new_at ?_ _ _ rfl); (first | rfl | (focus (simp; done)))) | (with_reducible refine Has.set_ ?_ ?_ _) | (with_reducible refine Has.alloc ?_ _) | (with_reducible refine Has.below ?_ (by assumption)) | (focus (simp; done)) | (focus (simp; omega)))
  have b0 : Below w.heap.size w W := by
    rw [hW]
    repeat (first | (with_reducible exact Below.refl _ _) | (with_reducible assumption) | (with_reducible refine below_al ?_ _) | (with_reducible refine Below.drew ?_) | (with_reducible refine below_drewN ?_ _) | (with_reducible refine below_st ?_ ?_ _) | (with_reducible refine below_tr ?_ (by assumption)) | (with_reducible exact Nat.le_refl _) | (focus (simp; done)) | (focus (simp; omega)))
  have hsz : W.heap.size = w.heap.size + 1 + 1 := by rw [hW]; simp
  have lB : w.heap.size < W.heap.size := by omega
  have hW' := Lib.hid hW
  have hs0 := hs.below b0
  have zW : w.heap.size + 1 < W.heap.size := by omega
  clear hW hs hsz
  cases e1 : inR dx 0 100
  · rw [e1] at cx
    have hF := Lib.hid (drift_no (x := x) (dx := dx) (dy := dy) (pre_no (.inl e1)))
    go_enter Tryz.func23, Tryz.ntmps23
    go_upto_region 1 with fail
    rw [← hW'.out]
    clear hW'
    obtain ⟨cHB_0, fHB_0⟩ := HB.2 0 _ rfl
    obtain ⟨cHB_1, fHB_1⟩ := HB.2 1 _ rfl
    obtain ⟨cHB_2, fHB_2⟩ := HB.2 2 _ rfl
    obtain ⟨cHB_3, fHB_3⟩ := HB.2 3 _ rfl
    obtain ⟨cHB_4, fHB_4⟩ := HB.2 4 _ rfl
    obtain ⟨cHB_5, fHB_5⟩ := HB.2 5 _ rfl
    obtain ⟨cHB_6, fHB_6⟩ := HB.2 6 _ rfl
    obtain ⟨cHB_7, fHB_7⟩ := HB.2 7 _ rfl
    go_wp2_with (fail)
    refine (cx _).mono ?_
    rintro e w' ⟨rfl, rfl⟩
    have HZ := (HR).has
    obtain ⟨cHZ_0, fHZ_0⟩ := HZ.2 0 _ rfl
    obtain ⟨cHZ_1, fHZ_1⟩ := HZ.2 1 _ rfl
    obtain ⟨cHZ_2, fHZ_2⟩ := HZ.2 2 _ rfl
    obtain ⟨cHZ_3, fHZ_3⟩ := HZ.2 3 _ rfl
    obtain ⟨cHZ_4, fHZ_4⟩ := HZ.2 4 _ rfl
    obtain ⟨cHZ_5, fHZ_5⟩ := HZ.2 5 _ rfl
    obtain ⟨cHZ_6, fHZ_6⟩ := HZ.2 6 _ rfl
    obtain ⟨cHZ_7, fHZ_7⟩ := HZ.2 7 _ rfl
    have lZ := HZ.1
    have BZ := b0
    go_wp2
    refine bodyPost_ret (v := .tuple #[.agg #[.slice none 0 0, .int .i64 0, .int .i64 0, .int .i64 0, .int .i64 0, .int .i64 0, .slice none 0 0, .slice none 0 0], .bool false]) (by simp [results, Tryz.results23, go_sem, cHZ_0, cHZ_1, cHZ_2, cHZ_3, cHZ_4, cHZ_5, cHZ_6, cHZ_7]) rfl ⟨⟨⟨none, 0⟩, ⟨none, 0⟩, ⟨none, 0⟩⟩, by rw [hF.out.1, hF.out.2]; rfl, ?_, ?_⟩
    · rw [hF.out.2]; exact ⟨⟨none, 0, rfl, World.ownsRow_nil _ _ _ _⟩, ⟨⟨none, 0, rfl, World.ownsRow_nil _ _ _ _⟩⟩, ⟨⟨none, 0, rfl, World.ownsRow_nil _ _ _ _⟩⟩, by simp [Apart]⟩
    · exact below_cells BZ (by omega) (o := 0) [_, _, _, _, _, _, _, _]
  rw [e1] at cx
  cases e2 : inR dy 0 100
  · rw [e2] at cy
    have hF := Lib.hid (drift_no (x := x) (dx := dx) (dy := dy) (pre_no (.inr (.inl e2))))
    go_enter Tryz.func23, Tryz.ntmps23
    go_upto_region 1 with fail
    rw [← hW'.out]
    clear hW'
    obtain ⟨cHB_0, fHB_0⟩ := HB.2 0 _ rfl
    obtain ⟨cHB_1, fHB_1⟩ := HB.2 1 _ rfl
    obtain ⟨cHB_2, fHB_2⟩ := HB.2 2 _ rfl
    obtain ⟨cHB_3, fHB_3⟩ := HB.2 3 _ rfl
    obtain ⟨cHB_4, fHB_4⟩ := HB.2 4 _ rfl
    obtain ⟨cHB_5, fHB_5⟩ := HB.2 5 _ rfl
    obtain ⟨cHB_6, fHB_6⟩ := HB.2 6 _ rfl
    obtain ⟨cHB_7, fHB_7⟩ := HB.2 7 _ rfl
    go_wp2_with (fail)
    refine (cx _).mono ?_
    rintro e w' ⟨rfl, rfl⟩
    go_wp2_with (fail)
    refine (cy _).mono ?_
    rintro e w' ⟨rfl, rfl⟩
    have HZ := (HR).has
    obtain ⟨cHZ_0, fHZ_0⟩ := HZ.2 0 _ rfl
    obtain ⟨cHZ_1, fHZ_1⟩ := HZ.2 1 _ rfl
    obtain ⟨cHZ_2, fHZ_2⟩ := HZ.2 2 _ rfl
    obtain ⟨cHZ_3, fHZ_3⟩ := HZ.2 3 _ rfl
    obtain ⟨cHZ_4, fHZ_4⟩ := HZ.2 4 _ rfl
    obtain ⟨cHZ_5, fHZ_5⟩ := HZ.2 5 _ rfl
    obtain ⟨cHZ_6, fHZ_6⟩ := HZ.2 6 _ rfl
    obtain ⟨cHZ_7, fHZ_7⟩ := HZ.2 7 _ rfl
    have lZ := HZ.1
    have BZ := b0
    go_wp2
    refine bodyPost_ret (v := .tuple #[.agg #[.slice none 0 0, .int .i64 0, .int .i64 0, .int .i64 0, .int .i64 0, .int .i64 0, .slice none 0 0, .slice none 0 0], .bool false]) (by simp [results, Tryz.results23, go_sem, cHZ_0, cHZ_1, cHZ_2, cHZ_3, cHZ_4, cHZ_5, cHZ_6, cHZ_7]) rfl ⟨⟨⟨none, 0⟩, ⟨none, 0⟩, ⟨none, 0⟩⟩, by rw [hF.out.1, hF.out.2]; rfl, ?_, ?_⟩
    · rw [hF.out.2]; exact ⟨⟨none, 0, rfl, World.ownsRow_nil _ _ _ _⟩, ⟨⟨none, 0, rfl, World.ownsRow_nil _ _ _ _⟩⟩, ⟨⟨none, 0, rfl, World.ownsRow_nil _ _ _ _⟩⟩, by simp [Apart]⟩
    · exact below_cells BZ (by omega) (o := 0) [_, _, _, _, _, _, _, _]
  rw [e2] at cy
  cases hz : (decide (dx = 0) == decide (dy = 0))
  · by_cases hx : dx = 0
    · by_cases hy : dy = 0
      · rw [decide_eq_true hx, decide_eq_true hy] at hz; cases hz
      · have hxe : (dx == 0) = true := by rw [beq_iff_eq]; exact hx
        have hye : (dy == 0) = false := by rw [beq_eq_false_iff_ne]; exact hy
        clear hx hy
        have hF := Lib.hid (drift_no (x := x) (dx := dx) (dy := dy) (pre_no (.inr (.inr (.inl hz)))))
        go_enter Tryz.func23, Tryz.ntmps23
        go_upto_region 1 with fail
        rw [← hW'.out]
        clear hW'
        obtain ⟨cHB_0, fHB_0⟩ := HB.2 0 _ rfl
        obtain ⟨cHB_1, fHB_1⟩ := HB.2 1 _ rfl
        obtain ⟨cHB_2, fHB_2⟩ := HB.2 2 _ rfl
        obtain ⟨cHB_3, fHB_3⟩ := HB.2 3 _ rfl
        obtain ⟨cHB_4, fHB_4⟩ := HB.2 4 _ rfl
        obtain ⟨cHB_5, fHB_5⟩ := HB.2 5 _ rfl
        obtain ⟨cHB_6, fHB_6⟩ := HB.2 6 _ rfl
        obtain ⟨cHB_7, fHB_7⟩ := HB.2 7 _ rfl
        go_wp2_with (fail)
        refine (cx _).mono ?_
        rintro e w' ⟨rfl, rfl⟩
        go_wp2_with (fail)
        refine (cy _).mono ?_
        rintro e w' ⟨rfl, rfl⟩
        have HZ := (HR).has
        obtain ⟨cHZ_0, fHZ_0⟩ := HZ.2 0 _ rfl
        obtain ⟨cHZ_1, fHZ_1⟩ := HZ.2 1 _ rfl
        obtain ⟨cHZ_2, fHZ_2⟩ := HZ.2 2 _ rfl
        obtain ⟨cHZ_3, fHZ_3⟩ := HZ.2 3 _ rfl
        obtain ⟨cHZ_4, fHZ_4⟩ := HZ.2 4 _ rfl
        obtain ⟨cHZ_5, fHZ_5⟩ := HZ.2 5 _ rfl
        obtain ⟨cHZ_6, fHZ_6⟩ := HZ.2 6 _ rfl
        obtain ⟨cHZ_7, fHZ_7⟩ := HZ.2 7 _ rfl
        have lZ := HZ.1
        have BZ := b0
        go_wp2
        refine bodyPost_ret (v := .tuple #[.agg #[.slice none 0 0, .int .i64 0, .int .i64 0, .int .i64 0, .int .i64 0, .int .i64 0, .slice none 0 0, .slice none 0 0], .bool false]) (by simp [results, Tryz.results23, go_sem, cHZ_0, cHZ_1, cHZ_2, cHZ_3, cHZ_4, cHZ_5, cHZ_6, cHZ_7]) rfl ⟨⟨⟨none, 0⟩, ⟨none, 0⟩, ⟨none, 0⟩⟩, by rw [hF.out.1, hF.out.2]; rfl, ?_, ?_⟩
        · rw [hF.out.2]; exact ⟨⟨none, 0, rfl, World.ownsRow_nil _ _ _ _⟩, ⟨⟨none, 0, rfl, World.ownsRow_nil _ _ _ _⟩⟩, ⟨⟨none, 0, rfl, World.ownsRow_nil _ _ _ _⟩⟩, by simp [Apart]⟩
        · exact below_cells BZ (by omega) (o := 0) [_, _, _, _, _, _, _, _]
    · by_cases hy : dy = 0
      · have hxe : (dx == 0) = false := by rw [beq_eq_false_iff_ne]; exact hx
        have hye : (dy == 0) = true := by rw [beq_iff_eq]; exact hy
        clear hx hy
        have hF := Lib.hid (drift_no (x := x) (dx := dx) (dy := dy) (pre_no (.inr (.inr (.inl hz)))))
        go_enter Tryz.func23, Tryz.ntmps23
        go_upto_region 1 with fail
        rw [← hW'.out]
        clear hW'
        obtain ⟨cHB_0, fHB_0⟩ := HB.2 0 _ rfl
        obtain ⟨cHB_1, fHB_1⟩ := HB.2 1 _ rfl
        obtain ⟨cHB_2, fHB_2⟩ := HB.2 2 _ rfl
        obtain ⟨cHB_3, fHB_3⟩ := HB.2 3 _ rfl
        obtain ⟨cHB_4, fHB_4⟩ := HB.2 4 _ rfl
        obtain ⟨cHB_5, fHB_5⟩ := HB.2 5 _ rfl
        obtain ⟨cHB_6, fHB_6⟩ := HB.2 6 _ rfl
        obtain ⟨cHB_7, fHB_7⟩ := HB.2 7 _ rfl
        go_wp2_with (fail)
        refine (cx _).mono ?_
        rintro e w' ⟨rfl, rfl⟩
        go_wp2_with (fail)
        refine (cy _).mono ?_
        rintro e w' ⟨rfl, rfl⟩
        have HZ := (HR).has
        obtain ⟨cHZ_0, fHZ_0⟩ := HZ.2 0 _ rfl
        obtain ⟨cHZ_1, fHZ_1⟩ := HZ.2 1 _ rfl
        obtain ⟨cHZ_2, fHZ_2⟩ := HZ.2 2 _ rfl
        obtain ⟨cHZ_3, fHZ_3⟩ := HZ.2 3 _ rfl
        obtain ⟨cHZ_4, fHZ_4⟩ := HZ.2 4 _ rfl
        obtain ⟨cHZ_5, fHZ_5⟩ := HZ.2 5 _ rfl
        obtain ⟨cHZ_6, fHZ_6⟩ := HZ.2 6 _ rfl
        obtain ⟨cHZ_7, fHZ_7⟩ := HZ.2 7 _ rfl
        have lZ := HZ.1
        have BZ := b0
        go_wp2
        refine bodyPost_ret (v := .tuple #[.agg #[.slice none 0 0, .int .i64 0, .int .i64 0, .int .i64 0, .int .i64 0, .int .i64 0, .slice none 0 0, .slice none 0 0], .bool false]) (by simp [results, Tryz.results23, go_sem, cHZ_0, cHZ_1, cHZ_2, cHZ_3, cHZ_4, cHZ_5, cHZ_6, cHZ_7]) rfl ⟨⟨⟨none, 0⟩, ⟨none, 0⟩, ⟨none, 0⟩⟩, by rw [hF.out.1, hF.out.2]; rfl, ?_, ?_⟩
        · rw [hF.out.2]; exact ⟨⟨none, 0, rfl, World.ownsRow_nil _ _ _ _⟩, ⟨⟨none, 0, rfl, World.ownsRow_nil _ _ _ _⟩⟩, ⟨⟨none, 0, rfl, World.ownsRow_nil _ _ _ _⟩⟩, by simp [Apart]⟩
        · exact below_cells BZ (by omega) (o := 0) [_, _, _, _, _, _, _, _]
      · rw [decide_eq_false hx, decide_eq_false hy] at hz; cases hz
  by_cases hx : dx = 0
  · have hxe : (dx == 0) = true := by rw [beq_iff_eq]; exact hx
    have hye : (dy == 0) = true := by
      rw [beq_iff_eq]
      apply Classical.byContradiction
      intro h
      rw [decide_eq_true hx, decide_eq_false h] at hz
      cases hz
    have hx0 := Lib.hid hx
    clear hx
    cases e3 : roomOk x
    · rw [e3] at c1
      have hF := Lib.hid (drift_no (x := x) (dx := dx) (dy := dy) (pre_no (.inr (.inr (.inr e3)))))
      go_enter Tryz.func23, Tryz.ntmps23
      go_upto_region 1 with fail
      rw [← hW'.out]
      clear hW'
      obtain ⟨cHB_0, fHB_0⟩ := HB.2 0 _ rfl
      obtain ⟨cHB_1, fHB_1⟩ := HB.2 1 _ rfl
      obtain ⟨cHB_2, fHB_2⟩ := HB.2 2 _ rfl
      obtain ⟨cHB_3, fHB_3⟩ := HB.2 3 _ rfl
      obtain ⟨cHB_4, fHB_4⟩ := HB.2 4 _ rfl
      obtain ⟨cHB_5, fHB_5⟩ := HB.2 5 _ rfl
      obtain ⟨cHB_6, fHB_6⟩ := HB.2 6 _ rfl
      obtain ⟨cHB_7, fHB_7⟩ := HB.2 7 _ rfl
      go_wp2_with (fail)
      refine (cx _).mono ?_
      rintro e w' ⟨rfl, rfl⟩
      go_wp2_with (fail)
      refine (cy _).mono ?_
      rintro e w' ⟨rfl, rfl⟩
      go_wp2_with (fail)
      refine (c1 _ hs0).mono ?_
      rintro e w1 ⟨rfl, hb1⟩
      have HZ := (HR.below hb1).has
      obtain ⟨cHZ_0, fHZ_0⟩ := HZ.2 0 _ rfl
      obtain ⟨cHZ_1, fHZ_1⟩ := HZ.2 1 _ rfl
      obtain ⟨cHZ_2, fHZ_2⟩ := HZ.2 2 _ rfl
      obtain ⟨cHZ_3, fHZ_3⟩ := HZ.2 3 _ rfl
      obtain ⟨cHZ_4, fHZ_4⟩ := HZ.2 4 _ rfl
      obtain ⟨cHZ_5, fHZ_5⟩ := HZ.2 5 _ rfl
      obtain ⟨cHZ_6, fHZ_6⟩ := HZ.2 6 _ rfl
      obtain ⟨cHZ_7, fHZ_7⟩ := HZ.2 7 _ rfl
      have lZ := HZ.1
      have BZ := below_tr b0 hb1
      go_wp2
      refine bodyPost_ret (v := .tuple #[.agg #[.slice none 0 0, .int .i64 0, .int .i64 0, .int .i64 0, .int .i64 0, .int .i64 0, .slice none 0 0, .slice none 0 0], .bool false]) (by simp [results, Tryz.results23, go_sem, cHZ_0, cHZ_1, cHZ_2, cHZ_3, cHZ_4, cHZ_5, cHZ_6, cHZ_7]) rfl ⟨⟨⟨none, 0⟩, ⟨none, 0⟩, ⟨none, 0⟩⟩, by rw [hF.out.1, hF.out.2]; rfl, ?_, ?_⟩
      · rw [hF.out.2]; exact ⟨⟨none, 0, rfl, World.ownsRow_nil _ _ _ _⟩, ⟨⟨none, 0, rfl, World.ownsRow_nil _ _ _ _⟩⟩, ⟨⟨none, 0, rfl, World.ownsRow_nil _ _ _ _⟩⟩, by simp [Apart]⟩
      · exact below_cells BZ (by omega) (o := 0) [_, _, _, _, _, _, _, _]
    rw [e3] at c1
    have hx := hx0.out
    have hpre : driftPre x dx dy = true := by unfold driftPre; rw [e1, e2, e3, hz]; rfl
    have hmn := Lib.hid (show a.map.A = none → a.map.c = 0 from hs0.map.some_ (by rw [roomOk_map e3]; decide))
    have c2 := fun W h => iCopyRoom_c x a W hn h
    have hli := room_limits e3
    have hF := Lib.hid (drift_zero hpre hx)
    clear hx
    go_enter Tryz.func23, Tryz.ntmps23
    go_upto_region 1 with fail
    rw [← hW'.out]
    clear hW'
    obtain ⟨cHB_0, fHB_0⟩ := HB.2 0 _ rfl
    obtain ⟨cHB_1, fHB_1⟩ := HB.2 1 _ rfl
    obtain ⟨cHB_2, fHB_2⟩ := HB.2 2 _ rfl
    obtain ⟨cHB_3, fHB_3⟩ := HB.2 3 _ rfl
    obtain ⟨cHB_4, fHB_4⟩ := HB.2 4 _ rfl
    obtain ⟨cHB_5, fHB_5⟩ := HB.2 5 _ rfl
    obtain ⟨cHB_6, fHB_6⟩ := HB.2 6 _ rfl
    obtain ⟨cHB_7, fHB_7⟩ := HB.2 7 _ rfl
    go_wp2_with (fail)
    refine (cx _).mono ?_
    rintro e w' ⟨rfl, rfl⟩
    go_wp2_with (fail)
    refine (cy _).mono ?_
    rintro e w' ⟨rfl, rfl⟩
    go_wp2_with (fail)
    refine (c1 _ hs0).mono ?_
    rintro e w1 ⟨rfl, hb1⟩
    have HB1 := HB.below hb1
    have HR1 := HR.below hb1
    have b1 := below_tr b0 hb1
    have hs1 := hs0.below hb1
    have z1 : w.heap.size + 1 < w1.heap.size := Nat.lt_of_lt_of_le zW hb1.size
    clear cHB_0 cHB_1 cHB_2 cHB_3 cHB_4 cHB_5 cHB_6 cHB_7 fHB_0 fHB_1 fHB_2 fHB_3 fHB_4 fHB_5 fHB_6 fHB_7 HB HR b0 hs0 hb1 lB zW c1 cx cy
    obtain ⟨cHB1_0, fHB1_0⟩ := HB1.2 0 _ rfl
    obtain ⟨cHB1_1, fHB1_1⟩ := HB1.2 1 _ rfl
    obtain ⟨cHB1_2, fHB1_2⟩ := HB1.2 2 _ rfl
    obtain ⟨cHB1_3, fHB1_3⟩ := HB1.2 3 _ rfl
    obtain ⟨cHB1_4, fHB1_4⟩ := HB1.2 4 _ rfl
    obtain ⟨cHB1_5, fHB1_5⟩ := HB1.2 5 _ rfl
    obtain ⟨cHB1_6, fHB1_6⟩ := HB1.2 6 _ rfl
    obtain ⟨cHB1_7, fHB1_7⟩ := HB1.2 7 _ rfl
    have lB := HB1.1
    go_wp2_with (fail)
    refine (c2 _ hs1).mono ?_
    rintro e w2 ⟨b, rfl, N2, hb2⟩
    have TT : HasT (w2.alloc (.cells #[.slice b.map.A (List.length x.map) b.map.c, .int .i64 x.div, .int .i64 x.bx, .int .i64 x.by_, .int .i64 x.low, .int .i64 x.high, .slice b.noise.A (List.length x.noise) b.noise.c, .slice b.limits.A (List.length x.limits) b.limits.c] 41)) w2.heap.size 41 [.slice b.map.A (List.length x.map) b.map.c, .int .i64 x.div, .int .i64 x.bx, .int .i64 x.by_, .int .i64 x.low, .int .i64 x.high, .slice b.noise.A (List.length x.noise) b.noise.c, .slice b.limits.A (List.length x.limits) b.limits.c] := HasT.new w2 [.slice b.map.A (List.length x.map) b.map.c, .int .i64 x.div, .int .i64 x.bx, .int .i64 x.by_, .int .i64 x.low, .int .i64 x.high, .slice b.noise.A (List.length x.noise) b.noise.c, .slice b.limits.A (List.length x.limits) b.limits.c] 41
    have HR3 := (HR1.below hb2).alloc (.cells #[.slice b.map.A (List.length x.map) b.map.c, .int .i64 x.div, .int .i64 x.bx, .int .i64 x.by_, .int .i64 x.low, .int .i64 x.high, .slice b.noise.A (List.length x.noise) b.noise.c, .slice b.limits.A (List.length x.limits) b.limits.c] 41)
    have HB3 := (HB1.below hb2).alloc (.cells #[.slice b.map.A (List.length x.map) b.map.c, .int .i64 x.div, .int .i64 x.bx, .int .i64 x.by_, .int .i64 x.low, .int .i64 x.high, .slice b.noise.A (List.length x.noise) b.noise.c, .slice b.limits.A (List.length x.limits) b.limits.c] 41)
    have hs3 := (hs1.below hb2).below (below_al (Below.refl _ _) (.cells #[.slice b.map.A (List.length x.map) b.map.c, .int .i64 x.div, .int .i64 x.bx, .int .i64 x.by_, .int .i64 x.low, .int .i64 x.high, .slice b.noise.A (List.length x.noise) b.noise.c, .slice b.limits.A (List.length x.limits) b.limits.c] 41))
    have b3 := below_al (below_tr b1 hb2) (.cells #[.slice b.map.A (List.length x.map) b.map.c, .int .i64 x.div, .int .i64 x.bx, .int .i64 x.by_, .int .i64 x.low, .int .i64 x.high, .slice b.noise.A (List.length x.noise) b.noise.c, .slice b.limits.A (List.length x.limits) b.limits.c] 41)
    have N3 := N2.below (below_al (Below.refl _ _) (.cells #[.slice b.map.A (List.length x.map) b.map.c, .int .i64 x.div, .int .i64 x.bx, .int .i64 x.by_, .int .i64 x.low, .int .i64 x.high, .slice b.noise.A (List.length x.noise) b.noise.c, .slice b.limits.A (List.length x.limits) b.limits.c] 41)) (Nat.le_refl _)
    have BK := N2.blk
    have z2 := hb2.size
    have z3 : w2.heap.size < (w2.alloc (.cells #[.slice b.map.A (List.length x.map) b.map.c, .int .i64 x.div, .int .i64 x.bx, .int .i64 x.by_, .int .i64 x.low, .int .i64 x.high, .slice b.noise.A (List.length x.noise) b.noise.c, .slice b.limits.A (List.length x.limits) b.limits.c] 41)).heap.size := by simp
    clear cHB1_0 cHB1_1 cHB1_2 cHB1_3 cHB1_4 cHB1_5 cHB1_6 cHB1_7 fHB1_0 fHB1_1 fHB1_2 fHB1_3 fHB1_4 fHB1_5 fHB1_6 fHB1_7 lB HB1 HR1 hs1 b1 N2 hb2 c2
    go_upto_region 4 with fail
    generalize w2.alloc (.cells #[.slice b.map.A (List.length x.map) b.map.c, .int .i64 x.div, .int .i64 x.bx, .int .i64 x.by_, .int .i64 x.low, .int .i64 x.high, .slice b.noise.A (List.length x.noise) b.noise.c, .slice b.limits.A (List.length x.limits) b.limits.c] 41) = w3 at *
    have HT := TT.has
    obtain ⟨cHT_0, fHT_0⟩ := HT.2 0 _ rfl
    obtain ⟨cHT_1, fHT_1⟩ := HT.2 1 _ rfl
    obtain ⟨cHT_2, fHT_2⟩ := HT.2 2 _ rfl
    obtain ⟨cHT_3, fHT_3⟩ := HT.2 3 _ rfl
    obtain ⟨cHT_4, fHT_4⟩ := HT.2 4 _ rfl
    obtain ⟨cHT_5, fHT_5⟩ := HT.2 5 _ rfl
    obtain ⟨cHT_6, fHT_6⟩ := HT.2 6 _ rfl
    obtain ⟨cHT_7, fHT_7⟩ := HT.2 7 _ rfl
    have lT := HT.1
    have HZ := (HR3).has
    obtain ⟨cHZ_0, fHZ_0⟩ := HZ.2 0 _ rfl
    obtain ⟨cHZ_1, fHZ_1⟩ := HZ.2 1 _ rfl
    obtain ⟨cHZ_2, fHZ_2⟩ := HZ.2 2 _ rfl
    obtain ⟨cHZ_3, fHZ_3⟩ := HZ.2 3 _ rfl
    obtain ⟨cHZ_4, fHZ_4⟩ := HZ.2 4 _ rfl
    obtain ⟨cHZ_5, fHZ_5⟩ := HZ.2 5 _ rfl
    obtain ⟨cHZ_6, fHZ_6⟩ := HZ.2 6 _ rfl
    obtain ⟨cHZ_7, fHZ_7⟩ := HZ.2 7 _ rfl
    have lZ := HZ.1
    go_wp2
    refine bodyPost_ret (v := .tuple #[.agg #[.slice b.map.A (List.length x.map) b.map.c, .int .i64 x.div, .int .i64 x.bx, .int .i64 x.by_, .int .i64 x.low, .int .i64 x.high, .slice b.noise.A (List.length x.noise) b.noise.c, .slice b.limits.A (List.length x.limits) b.limits.c], .bool true]) (by simp [results, Tryz.results23, go_sem, *]) rfl ⟨b, by rw [hF.out.1, hF.out.2], ?_, ?_⟩
    · rw [hF.out.2]
      exact ⟨(N3.map.lowC (q := ⟨w.heap.size + 1, 0, none⟩) (by simp only; omega) [_, _, _, _, _, _, _, _]).mono (by omega), ⟨(N3.noise.halves.lowC (q := ⟨w.heap.size + 1, 0, none⟩) (by simp only; omega) [_, _, _, _, _, _, _, _]).mono (by omega)⟩, ⟨(N3.limits.halves.lowC (q := ⟨w.heap.size + 1, 0, none⟩) (by simp only; omega) [_, _, _, _, _, _, _, _]).mono (by omega)⟩, N3.apart⟩
    · exact below_cells b3 (by omega) (o := 0) [_, _, _, _, _, _, _, _]
  have hxe : (dx == 0) = false := by rw [beq_eq_false_iff_ne]; exact hx
  have hyn : dy ≠ 0 := by intro h; rw [decide_eq_false hx, decide_eq_true h] at hz; cases hz
  have hye : (dy == 0) = false := by rw [beq_eq_false_iff_ne]; exact hyn
  have hx0 := Lib.hid hx
  have hy0 := Lib.hid hyn
  clear hx hyn
  cases e3 : roomOk x
  · rw [e3] at c1
    have hF := Lib.hid (drift_no (x := x) (dx := dx) (dy := dy) (pre_no (.inr (.inr (.inr e3)))))
    go_enter Tryz.func23, Tryz.ntmps23
    go_upto_region 1 with fail
    rw [← hW'.out]
    clear hW'
    obtain ⟨cHB_0, fHB_0⟩ := HB.2 0 _ rfl
    obtain ⟨cHB_1, fHB_1⟩ := HB.2 1 _ rfl
    obtain ⟨cHB_2, fHB_2⟩ := HB.2 2 _ rfl
    obtain ⟨cHB_3, fHB_3⟩ := HB.2 3 _ rfl
    obtain ⟨cHB_4, fHB_4⟩ := HB.2 4 _ rfl
    obtain ⟨cHB_5, fHB_5⟩ := HB.2 5 _ rfl
    obtain ⟨cHB_6, fHB_6⟩ := HB.2 6 _ rfl
    obtain ⟨cHB_7, fHB_7⟩ := HB.2 7 _ rfl
    go_wp2_with (fail)
    refine (cx _).mono ?_
    rintro e w' ⟨rfl, rfl⟩
    go_wp2_with (fail)
    refine (cy _).mono ?_
    rintro e w' ⟨rfl, rfl⟩
    go_wp2_with (fail)
    refine (c1 _ hs0).mono ?_
    rintro e w1 ⟨rfl, hb1⟩
    have HZ := (HR.below hb1).has
    obtain ⟨cHZ_0, fHZ_0⟩ := HZ.2 0 _ rfl
    obtain ⟨cHZ_1, fHZ_1⟩ := HZ.2 1 _ rfl
    obtain ⟨cHZ_2, fHZ_2⟩ := HZ.2 2 _ rfl
    obtain ⟨cHZ_3, fHZ_3⟩ := HZ.2 3 _ rfl
    obtain ⟨cHZ_4, fHZ_4⟩ := HZ.2 4 _ rfl
    obtain ⟨cHZ_5, fHZ_5⟩ := HZ.2 5 _ rfl
    obtain ⟨cHZ_6, fHZ_6⟩ := HZ.2 6 _ rfl
    obtain ⟨cHZ_7, fHZ_7⟩ := HZ.2 7 _ rfl
    have lZ := HZ.1
    have BZ := below_tr b0 hb1
    go_wp2
    refine bodyPost_ret (v := .tuple #[.agg #[.slice none 0 0, .int .i64 0, .int .i64 0, .int .i64 0, .int .i64 0, .int .i64 0, .slice none 0 0, .slice none 0 0], .bool false]) (by simp [results, Tryz.results23, go_sem, cHZ_0, cHZ_1, cHZ_2, cHZ_3, cHZ_4, cHZ_5, cHZ_6, cHZ_7]) rfl ⟨⟨⟨none, 0⟩, ⟨none, 0⟩, ⟨none, 0⟩⟩, by rw [hF.out.1, hF.out.2]; rfl, ?_, ?_⟩
    · rw [hF.out.2]; exact ⟨⟨none, 0, rfl, World.ownsRow_nil _ _ _ _⟩, ⟨⟨none, 0, rfl, World.ownsRow_nil _ _ _ _⟩⟩, ⟨⟨none, 0, rfl, World.ownsRow_nil _ _ _ _⟩⟩, by simp [Apart]⟩
    · exact below_cells BZ (by omega) (o := 0) [_, _, _, _, _, _, _, _]
  rw [e3] at c1
  have hx := hx0.out
  have hyn := hy0.out
  have hpre : driftPre x dx dy = true := by unfold driftPre; rw [e1, e2, e3, hz]; rfl
  have hmn := Lib.hid (show a.map.A = none → a.map.c = 0 from hs0.map.some_ (by rw [roomOk_map e3]; decide))
  have c2 := fun W h => iCopyRoom_c x a W hn h
  have hli := room_limits e3
  obtain ⟨x1, x2⟩ := inR_iff.1 e1
  obtain ⟨y1, y2⟩ := inR_iff.1 e2
  have hxr : 1 ≤ dx ∧ dx ≤ 100 := ⟨by omega, by omega⟩
  have hyr : 1 ≤ dy ∧ dy ≤ 100 := ⟨by omega, by omega⟩
  have hbn := Lib.hid (fun h => drift_bad (x := x) (dx := dx) (dy := dy) hx h)
  have hyes := Lib.hid (fun h h2 => drift_yes hpre hx h h2)
  have c3 := fun W => iBox_c dx dy W hxr hyr
  have c4 := fun W B h1 h2 => iErode_c x.limits (boxR dx dy) a.limits B W hli (boxR_ok hxr hyr) (boxR_ne hxr hyr) h1 h2
  clear hpre hmn hx
  go_enter Tryz.func23, Tryz.ntmps23
  go_upto_region 1 with fail
  rw [← hW'.out]
  clear hW'
  obtain ⟨cHB_0, fHB_0⟩ := HB.2 0 _ rfl
  obtain ⟨cHB_1, fHB_1⟩ := HB.2 1 _ rfl
  obtain ⟨cHB_2, fHB_2⟩ := HB.2 2 _ rfl
  obtain ⟨cHB_3, fHB_3⟩ := HB.2 3 _ rfl
  obtain ⟨cHB_4, fHB_4⟩ := HB.2 4 _ rfl
  obtain ⟨cHB_5, fHB_5⟩ := HB.2 5 _ rfl
  obtain ⟨cHB_6, fHB_6⟩ := HB.2 6 _ rfl
  obtain ⟨cHB_7, fHB_7⟩ := HB.2 7 _ rfl
  go_wp2_with (fail)
  refine (cx _).mono ?_
  rintro e w' ⟨rfl, rfl⟩
  go_wp2_with (fail)
  refine (cy _).mono ?_
  rintro e w' ⟨rfl, rfl⟩
  go_wp2_with (fail)
  refine (c1 _ hs0).mono ?_
  rintro e w1 ⟨rfl, hb1⟩
  have HB1 := HB.below hb1
  have HR1 := HR.below hb1
  have b1 := below_tr b0 hb1
  have hs1 := hs0.below hb1
  have z1 : w.heap.size + 1 < w1.heap.size := Nat.lt_of_lt_of_le zW hb1.size
  clear cHB_0 cHB_1 cHB_2 cHB_3 cHB_4 cHB_5 cHB_6 cHB_7 fHB_0 fHB_1 fHB_2 fHB_3 fHB_4 fHB_5 fHB_6 fHB_7 HB HR b0 hs0 hb1 lB zW c1 cx cy
  obtain ⟨cHB1_0, fHB1_0⟩ := HB1.2 0 _ rfl
  obtain ⟨cHB1_1, fHB1_1⟩ := HB1.2 1 _ rfl
  obtain ⟨cHB1_2, fHB1_2⟩ := HB1.2 2 _ rfl
  obtain ⟨cHB1_3, fHB1_3⟩ := HB1.2 3 _ rfl
  obtain ⟨cHB1_4, fHB1_4⟩ := HB1.2 4 _ rfl
  obtain ⟨cHB1_5, fHB1_5⟩ := HB1.2 5 _ rfl
  obtain ⟨cHB1_6, fHB1_6⟩ := HB1.2 6 _ rfl
  obtain ⟨cHB1_7, fHB1_7⟩ := HB1.2 7 _ rfl
  have lB := HB1.1
  go_wp2_with (fail)
  refine (c2 _ hs1).mono ?_
  rintro e w2 ⟨b, rfl, N2, hb2⟩
  have TT : HasT (w2.alloc (.cells #[.slice b.map.A (List.length x.map) b.map.c, .int .i64 x.div, .int .i64 x.bx, .int .i64 x.by_, .int .i64 x.low, .int .i64 x.high, .slice b.noise.A (List.length x.noise) b.noise.c, .slice b.limits.A (List.length x.limits) b.limits.c] 41)) w2.heap.size 41 [.slice b.map.A (List.length x.map) b.map.c, .int .i64 x.div, .int .i64 x.bx, .int .i64 x.by_, .int .i64 x.low, .int .i64 x.high, .slice b.noise.A (List.length x.noise) b.noise.c, .slice b.limits.A (List.length x.limits) b.limits.c] := HasT.new w2 [.slice b.map.A (List.length x.map) b.map.c, .int .i64 x.div, .int .i64 x.bx, .int .i64 x.by_, .int .i64 x.low, .int .i64 x.high, .slice b.noise.A (List.length x.noise) b.noise.c, .slice b.limits.A (List.length x.limits) b.limits.c] 41
  have HR3 := (HR1.below hb2).alloc (.cells #[.slice b.map.A (List.length x.map) b.map.c, .int .i64 x.div, .int .i64 x.bx, .int .i64 x.by_, .int .i64 x.low, .int .i64 x.high, .slice b.noise.A (List.length x.noise) b.noise.c, .slice b.limits.A (List.length x.limits) b.limits.c] 41)
  have HB3 := (HB1.below hb2).alloc (.cells #[.slice b.map.A (List.length x.map) b.map.c, .int .i64 x.div, .int .i64 x.bx, .int .i64 x.by_, .int .i64 x.low, .int .i64 x.high, .slice b.noise.A (List.length x.noise) b.noise.c, .slice b.limits.A (List.length x.limits) b.limits.c] 41)
  have hs3 := (hs1.below hb2).below (below_al (Below.refl _ _) (.cells #[.slice b.map.A (List.length x.map) b.map.c, .int .i64 x.div, .int .i64 x.bx, .int .i64 x.by_, .int .i64 x.low, .int .i64 x.high, .slice b.noise.A (List.length x.noise) b.noise.c, .slice b.limits.A (List.length x.limits) b.limits.c] 41))
  have b3 := below_al (below_tr b1 hb2) (.cells #[.slice b.map.A (List.length x.map) b.map.c, .int .i64 x.div, .int .i64 x.bx, .int .i64 x.by_, .int .i64 x.low, .int .i64 x.high, .slice b.noise.A (List.length x.noise) b.noise.c, .slice b.limits.A (List.length x.limits) b.limits.c] 41)
  have N3 := N2.below (below_al (Below.refl _ _) (.cells #[.slice b.map.A (List.length x.map) b.map.c, .int .i64 x.div, .int .i64 x.bx, .int .i64 x.by_, .int .i64 x.low, .int .i64 x.high, .slice b.noise.A (List.length x.noise) b.noise.c, .slice b.limits.A (List.length x.limits) b.limits.c] 41)) (Nat.le_refl _)
  have BK := N2.blk
  have z2 := hb2.size
  have z3 : w2.heap.size < (w2.alloc (.cells #[.slice b.map.A (List.length x.map) b.map.c, .int .i64 x.div, .int .i64 x.bx, .int .i64 x.by_, .int .i64 x.low, .int .i64 x.high, .slice b.noise.A (List.length x.noise) b.noise.c, .slice b.limits.A (List.length x.limits) b.limits.c] 41)).heap.size := by simp
  clear cHB1_0 cHB1_1 cHB1_2 cHB1_3 cHB1_4 cHB1_5 cHB1_6 cHB1_7 fHB1_0 fHB1_1 fHB1_2 fHB1_3 fHB1_4 fHB1_5 fHB1_6 fHB1_7 lB HB1 HR1 hs1 b1 N2 hb2 c2
  go_upto_region 4 with fail
  generalize w2.alloc (.cells #[.slice b.map.A (List.length x.map) b.map.c, .int .i64 x.div, .int .i64 x.bx, .int .i64 x.by_, .int .i64 x.low, .int .i64 x.high, .slice b.noise.A (List.length x.noise) b.noise.c, .slice b.limits.A (List.length x.limits) b.limits.c] 41) = w3 at *
  go_wp2_with (fail)
  refine (c3 _).mono ?_
  rintro e w4 ⟨v4, rfl, N4, hb4⟩
  obtain ⟨A4, c4c, rfl, o4⟩ := N4
  have N4 : New 71 3 halfC w4 w3.heap.size (.slice A4 (boxR dx dy).length c4c) (boxR dx dy) := ⟨A4, c4c, rfl, o4⟩
  have G5 : HasT (w4.alloc (.cells #[.slice A4 (boxR dx dy).length c4c] 39)) w4.heap.size 39 [.slice A4 (boxR dx dy).length c4c] := HasT.new w4 [.slice A4 (boxR dx dy).length c4c] 39
  have bb := below_al hb4 (.cells #[.slice A4 (boxR dx dy).length c4c] 39)
  have HR5 := HR3.below bb
  have HB5 := HB3.below bb
  have T5 := TT.below bb
  have hs5 := hs3.below bb
  have N5 := N3.below bb (Nat.le_refl _)
  have b5 := b3.trans (bb.mono b3.size)
  have S4 := (N4.out halfC_len).alloc (.cells #[.slice A4 (boxR dx dy).length c4c] 39)
  have z5 := bb.size
  clear N4 o4 HR3 HB3 TT hs3 N3 b3 bb hb4 c3
  go_upto_region 7 with fail
  generalize w4.alloc (.cells #[.slice A4 (boxR dx dy).length c4c] 39) = w5 at *
  generalize w4.heap.size = g4 at *
  obtain ⟨cHB5_0, fHB5_0⟩ := HB5.2 0 _ rfl
  obtain ⟨cHB5_1, fHB5_1⟩ := HB5.2 1 _ rfl
  obtain ⟨cHB5_2, fHB5_2⟩ := HB5.2 2 _ rfl
  obtain ⟨cHB5_3, fHB5_3⟩ := HB5.2 3 _ rfl
  obtain ⟨cHB5_4, fHB5_4⟩ := HB5.2 4 _ rfl
  obtain ⟨cHB5_5, fHB5_5⟩ := HB5.2 5 _ rfl
  obtain ⟨cHB5_6, fHB5_6⟩ := HB5.2 6 _ rfl
  obtain ⟨cHB5_7, fHB5_7⟩ := HB5.2 7 _ rfl
  have lB := HB5.1
  have HG := G5.has
  obtain ⟨cHG_0, fHG_0⟩ := HG.2 0 _ rfl
  have lG := HG.1
  go_wp2_with (fail)
  refine (c4 _ ⟨A4, c4c⟩ hs5.limits.halves S4).mono ?_
  rintro e w6 ⟨v6, rfl, N6, hb6⟩
  have hlen := Lib.hid (movR_len (f := eroH (boxR dx dy)) (p := x.limits) (fun h _ g e => eroH_ok e))
  obtain ⟨A6, c6, rfl, o6⟩ := N6
  obtain ⟨ok, hok⟩ : ∃ ok, ok = movOk (eroH (boxR dx dy)) x.limits := ⟨_, rfl⟩
  obtain ⟨R, hR⟩ : ∃ R, R = movR (eroH (boxR dx dy)) x.limits := ⟨_, rfl⟩
  have N6 : New 71 3 halfC w6 w5.heap.size (.slice A6 R.length c6) R := by rw [hR]; exact ⟨A6, c6, rfl, o6⟩
  rw [← hok, ← hR]
  have hok' := Lib.hid hok
  have hR' := Lib.hid hR
  clear hok hR
  have G7 : HasT (w6.alloc (.cells #[.slice A6 R.length c6] 39)) w6.heap.size 39 [.slice A6 R.length c6] := HasT.new w6 [.slice A6 R.length c6] 39
  have bb := below_al hb6 (.cells #[.slice A6 R.length c6] 39)
  have HR7 := HR5.below bb
  have T7 := T5.below bb
  have N7 := N5.below bb (Nat.le_refl _)
  have b7 := b5.trans (bb.mono b5.size)
  have N8 := N6.alloc (.cells #[.slice A6 R.length c6] 39)
  have BK6 := N6.blk
  have z7 := bb.size
  clear o6 HR5 HB5 T5 hs5 N5 b5 bb hb6 c4 N6 S4 G5 HG cHG_0 fHG_0 lG lB cHB5_0 cHB5_1 cHB5_2 cHB5_3 cHB5_4 cHB5_5 cHB5_6 cHB5_7 fHB5_0 fHB5_1 fHB5_2 fHB5_3 fHB5_4 fHB5_5 fHB5_6 fHB5_7
  go_upto_region 10 with fail
  generalize w6.alloc (.cells #[.slice A6 R.length c6] 39) = w7 at *
  generalize w6.heap.size = g6 at *
  have HG := G7.has
  obtain ⟨cHG_0, fHG_0⟩ := HG.2 0 _ rfl
  have lG := HG.1
  cases ok
  · have hF := Lib.hid (hbn.out (.inl hok'.out.symm))
    have HZ := (HR7).has
    obtain ⟨cHZ_0, fHZ_0⟩ := HZ.2 0 _ rfl
    obtain ⟨cHZ_1, fHZ_1⟩ := HZ.2 1 _ rfl
    obtain ⟨cHZ_2, fHZ_2⟩ := HZ.2 2 _ rfl
    obtain ⟨cHZ_3, fHZ_3⟩ := HZ.2 3 _ rfl
    obtain ⟨cHZ_4, fHZ_4⟩ := HZ.2 4 _ rfl
    obtain ⟨cHZ_5, fHZ_5⟩ := HZ.2 5 _ rfl
    obtain ⟨cHZ_6, fHZ_6⟩ := HZ.2 6 _ rfl
    obtain ⟨cHZ_7, fHZ_7⟩ := HZ.2 7 _ rfl
    have lZ := HZ.1
    have BZ := b7
    go_wp2
    refine bodyPost_ret (v := .tuple #[.agg #[.slice none 0 0, .int .i64 0, .int .i64 0, .int .i64 0, .int .i64 0, .int .i64 0, .slice none 0 0, .slice none 0 0], .bool false]) (by simp [results, Tryz.results23, go_sem, cHZ_0, cHZ_1, cHZ_2, cHZ_3, cHZ_4, cHZ_5, cHZ_6, cHZ_7]) rfl ⟨⟨⟨none, 0⟩, ⟨none, 0⟩, ⟨none, 0⟩⟩, by rw [hF.out.1, hF.out.2]; rfl, ?_, ?_⟩
    · rw [hF.out.2]; exact ⟨⟨none, 0, rfl, World.ownsRow_nil _ _ _ _⟩, ⟨⟨none, 0, rfl, World.ownsRow_nil _ _ _ _⟩⟩, ⟨⟨none, 0, rfl, World.ownsRow_nil _ _ _ _⟩⟩, by simp [Apart]⟩
    · exact below_cells BZ (by omega) (o := 0) [_, _, _, _, _, _, _, _]
  have cv := fun W => iIsVoid_c R ⟨A6, c6⟩ W
  by_cases h0 : R.length = 0
  · have hF := Lib.hid (hbn.out (.inr (by rw [← hR'.out]; exact h0)))
    rw [decide_eq_true h0] at cv
    clear h0
    go_wp2_with (fail)
    refine (cv _).mono ?_
    rintro e w8 ⟨rfl, hb8⟩
    have HZ := (HR7.below hb8).has
    obtain ⟨cHZ_0, fHZ_0⟩ := HZ.2 0 _ rfl
    obtain ⟨cHZ_1, fHZ_1⟩ := HZ.2 1 _ rfl
    obtain ⟨cHZ_2, fHZ_2⟩ := HZ.2 2 _ rfl
    obtain ⟨cHZ_3, fHZ_3⟩ := HZ.2 3 _ rfl
    obtain ⟨cHZ_4, fHZ_4⟩ := HZ.2 4 _ rfl
    obtain ⟨cHZ_5, fHZ_5⟩ := HZ.2 5 _ rfl
    obtain ⟨cHZ_6, fHZ_6⟩ := HZ.2 6 _ rfl
    obtain ⟨cHZ_7, fHZ_7⟩ := HZ.2 7 _ rfl
    have lZ := HZ.1
    have BZ := below_tr b7 hb8
    go_wp2
    refine bodyPost_ret (v := .tuple #[.agg #[.slice none 0 0, .int .i64 0, .int .i64 0, .int .i64 0, .int .i64 0, .int .i64 0, .slice none 0 0, .slice none 0 0], .bool false]) (by simp [results, Tryz.results23, go_sem, cHZ_0, cHZ_1, cHZ_2, cHZ_3, cHZ_4, cHZ_5, cHZ_6, cHZ_7]) rfl ⟨⟨⟨none, 0⟩, ⟨none, 0⟩, ⟨none, 0⟩⟩, by rw [hF.out.1, hF.out.2]; rfl, ?_, ?_⟩
    · rw [hF.out.2]; exact ⟨⟨none, 0, rfl, World.ownsRow_nil _ _ _ _⟩, ⟨⟨none, 0, rfl, World.ownsRow_nil _ _ _ _⟩⟩, ⟨⟨none, 0, rfl, World.ownsRow_nil _ _ _ _⟩⟩, by simp [Apart]⟩
    · exact below_cells BZ (by omega) (o := 0) [_, _, _, _, _, _, _, _]
  have hF := Lib.hid (hyes.out hok'.out.symm (by rw [← hR'.out]; exact h0))
  rw [decide_eq_false h0] at cv
  rw [← hR'.out] at hF
  go_wp2_with (fail)
  refine (cv _).mono ?_
  rintro e w8 ⟨rfl, hb8⟩
  have T8 := T7.below hb8
  have HR8 := HR7.below hb8
  have G8 := (G7.below hb8).has
  have N9 := N7.below hb8 (Nat.le_refl _)
  have NL := N8.below hb8 (Nat.le_refl _)
  have b8 := below_tr b7 hb8
  clear HG cHG_0 fHG_0 lG G7 HR7 T7 N7 N8 b7 hb8 cv h0
  obtain ⟨cG8_0, fG8_0⟩ := G8.2 0 _ rfl
  have lG := G8.1
  have HT := T8.has
  obtain ⟨cHT_0, fHT_0⟩ := HT.2 0 _ rfl
  obtain ⟨cHT_1, fHT_1⟩ := HT.2 1 _ rfl
  obtain ⟨cHT_2, fHT_2⟩ := HT.2 2 _ rfl
  obtain ⟨cHT_3, fHT_3⟩ := HT.2 3 _ rfl
  obtain ⟨cHT_4, fHT_4⟩ := HT.2 4 _ rfl
  obtain ⟨cHT_5, fHT_5⟩ := HT.2 5 _ rfl
  obtain ⟨cHT_6, fHT_6⟩ := HT.2 6 _ rfl
  obtain ⟨cHT_7, fHT_7⟩ := HT.2 7 _ rfl
  have lT := HT.1
  go_upto_region 13 with fail
  have TU := T8.set_ 7 (.slice A6 R.length c6)
  simp only [List.set_cons_succ, List.set_cons_zero] at TU
  have HRU := HR8.other (g' := w2.heap.size) (by omega) [.slice A6 R.length c6] 7
  have NU := N9.otherT T8 (by decide) (by decide) [.slice A6 R.length c6] 7
  have NV := NL.otherC (NL.typ T8 (by decide)) [.slice A6 R.length c6] 7
  have bU := b8.setCell (p := ⟨w2.heap.size, 7, none⟩) (by simp only; omega) (.slice A6 R.length c6)
  simp only [World.setCells] at HRU NU NV
  clear cG8_0 fG8_0 lG G8 cHT_0 cHT_1 cHT_2 cHT_3 cHT_4 cHT_5 cHT_6 cHT_7 fHT_0 fHT_1 fHT_2 fHT_3 fHT_4 fHT_5 fHT_6 fHT_7 lT HT T8 HR8 N9 NL b8
  generalize w8.setCell ⟨w2.heap.size, 7, none⟩ (.slice A6 R.length c6) = w9 at *
  have HT := TU.has
  obtain ⟨cHT_0, fHT_0⟩ := HT.2 0 _ rfl
  obtain ⟨cHT_1, fHT_1⟩ := HT.2 1 _ rfl
  obtain ⟨cHT_2, fHT_2⟩ := HT.2 2 _ rfl
  obtain ⟨cHT_3, fHT_3⟩ := HT.2 3 _ rfl
  obtain ⟨cHT_4, fHT_4⟩ := HT.2 4 _ rfl
  obtain ⟨cHT_5, fHT_5⟩ := HT.2 5 _ rfl
  obtain ⟨cHT_6, fHT_6⟩ := HT.2 6 _ rfl
  obtain ⟨cHT_7, fHT_7⟩ := HT.2 7 _ rfl
  have lT := HT.1
  have ap : List.Pairwise Apart [b.map, b.noise, ⟨A6, c6⟩] := by
    have h12 : Apart b.map b.noise := (List.pairwise_cons.1 NU.apart).1 _ (by simp)
    have h13 : Apart b.map ⟨A6, c6⟩ := BK.1.apart BK6 (by omega)
    have h23 : Apart b.noise ⟨A6, c6⟩ := BK.2.1.apart BK6 (by omega)
    refine .cons (fun y hy => ?_) (.cons (fun y hy => ?_) (.cons (fun y hy => absurd hy (List.not_mem_nil)) .nil))
    · simp only [List.mem_cons, List.not_mem_nil, or_false] at hy
      rcases hy with rfl | rfl
      · exact h12
      · exact h13
    · rw [List.mem_singleton] at hy; rw [hy]; exact h23
  have HZ := (HRU).has
  obtain ⟨cHZ_0, fHZ_0⟩ := HZ.2 0 _ rfl
  obtain ⟨cHZ_1, fHZ_1⟩ := HZ.2 1 _ rfl
  obtain ⟨cHZ_2, fHZ_2⟩ := HZ.2 2 _ rfl
  obtain ⟨cHZ_3, fHZ_3⟩ := HZ.2 3 _ rfl
  obtain ⟨cHZ_4, fHZ_4⟩ := HZ.2 4 _ rfl
  obtain ⟨cHZ_5, fHZ_5⟩ := HZ.2 5 _ rfl
  obtain ⟨cHZ_6, fHZ_6⟩ := HZ.2 6 _ rfl
  obtain ⟨cHZ_7, fHZ_7⟩ := HZ.2 7 _ rfl
  have lZ := HZ.1
  go_wp2
  refine bodyPost_ret (v := .tuple #[.agg #[.slice b.map.A (List.length x.map) b.map.c, .int .i64 x.div, .int .i64 x.bx, .int .i64 x.by_, .int .i64 x.low, .int .i64 x.high, .slice b.noise.A (List.length x.noise) b.noise.c, .slice A6 R.length c6], .bool true]) (by simp [results, Tryz.results23, go_sem, *]) rfl ⟨⟨b.map, b.noise, ⟨A6, c6⟩⟩, by rw [hF.out.1, hF.out.2]; rfl, ?_, ?_⟩
  · rw [hF.out.2]
    exact ⟨(NU.map.lowC (q := ⟨w.heap.size + 1, 0, none⟩) (by simp only; omega) [_, _, _, _, _, _, _, _]).mono (by omega), ⟨(NU.noise.halves.lowC (q := ⟨w.heap.size + 1, 0, none⟩) (by simp only; omega) [_, _, _, _, _, _, _, _]).mono (by omega)⟩, ⟨(NV.lowC (q := ⟨w.heap.size + 1, 0, none⟩) (by simp only; omega) [_, _, _, _, _, _, _, _]).mono (by omega)⟩, ap⟩
  · exact below_cells bU (by omega) (o := 0) [_, _, _, _, _, _, _, _]
set_option maxRecDepth 100000 in
set_option maxHeartbeats 8000000 in
theorem sDrift_c (x : Room) (a : RoomA) (dx dy : Int) (w : World) (hn : roomLen x ≤ 1048576) (hin : RoomIn x) (hs : RoomSl w x a) (hnl : RoomNil a) :
    Calls Tryz.prog 22 #[roomV x a, .int .i64 dx, .int .i64 dy] w fun e w' => ∃ b, e = .returned (.tuple #[roomV (driftRoom x dx dy) b, .bool (driftOk x dx dy)]) ∧ RoomNew w' w.heap.size (driftRoom x dx dy) b ∧ Below w.heap.size w w' := by
  have c1 := fun W h => sRoomOk_c x a W hn hin h hnl
  have cx := fun W => l01In_c dx 0 100 W
  have cy := fun W => l01In_c dy 0 100 W
  obtain ⟨W, hW⟩ : ∃ W, W = (w.alloc (.cells #[.slice a.map.A (List.length x.map) a.map.c, .int .i64 x.div, .int .i64 x.bx, .int .i64 x.by_, .int .i64 x.low, .int .i64 x.high, .slice a.noise.A (List.length x.noise) a.noise.c, .slice a.limits.A (List.length x.limits) a.limits.c] 41)).alloc (.cells #[.slice none 0 0, .int .i64 0, .int .i64 0, .int .i64 0, .int .i64 0, .int .i64 0, .slice none 0 0, .slice none 0 0] 41) := ⟨_, rfl⟩
  have HR : HasT W (w.heap.size + 1) 41 [.slice none 0 0, .int .i64 0, .int .i64 0, .int .i64 0, .int .i64 0, .int .i64 0, .slice none 0 0, .slice none 0 0] := by
    have h1 := HasT.new (w.alloc (.cells #[.slice a.map.A (List.length x.map) a.map.c, .int .i64 x.div, .int .i64 x.bx, .int .i64 x.by_, .int .i64 x.low, .int .i64 x.high, .slice a.noise.A (List.length x.noise) a.noise.c, .slice a.limits.A (List.length x.limits) a.limits.c] 41)) [.slice none 0 0, .int .i64 0, .int .i64 0, .int .i64 0, .int .i64 0, .int .i64 0, .slice none 0 0, .slice none 0 0] 41
    simp only [World.size_alloc] at h1
    rw [hW]; exact h1
  have HB : Has W w.heap.size [.slice a.map.A (List.length x.map) a.map.c, .int .i64 x.div, .int .i64 x.bx, .int .i64 x.by_, .int .i64 x.low, .int .i64 x.high, .slice a.noise.A (List.length x.noise) a.noise.c, .slice a.limits.A (List.length x.limits) a.limits.c] := by
    rw [hW]
    repeat (first | ((with_reducible refine Has.new_at ?_ _ _ rfl); (first | rfl | (focus (simp; done)))) | (with_reducible refine Has.set_ ?_ ?_ _) | (with_reducible refine Has.alloc ?_ _) | (with_reducible refine Has.below ?_ (by assumption)) | (focus (simp; done)) | (focus (simp; omega)))
  have b0 : Below w.heap.size w W := by
    rw [hW]
    repeat (first | (with_reducible exact Below.refl _ _) | (with_reducible assumption) | (with_reducible refine below_al ?_ _) | (with_reducible refine Below.drew ?_) | (with_reducible refine below_drewN ?_ _) | (with_reducible refine below_st ?_ ?_ _) | (with_reducible refine below_tr ?_ (by assumption)) | (with_reducible exact Nat.le_refl _) | (focus (simp; done)) | (focus (simp; omega)))
  have hsz : W.heap.size = w.heap.size + 1 + 1 := by rw [hW]; simp
  have lB : w.heap.size < W.heap.size := by omega
  have hW' := Lib.hid hW
  have hs0 := hs.below b0
  have zW : w.heap.size + 1 < W.heap.size := by omega
  clear hW hs hsz
  cases e3 : roomOk x
  · rw [e3] at c1
    have hF := Lib.hid (drift_no (x := x) (dx := dx) (dy := dy) (pre_no (.inr (.inr (.inr e3)))))
    go_enter Tryz.func22, Tryz.ntmps22
    go_upto_region 1 with fail
    rw [← hW'.out]
    clear hW'
    obtain ⟨cHB_0, fHB_0⟩ := HB.2 0 _ rfl
    obtain ⟨cHB_1, fHB_1⟩ := HB.2 1 _ rfl
    obtain ⟨cHB_2, fHB_2⟩ := HB.2 2 _ rfl
    obtain ⟨cHB_3, fHB_3⟩ := HB.2 3 _ rfl
    obtain ⟨cHB_4, fHB_4⟩ := HB.2 4 _ rfl
    obtain ⟨cHB_5, fHB_5⟩ := HB.2 5 _ rfl
    obtain ⟨cHB_6, fHB_6⟩ := HB.2 6 _ rfl
    obtain ⟨cHB_7, fHB_7⟩ := HB.2 7 _ rfl
    go_wp2_with (fail)
    refine (c1 _ hs0).mono ?_
    rintro e w1 ⟨rfl, hb1⟩
    have HZ := (HR.below hb1).has
    obtain ⟨cHZ_0, fHZ_0⟩ := HZ.2 0 _ rfl
    obtain ⟨cHZ_1, fHZ_1⟩ := HZ.2 1 _ rfl
    obtain ⟨cHZ_2, fHZ_2⟩ := HZ.2 2 _ rfl
    obtain ⟨cHZ_3, fHZ_3⟩ := HZ.2 3 _ rfl
    obtain ⟨cHZ_4, fHZ_4⟩ := HZ.2 4 _ rfl
    obtain ⟨cHZ_5, fHZ_5⟩ := HZ.2 5 _ rfl
    obtain ⟨cHZ_6, fHZ_6⟩ := HZ.2 6 _ rfl
    obtain ⟨cHZ_7, fHZ_7⟩ := HZ.2 7 _ rfl
    have lZ := HZ.1
    have BZ := below_tr b0 hb1
    go_wp2
    refine bodyPost_ret (v := .tuple #[.agg #[.slice none 0 0, .int .i64 0, .int .i64 0, .int .i64 0, .int .i64 0, .int .i64 0, .slice none 0 0, .slice none 0 0], .bool false]) (by simp [results, Tryz.results22, go_sem, cHZ_0, cHZ_1, cHZ_2, cHZ_3, cHZ_4, cHZ_5, cHZ_6, cHZ_7]) rfl ⟨⟨⟨none, 0⟩, ⟨none, 0⟩, ⟨none, 0⟩⟩, by rw [hF.out.1, hF.out.2]; rfl, ?_, ?_⟩
    · rw [hF.out.2]; exact ⟨⟨none, 0, rfl, World.ownsRow_nil _ _ _ _⟩, ⟨⟨none, 0, rfl, World.ownsRow_nil _ _ _ _⟩⟩, ⟨⟨none, 0, rfl, World.ownsRow_nil _ _ _ _⟩⟩, by simp [Apart]⟩
    · exact below_cells BZ (by omega) (o := 0) [_, _, _, _, _, _, _, _]
  rw [e3] at c1
  cases e1 : inR dx 0 100
  · rw [e1] at cx
    have hF := Lib.hid (drift_no (x := x) (dx := dx) (dy := dy) (pre_no (.inl e1)))
    go_enter Tryz.func22, Tryz.ntmps22
    go_upto_region 1 with fail
    rw [← hW'.out]
    clear hW'
    obtain ⟨cHB_0, fHB_0⟩ := HB.2 0 _ rfl
    obtain ⟨cHB_1, fHB_1⟩ := HB.2 1 _ rfl
    obtain ⟨cHB_2, fHB_2⟩ := HB.2 2 _ rfl
    obtain ⟨cHB_3, fHB_3⟩ := HB.2 3 _ rfl
    obtain ⟨cHB_4, fHB_4⟩ := HB.2 4 _ rfl
    obtain ⟨cHB_5, fHB_5⟩ := HB.2 5 _ rfl
    obtain ⟨cHB_6, fHB_6⟩ := HB.2 6 _ rfl
    obtain ⟨cHB_7, fHB_7⟩ := HB.2 7 _ rfl
    go_wp2_with (fail)
    refine (c1 _ hs0).mono ?_
    rintro e w1 ⟨rfl, hb1⟩
    go_wp2_with (fail)
    refine (cx _).mono ?_
    rintro e w' ⟨rfl, rfl⟩
    have HZ := (HR.below hb1).has
    obtain ⟨cHZ_0, fHZ_0⟩ := HZ.2 0 _ rfl
    obtain ⟨cHZ_1, fHZ_1⟩ := HZ.2 1 _ rfl
    obtain ⟨cHZ_2, fHZ_2⟩ := HZ.2 2 _ rfl
    obtain ⟨cHZ_3, fHZ_3⟩ := HZ.2 3 _ rfl
    obtain ⟨cHZ_4, fHZ_4⟩ := HZ.2 4 _ rfl
    obtain ⟨cHZ_5, fHZ_5⟩ := HZ.2 5 _ rfl
    obtain ⟨cHZ_6, fHZ_6⟩ := HZ.2 6 _ rfl
    obtain ⟨cHZ_7, fHZ_7⟩ := HZ.2 7 _ rfl
    have lZ := HZ.1
    have BZ := below_tr b0 hb1
    go_wp2
    refine bodyPost_ret (v := .tuple #[.agg #[.slice none 0 0, .int .i64 0, .int .i64 0, .int .i64 0, .int .i64 0, .int .i64 0, .slice none 0 0, .slice none 0 0], .bool false]) (by simp [results, Tryz.results22, go_sem, cHZ_0, cHZ_1, cHZ_2, cHZ_3, cHZ_4, cHZ_5, cHZ_6, cHZ_7]) rfl ⟨⟨⟨none, 0⟩, ⟨none, 0⟩, ⟨none, 0⟩⟩, by rw [hF.out.1, hF.out.2]; rfl, ?_, ?_⟩
    · rw [hF.out.2]; exact ⟨⟨none, 0, rfl, World.ownsRow_nil _ _ _ _⟩, ⟨⟨none, 0, rfl, World.ownsRow_nil _ _ _ _⟩⟩, ⟨⟨none, 0, rfl, World.ownsRow_nil _ _ _ _⟩⟩, by simp [Apart]⟩
    · exact below_cells BZ (by omega) (o := 0) [_, _, _, _, _, _, _, _]
  rw [e1] at cx
  cases e2 : inR dy 0 100
  · rw [e2] at cy
    have hF := Lib.hid (drift_no (x := x) (dx := dx) (dy := dy) (pre_no (.inr (.inl e2))))
    go_enter Tryz.func22, Tryz.ntmps22
    go_upto_region 1 with fail
    rw [← hW'.out]
    clear hW'
    obtain ⟨cHB_0, fHB_0⟩ := HB.2 0 _ rfl
    obtain ⟨cHB_1, fHB_1⟩ := HB.2 1 _ rfl
    obtain ⟨cHB_2, fHB_2⟩ := HB.2 2 _ rfl
    obtain ⟨cHB_3, fHB_3⟩ := HB.2 3 _ rfl
    obtain ⟨cHB_4, fHB_4⟩ := HB.2 4 _ rfl
    obtain ⟨cHB_5, fHB_5⟩ := HB.2 5 _ rfl
    obtain ⟨cHB_6, fHB_6⟩ := HB.2 6 _ rfl
    obtain ⟨cHB_7, fHB_7⟩ := HB.2 7 _ rfl
    go_wp2_with (fail)
    refine (c1 _ hs0).mono ?_
    rintro e w1 ⟨rfl, hb1⟩
    go_wp2_with (fail)
    refine (cx _).mono ?_
    rintro e w' ⟨rfl, rfl⟩
    go_wp2_with (fail)
    refine (cy _).mono ?_
    rintro e w' ⟨rfl, rfl⟩
    have HZ := (HR.below hb1).has
    obtain ⟨cHZ_0, fHZ_0⟩ := HZ.2 0 _ rfl
    obtain ⟨cHZ_1, fHZ_1⟩ := HZ.2 1 _ rfl
    obtain ⟨cHZ_2, fHZ_2⟩ := HZ.2 2 _ rfl
    obtain ⟨cHZ_3, fHZ_3⟩ := HZ.2 3 _ rfl
    obtain ⟨cHZ_4, fHZ_4⟩ := HZ.2 4 _ rfl
    obtain ⟨cHZ_5, fHZ_5⟩ := HZ.2 5 _ rfl
    obtain ⟨cHZ_6, fHZ_6⟩ := HZ.2 6 _ rfl
    obtain ⟨cHZ_7, fHZ_7⟩ := HZ.2 7 _ rfl
    have lZ := HZ.1
    have BZ := below_tr b0 hb1
    go_wp2
    refine bodyPost_ret (v := .tuple #[.agg #[.slice none 0 0, .int .i64 0, .int .i64 0, .int .i64 0, .int .i64 0, .int .i64 0, .slice none 0 0, .slice none 0 0], .bool false]) (by simp [results, Tryz.results22, go_sem, cHZ_0, cHZ_1, cHZ_2, cHZ_3, cHZ_4, cHZ_5, cHZ_6, cHZ_7]) rfl ⟨⟨⟨none, 0⟩, ⟨none, 0⟩, ⟨none, 0⟩⟩, by rw [hF.out.1, hF.out.2]; rfl, ?_, ?_⟩
    · rw [hF.out.2]; exact ⟨⟨none, 0, rfl, World.ownsRow_nil _ _ _ _⟩, ⟨⟨none, 0, rfl, World.ownsRow_nil _ _ _ _⟩⟩, ⟨⟨none, 0, rfl, World.ownsRow_nil _ _ _ _⟩⟩, by simp [Apart]⟩
    · exact below_cells BZ (by omega) (o := 0) [_, _, _, _, _, _, _, _]
  rw [e2] at cy
  cases hz : (decide (dx = 0) == decide (dy = 0))
  · by_cases hx : dx = 0
    · by_cases hy : dy = 0
      · rw [decide_eq_true hx, decide_eq_true hy] at hz; cases hz
      · have hxe : (dx == 0) = true := by rw [beq_iff_eq]; exact hx
        have hye : (dy == 0) = false := by rw [beq_eq_false_iff_ne]; exact hy
        clear hx hy
        have hF := Lib.hid (drift_no (x := x) (dx := dx) (dy := dy) (pre_no (.inr (.inr (.inl hz)))))
        go_enter Tryz.func22, Tryz.ntmps22
        go_upto_region 1 with fail
        rw [← hW'.out]
        clear hW'
        obtain ⟨cHB_0, fHB_0⟩ := HB.2 0 _ rfl
        obtain ⟨cHB_1, fHB_1⟩ := HB.2 1 _ rfl
        obtain ⟨cHB_2, fHB_2⟩ := HB.2 2 _ rfl
        obtain ⟨cHB_3, fHB_3⟩ := HB.2 3 _ rfl
        obtain ⟨cHB_4, fHB_4⟩ := HB.2 4 _ rfl
        obtain ⟨cHB_5, fHB_5⟩ := HB.2 5 _ rfl
        obtain ⟨cHB_6, fHB_6⟩ := HB.2 6 _ rfl
        obtain ⟨cHB_7, fHB_7⟩ := HB.2 7 _ rfl
        go_wp2_with (fail)
        refine (c1 _ hs0).mono ?_
        rintro e w1 ⟨rfl, hb1⟩
        go_wp2_with (fail)
        refine (cx _).mono ?_
        rintro e w' ⟨rfl, rfl⟩
        go_wp2_with (fail)
        refine (cy _).mono ?_
        rintro e w' ⟨rfl, rfl⟩
        have HZ := (HR.below hb1).has
        obtain ⟨cHZ_0, fHZ_0⟩ := HZ.2 0 _ rfl
        obtain ⟨cHZ_1, fHZ_1⟩ := HZ.2 1 _ rfl
        obtain ⟨cHZ_2, fHZ_2⟩ := HZ.2 2 _ rfl
        obtain ⟨cHZ_3, fHZ_3⟩ := HZ.2 3 _ rfl
        obtain ⟨cHZ_4, fHZ_4⟩ := HZ.2 4 _ rfl
        obtain ⟨cHZ_5, fHZ_5⟩ := HZ.2 5 _ rfl
        obtain ⟨cHZ_6, fHZ_6⟩ := HZ.2 6 _ rfl
        obtain ⟨cHZ_7, fHZ_7⟩ := HZ.2 7 _ rfl
        have lZ := HZ.1
        have BZ := below_tr b0 hb1
        go_wp2
        refine bodyPost_ret (v := .tuple #[.agg #[.slice none 0 0, .int .i64 0, .int .i64 0, .int .i64 0, .int .i64 0, .int .i64 0, .slice none 0 0, .slice none 0 0], .bool false]) (by simp [results, Tryz.results22, go_sem, cHZ_0, cHZ_1, cHZ_2, cHZ_3, cHZ_4, cHZ_5, cHZ_6, cHZ_7]) rfl ⟨⟨⟨none, 0⟩, ⟨none, 0⟩, ⟨none, 0⟩⟩, by rw [hF.out.1, hF.out.2]; rfl, ?_, ?_⟩
        · rw [hF.out.2]; exact ⟨⟨none, 0, rfl, World.ownsRow_nil _ _ _ _⟩, ⟨⟨none, 0, rfl, World.ownsRow_nil _ _ _ _⟩⟩, ⟨⟨none, 0, rfl, World.ownsRow_nil _ _ _ _⟩⟩, by simp [Apart]⟩
        · exact below_cells BZ (by omega) (o := 0) [_, _, _, _, _, _, _, _]
    · by_cases hy : dy = 0
      · have hxe : (dx == 0) = false := by rw [beq_eq_false_iff_ne]; exact hx
        have hye : (dy == 0) = true := by rw [beq_iff_eq]; exact hy
        clear hx hy
        have hF := Lib.hid (drift_no (x := x) (dx := dx) (dy := dy) (pre_no (.inr (.inr (.inl hz)))))
        go_enter Tryz.func22, Tryz.ntmps22
        go_upto_region 1 with fail
        rw [← hW'.out]
        clear hW'
        obtain ⟨cHB_0, fHB_0⟩ := HB.2 0 _ rfl
        obtain ⟨cHB_1, fHB_1⟩ := HB.2 1 _ rfl
        obtain ⟨cHB_2, fHB_2⟩ := HB.2 2 _ rfl
        obtain ⟨cHB_3, fHB_3⟩ := HB.2 3 _ rfl
        obtain ⟨cHB_4, fHB_4⟩ := HB.2 4 _ rfl
        obtain ⟨cHB_5, fHB_5⟩ := HB.2 5 _ rfl
        obtain ⟨cHB_6, fHB_6⟩ := HB.2 6 _ rfl
        obtain ⟨cHB_7, fHB_7⟩ := HB.2 7 _ rfl
        go_wp2_with (fail)
        refine (c1 _ hs0).mono ?_
        rintro e w1 ⟨rfl, hb1⟩
        go_wp2_with (fail)
        refine (cx _).mono ?_
        rintro e w' ⟨rfl, rfl⟩
        go_wp2_with (fail)
        refine (cy _).mono ?_
        rintro e w' ⟨rfl, rfl⟩
        have HZ := (HR.below hb1).has
        obtain ⟨cHZ_0, fHZ_0⟩ := HZ.2 0 _ rfl
        obtain ⟨cHZ_1, fHZ_1⟩ := HZ.2 1 _ rfl
        obtain ⟨cHZ_2, fHZ_2⟩ := HZ.2 2 _ rfl
        obtain ⟨cHZ_3, fHZ_3⟩ := HZ.2 3 _ rfl
        obtain ⟨cHZ_4, fHZ_4⟩ := HZ.2 4 _ rfl
        obtain ⟨cHZ_5, fHZ_5⟩ := HZ.2 5 _ rfl
        obtain ⟨cHZ_6, fHZ_6⟩ := HZ.2 6 _ rfl
        obtain ⟨cHZ_7, fHZ_7⟩ := HZ.2 7 _ rfl
        have lZ := HZ.1
        have BZ := below_tr b0 hb1
        go_wp2
        refine bodyPost_ret (v := .tuple #[.agg #[.slice none 0 0, .int .i64 0, .int .i64 0, .int .i64 0, .int .i64 0, .int .i64 0, .slice none 0 0, .slice none 0 0], .bool false]) (by simp [results, Tryz.results22, go_sem, cHZ_0, cHZ_1, cHZ_2, cHZ_3, cHZ_4, cHZ_5, cHZ_6, cHZ_7]) rfl ⟨⟨⟨none, 0⟩, ⟨none, 0⟩, ⟨none, 0⟩⟩, by rw [hF.out.1, hF.out.2]; rfl, ?_, ?_⟩
        · rw [hF.out.2]; exact ⟨⟨none, 0, rfl, World.ownsRow_nil _ _ _ _⟩, ⟨⟨none, 0, rfl, World.ownsRow_nil _ _ _ _⟩⟩, ⟨⟨none, 0, rfl, World.ownsRow_nil _ _ _ _⟩⟩, by simp [Apart]⟩
        · exact below_cells BZ (by omega) (o := 0) [_, _, _, _, _, _, _, _]
      · rw [decide_eq_false hx, decide_eq_false hy] at hz; cases hz
  by_cases hx : dx = 0
  · have hxe : (dx == 0) = true := by rw [beq_iff_eq]; exact hx
    have hye : (dy == 0) = true := by
      rw [beq_iff_eq]
      apply Classical.byContradiction
      intro h
      rw [decide_eq_true hx, decide_eq_false h] at hz
      cases hz
    have hx0 := Lib.hid hx
    clear hx
    have hx := hx0.out
    have hpre : driftPre x dx dy = true := by unfold driftPre; rw [e1, e2, e3, hz]; rfl
    have hmn := Lib.hid (show a.map.A = none → a.map.c = 0 from hs0.map.some_ (by rw [roomOk_map e3]; decide))
    have c2 := fun W h => sCopyRoom_c x a W hn h hnl.noise hnl.limits hmn.out
    have hli := room_limits e3
    have hF := Lib.hid (drift_zero hpre hx)
    clear hx
    go_enter Tryz.func22, Tryz.ntmps22
    go_upto_region 1 with fail
    rw [← hW'.out]
    clear hW'
    obtain ⟨cHB_0, fHB_0⟩ := HB.2 0 _ rfl
    obtain ⟨cHB_1, fHB_1⟩ := HB.2 1 _ rfl
    obtain ⟨cHB_2, fHB_2⟩ := HB.2 2 _ rfl
    obtain ⟨cHB_3, fHB_3⟩ := HB.2 3 _ rfl
    obtain ⟨cHB_4, fHB_4⟩ := HB.2 4 _ rfl
    obtain ⟨cHB_5, fHB_5⟩ := HB.2 5 _ rfl
    obtain ⟨cHB_6, fHB_6⟩ := HB.2 6 _ rfl
    obtain ⟨cHB_7, fHB_7⟩ := HB.2 7 _ rfl
    go_wp2_with (fail)
    refine (c1 _ hs0).mono ?_
    rintro e w1 ⟨rfl, hb1⟩
    go_wp2_with (fail)
    refine (cx _).mono ?_
    rintro e w' ⟨rfl, rfl⟩
    go_wp2_with (fail)
    refine (cy _).mono ?_
    rintro e w' ⟨rfl, rfl⟩
    have HB1 := HB.below hb1
    have HR1 := HR.below hb1
    have b1 := below_tr b0 hb1
    have hs1 := hs0.below hb1
    have z1 : w.heap.size + 1 < w1.heap.size := Nat.lt_of_lt_of_le zW hb1.size
    clear cHB_0 cHB_1 cHB_2 cHB_3 cHB_4 cHB_5 cHB_6 cHB_7 fHB_0 fHB_1 fHB_2 fHB_3 fHB_4 fHB_5 fHB_6 fHB_7 HB HR b0 hs0 hb1 lB zW c1 cx cy
    obtain ⟨cHB1_0, fHB1_0⟩ := HB1.2 0 _ rfl
    obtain ⟨cHB1_1, fHB1_1⟩ := HB1.2 1 _ rfl
    obtain ⟨cHB1_2, fHB1_2⟩ := HB1.2 2 _ rfl
    obtain ⟨cHB1_3, fHB1_3⟩ := HB1.2 3 _ rfl
    obtain ⟨cHB1_4, fHB1_4⟩ := HB1.2 4 _ rfl
    obtain ⟨cHB1_5, fHB1_5⟩ := HB1.2 5 _ rfl
    obtain ⟨cHB1_6, fHB1_6⟩ := HB1.2 6 _ rfl
    obtain ⟨cHB1_7, fHB1_7⟩ := HB1.2 7 _ rfl
    have lB := HB1.1
    go_wp2_with (fail)
    refine (c2 _ hs1).mono ?_
    rintro e w2 ⟨b, rfl, N2, hb2⟩
    have TT : HasT (w2.alloc (.cells #[.slice b.map.A (List.length x.map) b.map.c, .int .i64 x.div, .int .i64 x.bx, .int .i64 x.by_, .int .i64 x.low, .int .i64 x.high, .slice b.noise.A (List.length x.noise) b.noise.c, .slice b.limits.A (List.length x.limits) b.limits.c] 41)) w2.heap.size 41 [.slice b.map.A (List.length x.map) b.map.c, .int .i64 x.div, .int .i64 x.bx, .int .i64 x.by_, .int .i64 x.low, .int .i64 x.high, .slice b.noise.A (List.length x.noise) b.noise.c, .slice b.limits.A (List.length x.limits) b.limits.c] := HasT.new w2 [.slice b.map.A (List.length x.map) b.map.c, .int .i64 x.div, .int .i64 x.bx, .int .i64 x.by_, .int .i64 x.low, .int .i64 x.high, .slice b.noise.A (List.length x.noise) b.noise.c, .slice b.limits.A (List.length x.limits) b.limits.c] 41
    have HR3 := (HR1.below hb2).alloc (.cells #[.slice b.map.A (List.length x.map) b.map.c, .int .i64 x.div, .int .i64 x.bx, .int .i64 x.by_, .int .i64 x.low, .int .i64 x.high, .slice b.noise.A (List.length x.noise) b.noise.c, .slice b.limits.A (List.length x.limits) b.limits.c] 41)
    have HB3 := (HB1.below hb2).alloc (.cells #[.slice b.map.A (List.length x.map) b.map.c, .int .i64 x.div, .int .i64 x.bx, .int .i64 x.by_, .int .i64 x.low, .int .i64 x.high, .slice b.noise.A (List.length x.noise) b.noise.c, .slice b.limits.A (List.length x.limits) b.limits.c] 41)
    have hs3 := (hs1.below hb2).below (below_al (Below.refl _ _) (.cells #[.slice b.map.A (List.length x.map) b.map.c, .int .i64 x.div, .int .i64 x.bx, .int .i64 x.by_, .int .i64 x.low, .int .i64 x.high, .slice b.noise.A (List.length x.noise) b.noise.c, .slice b.limits.A (List.length x.limits) b.limits.c] 41))
    have b3 := below_al (below_tr b1 hb2) (.cells #[.slice b.map.A (List.length x.map) b.map.c, .int .i64 x.div, .int .i64 x.bx, .int .i64 x.by_, .int .i64 x.low, .int .i64 x.high, .slice b.noise.A (List.length x.noise) b.noise.c, .slice b.limits.A (List.length x.limits) b.limits.c] 41)
    have N3 := N2.below (below_al (Below.refl _ _) (.cells #[.slice b.map.A (List.length x.map) b.map.c, .int .i64 x.div, .int .i64 x.bx, .int .i64 x.by_, .int .i64 x.low, .int .i64 x.high, .slice b.noise.A (List.length x.noise) b.noise.c, .slice b.limits.A (List.length x.limits) b.limits.c] 41)) (Nat.le_refl _)
    have BK := N2.blk
    have z2 := hb2.size
    have z3 : w2.heap.size < (w2.alloc (.cells #[.slice b.map.A (List.length x.map) b.map.c, .int .i64 x.div, .int .i64 x.bx, .int .i64 x.by_, .int .i64 x.low, .int .i64 x.high, .slice b.noise.A (List.length x.noise) b.noise.c, .slice b.limits.A (List.length x.limits) b.limits.c] 41)).heap.size := by simp
    clear cHB1_0 cHB1_1 cHB1_2 cHB1_3 cHB1_4 cHB1_5 cHB1_6 cHB1_7 fHB1_0 fHB1_1 fHB1_2 fHB1_3 fHB1_4 fHB1_5 fHB1_6 fHB1_7 lB HB1 HR1 hs1 b1 N2 hb2 c2
    go_upto_region 4 with fail
    generalize w2.alloc (.cells #[.slice b.map.A (List.length x.map) b.map.c, .int .i64 x.div, .int .i64 x.bx, .int .i64 x.by_, .int .i64 x.low, .int .i64 x.high, .slice b.noise.A (List.length x.noise) b.noise.c, .slice b.limits.A (List.length x.limits) b.limits.c] 41) = w3 at *
    have HT := TT.has
    obtain ⟨cHT_0, fHT_0⟩ := HT.2 0 _ rfl
    obtain ⟨cHT_1, fHT_1⟩ := HT.2 1 _ rfl
    obtain ⟨cHT_2, fHT_2⟩ := HT.2 2 _ rfl
    obtain ⟨cHT_3, fHT_3⟩ := HT.2 3 _ rfl
    obtain ⟨cHT_4, fHT_4⟩ := HT.2 4 _ rfl
    obtain ⟨cHT_5, fHT_5⟩ := HT.2 5 _ rfl
    obtain ⟨cHT_6, fHT_6⟩ := HT.2 6 _ rfl
    obtain ⟨cHT_7, fHT_7⟩ := HT.2 7 _ rfl
    have lT := HT.1
    have HZ := (HR3).has
    obtain ⟨cHZ_0, fHZ_0⟩ := HZ.2 0 _ rfl
    obtain ⟨cHZ_1, fHZ_1⟩ := HZ.2 1 _ rfl
    obtain ⟨cHZ_2, fHZ_2⟩ := HZ.2 2 _ rfl
    obtain ⟨cHZ_3, fHZ_3⟩ := HZ.2 3 _ rfl
    obtain ⟨cHZ_4, fHZ_4⟩ := HZ.2 4 _ rfl
    obtain ⟨cHZ_5, fHZ_5⟩ := HZ.2 5 _ rfl
    obtain ⟨cHZ_6, fHZ_6⟩ := HZ.2 6 _ rfl
    obtain ⟨cHZ_7, fHZ_7⟩ := HZ.2 7 _ rfl
    have lZ := HZ.1
    go_wp2
    refine bodyPost_ret (v := .tuple #[.agg #[.slice b.map.A (List.length x.map) b.map.c, .int .i64 x.div, .int .i64 x.bx, .int .i64 x.by_, .int .i64 x.low, .int .i64 x.high, .slice b.noise.A (List.length x.noise) b.noise.c, .slice b.limits.A (List.length x.limits) b.limits.c], .bool true]) (by simp [results, Tryz.results22, go_sem, *]) rfl ⟨b, by rw [hF.out.1, hF.out.2], ?_, ?_⟩
    · rw [hF.out.2]
      exact ⟨(N3.map.lowC (q := ⟨w.heap.size + 1, 0, none⟩) (by simp only; omega) [_, _, _, _, _, _, _, _]).mono (by omega), ⟨(N3.noise.halves.lowC (q := ⟨w.heap.size + 1, 0, none⟩) (by simp only; omega) [_, _, _, _, _, _, _, _]).mono (by omega)⟩, ⟨(N3.limits.halves.lowC (q := ⟨w.heap.size + 1, 0, none⟩) (by simp only; omega) [_, _, _, _, _, _, _, _]).mono (by omega)⟩, N3.apart⟩
    · exact below_cells b3 (by omega) (o := 0) [_, _, _, _, _, _, _, _]
  have hxe : (dx == 0) = false := by rw [beq_eq_false_iff_ne]; exact hx
  have hyn : dy ≠ 0 := by intro h; rw [decide_eq_false hx, decide_eq_true h] at hz; cases hz
  have hye : (dy == 0) = false := by rw [beq_eq_false_iff_ne]; exact hyn
  have hpre : driftPre x dx dy = true := by unfold driftPre; rw [e1, e2, e3, hz]; rfl
  have hmn := Lib.hid (show a.map.A = none → a.map.c = 0 from hs0.map.some_ (by rw [roomOk_map e3]; decide))
  have c2 := fun W h => sCopyRoom_c x a W hn h hnl.noise hnl.limits hmn.out
  have hli := room_limits e3
  obtain ⟨x1, x2⟩ := inR_iff.1 e1
  obtain ⟨y1, y2⟩ := inR_iff.1 e2
  have hxr : 1 ≤ dx ∧ dx ≤ 100 := ⟨by omega, by omega⟩
  have hyr : 1 ≤ dy ∧ dy ≤ 100 := ⟨by omega, by omega⟩
  have hbn := Lib.hid (fun h => drift_bad (x := x) (dx := dx) (dy := dy) hx h)
  have hyes := Lib.hid (fun h h2 => drift_yes hpre hx h h2)
  have c3 := fun W => sBox_c dx dy W hxr hyr
  have c4 := fun W B h1 h2 hb => sErode_c x.limits (boxR dx dy) a.limits B W hli (boxR_ok hxr hyr) (boxR_ne hxr hyr) h1 h2 hnl.limits hb
  clear hpre hmn hx
  go_enter Tryz.func22, Tryz.ntmps22
  go_upto_region 1 with fail
  rw [← hW'.out]
  clear hW'
  obtain ⟨cHB_0, fHB_0⟩ := HB.2 0 _ rfl
  obtain ⟨cHB_1, fHB_1⟩ := HB.2 1 _ rfl
  obtain ⟨cHB_2, fHB_2⟩ := HB.2 2 _ rfl
  obtain ⟨cHB_3, fHB_3⟩ := HB.2 3 _ rfl
  obtain ⟨cHB_4, fHB_4⟩ := HB.2 4 _ rfl
  obtain ⟨cHB_5, fHB_5⟩ := HB.2 5 _ rfl
  obtain ⟨cHB_6, fHB_6⟩ := HB.2 6 _ rfl
  obtain ⟨cHB_7, fHB_7⟩ := HB.2 7 _ rfl
  go_wp2_with (fail)
  refine (c1 _ hs0).mono ?_
  rintro e w1 ⟨rfl, hb1⟩
  go_wp2_with (fail)
  refine (cx _).mono ?_
  rintro e w' ⟨rfl, rfl⟩
  go_wp2_with (fail)
  refine (cy _).mono ?_
  rintro e w' ⟨rfl, rfl⟩
  have HB1 := HB.below hb1
  have HR1 := HR.below hb1
  have b1 := below_tr b0 hb1
  have hs1 := hs0.below hb1
  have z1 : w.heap.size + 1 < w1.heap.size := Nat.lt_of_lt_of_le zW hb1.size
  clear cHB_0 cHB_1 cHB_2 cHB_3 cHB_4 cHB_5 cHB_6 cHB_7 fHB_0 fHB_1 fHB_2 fHB_3 fHB_4 fHB_5 fHB_6 fHB_7 HB HR b0 hs0 hb1 lB zW c1 cx cy
  obtain ⟨cHB1_0, fHB1_0⟩ := HB1.2 0 _ rfl
  obtain ⟨cHB1_1, fHB1_1⟩ := HB1.2 1 _ rfl
  obtain ⟨cHB1_2, fHB1_2⟩ := HB1.2 2 _ rfl
  obtain ⟨cHB1_3, fHB1_3⟩ := HB1.2 3 _ rfl
  obtain ⟨cHB1_4, fHB1_4⟩ := HB1.2 4 _ rfl
  obtain ⟨cHB1_5, fHB1_5⟩ := HB1.2 5 _ rfl
  obtain ⟨cHB1_6, fHB1_6⟩ := HB1.2 6 _ rfl
  obtain ⟨cHB1_7, fHB1_7⟩ := HB1.2 7 _ rfl
  have lB := HB1.1
  go_wp2_with (fail)
  refine (c2 _ hs1).mono ?_
  rintro e w2 ⟨b, rfl, N2, hb2⟩
  have TT : HasT (w2.alloc (.cells #[.slice b.map.A (List.length x.map) b.map.c, .int .i64 x.div, .int .i64 x.bx, .int .i64 x.by_, .int .i64 x.low, .int .i64 x.high, .slice b.noise.A (List.length x.noise) b.noise.c, .slice b.limits.A (List.length x.limits) b.limits.c] 41)) w2.heap.size 41 [.slice b.map.A (List.length x.map) b.map.c, .int .i64 x.div, .int .i64 x.bx, .int .i64 x.by_, .int .i64 x.low, .int .i64 x.high, .slice b.noise.A (List.length x.noise) b.noise.c, .slice b.limits.A (List.length x.limits) b.limits.c] := HasT.new w2 [.slice b.map.A (List.length x.map) b.map.c, .int .i64 x.div, .int .i64 x.bx, .int .i64 x.by_, .int .i64 x.low, .int .i64 x.high, .slice b.noise.A (List.length x.noise) b.noise.c, .slice b.limits.A (List.length x.limits) b.limits.c] 41
  have HR3 := (HR1.below hb2).alloc (.cells #[.slice b.map.A (List.length x.map) b.map.c, .int .i64 x.div, .int .i64 x.bx, .int .i64 x.by_, .int .i64 x.low, .int .i64 x.high, .slice b.noise.A (List.length x.noise) b.noise.c, .slice b.limits.A (List.length x.limits) b.limits.c] 41)
  have HB3 := (HB1.below hb2).alloc (.cells #[.slice b.map.A (List.length x.map) b.map.c, .int .i64 x.div, .int .i64 x.bx, .int .i64 x.by_, .int .i64 x.low, .int .i64 x.high, .slice b.noise.A (List.length x.noise) b.noise.c, .slice b.limits.A (List.length x.limits) b.limits.c] 41)
  have hs3 := (hs1.below hb2).below (below_al (Below.refl _ _) (.cells #[.slice b.map.A (List.length x.map) b.map.c, .int .i64 x.div, .int .i64 x.bx, .int .i64 x.by_, .int .i64 x.low, .int .i64 x.high, .slice b.noise.A (List.length x.noise) b.noise.c, .slice b.limits.A (List.length x.limits) b.limits.c] 41))
  have b3 := below_al (below_tr b1 hb2) (.cells #[.slice b.map.A (List.length x.map) b.map.c, .int .i64 x.div, .int .i64 x.bx, .int .i64 x.by_, .int .i64 x.low, .int .i64 x.high, .slice b.noise.A (List.length x.noise) b.noise.c, .slice b.limits.A (List.length x.limits) b.limits.c] 41)
  have N3 := N2.below (below_al (Below.refl _ _) (.cells #[.slice b.map.A (List.length x.map) b.map.c, .int .i64 x.div, .int .i64 x.bx, .int .i64 x.by_, .int .i64 x.low, .int .i64 x.high, .slice b.noise.A (List.length x.noise) b.noise.c, .slice b.limits.A (List.length x.limits) b.limits.c] 41)) (Nat.le_refl _)
  have BK := N2.blk
  have z2 := hb2.size
  have z3 : w2.heap.size < (w2.alloc (.cells #[.slice b.map.A (List.length x.map) b.map.c, .int .i64 x.div, .int .i64 x.bx, .int .i64 x.by_, .int .i64 x.low, .int .i64 x.high, .slice b.noise.A (List.length x.noise) b.noise.c, .slice b.limits.A (List.length x.limits) b.limits.c] 41)).heap.size := by simp
  clear cHB1_0 cHB1_1 cHB1_2 cHB1_3 cHB1_4 cHB1_5 cHB1_6 cHB1_7 fHB1_0 fHB1_1 fHB1_2 fHB1_3 fHB1_4 fHB1_5 fHB1_6 fHB1_7 lB HB1 HR1 hs1 b1 N2 hb2 c2
  go_upto_region 4 with fail
  generalize w2.alloc (.cells #[.slice b.map.A (List.length x.map) b.map.c, .int .i64 x.div, .int .i64 x.bx, .int .i64 x.by_, .int .i64 x.low, .int .i64 x.high, .slice b.noise.A (List.length x.noise) b.noise.c, .slice b.limits.A (List.length x.limits) b.limits.c] 41) = w3 at *
  go_wp2_with (fail)
  refine (c3 _).mono ?_
  rintro e w4 ⟨v4, rfl, N4, hb4⟩
  obtain ⟨A4, c4c, rfl, o4⟩ := N4
  have N4 : New 71 3 halfC w4 w3.heap.size (.slice A4 (boxR dx dy).length c4c) (boxR dx dy) := ⟨A4, c4c, rfl, o4⟩
  have G5 : HasT (w4.alloc (.cells #[.slice A4 (boxR dx dy).length c4c] 39)) w4.heap.size 39 [.slice A4 (boxR dx dy).length c4c] := HasT.new w4 [.slice A4 (boxR dx dy).length c4c] 39
  have bb := below_al hb4 (.cells #[.slice A4 (boxR dx dy).length c4c] 39)
  have HR5 := HR3.below bb
  have HB5 := HB3.below bb
  have T5 := TT.below bb
  have hs5 := hs3.below bb
  have N5 := N3.below bb (Nat.le_refl _)
  have b5 := b3.trans (bb.mono b3.size)
  have S4 := (N4.out halfC_len).alloc (.cells #[.slice A4 (boxR dx dy).length c4c] 39)
  have hn4 := N4.nilcap
  have z5 := bb.size
  clear N4 o4 HR3 HB3 TT hs3 N3 b3 bb hb4 c3
  go_upto_region 7 with fail
  generalize w4.alloc (.cells #[.slice A4 (boxR dx dy).length c4c] 39) = w5 at *
  generalize w4.heap.size = g4 at *
  obtain ⟨cHB5_0, fHB5_0⟩ := HB5.2 0 _ rfl
  obtain ⟨cHB5_1, fHB5_1⟩ := HB5.2 1 _ rfl
  obtain ⟨cHB5_2, fHB5_2⟩ := HB5.2 2 _ rfl
  obtain ⟨cHB5_3, fHB5_3⟩ := HB5.2 3 _ rfl
  obtain ⟨cHB5_4, fHB5_4⟩ := HB5.2 4 _ rfl
  obtain ⟨cHB5_5, fHB5_5⟩ := HB5.2 5 _ rfl
  obtain ⟨cHB5_6, fHB5_6⟩ := HB5.2 6 _ rfl
  obtain ⟨cHB5_7, fHB5_7⟩ := HB5.2 7 _ rfl
  have lB := HB5.1
  have HG := G5.has
  obtain ⟨cHG_0, fHG_0⟩ := HG.2 0 _ rfl
  have lG := HG.1
  go_wp2_with (fail)
  refine (c4 _ ⟨A4, c4c⟩ hs5.limits.halves S4 hn4).mono ?_
  rintro e w6 ⟨v6, rfl, N6, hb6⟩
  have hlen := Lib.hid (movR_len (f := eroH (boxR dx dy)) (p := x.limits) (fun h _ g e => eroH_ok e))
  obtain ⟨A6, c6, rfl, o6⟩ := N6
  obtain ⟨ok, hok⟩ : ∃ ok, ok = movOk (eroH (boxR dx dy)) x.limits := ⟨_, rfl⟩
  obtain ⟨R, hR⟩ : ∃ R, R = movR (eroH (boxR dx dy)) x.limits := ⟨_, rfl⟩
  have N6 : New 71 3 halfC w6 w5.heap.size (.slice A6 R.length c6) R := by rw [hR]; exact ⟨A6, c6, rfl, o6⟩
  rw [← hok, ← hR]
  have hok' := Lib.hid hok
  have hR' := Lib.hid hR
  clear hok hR
  have G7 : HasT (w6.alloc (.cells #[.slice A6 R.length c6] 39)) w6.heap.size 39 [.slice A6 R.length c6] := HasT.new w6 [.slice A6 R.length c6] 39
  have bb := below_al hb6 (.cells #[.slice A6 R.length c6] 39)
  have HR7 := HR5.below bb
  have T7 := T5.below bb
  have N7 := N5.below bb (Nat.le_refl _)
  have b7 := b5.trans (bb.mono b5.size)
  have N8 := N6.alloc (.cells #[.slice A6 R.length c6] 39)
  have BK6 := N6.blk
  have z7 := bb.size
  clear o6 HR5 HB5 T5 hs5 N5 b5 bb hb6 c4 N6 S4 G5 HG cHG_0 fHG_0 lG lB cHB5_0 cHB5_1 cHB5_2 cHB5_3 cHB5_4 cHB5_5 cHB5_6 cHB5_7 fHB5_0 fHB5_1 fHB5_2 fHB5_3 fHB5_4 fHB5_5 fHB5_6 fHB5_7
  go_upto_region 8 with fail
  generalize w6.alloc (.cells #[.slice A6 R.length c6] 39) = w7 at *
  generalize w6.heap.size = g6 at *
  have HG := G7.has
  obtain ⟨cHG_0, fHG_0⟩ := HG.2 0 _ rfl
  have lG := HG.1
  cases ok
  · have hF := Lib.hid (hbn.out (.inl hok'.out.symm))
    have HZ := (HR7).has
    obtain ⟨cHZ_0, fHZ_0⟩ := HZ.2 0 _ rfl
    obtain ⟨cHZ_1, fHZ_1⟩ := HZ.2 1 _ rfl
    obtain ⟨cHZ_2, fHZ_2⟩ := HZ.2 2 _ rfl
    obtain ⟨cHZ_3, fHZ_3⟩ := HZ.2 3 _ rfl
    obtain ⟨cHZ_4, fHZ_4⟩ := HZ.2 4 _ rfl
    obtain ⟨cHZ_5, fHZ_5⟩ := HZ.2 5 _ rfl
    obtain ⟨cHZ_6, fHZ_6⟩ := HZ.2 6 _ rfl
    obtain ⟨cHZ_7, fHZ_7⟩ := HZ.2 7 _ rfl
    have lZ := HZ.1
    have BZ := b7
    go_wp2
    refine bodyPost_ret (v := .tuple #[.agg #[.slice none 0 0, .int .i64 0, .int .i64 0, .int .i64 0, .int .i64 0, .int .i64 0, .slice none 0 0, .slice none 0 0], .bool false]) (by simp [results, Tryz.results22, go_sem, cHZ_0, cHZ_1, cHZ_2, cHZ_3, cHZ_4, cHZ_5, cHZ_6, cHZ_7]) rfl ⟨⟨⟨none, 0⟩, ⟨none, 0⟩, ⟨none, 0⟩⟩, by rw [hF.out.1, hF.out.2]; rfl, ?_, ?_⟩
    · rw [hF.out.2]; exact ⟨⟨none, 0, rfl, World.ownsRow_nil _ _ _ _⟩, ⟨⟨none, 0, rfl, World.ownsRow_nil _ _ _ _⟩⟩, ⟨⟨none, 0, rfl, World.ownsRow_nil _ _ _ _⟩⟩, by simp [Apart]⟩
    · exact below_cells BZ (by omega) (o := 0) [_, _, _, _, _, _, _, _]
  have cv := fun W => sIsVoid_c R ⟨A6, c6⟩ W
  by_cases h0 : R.length = 0
  · have hF := Lib.hid (hbn.out (.inr (by rw [← hR'.out]; exact h0)))
    rw [decide_eq_true h0] at cv
    clear h0
    go_wp2_with (fail)
    refine (cv _).mono ?_
    rintro e w8 ⟨rfl, hb8⟩
    have HZ := (HR7.below hb8).has
    obtain ⟨cHZ_0, fHZ_0⟩ := HZ.2 0 _ rfl
    obtain ⟨cHZ_1, fHZ_1⟩ := HZ.2 1 _ rfl
    obtain ⟨cHZ_2, fHZ_2⟩ := HZ.2 2 _ rfl
    obtain ⟨cHZ_3, fHZ_3⟩ := HZ.2 3 _ rfl
    obtain ⟨cHZ_4, fHZ_4⟩ := HZ.2 4 _ rfl
    obtain ⟨cHZ_5, fHZ_5⟩ := HZ.2 5 _ rfl
    obtain ⟨cHZ_6, fHZ_6⟩ := HZ.2 6 _ rfl
    obtain ⟨cHZ_7, fHZ_7⟩ := HZ.2 7 _ rfl
    have lZ := HZ.1
    have BZ := below_tr b7 hb8
    go_wp2
    refine bodyPost_ret (v := .tuple #[.agg #[.slice none 0 0, .int .i64 0, .int .i64 0, .int .i64 0, .int .i64 0, .int .i64 0, .slice none 0 0, .slice none 0 0], .bool false]) (by simp [results, Tryz.results22, go_sem, cHZ_0, cHZ_1, cHZ_2, cHZ_3, cHZ_4, cHZ_5, cHZ_6, cHZ_7]) rfl ⟨⟨⟨none, 0⟩, ⟨none, 0⟩, ⟨none, 0⟩⟩, by rw [hF.out.1, hF.out.2]; rfl, ?_, ?_⟩
    · rw [hF.out.2]; exact ⟨⟨none, 0, rfl, World.ownsRow_nil _ _ _ _⟩, ⟨⟨none, 0, rfl, World.ownsRow_nil _ _ _ _⟩⟩, ⟨⟨none, 0, rfl, World.ownsRow_nil _ _ _ _⟩⟩, by simp [Apart]⟩
    · exact below_cells BZ (by omega) (o := 0) [_, _, _, _, _, _, _, _]
  have hF := Lib.hid (hyes.out hok'.out.symm (by rw [← hR'.out]; exact h0))
  rw [decide_eq_false h0] at cv
  rw [← hR'.out] at hF
  go_wp2_with (fail)
  refine (cv _).mono ?_
  rintro e w8 ⟨rfl, hb8⟩
  have T8 := T7.below hb8
  have HR8 := HR7.below hb8
  have G8 := (G7.below hb8).has
  have N9 := N7.below hb8 (Nat.le_refl _)
  have NL := N8.below hb8 (Nat.le_refl _)
  have b8 := below_tr b7 hb8
  clear HG cHG_0 fHG_0 lG G7 HR7 T7 N7 N8 b7 hb8 cv h0
  obtain ⟨cG8_0, fG8_0⟩ := G8.2 0 _ rfl
  have lG := G8.1
  have HT := T8.has
  obtain ⟨cHT_0, fHT_0⟩ := HT.2 0 _ rfl
  obtain ⟨cHT_1, fHT_1⟩ := HT.2 1 _ rfl
  obtain ⟨cHT_2, fHT_2⟩ := HT.2 2 _ rfl
  obtain ⟨cHT_3, fHT_3⟩ := HT.2 3 _ rfl
  obtain ⟨cHT_4, fHT_4⟩ := HT.2 4 _ rfl
  obtain ⟨cHT_5, fHT_5⟩ := HT.2 5 _ rfl
  obtain ⟨cHT_6, fHT_6⟩ := HT.2 6 _ rfl
  obtain ⟨cHT_7, fHT_7⟩ := HT.2 7 _ rfl
  have lT := HT.1
  go_upto_region 11 with fail
  have TU := T8.set_ 7 (.slice A6 R.length c6)
  simp only [List.set_cons_succ, List.set_cons_zero] at TU
  have HRU := HR8.other (g' := w2.heap.size) (by omega) [.slice A6 R.length c6] 7
  have NU := N9.otherT T8 (by decide) (by decide) [.slice A6 R.length c6] 7
  have NV := NL.otherC (NL.typ T8 (by decide)) [.slice A6 R.length c6] 7
  have bU := b8.setCell (p := ⟨w2.heap.size, 7, none⟩) (by simp only; omega) (.slice A6 R.length c6)
  simp only [World.setCells] at HRU NU NV
  clear cG8_0 fG8_0 lG G8 cHT_0 cHT_1 cHT_2 cHT_3 cHT_4 cHT_5 cHT_6 cHT_7 fHT_0 fHT_1 fHT_2 fHT_3 fHT_4 fHT_5 fHT_6 fHT_7 lT HT T8 HR8 N9 NL b8
  generalize w8.setCell ⟨w2.heap.size, 7, none⟩ (.slice A6 R.length c6) = w9 at *
  have HT := TU.has
  obtain ⟨cHT_0, fHT_0⟩ := HT.2 0 _ rfl
  obtain ⟨cHT_1, fHT_1⟩ := HT.2 1 _ rfl
  obtain ⟨cHT_2, fHT_2⟩ := HT.2 2 _ rfl
  obtain ⟨cHT_3, fHT_3⟩ := HT.2 3 _ rfl
  obtain ⟨cHT_4, fHT_4⟩ := HT.2 4 _ rfl
  obtain ⟨cHT_5, fHT_5⟩ := HT.2 5 _ rfl
  obtain ⟨cHT_6, fHT_6⟩ := HT.2 6 _ rfl
  obtain ⟨cHT_7, fHT_7⟩ := HT.2 7 _ rfl
  have lT := HT.1
  have ap : List.Pairwise Apart [b.map, b.noise, ⟨A6, c6⟩] := by
    have h12 : Apart b.map b.noise := (List.pairwise_cons.1 NU.apart).1 _ (by simp)
    have h13 : Apart b.map ⟨A6, c6⟩ := BK.1.apart BK6 (by omega)
    have h23 : Apart b.noise ⟨A6, c6⟩ := BK.2.1.apart BK6 (by omega)
    refine .cons (fun y hy => ?_) (.cons (fun y hy => ?_) (.cons (fun y hy => absurd hy (List.not_mem_nil)) .nil))
    · simp only [List.mem_cons, List.not_mem_nil, or_false] at hy
      rcases hy with rfl | rfl
      · exact h12
      · exact h13
    · rw [List.mem_singleton] at hy; rw [hy]; exact h23
  have HZ := (HRU).has
  obtain ⟨cHZ_0, fHZ_0⟩ := HZ.2 0 _ rfl
  obtain ⟨cHZ_1, fHZ_1⟩ := HZ.2 1 _ rfl
  obtain ⟨cHZ_2, fHZ_2⟩ := HZ.2 2 _ rfl
  obtain ⟨cHZ_3, fHZ_3⟩ := HZ.2 3 _ rfl
  obtain ⟨cHZ_4, fHZ_4⟩ := HZ.2 4 _ rfl
  obtain ⟨cHZ_5, fHZ_5⟩ := HZ.2 5 _ rfl
  obtain ⟨cHZ_6, fHZ_6⟩ := HZ.2 6 _ rfl
  obtain ⟨cHZ_7, fHZ_7⟩ := HZ.2 7 _ rfl
  have lZ := HZ.1
  go_wp2
  refine bodyPost_ret (v := .tuple #[.agg #[.slice b.map.A (List.length x.map) b.map.c, .int .i64 x.div, .int .i64 x.bx, .int .i64 x.by_, .int .i64 x.low, .int .i64 x.high, .slice b.noise.A (List.length x.noise) b.noise.c, .slice A6 R.length c6], .bool true]) (by simp [results, Tryz.results22, go_sem, *]) rfl ⟨⟨b.map, b.noise, ⟨A6, c6⟩⟩, by rw [hF.out.1, hF.out.2]; rfl, ?_, ?_⟩
  · rw [hF.out.2]
    exact ⟨(NU.map.lowC (q := ⟨w.heap.size + 1, 0, none⟩) (by simp only; omega) [_, _, _, _, _, _, _, _]).mono (by omega), ⟨(NU.noise.halves.lowC (q := ⟨w.heap.size + 1, 0, none⟩) (by simp only; omega) [_, _, _, _, _, _, _, _]).mono (by omega)⟩, ⟨(NV.lowC (q := ⟨w.heap.size + 1, 0, none⟩) (by simp only; omega) [_, _, _, _, _, _, _, _]).mono (by omega)⟩, ap⟩
  · exact below_cells bU (by omega) (o := 0) [_, _, _, _, _, _, _, _]
end Go.Proofs.YtbdihgcjopbnjaaGreat
