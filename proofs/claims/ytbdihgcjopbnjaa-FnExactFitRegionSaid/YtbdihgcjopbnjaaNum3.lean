/-
  What the functions that reduce fractions, spots and half planes return.
  Conditions: the numbers are ints of the machine.
-/
import Derived.Test.YtbdihgcjopbnjaaNum2
import Derived.StillTailTactics
import Derived.Deep.RegionHeld3
namespace Go.Proofs.Ytbdihgcjopbnjaa
open Go.RowKit

theorem tdiv_In64 {a : Int} (h : In64 a) (hm : isMin a = false) (g : Nat) : In64 (a.tdiv g) := by
  have h1 := isMin_false h hm
  have := tdiv_le a g 9223372036854775807 h1.1 h1.2
  exact ⟨by omega, by omega⟩

def optSpotV : Option Spot → Value
  | some s => .tuple #[.agg #[.int .i64 s.x, .int .i64 s.y, .int .i64 s.d], .bool true]
  | none => .tuple #[.agg #[.int .i64 0, .int .i64 0, .int .i64 0], .bool false]
def optHalfV : Option Half → Value
  | some h => .tuple #[.agg #[.int .i64 h.a, .int .i64 h.b, .int .i64 h.c], .bool true]
  | none => .tuple #[.agg #[.int .i64 0, .int .i64 0, .int .i64 0], .bool false]

theorem iSpotOf_c (x y d : Int) (w : World) (hx : In64 x) (hy : In64 y) (hd : In64 d) :
    Calls Try.prog 123 #[.int .i64 x, .int .i64 y, .int .i64 d] w fun e w' => e = .returned (optSpotV (spotOf x y d)) ∧ Below w.heap.size w w' := by
  by_cases hd0 : d ≤ 0
  · have hfin : spotOf x y d = none := by simp [spotOf, hd0]
    rw [hfin]
    go_enter Try.func123, Try.ntmps123
    go_wp2
    refine bodyPost_ret (v := .tuple #[.agg #[.int .i64 0, .int .i64 0, .int .i64 0], .bool false]) (by simp [results, Try.results123, go_sem]) rfl ⟨rfl, ?_⟩
    repeat (first | (with_reducible exact Below.refl _ _) | (with_reducible assumption) | (with_reducible refine below_al ?_ _) | (with_reducible refine Below.drew ?_) | (with_reducible refine below_drewN ?_ _) | (with_reducible refine below_st ?_ ?_ _) | (with_reducible refine below_tr ?_ (by assumption)) | (with_reducible exact Nat.le_refl _) | (focus (simp; done)) | (focus (simp; omega)))
  · cases mx : isMin x
    · cases my : isMin y
      · have hall : ∀ n ∈ [x, y, d], In64 n := by simp [hx, hy, hd]
        have md : isMin d = false := isMin_no (by omega)
        have hfin : Hid (spotOf x y d = if spotOk ⟨x.tdiv (gcdAll [x, y, d]), y.tdiv (gcdAll [x, y, d]), d.tdiv (gcdAll [x, y, d])⟩ = true then some ⟨x.tdiv (gcdAll [x, y, d]), y.tdiv (gcdAll [x, y, d]), d.tdiv (gcdAll [x, y, d])⟩ else none) := by
          show _ = _
          rw [spotOf, if_neg (by simp [hd0, mx, my])]; rfl
        have hg := gcdOfAll_c (some ⟨w.heap.size + 1, 0, none⟩) [x, y, d] 3 _ (by simp) hall (sl_new_at (T := 3) intC_len (w.alloc (.cells #[.int .i64 0, .int .i64 0, .int .i64 0] 65)) [x, y, d] #[.int .i64 x, .int .i64 y, .int .i64 d] rfl (by simp))
        have hle := gcdAll_le [x, y, d] hall
        have hpos : 0 < gcdAll [x, y, d] := by rw [gcd3]; exact Nat.gcd_pos_of_pos_right _ (by omega)
        generalize gcdAll [x, y, d] = G at *
        have i1 := tdiv_In64 hx mx G
        have i2 := tdiv_In64 hy my G
        have i3 := tdiv_In64 hd md G
        have c1 := fun W => divided_c x G W hx mx hpos hle
        have c2 := fun W => divided_c y G W hy my hpos hle
        have c3 := fun W => divided_c d G W hd md hpos hle
        have c4 := fun W => iSpotOk_c ⟨x.tdiv G, y.tdiv G, d.tdiv G⟩ W ⟨i1, i2, i3⟩
        have m1 := isLeast_v x false mx hx
        have m2 := isLeast_v y false my hy
        generalize x.tdiv G = x' at *
        generalize y.tdiv G = y' at *
        generalize d.tdiv G = d' at *
        clear i1 i2 i3 mx my md hx hy hd hall
        generalize spotOk ⟨x', y', d'⟩ = ok at *
        cases ok
        all_goals
          rw [hfin.out]
          go_enter Try.func123, Try.ntmps123
          go_wp2_with (fail)
          refine (m1 _).mono ?_
          rintro e w' ⟨rfl, rfl⟩
          go_wp2_with (fail)
          refine (m2 _).mono ?_
          rintro e w' ⟨rfl, rfl⟩
          go_wp2_with (fail)
          refine hg.mono ?_
          rintro e w1 ⟨rfl, hb1⟩
          have hb2 := (below_tr (below_al (below_al (Below.refl w.heap.size w) _) _) hb1)
          have H1 := ((Has.new w #[.int .i64 0, .int .i64 0, .int .i64 0] 65).alloc _).below hb1
          obtain ⟨cH1_0, fH1_0⟩ := H1.2 0 _ rfl
          obtain ⟨cH1_1, fH1_1⟩ := H1.2 1 _ rfl
          obtain ⟨cH1_2, fH1_2⟩ := H1.2 2 _ rfl
          go_wp2_with (fail)
          refine (c1 _).mono ?_
          rintro e w' ⟨rfl, rfl⟩
          go_wp2_with (fail)
          refine (c2 _).mono ?_
          rintro e w' ⟨rfl, rfl⟩
          go_wp2_with (fail)
          refine (c3 _).mono ?_
          rintro e w' ⟨rfl, rfl⟩
          go_wp2_with (fail)
          refine (c4 _).mono ?_
          rintro e w2 ⟨rfl, hb4⟩
          have hb5 := below_tr (below_al hb2 (.cells #[.int .i64 x', .int .i64 y', .int .i64 d'] 65)) hb4
          have H2 := (H1.alloc _).below hb4
          have H3 := (Has.new _ _ _).below hb4
          clear cH1_0 cH1_1 cH1_2 fH1_0 fH1_1 fH1_2
          obtain ⟨cH2_0, fH2_0⟩ := H2.2 0 _ rfl
          obtain ⟨cH2_1, fH2_1⟩ := H2.2 1 _ rfl
          obtain ⟨cH2_2, fH2_2⟩ := H2.2 2 _ rfl
          obtain ⟨cH3_0, fH3_0⟩ := H3.2 0 _ rfl
          obtain ⟨cH3_1, fH3_1⟩ := H3.2 1 _ rfl
          obtain ⟨cH3_2, fH3_2⟩ := H3.2 2 _ rfl
          go_wp2
          first
            | exact bodyPost_ret (v := .tuple #[.agg #[.int .i64 0, .int .i64 0, .int .i64 0], .bool false]) (by simp [results, Try.results123, go_sem, *]) rfl ⟨rfl, below_st (below_st (below_st hb5 (Nat.le_refl _) _) (Nat.le_refl _) _) (Nat.le_refl _) _⟩
            | exact bodyPost_ret (v := .tuple #[.agg #[.int .i64 x', .int .i64 y', .int .i64 d'], .bool true]) (by simp [results, Try.results123, go_sem, *]) rfl ⟨rfl, below_st (below_st (below_st hb5 (Nat.le_refl _) _) (Nat.le_refl _) _) (Nat.le_refl _) _⟩
      · have m1 := isLeast_v x false mx hx
        have m2 := isLeast_v y true my hy
        have hfin : spotOf x y d = none := by simp [spotOf, my]
        rw [hfin]
        clear mx my
        go_enter Try.func123, Try.ntmps123
        go_wp2_with (fail)
        refine (m1 _).mono ?_
        rintro e w' ⟨rfl, rfl⟩
        go_wp2_with (fail)
        refine (m2 _).mono ?_
        rintro e w' ⟨rfl, rfl⟩
        go_wp2
        refine bodyPost_ret (v := .tuple #[.agg #[.int .i64 0, .int .i64 0, .int .i64 0], .bool false]) (by simp [results, Try.results123, go_sem]) rfl ⟨rfl, ?_⟩
        repeat (first | (with_reducible exact Below.refl _ _) | (with_reducible assumption) | (with_reducible refine below_al ?_ _) | (with_reducible refine Below.drew ?_) | (with_reducible refine below_drewN ?_ _) | (with_reducible refine below_st ?_ ?_ _) | (with_reducible refine below_tr ?_ (by assumption)) | (with_reducible exact Nat.le_refl _) | (focus (simp; done)) | (focus (simp; omega)))
    · have m1 := isLeast_v x true mx hx
      have hfin : spotOf x y d = none := by simp [spotOf, mx]
      rw [hfin]
      clear mx
      go_enter Try.func123, Try.ntmps123
      go_wp2_with (fail)
      refine (m1 _).mono ?_
      rintro e w' ⟨rfl, rfl⟩
      go_wp2
      refine bodyPost_ret (v := .tuple #[.agg #[.int .i64 0, .int .i64 0, .int .i64 0], .bool false]) (by simp [results, Try.results123, go_sem]) rfl ⟨rfl, ?_⟩
      repeat (first | (with_reducible exact Below.refl _ _) | (with_reducible assumption) | (with_reducible refine below_al ?_ _) | (with_reducible refine Below.drew ?_) | (with_reducible refine below_drewN ?_ _) | (with_reducible refine below_st ?_ ?_ _) | (with_reducible refine below_tr ?_ (by assumption)) | (with_reducible exact Nat.le_refl _) | (focus (simp; done)) | (focus (simp; omega)))

set_option maxRecDepth 100000 in
set_option maxHeartbeats 4000000 in
theorem sSpotOf_c (x y d : Int) (w : World) (hx : In64 x) (hy : In64 y) (hd : In64 d) :
    Calls Try.prog 230 #[.int .i64 x, .int .i64 y, .int .i64 d] w fun e w' => e = .returned (optSpotV (spotOf x y d)) ∧ Below w.heap.size w w' := by
  by_cases hd0 : d ≤ 0
  · have hfin : spotOf x y d = none := by simp [spotOf, hd0]
    rw [hfin]
    go_enter Try.func230, Try.ntmps230
    go_wp2
    refine bodyPost_ret (v := .tuple #[.agg #[.int .i64 0, .int .i64 0, .int .i64 0], .bool false]) (by simp [results, Try.results230, go_sem]) rfl ⟨rfl, ?_⟩
    repeat (first | (with_reducible exact Below.refl _ _) | (with_reducible assumption) | (with_reducible refine below_al ?_ _) | (with_reducible refine Below.drew ?_) | (with_reducible refine below_drewN ?_ _) | (with_reducible refine below_st ?_ ?_ _) | (with_reducible refine below_tr ?_ (by assumption)) | (with_reducible exact Nat.le_refl _) | (focus (simp; done)) | (focus (simp; omega)))
  · have hxy := gcdOf_In64 hx hy
    have md : isMin d = false := isMin_no (by omega)
    have wm : (x != 0) = false → isMin x = false := by intro h; simp at h; subst h; rfl
    have wm2 : (y != 0) = false → isMin y = false := by intro h; simp at h; subst h; rfl
    cases mx : isMin x
    · cases my : isMin y
      · have hfin : Hid (spotOf x y d = if spotOk ⟨x.tdiv (gcdAll [x, y, d]), y.tdiv (gcdAll [x, y, d]), d.tdiv (gcdAll [x, y, d])⟩ = true then some ⟨x.tdiv (gcdAll [x, y, d]), y.tdiv (gcdAll [x, y, d]), d.tdiv (gcdAll [x, y, d])⟩ else none) := by
          show _ = _
          rw [spotOf, if_neg (by simp [hd0, mx, my])]; rfl
        have hG : gcdOf (gcdOf x y) d = ((gcdAll [x, y, d] : Nat) : Int) := by
          have := gcdOf_in hx hy
          rw [gcdOf_no (isMin_no (by omega)) md, gcdOf_no mx my, gcd3]; simp
        have hpos : 0 < gcdAll [x, y, d] := by rw [gcd3]; exact Nat.gcd_pos_of_pos_right _ (by omega)
        have h3 : (gcdOf x d == 0) = false := by
          rw [gcdOf_no mx md]
          have : 0 < Nat.gcd x.natAbs d.natAbs := Nat.gcd_pos_of_pos_right _ (by omega)
          simp; omega
        have h4 : (gcdOf y d == 0) = false := by
          rw [gcdOf_no my md]
          have : 0 < Nat.gcd y.natAbs d.natAbs := Nat.gcd_pos_of_pos_right _ (by omega)
          simp; omega
        have hle : gcdAll [x, y, d] ≤ 9223372036854775807 := by
          have := (gcdOf_in hxy hd).2
          rw [hG] at this; omega
        generalize gcdAll [x, y, d] = G at *
        have i1 := tdiv_In64 hx mx G
        have i2 := tdiv_In64 hy my G
        have i3 := tdiv_In64 hd md G
        have c5 := fun W => sSpotOk_c ⟨x.tdiv G, y.tdiv G, d.tdiv G⟩ W ⟨i1, i2, i3⟩
        obtain ⟨q1, r1⟩ := i1
        obtain ⟨q2, r2⟩ := i2
        obtain ⟨q3, r3⟩ := i3
        have w1 : IntKind.i64.wrap (x.tdiv G) = x.tdiv G := IntWalk.i64_in _ ⟨q1, r1⟩
        have w2 : IntKind.i64.wrap (y.tdiv G) = y.tdiv G := IntWalk.i64_in _ ⟨q2, r2⟩
        have w3 : IntKind.i64.wrap (d.tdiv G) = d.tdiv G := IntWalk.i64_in _ ⟨q3, r3⟩
        have hG1 : ¬ (G = 0) := by omega
        have hG2 : ¬ ((G : Int) = 0) := by omega
        clear mx my md wm wm2
        generalize spotOk ⟨x.tdiv G, y.tdiv G, d.tdiv G⟩ = ok at *
        generalize hbx : (x != 0) = bx
        generalize hby : (y != 0) = by_
        go_enter Try.func230, Try.ntmps230
        go_wp2_with (go_at_call 154; refine (sGcdOf_q _ _ _ (by assumption) (by assumption)).mono ?_; rintro e wc ⟨rfl, nc, rfl⟩)
        all_goals go_region_held3 (fun _ => True) (exact True.intro) (fail)
        all_goals
          go_wp2_with (fail)
          refine (c5 _).mono ?_
          rintro e w9 ⟨rfl, hb9⟩
          have hbw : Below w.heap.size w w9 := by
            refine below_tr ?_ hb9
            repeat (first | (with_reducible exact Below.refl _ _) | (with_reducible assumption) | (with_reducible refine below_al ?_ _) | (with_reducible refine Below.drew ?_) | (with_reducible refine below_drewN ?_ _) | (with_reducible refine below_st ?_ ?_ _) | (with_reducible refine below_tr ?_ (by assumption)) | (with_reducible exact Nat.le_refl _) | (focus (simp; done)) | (focus (simp; omega)))
          have H2 : Has w9 w.heap.size [.int .i64 0, .int .i64 0, .int .i64 0] := by
            refine Has.below ?_ hb9
            exact (Has.new w _ _).alloc _
          have H3 : Has w9 (w.heap.size + 1) [.int .i64 (x.tdiv G), .int .i64 (y.tdiv G), .int .i64 (d.tdiv G)] := by
            refine Has.below ?_ hb9
            have := Has.new (w.alloc (.cells #[.int .i64 0, .int .i64 0, .int .i64 0] 65)) #[.int .i64 (x.tdiv G), .int .i64 (y.tdiv G), .int .i64 (d.tdiv G)] 65
            simp only [World.size_alloc] at this
            exact this
          obtain ⟨cH2_0, fH2_0⟩ := H2.2 0 _ rfl
          obtain ⟨cH2_1, fH2_1⟩ := H2.2 1 _ rfl
          obtain ⟨cH2_2, fH2_2⟩ := H2.2 2 _ rfl
          obtain ⟨cH3_0, fH3_0⟩ := H3.2 0 _ rfl
          obtain ⟨cH3_1, fH3_1⟩ := H3.2 1 _ rfl
          obtain ⟨cH3_2, fH3_2⟩ := H3.2 2 _ rfl
          cases ok
          · go_wp2
            refine bodyPost_ret (v := .tuple #[.agg #[.int .i64 0, .int .i64 0, .int .i64 0], .bool false]) (by simp [results, Try.results230, go_sem, *]) rfl ⟨by rw [hfin.out]; rfl, ?_⟩
            exact below_st (below_st (below_st hbw (Nat.le_refl _) _) (Nat.le_refl _) _) (Nat.le_refl _) _
          · go_wp2
            refine bodyPost_ret (v := .tuple #[.agg #[.int .i64 (x.tdiv G), .int .i64 (y.tdiv G), .int .i64 (d.tdiv G)], .bool true]) (by simp [results, Try.results230, go_sem, *]) rfl ⟨by rw [hfin.out]; rfl, ?_⟩
            exact below_st (below_st (below_st hbw (Nat.le_refl _) _) (Nat.le_refl _) _) (Nat.le_refl _) _
      · have hfin : spotOf x y d = none := by simp [spotOf, my]
        rw [hfin]
        have h4 : gcdOf y d = 0 := gcdOf_min1 my
        have h5 : (y != 0) = true := by simp [isMin] at my; subst my; rfl
        have h3 : (gcdOf x d == 0) = false := by
          rw [gcdOf_no mx md]
          have : 0 < Nat.gcd x.natAbs d.natAbs := Nat.gcd_pos_of_pos_right _ (by omega)
          simp; omega
        generalize hbx : (x != 0) = bx
        clear mx my md wm wm2
        go_enter Try.func230, Try.ntmps230
        go_wp2_with (go_at_call 154; refine (sGcdOf_q _ _ _ (by assumption) (by assumption)).mono ?_; rintro e wc ⟨rfl, nc, rfl⟩)
        all_goals
          refine bodyPost_ret (v := .tuple #[.agg #[.int .i64 0, .int .i64 0, .int .i64 0], .bool false]) (by simp [results, Try.results230, go_sem]) rfl ⟨rfl, ?_⟩
          repeat (first | (with_reducible exact Below.refl _ _) | (with_reducible assumption) | (with_reducible refine below_al ?_ _) | (with_reducible refine Below.drew ?_) | (with_reducible refine below_drewN ?_ _) | (with_reducible refine below_st ?_ ?_ _) | (with_reducible refine below_tr ?_ (by assumption)) | (with_reducible exact Nat.le_refl _) | (focus (simp; done)) | (focus (simp; omega)))
    · have hfin : spotOf x y d = none := by simp [spotOf, mx]
      rw [hfin]
      have h3 : gcdOf x d = 0 := gcdOf_min1 mx
      have h5 : (x != 0) = true := by simp [isMin] at mx; subst mx; rfl
      clear mx md wm wm2
      go_enter Try.func230, Try.ntmps230
      go_wp2_with (go_at_call 154; refine (sGcdOf_q _ _ _ (by assumption) (by assumption)).mono ?_; rintro e wc ⟨rfl, nc, rfl⟩)
      all_goals
        refine bodyPost_ret (v := .tuple #[.agg #[.int .i64 0, .int .i64 0, .int .i64 0], .bool false]) (by simp [results, Try.results230, go_sem]) rfl ⟨rfl, ?_⟩
        repeat (first | (with_reducible exact Below.refl _ _) | (with_reducible assumption) | (with_reducible refine below_al ?_ _) | (with_reducible refine Below.drew ?_) | (with_reducible refine below_drewN ?_ _) | (with_reducible refine below_st ?_ ?_ _) | (with_reducible refine below_tr ?_ (by assumption)) | (with_reducible exact Nat.le_refl _) | (focus (simp; done)) | (focus (simp; omega)))
end Go.Proofs.Ytbdihgcjopbnjaa
