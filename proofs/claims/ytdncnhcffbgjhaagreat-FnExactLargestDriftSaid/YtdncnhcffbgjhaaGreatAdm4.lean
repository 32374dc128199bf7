/-
 The inputs that are admitted at all states of a list: of the program.
 Conditions: valid rooms, half planes and states.
-/
import Derived.Test.YtdncnhcffbgjhaaGreatAdm2
namespace Go.Proofs.YtdncnhcffbgjhaaGreat
open Go.RowKit
theorem accS_succ {A : Spot → Option Span} {l : List Spot} {k : Nat} {v : Span} (h : accS A l k = some v) (hk : k < l.length) : accS A l (k + 1) = (A l[k]).bind fun u => if k = 0 then some u else meetSp v u := by
 rw [accS, h, Option.bind_some, List.getD_eq_getElem?_getD, List.getElem?_eq_getElem hk]; rfl
theorem meetSp_ok {a b c : Span} (h : meetSp a b = some c) : spanOk c = true := by
 unfold meetSp at h
 split at h
 ·rename_i q; cases h; exact q.2.2
 ·cases h
theorem spanOk_r {s : Span} (h : spanOk s = true) : ratioOk s.low = true ∧ ratioOk s.high = true := by
 simp only [spanOk, Bool.and_eq_true] at h
 exact ⟨h.1.1, h.1.2⟩
theorem admit_spanOk {r : Room} {e : List Half} {s : Spot} {c : Span} (h : admit r e s = some c) : spanOk c = true := by
 unfold admit at h
 split at h
 ·cases h
 ·cases q : admL r s e with
  | none => rw [q] at h; cases h
  | some w =>
   rw [q] at h
   simp only [Option.bind_some] at h
   split at h
   ·cases h; assumption
   ·cases h
theorem span_In {s : Span} (h : spanOk s = true) : s.In := ⟨ratio_In (spanOk_r h).1, ratio_In (spanOk_r h).2⟩
set_option maxRecDepth 100000 in
set_option maxHeartbeats 3000000 in
theorem iAdmAll_c (r : Room) (e : List Half) (l : List Spot) (ra : RoomA) (b c : SlA) (w : World) (hr : roomOk r = true) (he : ∀ h ∈ e, halfOk h = true) (hle : e.length ≤ 40) (hl : ∀ t ∈ l, spotOk t = true) (hln : l.length ≤ 4) (hsR : RoomSl w r ra) (hsE : Sl 3 halfC w b.A e) (hsL : Sl 3 spotC w c.A l) :
  Calls Tryz.prog 81 #[roomV r ra, regionV e b, .slice c.A l.length c.c] w fun x w' => x = .returned (optSpanV (accS (fun t => admit r e t) l l.length)) ∧ Below w.heap.size w w' := by
 obtain ⟨W, hW⟩ : ∃ W, W = (((w.alloc (.cells #[.slice ra.map.A (List.length r.map) ra.map.c, .int .i64 r.div, .int .i64 r.bx, .int .i64 r.by_, .int .i64 r.low, .int .i64 r.high, .slice ra.noise.A (List.length r.noise) ra.noise.c, .slice ra.limits.A (List.length r.limits) ra.limits.c] 39)).alloc (.cells #[.slice b.A e.length b.c] 37)).alloc (.cells #[.int .i64 0, .int .i64 0, .int .i64 0, .int .i64 0] 54)).alloc (.cells #[.int .i64 0, .int .i64 0, .int .i64 0, .int .i64 0] 54) := ⟨_, rfl⟩
 have HB : HasT W w.heap.size 39 [.slice ra.map.A (List.length r.map) ra.map.c, .int .i64 r.div, .int .i64 r.bx, .int .i64 r.by_, .int .i64 r.low, .int .i64 r.high, .slice ra.noise.A (List.length r.noise) ra.noise.c, .slice ra.limits.A (List.length r.limits) ra.limits.c] := by
  rw [hW]; exact (((HasT.new w [.slice ra.map.A (List.length r.map) ra.map.c, .int .i64 r.div, .int .i64 r.bx, .int .i64 r.by_, .int .i64 r.low, .int .i64 r.high, .slice ra.noise.A (List.length r.noise) ra.noise.c, .slice ra.limits.A (List.length r.limits) ra.limits.c] 39).alloc _).alloc _).alloc _
 have HE : HasT W (w.heap.size + 1) 37 [.slice b.A e.length b.c] := by
  have h1 := (((HasT.new (w.alloc (.cells #[.slice ra.map.A (List.length r.map) ra.map.c, .int .i64 r.div, .int .i64 r.bx, .int .i64 r.by_, .int .i64 r.low, .int .i64 r.high, .slice ra.noise.A (List.length r.noise) ra.noise.c, .slice ra.limits.A (List.length r.limits) ra.limits.c] 39)) [.slice b.A e.length b.c] 37).alloc (.cells #[.int .i64 0, .int .i64 0, .int .i64 0, .int .i64 0] 54)).alloc (.cells #[.int .i64 0, .int .i64 0, .int .i64 0, .int .i64 0] 54))
  simp only [World.size_alloc] at h1; rw [hW]; exact h1
 have HZ : HasT W (w.heap.size + 1 + 1) 54 [.int .i64 0, .int .i64 0, .int .i64 0, .int .i64 0] := by
  have h1 := (HasT.new ((w.alloc (.cells #[.slice ra.map.A (List.length r.map) ra.map.c, .int .i64 r.div, .int .i64 r.bx, .int .i64 r.by_, .int .i64 r.low, .int .i64 r.high, .slice ra.noise.A (List.length r.noise) ra.noise.c, .slice ra.limits.A (List.length r.limits) ra.limits.c] 39)).alloc (.cells #[.slice b.A e.length b.c] 37)) [.int .i64 0, .int .i64 0, .int .i64 0, .int .i64 0] 54).alloc (.cells #[.int .i64 0, .int .i64 0, .int .i64 0, .int .i64 0] 54)
  simp only [World.size_alloc] at h1; rw [hW]; exact h1
 have HV : HasT W (w.heap.size + 1 + 1 + 1) 54 [.int .i64 0, .int .i64 0, .int .i64 0, .int .i64 0] := by
  have h1 := HasT.new (((w.alloc (.cells #[.slice ra.map.A (List.length r.map) ra.map.c, .int .i64 r.div, .int .i64 r.bx, .int .i64 r.by_, .int .i64 r.low, .int .i64 r.high, .slice ra.noise.A (List.length r.noise) ra.noise.c, .slice ra.limits.A (List.length r.limits) ra.limits.c] 39)).alloc (.cells #[.slice b.A e.length b.c] 37)).alloc (.cells #[.int .i64 0, .int .i64 0, .int .i64 0, .int .i64 0] 54)) [.int .i64 0, .int .i64 0, .int .i64 0, .int .i64 0] 54
  simp only [World.size_alloc] at h1; rw [hW]; exact h1
 have b0 : Below w.heap.size w W := by
  rw [hW]
  exact belA
 have hW' := Lib.hid hW
 clear hW
 obtain ⟨A, hA⟩ : ∃ A : Spot → Option Span, A = fun t => admit r e t := ⟨_, rfl⟩
 rw [← hA]
 have hok : ∀ t u, A t = some u → spanOk u = true := by intro t u h; rw [hA] at h; exact admit_spanOk h
 have hcA : ∀ t ∈ l, ∀ W, RoomSl W r ra → Sl 3 halfC W b.A e → Calls Tryz.prog 108 #[roomV r ra, regionV e b, spotV t] W fun x w' => x = .returned (optSpanV (A t)) ∧ Below W.heap.size W w' := by
  intro t ht W h1 h2; rw [hA]; exact iAdmit_c r e t ra b W hr he hle (hl t ht) h1 h2
 clear hA hr he hl
 go_enter Tryz.func81, Tryz.ntmps81
 go_upto_region 2 with fail
 rw [← hW'.out]
 clear hW'
 have zW := lt_of_heap HV
 go_wp2
 go_loopw [9, 10, 11, 12, 15] (fun _ _ _ _ i wr => ∃ k : Nat, k ≤ l.length ∧ i = .int .i64 k ∧ ∃ v : Span, accS A l k = some v ∧ HasT wr (w.heap.size + 1 + 1 + 1) 54 [.int .i64 v.low.n, .int .i64 v.low.d, .int .i64 v.high.n, .int .i64 v.high.d] ∧ HasT wr (w.heap.size + 1 + 1) 54 [.int .i64 0, .int .i64 0, .int .i64 0, .int .i64 0] ∧ HasT wr w.heap.size 39 [.slice ra.map.A (List.length r.map) ra.map.c, .int .i64 r.div, .int .i64 r.bx, .int .i64 r.by_, .int .i64 r.low, .int .i64 r.high, .slice ra.noise.A (List.length r.noise) ra.noise.c, .slice ra.limits.A (List.length r.limits) ra.limits.c] ∧ HasT wr (w.heap.size + 1) 37 [.slice b.A e.length b.c] ∧ Below w.heap.size w wr) (fun _ _ _ _ i _ => l.length - (intOf i).toNat)
 case atStart => exact ⟨0, Nat.zero_le _, rfl, span0, rfl, HV, HZ, HB, HE, b0⟩
 case round =>
  obtain ⟨k, hk, rfl, v, hv, TV, TZ, TB, TE, hbr⟩ := hrel
  have lTV := lt_of_heap TV
  by_cases hlt : k < l.length
  ·obtain ⟨bb, off, hLA, hblt, hc⟩ := (hsL.below hbr).at_ hlt
   have g0 := hc 0 _ rfl
   have g1 := hc 1 _ rfl
   have g2 := hc 2 _ rfl
   simp only [Nat.add_zero] at g0
   have htk := Lib.hid (accS_succ hv hlt)
   have hno := Lib.hid (fun h => accS_no (A := A) (l := l) (k := k + 1) (n := l.length) h (by omega))
   have hct := hcA _ (List.getElem_mem hlt)
   have hvv : k ≠ 0 → spanOk v = true := by
    intro h0
    obtain ⟨j, rfl⟩ : ∃ j, k = j + 1 := ⟨k - 1, by omega⟩
    cases hj : accS A l j with
    | none => rw [accS, hj] at hv; cases hv
    | some x =>
     rw [accS_succ hj (by omega)] at hv
     cases hx : A (l[j]'(by omega)) with
     | none => rw [hx] at hv; cases hv
     | some y =>
      rw [hx, Option.bind_some] at hv
      split at hv
      ·cases hv; exact hok _ _ hx
      ·exact meetSp_ok hv
   clear hc hv hcA
   have hokt := hok l[k]
   generalize l[k] = s at *
   have sR := (hsR.below hbr).below (below_al (Below.refl _ _) (.cells #[.int .i64 s.x, .int .i64 s.y, .int .i64 s.d] 57))
   have sE := (hsE.below hbr).below (below_al (Below.refl _ _) (.cells #[.int .i64 s.x, .int .i64 s.y, .int .i64 s.d] 57))
   have XV := TV.alloc (.cells #[.int .i64 s.x, .int .i64 s.y, .int .i64 s.d] 57)
   have XZ := TZ.alloc (.cells #[.int .i64 s.x, .int .i64 s.y, .int .i64 s.d] 57)
   have XB := TB.alloc (.cells #[.int .i64 s.x, .int .i64 s.y, .int .i64 s.d] 57)
   have XE := TE.alloc (.cells #[.int .i64 s.x, .int .i64 s.y, .int .i64 s.d] 57)
   have bx := below_al hbr (.cells #[.int .i64 s.x, .int .i64 s.y, .int .i64 s.d] 57)
   have XP := Has.new wr #[.int .i64 s.x, .int .i64 s.y, .int .i64 s.d] 57
   rw [hLA]
   go_upto_region 5 with fail
   clear g0 g1 g2 hblt TV TZ TB TE hbr
   generalize wr.alloc (.cells #[.int .i64 s.x, .int .i64 s.y, .int .i64 s.d] 57) = wx at *
   generalize wr.heap.size = gx at *
   obtain ⟨cXP_0, fXP_0⟩ := XP.2 0 _ rfl
   obtain ⟨cXP_1, fXP_1⟩ := XP.2 1 _ rfl
   obtain ⟨cXP_2, fXP_2⟩ := XP.2 2 _ rfl
   have lX := XP.1
   have HB_ := XB.has
   obtain ⟨cHB__0, fHB__0⟩ := HB_.2 0 _ rfl
   obtain ⟨cHB__1, fHB__1⟩ := HB_.2 1 _ rfl
   obtain ⟨cHB__2, fHB__2⟩ := HB_.2 2 _ rfl
   obtain ⟨cHB__3, fHB__3⟩ := HB_.2 3 _ rfl
   obtain ⟨cHB__4, fHB__4⟩ := HB_.2 4 _ rfl
   obtain ⟨cHB__5, fHB__5⟩ := HB_.2 5 _ rfl
   obtain ⟨cHB__6, fHB__6⟩ := HB_.2 6 _ rfl
   obtain ⟨cHB__7, fHB__7⟩ := HB_.2 7 _ rfl
   have lB := HB_.1
   have HE_ := XE.has
   obtain ⟨cHE__0, fHE__0⟩ := HE_.2 0 _ rfl
   have lE := HE_.1
   have kt := hct _ sR sE
   cases hadm : A s with
   | none =>
    rw [hadm] at kt htk
    simp only [optSpanV] at kt
    go_wp2_with (fail)
    refine kt.mono ?_
    rintro x wy ⟨rfl, hby⟩
    have YV := XV.below hby
    have YZ := XZ.below hby
    have YB := XB.below hby
    have YE := XE.below hby
    have by_ := below_tr bx hby
    have hF := Lib.hid (hno.out htk.out)
    have WZ := YZ.alloc (.cells #[.int .i64 span0.low.n, .int .i64 span0.low.d, .int .i64 span0.high.n, .int .i64 span0.high.d] 54)
    have bz := below_al by_ (.cells #[.int .i64 span0.low.n, .int .i64 span0.low.d, .int .i64 span0.high.n, .int .i64 span0.high.d] 54)
    have lz := lt_of_heap YZ
    go_upto_region 6 with fail
    clear kt XP cXP_0 cXP_1 cXP_2 fXP_0 fXP_1 fXP_2 lX HB_ cHB__0 fHB__0 cHB__1 fHB__1 cHB__2 fHB__2 cHB__3 fHB__3 cHB__4 fHB__4 cHB__5 fHB__5 cHB__6 fHB__6 cHB__7 fHB__7 lB HE_ cHE__0 fHE__0 lE XV XZ XB XE hct sR sE bx hby hadm
    generalize wy.alloc (.cells #[.int .i64 span0.low.n, .int .i64 span0.low.d, .int .i64 span0.high.n, .int .i64 span0.high.d] 54) = wz at *
    have HZZ := (WZ).has
    obtain ⟨cHZZ_0, fHZZ_0⟩ := HZZ.2 0 _ rfl
    obtain ⟨cHZZ_1, fHZZ_1⟩ := HZZ.2 1 _ rfl
    obtain ⟨cHZZ_2, fHZZ_2⟩ := HZZ.2 2 _ rfl
    obtain ⟨cHZZ_3, fHZZ_3⟩ := HZZ.2 3 _ rfl
    have lZZ := HZZ.1
    go_wp2
    refine bodyPost_ret (v := .tuple #[.agg #[.int .i64 0, .int .i64 0, .int .i64 0, .int .i64 0], .bool false]) (by simp [results, Tryz.results81, go_sem, *]) rfl ⟨by rw [hF.out]; rfl, ?_⟩
    exact below_cells4 bz (by omega) [_, _, _, _] 0
   | some u =>
    rw [hadm] at kt htk
    simp only [optSpanV] at kt
    go_wp2_with (fail)
    refine kt.mono ?_
    rintro x wy ⟨rfl, hby⟩
    have YV := XV.below hby
    have YZ := XZ.below hby
    have YB := XB.below hby
    have YE := XE.below hby
    have by_ := below_tr bx hby
    have hu := hokt _ hadm
    have WV := YV.alloc (.cells #[.int .i64 u.low.n, .int .i64 u.low.d, .int .i64 u.high.n, .int .i64 u.high.d] 54)
    have WZ := YZ.alloc (.cells #[.int .i64 u.low.n, .int .i64 u.low.d, .int .i64 u.high.n, .int .i64 u.high.d] 54)
    have WB := YB.alloc (.cells #[.int .i64 u.low.n, .int .i64 u.low.d, .int .i64 u.high.n, .int .i64 u.high.d] 54)
    have WE := YE.alloc (.cells #[.int .i64 u.low.n, .int .i64 u.low.d, .int .i64 u.high.n, .int .i64 u.high.d] 54)
    have WU := HasT.new wy [.int .i64 u.low.n, .int .i64 u.low.d, .int .i64 u.high.n, .int .i64 u.high.d] 54
    have bz := below_al by_ (.cells #[.int .i64 u.low.n, .int .i64 u.low.d, .int .i64 u.high.n, .int .i64 u.high.d] 54)
    have lgy : w.heap.size + 1 + 1 + 1 < wy.heap.size := lt_of_heap YV
    go_upto_region 6 with fail
    clear kt XP cXP_0 cXP_1 cXP_2 fXP_0 fXP_1 fXP_2 lX HB_ cHB__0 fHB__0 cHB__1 fHB__1 cHB__2 fHB__2 cHB__3 fHB__3 cHB__4 fHB__4 cHB__5 fHB__5 cHB__6 fHB__6 cHB__7 fHB__7 lB HE_ cHE__0 fHE__0 lE XV XZ XB XE hct sR sE bx hby hadm
    generalize wy.alloc (.cells #[.int .i64 u.low.n, .int .i64 u.low.d, .int .i64 u.high.n, .int .i64 u.high.d] 54) = wz at *
    generalize wy.heap.size = gu at *
    have lwz := lt_of_heap WU
    have HU := WU.has
    obtain ⟨cHU_0, fHU_0⟩ := HU.2 0 _ rfl
    obtain ⟨cHU_1, fHU_1⟩ := HU.2 1 _ rfl
    obtain ⟨cHU_2, fHU_2⟩ := HU.2 2 _ rfl
    obtain ⟨cHU_3, fHU_3⟩ := HU.2 3 _ rfl
    have lU := HU.1
    have HV_ := WV.has
    obtain ⟨cHV__0, fHV__0⟩ := HV_.2 0 _ rfl
    obtain ⟨cHV__1, fHV__1⟩ := HV_.2 1 _ rfl
    obtain ⟨cHV__2, fHV__2⟩ := HV_.2 2 _ rfl
    obtain ⟨cHV__3, fHV__3⟩ := HV_.2 3 _ rfl
    have lV := HV_.1
    by_cases hk0 : k = 0
    ·subst hk0
     go_wp2
     go_roundw
     case rel => exact ⟨0 + 1, by omega, by go_num, u, htk.out, WV.store (us := [.int .i64 u.low.n, .int .i64 u.low.d, .int .i64 u.high.n, .int .i64 u.high.d]) rfl, WZ.other (by omega) [_, _, _, _] 0, WB.other (by omega) [_, _, _, _] 0, WE.other (by omega) [_, _, _, _] 0, below_cells4 bz (by omega) [_, _, _, _] 0⟩
     case measure => simp [intOf]; omega
    have hpos : (0 : Int) < (k : Int) := by omega
    have htk2 := Lib.hid (htk.out.trans ((Option.bind_some _ _).trans (if_neg hk0)))
    have km := fun W => iMeet2_c v u W (span_In (hvv hk0)) (span_In hu)
    have hgt : decide ((k : Int) > 0) = true := decide_eq_true hpos
    cases hm : meetSp v u with
    | none =>
     rw [hm] at km htk2
     simp only [optSpanV] at km
     go_wp2_with (fail)
     refine (km _).mono ?_
     rintro x w5 ⟨rfl, hb5⟩
     have VV := WV.below hb5
     have VZ := WZ.below hb5
     have VB := WB.below hb5
     have VE := WE.below hb5
     have VU := WU.below hb5
     have b5 := below_tr bz hb5
     have l5 := lt_of_heap VU
     have z5 := hb5.size
     clear HU cHU_0 cHU_1 cHU_2 cHU_3 fHU_0 fHU_1 fHU_2 fHU_3 lU HV_ cHV__0 cHV__1 cHV__2 cHV__3 fHV__0 fHV__1 fHV__2 fHV__3 lV
     have HU := VU.has
     obtain ⟨cHU_0, fHU_0⟩ := HU.2 0 _ rfl
     obtain ⟨cHU_1, fHU_1⟩ := HU.2 1 _ rfl
     obtain ⟨cHU_2, fHU_2⟩ := HU.2 2 _ rfl
     obtain ⟨cHU_3, fHU_3⟩ := HU.2 3 _ rfl
     have lU := HU.1
     have hF := Lib.hid (hno.out htk2.out)
     have UZ : HasT ((((w5.setCell ⟨gu, 0, none⟩ (.int .i64 span0.low.n)).setCell ⟨gu, 1, none⟩ (.int .i64 span0.low.d)).setCell ⟨gu, 2, none⟩ (.int .i64 span0.high.n)).setCell ⟨gu, 3, none⟩ (.int .i64 span0.high.d)) (w.heap.size + 1 + 1) 54 [.int .i64 0, .int .i64 0, .int .i64 0, .int .i64 0] := VZ.other (g' := gu) (by omega) [.int .i64 span0.low.n, .int .i64 span0.low.d, .int .i64 span0.high.n, .int .i64 span0.high.d] 0
     have b6 : Below w.heap.size w ((((w5.setCell ⟨gu, 0, none⟩ (.int .i64 span0.low.n)).setCell ⟨gu, 1, none⟩ (.int .i64 span0.low.d)).setCell ⟨gu, 2, none⟩ (.int .i64 span0.high.n)).setCell ⟨gu, 3, none⟩ (.int .i64 span0.high.d)) := below_cells4 b5 (g := gu) (by omega) [.int .i64 span0.low.n, .int .i64 span0.low.d, .int .i64 span0.high.n, .int .i64 span0.high.d] 0
     have z6 := lt_of_heap UZ
     go_upto_region 8 with fail
     generalize ((((w5.setCell ⟨gu, 0, none⟩ (.int .i64 span0.low.n)).setCell ⟨gu, 1, none⟩ (.int .i64 span0.low.d)).setCell ⟨gu, 2, none⟩ (.int .i64 span0.high.n)).setCell ⟨gu, 3, none⟩ (.int .i64 span0.high.d)) = w6 at *
     have HZZ := (UZ).has
     obtain ⟨cHZZ_0, fHZZ_0⟩ := HZZ.2 0 _ rfl
     obtain ⟨cHZZ_1, fHZZ_1⟩ := HZZ.2 1 _ rfl
     obtain ⟨cHZZ_2, fHZZ_2⟩ := HZZ.2 2 _ rfl
     obtain ⟨cHZZ_3, fHZZ_3⟩ := HZZ.2 3 _ rfl
     have lZZ := HZZ.1
     go_wp2
     refine bodyPost_ret (v := .tuple #[.agg #[.int .i64 0, .int .i64 0, .int .i64 0, .int .i64 0], .bool false]) (by simp [results, Tryz.results81, go_sem, *]) rfl ⟨by rw [hF.out]; rfl, ?_⟩
     exact below_cells4 b6 (by omega) [_, _, _, _] 0
    | some m =>
     rw [hm] at km htk2
     simp only [optSpanV] at km
     go_wp2_with (fail)
     refine (km _).mono ?_
     rintro x w5 ⟨rfl, hb5⟩
     have VV := WV.below hb5
     have VZ := WZ.below hb5
     have VB := WB.below hb5
     have VE := WE.below hb5
     have VU := WU.below hb5
     have b5 := below_tr bz hb5
     have l5 := lt_of_heap VU
     have z5 := hb5.size
     clear HU cHU_0 cHU_1 cHU_2 cHU_3 fHU_0 fHU_1 fHU_2 fHU_3 lU HV_ cHV__0 cHV__1 cHV__2 cHV__3 fHV__0 fHV__1 fHV__2 fHV__3 lV
     have HU := VU.has
     obtain ⟨cHU_0, fHU_0⟩ := HU.2 0 _ rfl
     obtain ⟨cHU_1, fHU_1⟩ := HU.2 1 _ rfl
     obtain ⟨cHU_2, fHU_2⟩ := HU.2 2 _ rfl
     obtain ⟨cHU_3, fHU_3⟩ := HU.2 3 _ rfl
     have lU := HU.1
     have UV : HasT ((((w5.setCell ⟨gu, 0, none⟩ (.int .i64 m.low.n)).setCell ⟨gu, 1, none⟩ (.int .i64 m.low.d)).setCell ⟨gu, 2, none⟩ (.int .i64 m.high.n)).setCell ⟨gu, 3, none⟩ (.int .i64 m.high.d)) (w.heap.size + 1 + 1 + 1) 54 [.int .i64 v.low.n, .int .i64 v.low.d, .int .i64 v.high.n, .int .i64 v.high.d] := VV.other (g' := gu) (by omega) [.int .i64 m.low.n, .int .i64 m.low.d, .int .i64 m.high.n, .int .i64 m.high.d] 0
     have UZ : HasT ((((w5.setCell ⟨gu, 0, none⟩ (.int .i64 m.low.n)).setCell ⟨gu, 1, none⟩ (.int .i64 m.low.d)).setCell ⟨gu, 2, none⟩ (.int .i64 m.high.n)).setCell ⟨gu, 3, none⟩ (.int .i64 m.high.d)) (w.heap.size + 1 + 1) 54 [.int .i64 0, .int .i64 0, .int .i64 0, .int .i64 0] := VZ.other (g' := gu) (by omega) [.int .i64 m.low.n, .int .i64 m.low.d, .int .i64 m.high.n, .int .i64 m.high.d] 0
     have UB : HasT ((((w5.setCell ⟨gu, 0, none⟩ (.int .i64 m.low.n)).setCell ⟨gu, 1, none⟩ (.int .i64 m.low.d)).setCell ⟨gu, 2, none⟩ (.int .i64 m.high.n)).setCell ⟨gu, 3, none⟩ (.int .i64 m.high.d)) w.heap.size 39 [.slice ra.map.A (List.length r.map) ra.map.c, .int .i64 r.div, .int .i64 r.bx, .int .i64 r.by_, .int .i64 r.low, .int .i64 r.high, .slice ra.noise.A (List.length r.noise) ra.noise.c, .slice ra.limits.A (List.length r.limits) ra.limits.c] := VB.other (g' := gu) (by omega) [.int .i64 m.low.n, .int .i64 m.low.d, .int .i64 m.high.n, .int .i64 m.high.d] 0
     have UE : HasT ((((w5.setCell ⟨gu, 0, none⟩ (.int .i64 m.low.n)).setCell ⟨gu, 1, none⟩ (.int .i64 m.low.d)).setCell ⟨gu, 2, none⟩ (.int .i64 m.high.n)).setCell ⟨gu, 3, none⟩ (.int .i64 m.high.d)) (w.heap.size + 1) 37 [.slice b.A e.length b.c] := VE.other (g' := gu) (by omega) [.int .i64 m.low.n, .int .i64 m.low.d, .int .i64 m.high.n, .int .i64 m.high.d] 0
     have UU : HasT ((((w5.setCell ⟨gu, 0, none⟩ (.int .i64 m.low.n)).setCell ⟨gu, 1, none⟩ (.int .i64 m.low.d)).setCell ⟨gu, 2, none⟩ (.int .i64 m.high.n)).setCell ⟨gu, 3, none⟩ (.int .i64 m.high.d)) gu 54 [.int .i64 m.low.n, .int .i64 m.low.d, .int .i64 m.high.n, .int .i64 m.high.d] := VU.store (us := [.int .i64 m.low.n, .int .i64 m.low.d, .int .i64 m.high.n, .int .i64 m.high.d]) rfl
     have b6 : Below w.heap.size w ((((w5.setCell ⟨gu, 0, none⟩ (.int .i64 m.low.n)).setCell ⟨gu, 1, none⟩ (.int .i64 m.low.d)).setCell ⟨gu, 2, none⟩ (.int .i64 m.high.n)).setCell ⟨gu, 3, none⟩ (.int .i64 m.high.d)) := below_cells4 b5 (g := gu) (by omega) [.int .i64 m.low.n, .int .i64 m.low.d, .int .i64 m.high.n, .int .i64 m.high.d] 0
     go_upto_region 8 with fail
     generalize ((((w5.setCell ⟨gu, 0, none⟩ (.int .i64 m.low.n)).setCell ⟨gu, 1, none⟩ (.int .i64 m.low.d)).setCell ⟨gu, 2, none⟩ (.int .i64 m.high.n)).setCell ⟨gu, 3, none⟩ (.int .i64 m.high.d)) = w6 at *
     have HUU := UU.has
     obtain ⟨cHUU_0, fHUU_0⟩ := HUU.2 0 _ rfl
     obtain ⟨cHUU_1, fHUU_1⟩ := HUU.2 1 _ rfl
     obtain ⟨cHUU_2, fHUU_2⟩ := HUU.2 2 _ rfl
     obtain ⟨cHUU_3, fHUU_3⟩ := HUU.2 3 _ rfl
     have lUU := HUU.1
     have HUV := UV.has
     obtain ⟨cHUV_0, fHUV_0⟩ := HUV.2 0 _ rfl
     obtain ⟨cHUV_1, fHUV_1⟩ := HUV.2 1 _ rfl
     obtain ⟨cHUV_2, fHUV_2⟩ := HUV.2 2 _ rfl
     obtain ⟨cHUV_3, fHUV_3⟩ := HUV.2 3 _ rfl
     have lUV := HUV.1
     go_wp2
     go_roundw
     case rel => exact ⟨k + 1, by omega, by go_num, m, htk2.out, UV.store (us := [.int .i64 m.low.n, .int .i64 m.low.d, .int .i64 m.high.n, .int .i64 m.high.d]) rfl, UZ.other (by omega) [_, _, _, _] 0, UB.other (by omega) [_, _, _, _] 0, UE.other (by omega) [_, _, _, _] 0, below_cells4 b6 (by omega) [_, _, _, _] 0⟩
     case measure => simp [intOf]; omega
  ·obtain rfl : k = l.length := by omega
   have hF := Lib.hid hv
   clear hv
   have HV_ := TV.has
   obtain ⟨cHV__0, fHV__0⟩ := HV_.2 0 _ rfl
   obtain ⟨cHV__1, fHV__1⟩ := HV_.2 1 _ rfl
   obtain ⟨cHV__2, fHV__2⟩ := HV_.2 2 _ rfl
   obtain ⟨cHV__3, fHV__3⟩ := HV_.2 3 _ rfl
   have lV := HV_.1
   have HZZ := (TZ).has
   obtain ⟨cHZZ_0, fHZZ_0⟩ := HZZ.2 0 _ rfl
   obtain ⟨cHZZ_1, fHZZ_1⟩ := HZZ.2 1 _ rfl
   obtain ⟨cHZZ_2, fHZZ_2⟩ := HZZ.2 2 _ rfl
   obtain ⟨cHZZ_3, fHZZ_3⟩ := HZZ.2 3 _ rfl
   have lZZ := HZZ.1
   go_wp2
   refine bodyPost_ret (v := .tuple #[.agg #[.int .i64 v.low.n, .int .i64 v.low.d, .int .i64 v.high.n, .int .i64 v.high.d], .bool true]) (by simp [results, Tryz.results81, go_sem, *]) rfl ⟨by rw [hF.out]; rfl, ?_⟩
   exact below_cells4 hbr (by omega) [_, _, _, _] 0
end Go.Proofs.YtdncnhcffbgjhaaGreat
