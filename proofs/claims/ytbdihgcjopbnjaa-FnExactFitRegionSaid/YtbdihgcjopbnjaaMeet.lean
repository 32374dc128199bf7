/-
  The region of half planes, of the program.
  Conditions: valid half planes; the slice holds at most 2^20 elements less a few.
-/
import Derived.Test.YtbdihgcjopbnjaaCat
import Derived.Test.YtbdihgcjopbnjaaSor
import Derived.Test.YtbdihgcjopbnjaaEdgS
namespace Go.Proofs.Ytbdihgcjopbnjaa
open Go.RowKit

def meetOk (l : List Half) : Bool := decide ((meetI l).length ≤ 40)
def meetR (l : List Half) : List Half := if meetOk l = true then meetI l else []
/-- The region of the points of the frame in all half planes. -/
def meetL (hs : List Half) : List Half := gtight (gframe ++ hs)
theorem gframe_ok : ∀ h ∈ gframe, halfOk h = true := by decide
theorem frame_all {hs : List Half} (hok : ∀ h ∈ hs, halfOk h = true) : ∀ h ∈ gframe ++ hs, halfOk h = true := by
  intro h hh
  rcases List.mem_append.1 hh with h1 | h1
  · exact gframe_ok h h1
  · exact hok h h1
theorem meetL_good {hs : List Half} (hok : ∀ h ∈ hs, halfOk h = true) : GGood (meetL hs) :=
  good_tight (fun h hh => (hOk (frame_all hok h hh)).n) (fun _ hh => List.mem_append_left _ hh)
theorem meetL_ok {hs : List Half} (hok : ∀ h ∈ hs, halfOk h = true) : ∀ h ∈ meetL hs, halfOk h = true := gtight_ok (frame_all hok)
theorem meetL_len (hs : List Half) : (meetL hs).length ≤ hs.length + 4 := by
  have := tight_len (gframe ++ hs)
  simp only [List.length_append] at this
  have e : gframe.length = 4 := rfl
  unfold meetL; omega
theorem meetI_void {l : List Half} {k : Nat} (hk : k < l.length) (h : voidIn l k = true) : meetI l = [] := by
  unfold meetI; rw [if_pos]
  unfold voidB; rw [List.any_eq_true]; exact ⟨k, List.mem_range.2 hk, h⟩
theorem meetI_full {l : List Half} (h : ∀ k, k < l.length → voidIn l k = false) : meetI l = l.filter (gedge l) := by
  unfold meetI; rw [if_neg]
  unfold voidB
  rw [Bool.not_eq_true, List.any_eq_false]
  intro k hk; rw [h k (List.mem_range.1 hk)]; decide
theorem filter_step {l : List Half} {p : Half → Bool} {k : Nat} (hk : k < l.length) : (l.take (k + 1)).filter p = (l.take k).filter p ++ (if p (l.getD k half0) = true then [l.getD k half0] else []) := by
  rw [take_succ' l k hk, List.filter_append, half0_get hk]
  by_cases h : p l[k] = true
  · rw [if_pos h]; simp [h]
  · rw [if_neg h]; simp [h]

theorem Has.keepB {B g : Nat} {w w' : World} {vs : List Value} (h : Has w g vs) (hb : Below B w w') (hg : g < B) : Has w' g vs :=
  ⟨Nat.lt_of_lt_of_le h.1 hb.size, fun j v hj => ⟨((bcell hb).1 g j hg).trans (h.2 j v hj).1, ((bcell hb).2 g j hg).trans (h.2 j v hj).2⟩⟩
theorem Sl.keepB {α : Type} {sz B : Nat} {enc : α → List Value} {w w' : World} {A : Option Addr} {xs : List α} (h : Sl sz enc w A xs) (hb : Below B w w') (hA : ∀ b off, A = some ⟨b, off, none⟩ → b < B) : Sl sz enc w' A xs :=
  h.keep hb.size hA (fun _ hp => hb.cell hp)
theorem Sl.blt {α : Type} {sz : Nat} {enc : α → List Value} {w : World} {A : Option Addr} {xs : List α} (h : Sl sz enc w A xs) (h0 : 0 < xs.length) : ∀ b off, A = some ⟨b, off, none⟩ → b < w.heap.size := by
  intro b off e
  obtain ⟨b', off', e', hl, _⟩ := h h0
  rw [e] at e'
  cases e'
  exact hl
theorem New.set_ {α : Type} {T sz base : Nat} {enc : α → List Value} {w : World} {v : Value} {xs : List α} (h : New T sz enc w base v xs) {p : Addr} (hp : p.block < base) (u : Value) : New T sz enc (w.setCell p u) base v xs := by
  obtain ⟨A, cap, rfl, h1, h2⟩ := h
  refine ⟨A, cap, rfl, h1, ?_⟩
  rcases h2 with h2 | ⟨g, cap', cur, hv, hg, hh, r⟩
  · exact .inl h2
  · exact .inr ⟨g, cap', cur, hv, hg, (heap_setCell_other w p g u (by omega)).trans hh, r⟩

theorem iFrame_c (w : World) : Calls Try.prog 166 #[] w fun e w' => e = .returned (.slice (some ⟨w.heap.size, 0, none⟩) 4 4) ∧ w' = w.alloc (.cells #[.int .i64 1, .int .i64 0, .int .i64 1000, .int .i64 0, .int .i64 1, .int .i64 1000, .int .i64 (-1), .int .i64 0, .int .i64 1000, .int .i64 0, .int .i64 (-1), .int .i64 1000] 177) := by
  go_enter Try.func166, Try.ntmps166
  go_wp2
  go_ret
  exact ⟨rfl, rfl⟩
theorem sFrame_c (w : World) : Calls Try.prog 178 #[] w fun e w' => e = .returned (.slice (some ⟨w.heap.size, 0, none⟩) 4 4) ∧ w' = w.alloc (.cells #[.int .i64 1, .int .i64 0, .int .i64 1000, .int .i64 0, .int .i64 1, .int .i64 1000, .int .i64 (-1), .int .i64 0, .int .i64 1000, .int .i64 0, .int .i64 (-1), .int .i64 1000] 177) := by
  go_enter Try.func178, Try.ntmps178
  go_wp2
  go_ret
  exact ⟨rfl, rfl⟩
theorem frame_sl (w : World) : Sl 3 halfC (w.alloc (.cells #[.int .i64 1, .int .i64 0, .int .i64 1000, .int .i64 0, .int .i64 1, .int .i64 1000, .int .i64 (-1), .int .i64 0, .int .i64 1000, .int .i64 0, .int .i64 (-1), .int .i64 1000] 177)) (some ⟨w.heap.size, 0, none⟩) gframe := sl_new halfC_len w gframe _ rfl
set_option maxRecDepth 100000 in
set_option maxHeartbeats 8000000 in
theorem iMeet_c (A : Option Addr) (hs : List Half) (cap : Nat) (w : World) (hl : hs.length ≤ 1000000) (hok : ∀ h ∈ hs, halfOk h = true) (hsl : Sl 3 halfC w A hs) (hnil : A = none → cap = 0) :
    Calls Try.prog 113 #[.slice A hs.length cap] w fun e w' => ∃ v, e = .returned (.tuple #[.agg #[v], .bool (meetOk (meetL hs))]) ∧ New 177 3 halfC w' w.heap.size v (meetR (meetL hs)) ∧ Below w.heap.size w w' := by
  obtain ⟨i0, hi0, hz0, hz1, hz2⟩ := info_parts (show (Try.prog.info? 177).map (fun i => (i.zero, i.size, i.bytes)) = some (some (.agg #[.int .i64 0, .int .i64 0, .int .i64 0]), 3, 24) by kernel_rfl)
  have hall := frame_all hok
  have hLok := meetL_ok hok
  have hLlen := meetL_len hs
  have hfl : (gframe ++ hs).length = 4 + hs.length := by simp [gframe]; omega
  obtain ⟨FH, hFH⟩ : ∃ FH, FH = gframe ++ hs := ⟨_, rfl⟩
  have hgt : gtight FH = meetL hs := by rw [hFH]; rfl
  rw [← hFH] at hall hfl
  have hfl2 : FH.length ≤ 1048576 := by omega
  clear hfl
  have hvoid := Lib.hid (fun k => @meetI_void (meetL hs) k)
  have hfull := Lib.hid (@meetI_full (meetL hs))
  have hfs := Lib.hid (fun k => @filter_step (meetL hs) (gedge (meetL hs)) k)
  have hdef := Lib.hid (show meetOk (meetL hs) = decide ((meetI (meetL hs)).length ≤ 40) ∧ meetR (meetL hs) = if meetOk (meetL hs) = true then meetI (meetL hs) else [] from ⟨rfl, rfl⟩)
  have c1 := fun W B c h => iTightest_c B FH c W (by omega) hall h
  rw [hgt] at c1
  have HE := Lib.hid (fun h hh => hOk (hLok h hh))
  clear hall hLok hgt
  generalize meetL hs = L at *
  have H0 : Has (w.alloc (.cells #[.slice none 0 0] 76)) w.heap.size [.slice none 0 0] := by
    repeat (first | ((with_reducible refine Has.new_at ?_ _ _ rfl); (first | rfl | (focus (simp; done)))) | (with_reducible refine Has.set_ ?_ ?_ _) | (with_reducible refine Has.alloc ?_ _) | (with_reducible refine Has.below ?_ (by assumption)) | (focus (simp; done)) | (focus (simp; omega)))
  go_enter Try.func113, Try.ntmps113
  go_wp2_with (fail)
  refine (iFrame_c _).mono ?_
  rintro e w1 ⟨rfl, hw1⟩
  have hF := frame_sl (w.alloc (.cells #[.slice none 0 0] 76))
  rw [World.size_alloc] at hF
  have b1 : Below w.heap.size w ((w.alloc (.cells #[.slice none 0 0] 76)).alloc (.cells #[.int .i64 1, .int .i64 0, .int .i64 1000, .int .i64 0, .int .i64 1, .int .i64 1000, .int .i64 (-1), .int .i64 0, .int .i64 1000, .int .i64 0, .int .i64 (-1), .int .i64 1000] 177)) := by
    repeat (first | (with_reducible exact Below.refl _ _) | (with_reducible assumption) | (with_reducible refine below_al ?_ _) | (with_reducible refine Below.drew ?_) | (with_reducible refine below_drewN ?_ _) | (with_reducible refine below_st ?_ ?_ _) | (with_reducible refine below_tr ?_ (by assumption)) | (with_reducible exact Nat.le_refl _) | (focus (simp; done)) | (focus (simp; omega)))
  rw [← hw1] at hF b1
  have H1 := H0.alloc (.cells #[.int .i64 1, .int .i64 0, .int .i64 1000, .int .i64 0, .int .i64 1, .int .i64 1000, .int .i64 (-1), .int .i64 0, .int .i64 1000, .int .i64 0, .int .i64 (-1), .int .i64 1000] 177)
  rw [← hw1] at H1
  clear hw1 H0
  have HV := Has.new w1 #[.slice (some ⟨w.heap.size + 1, 0, none⟩) 4 4, .slice A hs.length cap] 74
  have H2 := H1.alloc (.cells #[.slice (some ⟨w.heap.size + 1, 0, none⟩) 4 4, .slice A hs.length cap] 74)
  have hF2 := hF.alloc (.cells #[.slice (some ⟨w.heap.size + 1, 0, none⟩) 4 4, .slice A hs.length cap] 74)
  have hS2 := (hsl.below b1).alloc (.cells #[.slice (some ⟨w.heap.size + 1, 0, none⟩) 4 4, .slice A hs.length cap] 74)
  have b2 := below_al b1 (.cells #[.slice (some ⟨w.heap.size + 1, 0, none⟩) 4 4, .slice A hs.length cap] 74)
  have cc := concat_c (some ⟨w.heap.size + 1, 0, none⟩) A gframe hs 4 cap w1.heap.size _ (by decide) (by decide) (by omega) hF2 hS2 hnil HV
  rw [← hFH] at cc
  clear hFH
  simp only [World.size_alloc]
  go_wp2_with (fail)
  refine cc.mono ?_
  rintro e w2 ⟨v2, rfl, N2, hb2⟩
  have H3 := H2.below hb2
  have b3 := below_tr b2 hb2
  obtain ⟨A2, k2, rfl, hA2⟩ := N2.sl halfC_len
  clear cc HV hF2 hS2 H2 b2 H1 b1 hF N2
  go_wp2_with (fail)
  refine (c1 _ _ _ hA2).mono ?_
  rintro e w3 ⟨v3, rfl, N3, hb3⟩
  have H4 := H3.below hb3
  have b4 := below_tr b3 hb3
  obtain ⟨A3, k3, rfl, hA3⟩ := N3.sl halfC_len
  clear c1 H3 b3 N3 hA2 hb2 hb3
  have hS5 := hA3.alloc (.cells #[.slice none 0 0] 76)
  have hBl := Lib.hid (fun (h0 : 0 < L.length) => hA3.blt h0)
  have H5 := H4.alloc (.cells #[.slice none 0 0] 76)
  have HP := Has.new w3 #[.slice none 0 0] 76
  have b5 := below_al b4 (.cells #[.slice none 0 0] 76)
  have hlt0 : w.heap.size < w3.heap.size := H4.1
  have hgw : w.heap.size ≤ w3.heap.size := b4.size
  go_upto_region 3 with fail
  generalize hW : w3.alloc (.cells #[.slice none 0 0] 76) = wb at *
  have hgb : w3.heap.size < wb.heap.size := by rw [← hW]; simp
  clear hW H4 b4 hA3
  generalize w3.heap.size = gp at *
  go_wp2
  go_loopw [3, 6, 7, 8, 9, 17] (fun v3 _ _ _ _ i wr => ∃ (k : Nat) (vp : Value), k ≤ L.length ∧ v3 = .bool false ∧ i = .int .i64 k ∧ Has wr gp [vp] ∧ New 177 3 halfC wr (gp + 1) vp ((L.take k).filter (gedge L)) ∧ Hid (∀ q, q < k → voidIn L q = false) ∧ Below gp wb wr) (fun _ _ _ _ _ i _ => L.length - (intOf i).toNat)
  case atStart => exact ⟨0, .slice none 0 0, Nat.zero_le _, rfl, rfl, HP, ⟨none, 0, rfl, by simp, .inl ⟨rfl, rfl⟩⟩, by simp [Hid], Below.refl _ _⟩
  case round =>
    obtain ⟨k, vp, hk, rfl, rfl, HPr, N, hvd, hbr⟩ := hrel
    have H0 := H5.keepB hbr hlt0
    have bw : Below w.heap.size w wr := b5.trans (hbr.mono hgw)
    have hgr : gp < wr.heap.size := HPr.1
    by_cases hlt : k < L.length
    · have hSr : Sl 3 halfC wr A3 L := hS5.keepB hbr (hBl.out (by omega))
      obtain ⟨b, off, hA, hblt, hc⟩ := hSr.at_ hlt
      have g0 := hc 0 _ rfl
      have g1 := hc 1 _ rfl
      have g2 := hc 2 _ rfl
      simp only [Nat.add_zero] at g0
      have hgk := half0_get hlt
      rw [← hgk] at g0 g1 g2
      have c2 := fun W h => iEdge_c A3 L k3 k W hlt (by omega) HE.out h
      have hv1 := Lib.hid (fun e => hvoid.out k hlt e)
      have hf1 := hfs.out k hlt
      have i1 : (k : Int) < (L.length : Int) := by omega
      have hvk := Lib.hid (fun (e : voidIn L k = false) => show ∀ q, q < k + 1 → voidIn L q = false from by
        intro q hq
        rcases Nat.lt_or_ge q k with h2 | h2
        · exact hvd.out q h2
        · obtain rfl : q = k := by omega
          exact e)
      have hfl2 : ((L.take k).filter (gedge L)).length ≤ 1073741823 := by
        have h1 := List.length_filter_le (gedge L) (L.take k)
        rw [List.length_take] at h1; omega
      clear hc hgk hvd
      subst hA
      generalize L.getD k half0 = h at *
      have HX := Has.new wr #[.int .i64 h.a, .int .i64 h.b, .int .i64 h.c] 177
      have hSx := hSr.alloc (.cells #[.int .i64 h.a, .int .i64 h.b, .int .i64 h.c] 177)
      have HPx := HPr.alloc (.cells #[.int .i64 h.a, .int .i64 h.b, .int .i64 h.c] 177)
      have H0x := H0.alloc (.cells #[.int .i64 h.a, .int .i64 h.b, .int .i64 h.c] 177)
      have Nx := N.alloc (.cells #[.int .i64 h.a, .int .i64 h.b, .int .i64 h.c] 177)
      have hbx := hbr.alloc (show gp ≤ wr.heap.size by omega) (.cells #[.int .i64 h.a, .int .i64 h.b, .int .i64 h.c] 177)
      have bwx := below_al bw (.cells #[.int .i64 h.a, .int .i64 h.b, .int .i64 h.c] 177)
      go_upto_region 6 with fail
      generalize hW : wr.alloc (.cells #[.int .i64 h.a, .int .i64 h.b, .int .i64 h.c] 177) = wa at *
      have hga : gp < wa.heap.size := HPx.1
      clear hW g0 g1 g2 hblt H0 HPr N hbr bw hSr
      generalize hgx : wr.heap.size = gx at *
      clear hgx
      cases hv : voidIn L k
      · rw [hv] at c2
        have hvk2 := Lib.hid (hvk.out hv)
        cases he : gedge L h
        · rw [he] at c2 hf1
          go_wp2_with (fail)
          refine (c2 _ hSx).mono ?_
          rintro e w4 ⟨rfl, hb4⟩
          go_wp2
          go_roundw
          case rel => exact ⟨k + 1, vp, by omega, rfl, by go_num, HPx.below hb4, by rw [hf1]; simpa using Nx.below hb4 (Nat.le_refl _), hvk2, hbx.trans (hb4.mono (by omega))⟩
          case measure => simp [intOf]; omega
        · rw [he] at c2 hf1
          go_wp2_with (fail)
          refine (c2 _ hSx).mono ?_
          rintro e w4 ⟨rfl, hb4⟩
          have hf2 := Lib.hid (show (L.take (k + 1)).filter (gedge L) = (L.take k).filter (gedge L) ++ [h] by rw [hf1]; rfl)
          have N4 := Nx.below hb4 (Nat.le_refl _)
          have HP4 := HPx.below hb4
          have HX4 := HX.below hb4
          have hbx4 : Below gp wb w4 := hbx.trans (hb4.mono (by omega))
          have lP4 := HP4.1
          have lX4 := HX4.1
          obtain ⟨Ap, cp, rfl, hrp⟩ := N4
          have N4 : New 177 3 halfC w4 (gp + 1) (.slice Ap ((L.take k).filter (gedge L)).length cp) ((L.take k).filter (gedge L)) := ⟨Ap, cp, rfl, hrp⟩
          clear hrp hf1 Nx HPx HX hbx bwx H0x hSx hb4 c2
          obtain ⟨cHP4_0, fHP4_0⟩ := HP4.2 0 _ rfl
          obtain ⟨cHX4_0, fHX4_0⟩ := HX4.2 0 _ rfl
          obtain ⟨cHX4_1, fHX4_1⟩ := HX4.2 1 _ rfl
          obtain ⟨cHX4_2, fHX4_2⟩ := HX4.2 2 _ rfl
          generalize (L.take k).filter (gedge L) = E at *
          go_wp2_with (at_builtin; refine wpList_app1 halfC_len _ rfl _ _ 74 rfl (gp + 1) i0 _ 24 Try.underlying74 hi0 hz0 hz1 hz2 rfl (by decide) rfl (N4.alloc _) _ 1 rfl h ?c1 (halfC_one h) (Below.refl _ _) (by simp; omega) hfl2 (by decide) ?_)
          case c1 =>
            intro q u hu
            rw [Addr.add_lit, Nat.zero_add]
            exact ((Has.new_at (by simp) #[.int .i64 h.a, .int .i64 h.b, .int .i64 h.c] _ rfl).2 q u hu).1
          · intro v5 w5 hn5 hb5
            have HP5 := (HP4.alloc (.cells #[.int .i64 h.a, .int .i64 h.b, .int .i64 h.c] 177)).keepB hb5 (Nat.lt_succ_self gp)
            have lP5 := HP5.1
            have hbx5 : Below gp wb w5 := (hbx4.alloc (by omega) (.cells #[.int .i64 h.a, .int .i64 h.b, .int .i64 h.c] 177)).trans (hb5.mono (Nat.le_succ gp))
            clear cHP4_0 fHP4_0 cHX4_0 cHX4_1 cHX4_2 fHX4_0 fHX4_1 fHX4_2 hb5
            obtain ⟨A5, c5, rfl, hr5⟩ := hn5
            have hl5 : (E ++ [h]).length = E.length + 1 := by simp
            have hn5 : New 177 3 halfC w5 (gp + 1) (.slice A5 (E.length + 1) c5) (E ++ [h]) := ⟨A5, c5, by rw [hl5], by rw [← hl5]; exact hr5⟩
            rw [hl5]
            clear hr5 hl5
            obtain ⟨cHP5_0, fHP5_0⟩ := HP5.2 0 _ rfl
            go_wp2
            go_roundw
            case rel => exact ⟨k + 1, _, by omega, rfl, by go_num, Has.stored HP5 [_] rfl, by rw [hf2.out]; exact hn5.set_ (Nat.lt_succ_self gp) _, hvk2, hbx5.setCell (p := ⟨gp, 0, none⟩) (Nat.le_refl _) _⟩
            case measure => simp [intOf]; omega
      · rw [hv] at c2
        have hmi := Lib.hid (hv1.out hv)
        have hd1 := Lib.hid (show meetOk L = true by rw [hdef.out.1, hmi.out]; rfl)
        have hd2 := Lib.hid (show meetR L = [] by rw [hdef.out.2, hmi.out]; split <;> rfl)
        go_wp2_with (fail)
        refine (c2 _ hSx).mono ?_
        rintro e w4 ⟨rfl, hb4⟩
        have H4 := H0x.below hb4
        have b4 := below_tr bwx hb4
        have l4 := H4.1
        clear hb4 H0x bwx HPx Nx HX hbx hSx c2
        obtain ⟨cH4_0, fH4_0⟩ := H4.2 0 _ rfl
        go_wp2
        refine bodyPost_ret (v := .tuple #[.agg #[.slice none 0 0], .bool true]) (by simp [results, Try.results113, go_sem, cH4_0]) rfl ⟨_, by rw [hd1.out], ?_, ?_⟩
        · rw [hd2.out]; exact ⟨none, 0, rfl, by simp, .inl ⟨rfl, rfl⟩⟩
        · exact b4.setCell (Nat.le_refl _) _
    · obtain rfl : k = L.length := by omega
      rw [List.take_length] at N
      have hmi := hfull.out hvd.out
      have hd0 := hdef.out.1
      have hd3 := hdef.out.2
      rw [hmi] at hd0 hd3
      obtain ⟨Ap, cp, rfl, hrp⟩ := N
      have N : New 177 3 halfC wr (gp + 1) (.slice Ap (L.filter (gedge L)).length cp) (L.filter (gedge L)) := ⟨Ap, cp, rfl, hrp⟩
      clear hrp hvd hmi hfs hfull hvoid HE hBl
      have l0 := H0.1
      obtain ⟨cH0_0, fH0_0⟩ := H0.2 0 _ rfl
      obtain ⟨cHPr_0, fHPr_0⟩ := HPr.2 0 _ rfl
      generalize L.filter (gedge L) = E at *
      by_cases hle : E.length ≤ 40
      · have hd1 := Lib.hid (show meetOk L = true by rw [hd0]; exact decide_eq_true hle)
        have hd2 := Lib.hid (show meetR L = E by rw [hd3, hd1.out]; rfl)
        have hle2 : (E.length : Int) ≤ 40 := by omega
        clear hd0 hd3 hdef
        go_wp2
        refine bodyPost_ret (v := .tuple #[.agg #[.slice Ap E.length cp], .bool true]) (by simp [results, Try.results113, go_sem, cH0_0]) rfl ⟨_, by rw [hd1.out], ?_, ?_⟩
        · rw [hd2.out]; exact (N.set_ (by simp only; omega) _).mono (by omega)
        · exact bw.setCell (Nat.le_refl _) _
      · have hd1 := Lib.hid (show meetOk L = false by rw [hd0]; exact decide_eq_false hle)
        have hd2 := Lib.hid (show meetR L = [] by rw [hd3, hd1.out]; rfl)
        have hle2 : (40 : Int) < (E.length : Int) := by omega
        clear hd0 hd3 hdef
        go_wp2
        refine bodyPost_ret (v := .tuple #[.agg #[.slice none 0 0], .bool false]) (by simp [results, Try.results113, go_sem, cH0_0]) rfl ⟨_, by rw [hd1.out], ?_, ?_⟩
        · rw [hd2.out]; exact ⟨none, 0, rfl, by simp, .inl ⟨rfl, rfl⟩⟩
        · exact bw.setCell (Nat.le_refl _) _
end Go.Proofs.Ytbdihgcjopbnjaa
