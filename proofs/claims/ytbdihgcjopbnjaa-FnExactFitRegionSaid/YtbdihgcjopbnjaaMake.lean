/-
  The region of half planes, of the reference: the same as the program's.
  Conditions: valid half planes; the slice holds at most 2^20 elements less a few.
-/
import Derived.Test.YtbdihgcjopbnjaaMeet
namespace Go.Proofs.Ytbdihgcjopbnjaa
open Go.RowKit

/-- Valid half planes of one direction that are equally tight are one. -/
theorem half_eq {g h : Half} (hg : halfOk g = true) (hh : halfOk h = true) (s : sameDir g h = true) (hc : g.c * hsz h = h.c * hsz g) : g = h := by
  obtain ⟨h1, h2⟩ := same_scale (hOk hg).n (hOk hh).n s
  have pg := hsz_pos (hOk hg).n
  have ph := hsz_pos (hOk hh).n
  have e1 := (halfOk_iff.1 hg).2.2.2.2
  have e2 := (halfOk_iff.1 hh).2.2.2.2
  rw [gcd3] at e1 e2
  have n1 := congrArg Int.natAbs h1
  have n2 := congrArg Int.natAbs h2
  have n3 := congrArg Int.natAbs hc
  rw [Int.natAbs_mul, Int.natAbs_mul] at n1 n2 n3
  have g1 : Nat.gcd (Nat.gcd (g.a.natAbs * (hsz h).natAbs) (g.b.natAbs * (hsz h).natAbs)) (g.c.natAbs * (hsz h).natAbs) = (hsz h).natAbs := by
    rw [Nat.gcd_mul_right, Nat.gcd_mul_right, e1, Nat.one_mul]
  have g2 : Nat.gcd (Nat.gcd (h.a.natAbs * (hsz g).natAbs) (h.b.natAbs * (hsz g).natAbs)) (h.c.natAbs * (hsz g).natAbs) = (hsz g).natAbs := by
    rw [Nat.gcd_mul_right, Nat.gcd_mul_right, e2, Nat.one_mul]
  rw [n1, n2, n3, g2] at g1
  have e : hsz g = hsz h := by omega
  rw [e] at h1 h2 hc
  have a1 := Int.eq_of_mul_eq_mul_right (by omega) h1
  have a2 := Int.eq_of_mul_eq_mul_right (by omega) h2
  have a3 := Int.eq_of_mul_eq_mul_right (by omega) hc
  cases g; cases h
  simp only at a1 a2 a3
  subst a1 a2 a3
  rfl
theorem gtight_sub {hs hs' : List Half} (hm : ∀ x, x ∈ hs ↔ x ∈ hs') (hok : ∀ h ∈ hs, halfOk h = true) : ∀ x ∈ gtight hs, x ∈ gtight hs' := by
  intro x hx
  have nz : ∀ h ∈ hs, HNz h := fun h hh => (hOk (hok h hh)).n
  have nz' : ∀ h ∈ hs', HNz h := fun h hh => nz h ((hm h).2 hh)
  have c := tight_canon nz
  have c' := tight_canon nz'
  have x1 := c.mem x hx
  obtain ⟨y, hy, cy⟩ := c'.cov x ((hm x).1 x1)
  have y1 := (hm y).2 (c'.mem y hy)
  obtain ⟨z, hz, cz⟩ := c.cov y y1
  have z1 := c.mem z hz
  have s : sameDir z x = true := same_trans (nz z z1) (nz y y1) cz.1 cy.1
  have e := c.sorted.same (fun h hh => nz h (c.mem h hh)) hz hx s
  subst e
  have := half_eq (hok y y1) (hok z z1) cy.1 (by have := cy.2; have := cz.2; omega)
  subst this
  exact hy
theorem gtight_same {hs hs' : List Half} (hm : ∀ x, x ∈ hs ↔ x ∈ hs') (hok : ∀ h ∈ hs, halfOk h = true) : gtight hs = gtight hs' := by
  have nz : ∀ h ∈ hs, HNz h := fun h hh => (hOk (hok h hh)).n
  exact gsorted_ext (tight_canon nz).sorted (tight_canon (fun h hh => nz h ((hm h).2 hh))).sorted (fun x => ⟨gtight_sub hm hok x, gtight_sub (fun y => (hm y).symm) (fun h hh => hok h ((hm h).2 hh)) x⟩)
theorem meetL_swap {hs : List Half} (hok : ∀ h ∈ hs, halfOk h = true) : gtight (hs ++ gframe) = meetL hs :=
  gtight_same (fun x => by simp only [List.mem_append]; exact Or.comm) (fun h hh => frame_all hok h (by simp only [List.mem_append] at hh ⊢; exact hh.symm))

set_option maxRecDepth 100000 in
set_option maxHeartbeats 4000000 in
theorem sMake_c (A : Option Addr) (hs : List Half) (cap : Nat) (w : World) (hl : hs.length ≤ 1000000) (hok : ∀ h ∈ hs, halfOk h = true) (hsl : Sl 3 halfC w A hs) (hnil : A = none → cap = 0) :
    Calls Try.prog 137 #[.slice A hs.length cap] w fun e w' => ∃ v, e = .returned (.agg #[v]) ∧ New 177 3 halfC w' w.heap.size v (meetI (meetL hs)) ∧ Below w.heap.size w w' := by
  obtain ⟨i0, hi0, hz0, hz1, hz2⟩ := info_parts (show (Try.prog.info? 177).map (fun i => (i.zero, i.size, i.bytes)) = some (some (.agg #[.int .i64 0, .int .i64 0, .int .i64 0]), 3, 24) by kernel_rfl)
  have hLok := meetL_ok hok
  have hLlen := meetL_len hs
  have hG := meet_same (meetL_good hok) hLok
  rw [← hG]
  obtain ⟨FH, hFH⟩ : ∃ FH, FH = hs ++ gframe := ⟨_, rfl⟩
  have hgt : gtight FH = meetL hs := by rw [hFH]; exact meetL_swap hok
  have hall : ∀ h ∈ FH, halfOk h = true := by
    intro h hh; rw [hFH] at hh
    exact frame_all hok h (by simp only [List.mem_append] at hh ⊢; exact hh.symm)
  have hfl2 : FH.length ≤ 1048576 := by rw [hFH]; simp [gframe]; omega
  have hfs := Lib.hid (fun k => @filter_step (meetL hs) (ges (meetL hs)) k)
  have hdef := Lib.hid (show meetS (meetL hs) = if ((meetL hs).filter (ges (meetL hs))).length < 3 then [] else (meetL hs).filter (ges (meetL hs)) from rfl)
  have c1 := fun W B c h => sSorted_c B FH c W hfl2 hall h
  rw [hgt] at c1
  have HE := Lib.hid (fun h hh => hOk (hLok h hh))
  clear hall hLok hgt hG
  generalize meetL hs = L at *
  have H0 : Has ((w.alloc (.cells #[.slice none 0 0] 76)).alloc (.cells #[] 177)) w.heap.size [.slice none 0 0] := by
    repeat (first | ((with_reducible refine Has.new_at ?_ _ _ rfl); (first | rfl | (focus (simp; done)))) | (with_reducible refine Has.set_ ?_ ?_ _) | (with_reducible refine Has.alloc ?_ _) | (with_reducible refine Has.below ?_ (by assumption)) | (focus (simp; done)) | (focus (simp; omega)))
  have b0 : Below w.heap.size w ((w.alloc (.cells #[.slice none 0 0] 76)).alloc (.cells #[] 177)) := by
    repeat (first | (with_reducible exact Below.refl _ _) | (with_reducible assumption) | (with_reducible refine below_al ?_ _) | (with_reducible refine Below.drew ?_) | (with_reducible refine below_drewN ?_ _) | (with_reducible refine below_st ?_ ?_ _) | (with_reducible refine below_tr ?_ (by assumption)) | (with_reducible exact Nat.le_refl _) | (focus (simp; done)) | (focus (simp; omega)))
  have N0 : New 177 3 halfC ((w.alloc (.cells #[.slice none 0 0] 76)).alloc (.cells #[] 177)) (w.heap.size + 1) (.slice (some ⟨w.heap.size + 1, 0, none⟩) 0 0) [] :=
    ⟨_, 0, rfl, by simp, .inr ⟨w.heap.size + 1, 0, #[], rfl, by simp, by have := heap_alloc_new (w.alloc (.cells #[.slice none 0 0] 76)) (.cells #[] 177); simpa using this, Nat.zero_le _, Nat.zero_le _, rfl, rfl⟩⟩
  have hS0 := hsl.below b0
  have hz30 : ([] : List Half).length + hs.length ≤ 1073741824 := by simp only [List.length_nil]; omega
  go_enter Try.func137, Try.ntmps137
  go_wp2_with (at_builtin; refine wpList_appS halfC_len _ rfl _ _ 74 rfl (w.heap.size + 1) i0 _ 24 Try.underlying74 hi0 hz0 hz1 hz2 rfl (by decide) rfl N0 A cap rfl hS0 hnil halfC_one (Below.refl _ _) (by simp) hz30 (by decide) ?_)
  intro v1 w1 N1 hb1
  have H1 := H0.keepB hb1 (Nat.lt_succ_self _)
  have b1 : Below w.heap.size w w1 := b0.trans (hb1.mono (Nat.le_succ _))
  obtain ⟨A1, k1, rfl, hr1⟩ := N1
  have N1 : New 177 3 halfC w1 (w.heap.size + 1) (.slice A1 hs.length k1) hs := ⟨A1, k1, rfl, hr1⟩
  have hsz1 : w.heap.size + 1 ≤ w1.heap.size := by have := hb1.size; simp at this; omega
  clear hr1 N0 H0 b0 hb1 hS0
  go_wp2_with (fail)
  refine (sFrame_c _).mono ?_
  rintro e w2 ⟨rfl, hw2⟩
  have hF := frame_sl w1
  have N2 := N1.alloc (.cells #[.int .i64 1, .int .i64 0, .int .i64 1000, .int .i64 0, .int .i64 1, .int .i64 1000, .int .i64 (-1), .int .i64 0, .int .i64 1000, .int .i64 0, .int .i64 (-1), .int .i64 1000] 177)
  have H2 := H1.alloc (.cells #[.int .i64 1, .int .i64 0, .int .i64 1000, .int .i64 0, .int .i64 1, .int .i64 1000, .int .i64 (-1), .int .i64 0, .int .i64 1000, .int .i64 0, .int .i64 (-1), .int .i64 1000] 177)
  have b2 := below_al b1 (.cells #[.int .i64 1, .int .i64 0, .int .i64 1000, .int .i64 0, .int .i64 1, .int .i64 1000, .int .i64 (-1), .int .i64 0, .int .i64 1000, .int .i64 0, .int .i64 (-1), .int .i64 1000] 177)
  have hsz2 : w.heap.size + 1 ≤ (w1.alloc (.cells #[.int .i64 1, .int .i64 0, .int .i64 1000, .int .i64 0, .int .i64 1, .int .i64 1000, .int .i64 (-1), .int .i64 0, .int .i64 1000, .int .i64 0, .int .i64 (-1), .int .i64 1000] 177)).heap.size := by simp only [World.size_alloc]; omega
  rw [← hw2] at hF N2 H2 b2 hsz2
  clear hw2 N1 H1 b1 hsz1
  generalize w1.heap.size = g1 at *
  have hl4 : hs.length + gframe.length ≤ 1073741824 := by simp [gframe]; omega
  go_wp2_with (at_builtin; refine wpList_appS halfC_len _ rfl _ _ 74 rfl (w.heap.size + 1) i0 _ 24 Try.underlying74 hi0 hz0 hz1 hz2 rfl (by decide) rfl N2 (some ⟨g1, 0, none⟩) 4 rfl hF (fun e => by cases e) halfC_one (Below.refl _ _) hsz2 hl4 (by decide) ?_)
  intro v3 w3 N3 hb3
  have H3 := H2.keepB hb3 (Nat.lt_succ_self _)
  have b3 : Below w.heap.size w w3 := b2.trans (hb3.mono (Nat.le_succ _))
  rw [← hFH] at N3
  obtain ⟨A3, k3, rfl, hA3⟩ := N3.sl halfC_len
  clear N3 N2 H2 b2 hsz2 hF hb3 hl4 hFH
  go_wp2_with (fail)
  refine (c1 _ _ _ hA3).mono ?_
  rintro e w4 ⟨v4, rfl, N4, hb4⟩
  have H4 := H3.below hb4
  have b4 := below_tr b3 hb4
  obtain ⟨A4, k4, rfl, hA4⟩ := N4.sl halfC_len
  clear c1 N4 H3 b3 hA3 hb4
  have hBl := Lib.hid (fun (h0 : 0 < L.length) => hA4.blt h0)
  have hS5 := hA4.alloc (.cells #[] 177)
  have hlt0 : w.heap.size < w4.heap.size := H4.1
  have H5 := H4.alloc (.cells #[] 177)
  have b5 := below_al b4 (.cells #[] 177)
  have N5 : New 177 3 halfC (w4.alloc (.cells #[] 177)) w4.heap.size (.slice (some ⟨w4.heap.size, 0, none⟩) 0 0) [] :=
    ⟨_, 0, rfl, by simp, .inr ⟨w4.heap.size, 0, #[], rfl, Nat.le_refl _, heap_alloc_new w4 _, Nat.zero_le _, Nat.zero_le _, rfl, rfl⟩⟩
  have hgw : w.heap.size ≤ w4.heap.size := b4.size
  have hgb : w4.heap.size ≤ (w4.alloc (.cells #[] 177)).heap.size := by simp
  go_upto_region 3 with fail
  generalize hW : w4.alloc (.cells #[] 177) = wb at *
  clear hW H4 b4 hA4
  generalize w4.heap.size = gp at *
  go_wp2
  go_loopw [4, 5, 6, 16] (fun v4 _ _ i wr => ∃ (k : Nat), k ≤ L.length ∧ i = .int .i64 k ∧ New 177 3 halfC wr gp v4 ((L.take k).filter (ges L)) ∧ Below gp wb wr) (fun _ _ _ i _ => L.length - (intOf i).toNat)
  case atStart => exact ⟨0, Nat.zero_le _, rfl, N5, Below.refl _ _⟩
  case round =>
    clear N5
    obtain ⟨k, hk, rfl, N, hbr⟩ := hrel
    have H0 := H5.keepB hbr hlt0
    have bw : Below w.heap.size w wr := b5.trans (hbr.mono hgw)
    have hgr : gp ≤ wr.heap.size := Nat.le_trans hgb hbr.size
    obtain ⟨Ap, cp, rfl, hrp⟩ := N
    have N : New 177 3 halfC wr gp (.slice Ap ((L.take k).filter (ges L)).length cp) ((L.take k).filter (ges L)) := ⟨Ap, cp, rfl, hrp⟩
    clear hrp
    by_cases hlt : k < L.length
    · have hSr : Sl 3 halfC wr A4 L := hS5.keepB hbr (hBl.out (by omega))
      obtain ⟨b, off, hA, hblt, hc⟩ := hSr.at_ hlt
      have g0 := hc 0 _ rfl
      have g1' := hc 1 _ rfl
      have g2 := hc 2 _ rfl
      simp only [Nat.add_zero] at g0
      have hgk := half0_get hlt
      rw [← hgk] at g0 g1' g2
      have c2 := fun W h => sEdge_c A4 L k4 k W hlt (by omega) HE.out h
      have hf1 := hfs.out k hlt
      have i1 : (k : Int) < (L.length : Int) := by omega
      have hfl3 : ((L.take k).filter (ges L)).length ≤ 1073741823 := by
        have h1 := List.length_filter_le (ges L) (L.take k)
        rw [List.length_take] at h1; omega
      clear hc hgk
      subst hA
      generalize L.getD k half0 = h at *
      have HX := Has.new wr #[.int .i64 h.a, .int .i64 h.b, .int .i64 h.c] 177
      have hSx := hSr.alloc (.cells #[.int .i64 h.a, .int .i64 h.b, .int .i64 h.c] 177)
      have Nx := N.alloc (.cells #[.int .i64 h.a, .int .i64 h.b, .int .i64 h.c] 177)
      have hbx := hbr.alloc hgr (.cells #[.int .i64 h.a, .int .i64 h.b, .int .i64 h.c] 177)
      go_upto_region 6 with fail
      generalize hW : wr.alloc (.cells #[.int .i64 h.a, .int .i64 h.b, .int .i64 h.c] 177) = wa at *
      have hga : gp ≤ wa.heap.size := by rw [← hW]; simp only [World.size_alloc]; omega
      clear hW g0 g1' g2 hblt H0 N hbr bw hSr
      generalize hgx : wr.heap.size = gx at *
      clear hgx
      generalize hE : (L.take k).filter (ges L) = E at *
      clear hE
      cases he : ges L h
      · rw [he] at c2 hf1
        have hf2 := Lib.hid (show (L.take (k + 1)).filter (ges L) = E by rw [hf1]; simp)
        clear hf1
        go_wp2_with (fail)
        refine (c2 _ hSx).mono ?_
        rintro e w5 ⟨rfl, hb5⟩
        go_wp2
        go_roundw
        case rel => exact ⟨k + 1, by omega, by go_num, by rw [hf2.out]; exact Nx.below hb5 (Nat.le_refl _), hbx.trans (hb5.mono hga)⟩
        case measure => simp [intOf]; omega
      · rw [he] at c2 hf1
        have hf2 := Lib.hid (show (L.take (k + 1)).filter (ges L) = E ++ [h] by rw [hf1]; rfl)
        clear hf1
        go_wp2_with (fail)
        refine (c2 _ hSx).mono ?_
        rintro e w5 ⟨rfl, hb5⟩
        have N5 := Nx.below hb5 (Nat.le_refl _)
        have HX5 := HX.below hb5
        have hbx5 : Below gp wb w5 := hbx.trans (hb5.mono hga)
        have lX5 := HX5.1
        have hg5 : gp ≤ w5.heap.size := Nat.le_trans hga hb5.size
        clear Nx HX hbx hSx hb5 c2
        obtain ⟨cHX5_0, fHX5_0⟩ := HX5.2 0 _ rfl
        obtain ⟨cHX5_1, fHX5_1⟩ := HX5.2 1 _ rfl
        obtain ⟨cHX5_2, fHX5_2⟩ := HX5.2 2 _ rfl
        go_wp2_with (at_builtin; refine wpList_app1 halfC_len _ rfl _ _ 74 rfl gp i0 _ 24 Try.underlying74 hi0 hz0 hz1 hz2 rfl (by decide) rfl (N5.alloc _) _ 1 rfl h ?c1 (halfC_one h) (hbx5.alloc hg5 _) (by simp; omega) hfl3 (by decide) ?_)
        case c1 =>
          intro q u hu
          rw [Addr.add_lit, Nat.zero_add]
          exact ((Has.new_at (by simp) #[.int .i64 h.a, .int .i64 h.b, .int .i64 h.c] _ rfl).2 q u hu).1
        · intro v6 w6 hn6 hb6
          go_wp2
          go_roundw
          case rel => exact ⟨k + 1, by omega, by go_num, by rw [hf2.out]; exact hn6, hb6⟩
          case measure => simp [intOf]; omega
    · obtain rfl : k = L.length := by omega
      rw [List.take_length] at N ⊢
      have hd0 := hdef.out
      have l0 := H0.1
      clear hfs HE hBl
      obtain ⟨cH0_0, fH0_0⟩ := H0.2 0 _ rfl
      generalize L.filter (ges L) = E at *
      by_cases hle : E.length < 3
      · have hd1 := Lib.hid (show meetS L = [] by rw [hd0, if_pos hle])
        have hle2 : (E.length : Int) < 3 := by omega
        clear hd0 hdef
        go_wp2
        refine bodyPost_ret (v := .agg #[.slice none 0 0]) (by simp [results, Try.results137, go_sem, cH0_0]) rfl ⟨_, rfl, ?_, ?_⟩
        · rw [hd1.out]; exact ⟨none, 0, rfl, by simp, .inl ⟨rfl, rfl⟩⟩
        · exact bw.setCell (Nat.le_refl _) _
      · have hd1 := Lib.hid (show meetS L = E by rw [hd0, if_neg hle])
        have hle2 : (3 : Int) ≤ (E.length : Int) := by omega
        clear hd0 hdef
        go_wp2
        refine bodyPost_ret (v := .agg #[.slice Ap E.length cp]) (by simp [results, Try.results137, go_sem, cH0_0]) rfl ⟨_, rfl, ?_, ?_⟩
        · rw [hd1.out]; exact (N.set_ hlt0 _).mono hgw
        · exact bw.setCell (Nat.le_refl _) _
end Go.Proofs.Ytbdihgcjopbnjaa
