/-
 ErodeRegion of the reference.
 Conditions: valid regions.
-/
import Derived.Test.YtdncnhcffbgjhaaGreatEro
namespace Go.Proofs.YtdncnhcffbgjhaaGreat
open Go.RowKit
set_option maxRecDepth 100000 in
set_option maxHeartbeats 8000000 in
theorem sErode_c (p q : List Half) (a b : SlA) (w : World) (hp : regionOk p = true) (hq : regionOk q = true) (hne : q ≠ []) (hsp : Sl 3 halfC w a.A p) (hsl : Sl 3 halfC w b.A q) (hna : a.A = none → a.c = 0) (hnb : b.A = none → b.c = 0) :
  Calls Tryz.prog 126 #[regionV p a, regionV q b] w fun e w' => ∃ v, e = .returned (.tuple #[.agg #[v], .bool (movOk (eroH q) p)]) ∧ New 111 3 halfC w' w.heap.size v (movR (eroH q) p) ∧ Below w.heap.size w w' := by
 obtain ⟨i0, hi0, hz0, hz1, hz2⟩ := info_parts (show (Tryz.prog.info? 111).map (fun i => (i.zero, i.size, i.bytes)) = some (some (.agg #[.int .i64 0, .int .i64 0, .int .i64 0]), 3, 24) by kernel_rfl)
 obtain ⟨A, cap⟩ := a
 simp only at hsp hna
 have hlp := reg_len hp
 have hlq := reg_len hq
 have hok := Lib.hid (reg_ok hp)
 have hgok := Lib.hid (fun h (_ : h ∈ p) g (e : eroH q h = some g) => eroH_ok e)
 have k1 := fun W h => sRegionOk_c p ⟨A, cap⟩ W (by omega) (fun h hh => hIn (hOk (reg_ok hp h hh))) h hna
 have k2 := fun W h => sRegionOk_c q b W (by omega) (fun h hh => hIn (hOk (reg_ok hq h hh))) h hnb
 have k3 := fun W => sIsVoid_c q b W
 rw [hp] at k1
 rw [hq] at k2
 rw [decide_eq_false (show ¬ q.length = 0 from fun e => hne (List.length_eq_zero_iff.1 e))] at k3
 obtain ⟨W, hW⟩ : ∃ W, W = ((w.alloc (.cells #[.slice A p.length cap] 37)).alloc (.cells #[.slice b.A q.length b.c] 37)).alloc (.cells #[.slice none 0 0] 37) := ⟨_, rfl⟩
 have HA : Has W w.heap.size [.slice A p.length cap] := by rw [hW]; exact hasA
 have HB : Has W (w.heap.size + 1) [.slice b.A q.length b.c] := by rw [hW]; exact hasA
 have HR : Has W (w.heap.size + 1 + 1) [.slice none 0 0] := by rw [hW]; exact hasA
 have b0 : Below w.heap.size w W := by rw [hW]; exact belA
 have zW : w.heap.size + 1 + 1 < W.heap.size := HR.1
 have sp := hsp.below b0
 have sq := hsl.below b0
 have hW' := Lib.hid hW
 clear hW hsp hsl hp
 obtain ⟨cHA_0, fHA_0⟩ := HA.2 0 _ rfl
 obtain ⟨cHB_0, fHB_0⟩ := HB.2 0 _ rfl
 have lA := HA.1
 have lB := HB.1
 go_enter Tryz.func126, Tryz.ntmps126
 go_upto_region 1 with fail
 rw [← hW'.out]
 clear hW'
 go_wp2_with (fail)
 refine (k1 _ sp).mono ?_
 rintro e w3 ⟨rfl, hb_w3⟩
 have r_w3 := bcell1 hb_w3
 have l_w3_0 : w.heap.size < w3.heap.size := blt hb_w3 (by first | (simp; done) | (simp; omega) | omega)
 have l_w3_1 : w.heap.size + 1 < w3.heap.size := blt hb_w3 (by first | (simp; done) | (simp; omega) | omega)
 go_wp2_with (fail)
 refine (k2 _ (sq.below (by exact belA))).mono ?_
 rintro e w4 ⟨rfl, hb_w4⟩
 have r_w4 := bcell1 hb_w4
 have l_w4_0 : w.heap.size < w4.heap.size := blt hb_w4 (by first | (simp; done) | (simp; omega) | omega)
 have l_w4_1 : w.heap.size + 1 < w4.heap.size := blt hb_w4 (by first | (simp; done) | (simp; omega) | omega)
 go_wp2_with (fail)
 refine (k3 _).mono ?_
 rintro e w5 ⟨rfl, hb_w5⟩
 have r_w5 := bcell1 hb_w5
 have l_w5_0 : w.heap.size < w5.heap.size := blt hb_w5 (by first | (simp; done) | (simp; omega) | omega)
 have l_w5_1 : w.heap.size + 1 < w5.heap.size := blt hb_w5 (by first | (simp; done) | (simp; omega) | omega)
 have bb := below_tr (below_tr hb_w3 hb_w4) hb_w5
 have A5 := HA.below bb
 have B5 := HB.below bb
 have R5 := HR.below bb
 have P5 := sp.below bb
 have Q5 := sq.below bb
 have b5 := b0.trans (bb.mono b0.size)
 have z5 : w.heap.size + 1 + 1 < w5.heap.size := Nat.lt_of_lt_of_le zW bb.size
 clear HA HB HR sp sq b0 zW bb hb_w3 hb_w4 hb_w5 r_w3 r_w4 r_w5 l_w3_0 l_w3_1 l_w4_0 l_w4_1 l_w5_0 l_w5_1 cHA_0 fHA_0 cHB_0 fHB_0 lA lB k1 k2 k3
 have N6 : New 111 3 halfC (w5.alloc (.cells #[] 111)) w5.heap.size (.slice (some ⟨w5.heap.size, 0, none⟩) 0 0) ([] : List Half) := New.mk0 w5
 have b6 := below_al (Below.refl w5.heap.size w5) (.cells #[] 111)
 go_upto_region 4 with fail
 generalize w5.alloc (.cells #[] 111) = w6 at *
 have A6 := A5.below b6
 obtain ⟨cA6_0, fA6_0⟩ := A6.2 0 _ rfl
 have lA := A6.1
 go_wp2
 clear cA6_0 fA6_0 lA A6
 go_loopw [6, 8, 9, 10, 11, 12, 13, 14, 32] (fun out _ _ _ _ _ _ _ i wr => ∃ k : Nat, k ≤ p.length ∧ i = .int .i64 k ∧ movAll (eroH q) (p.take k) = true ∧ New 111 3 halfC wr w5.heap.size out (movL (eroH q) (p.take k)) ∧ Below w5.heap.size w5 wr) (fun _ _ _ _ _ _ _ _ i _ => p.length - (intOf i).toNat)
 case atStart => exact ⟨0, Nat.zero_le _, rfl, rfl, N6, b6⟩
 case round =>
  obtain ⟨k, hk, rfl, hall, N, hbr⟩ := hrel
  by_cases hlt : k < p.length
  ·obtain ⟨bb, off, hA, hblt, hc⟩ := (P5.below hbr).at_ hlt
   have g0 := hc 0 _ rfl
   have g1 := hc 1 _ rfl
   have g2 := hc 2 _ rfl
   simp only [Nat.add_zero] at g0
   have hhk := hok.out _ (List.getElem_mem hlt)
   have E := eroB hhk hq hne
   have SR := supR hq hne (a := p[k].a) (b := p[k].b) (by have := halfOk_iff.1 hhk; omega) (by have := halfOk_iff.1 hhk; omega)
   have hh := halfOk_iff.1 hhk
   have hto := Lib.hid (topH_ero hhk hq hne)
   have hno := Lib.hid (fun h => @mov_none (eroH q) p k hlt h)
   have hst := Lib.hid (fun g h => @movL_take (eroH q) p k g hlt h)
   have hal := Lib.hid (fun g h => @movAll_take (eroH q) p k g hlt hall h)
   have c1 := fun W h => sFarL_c q b p[k].a p[k].b W hq hne hh.1 hh.2.1 h
   have c2 := fun W => sSum_c p[k].c (sup q p[k].a p[k].b).n (sup q p[k].a p[k].b).d W hh.2.2.1 SR.n SR.d SR.g
   have hless := ratio_less hh.2.2.1 SR.n SR.d SR.g
   have hrok : ratioOk ⟨p[k].c * (sup q p[k].a p[k].b).d - (sup q p[k].a p[k].b).n, (sup q p[k].a p[k].b).d⟩ = true := by
    rw [← hless]
    exact (ratioOf_scale (by have := E.c; have := E.n; omega) (by have := SR.d; omega)).1
   have c3 := fun W => sTop_c p[k].a p[k].b ⟨p[k].c * (sup q p[k].a p[k].b).d - (sup q p[k].a p[k].b).n, (sup q p[k].a p[k].b).d⟩ W hh.1 hh.2.1 hrok
   rw [hto.out] at c3
   have rd := SR.d
   have rn := SR.n
   clear hc hall hhk E SR hh hto hless hrok
   generalize eroH q p[k] = o at *
   generalize sup q p[k].a p[k].b = r at *
   generalize (supF q p[k].a p[k].b).1 = fi at *
   generalize p[k] = h at *
   have Q2 := (Q5.below hbr).alloc (.cells #[.int .i64 h.a, .int .i64 h.b, .int .i64 h.c] 111)
   have B2 := (B5.below hbr).alloc (.cells #[.int .i64 h.a, .int .i64 h.b, .int .i64 h.c] 111)
   have b2 := below_al hbr (.cells #[.int .i64 h.a, .int .i64 h.b, .int .i64 h.c] 111)
   have X2 := Has.new wr #[.int .i64 h.a, .int .i64 h.b, .int .i64 h.c] 111
   have N2 := N.alloc (.cells #[.int .i64 h.a, .int .i64 h.b, .int .i64 h.c] 111)
   subst hA
   go_upto_region 7 with fail
   clear g0 g1 g2 hblt N hbr
   generalize wr.alloc (.cells #[.int .i64 h.a, .int .i64 h.b, .int .i64 h.c] 111) = w2 at *
   generalize wr.heap.size = gx at *
   obtain ⟨cX2_0, fX2_0⟩ := X2.2 0 _ rfl
   obtain ⟨cX2_1, fX2_1⟩ := X2.2 1 _ rfl
   obtain ⟨cX2_2, fX2_2⟩ := X2.2 2 _ rfl
   obtain ⟨cB2_0, fB2_0⟩ := B2.2 0 _ rfl
   have lX := X2.1
   have lB := B2.1
   go_wp2_with (fail)
   refine (c1 _ Q2).mono ?_
   rintro e w3 ⟨rfl, hb3⟩
   have X4 := (X2.below hb3).alloc (.cells #[.int .i64 r.n, .int .i64 r.d] 52)
   have S4 := Has.new w3 #[.int .i64 r.n, .int .i64 r.d] 52
   have N4 := (N2.below hb3 leR).alloc (.cells #[.int .i64 r.n, .int .i64 r.d] 52)
   have b4 := below_al (below_tr b2 hb3) (.cells #[.int .i64 r.n, .int .i64 r.d] 52)
   clear Q2 B2 b2 N2 X2 cX2_0 cX2_1 cX2_2 fX2_0 fX2_1 fX2_2 cB2_0 fB2_0 lX lB c1 hb3
   go_upto_region 8 with fail
   generalize w3.alloc (.cells #[.int .i64 r.n, .int .i64 r.d] 52) = w4 at *
   generalize w3.heap.size = gs at *
   obtain ⟨cX4_0, fX4_0⟩ := X4.2 0 _ rfl
   obtain ⟨cX4_1, fX4_1⟩ := X4.2 1 _ rfl
   obtain ⟨cX4_2, fX4_2⟩ := X4.2 2 _ rfl
   obtain ⟨cS4_0, fS4_0⟩ := S4.2 0 _ rfl
   obtain ⟨cS4_1, fS4_1⟩ := S4.2 1 _ rfl
   have lX := X4.1
   have lS := S4.1
   go_wp2_with (fail)
   refine (c2 _).mono ?_
   rintro e w7 ⟨rfl, hb7⟩
   generalize h.c * r.d - r.n = tn at *
   have X8 := (X4.below hb7).alloc (.cells #[.int .i64 tn, .int .i64 r.d] 52)
   have S8 := Has.new w7 #[.int .i64 tn, .int .i64 r.d] 52
   have N8 := (N4.below hb7 leR).alloc (.cells #[.int .i64 tn, .int .i64 r.d] 52)
   have b8 := below_al (below_tr b4 hb7) (.cells #[.int .i64 tn, .int .i64 r.d] 52)
   clear N4 b4 X4 S4 cX4_0 cX4_1 cX4_2 fX4_0 fX4_1 fX4_2 cS4_0 cS4_1 fS4_0 fS4_1 lX lS c2 hb7
   go_upto_region 9 with fail
   generalize w7.alloc (.cells #[.int .i64 tn, .int .i64 r.d] 52) = w8 at *
   generalize w7.heap.size = gt at *
   obtain ⟨cX8_0, fX8_0⟩ := X8.2 0 _ rfl
   obtain ⟨cX8_1, fX8_1⟩ := X8.2 1 _ rfl
   obtain ⟨cX8_2, fX8_2⟩ := X8.2 2 _ rfl
   obtain ⟨cS8_0, fS8_0⟩ := S8.2 0 _ rfl
   obtain ⟨cS8_1, fS8_1⟩ := S8.2 1 _ rfl
   have lX := X8.1
   have lS := S8.1
   go_wp2_with (fail)
   refine (c3 _).mono ?_
   rintro e w9 ⟨rfl, hb9⟩
   have N9 := N8.below hb9 leR
   have b9 := below_tr b8 hb9
   clear N8 b8 X8 S8 cX8_0 cX8_1 cX8_2 fX8_0 fX8_1 fX8_2 cS8_0 cS8_1 fS8_0 fS8_1 lX lS c3 hb9
   cases o with
   | none =>
    have hv := Lib.hid (hno.out rfl)
    simp only [optHalfV]
    have b10 := below_al b9 (.cells #[.int .i64 0, .int .i64 0, .int .i64 0] 111)
    have R10 := R5.below b10
    have b11 := b5.trans (b10.mono b5.size)
    go_upto_region 10 with fail
    clear N9 b9 b10
    generalize w9.alloc (.cells #[.int .i64 0, .int .i64 0, .int .i64 0] 111) = w10 at *
    generalize w9.heap.size = g9 at *
    obtain ⟨cR10_0, fR10_0⟩ := R10.2 0 _ rfl
    have lR := R10.1
    go_wp2
    refine bodyPost_ret (v := .tuple #[.agg #[.slice none 0 0], .bool false]) (by simp [results, Tryz.results126, go_sem, *]) rfl ⟨.slice none 0 0, by rw [hv.out.1], ?_, below_st b11 (by simp only; omega) _⟩
    rw [hv.out.2]
    exact ⟨none, 0, rfl, World.ownsRow_nil _ _ _ _⟩
   | some g =>
    have hs2 := Lib.hid (hst.out g rfl)
    have ha2 := Lib.hid (hal.out g rfl)
    simp only [optHalfV]
    have N10 := N9.alloc (.cells #[.int .i64 g.a, .int .i64 g.b, .int .i64 g.c] 111)
    have b10 := below_al b9 (.cells #[.int .i64 g.a, .int .i64 g.b, .int .i64 g.c] 111)
    have X10 := Has.new w9 #[.int .i64 g.a, .int .i64 g.b, .int .i64 g.c] 111
    go_upto_region 10 with fail
    clear N9 b9
    generalize w9.alloc (.cells #[.int .i64 g.a, .int .i64 g.b, .int .i64 g.c] 111) = w10 at *
    generalize w9.heap.size = g9 at *
    obtain ⟨cX10_0, fX10_0⟩ := X10.2 0 _ rfl
    obtain ⟨cX10_1, fX10_1⟩ := X10.2 1 _ rfl
    obtain ⟨cX10_2, fX10_2⟩ := X10.2 2 _ rfl
    have lX := X10.1
    have hcm : (movL (eroH q) (p.take k)).length ≤ 1073741823 := by rw [movL_len, List.length_take]; omega
    have hle : w5.heap.size ≤ w10.heap.size := b10.size
    go_wp2_with (at_builtin; refine wpList_app1 halfC_len _ rfl _ _ 35 rfl w5.heap.size i0 _ 24 Tryz.underlying35 hi0 hz0 hz1 hz2 rfl (by decide) rfl (N10.alloc _) _ 1 rfl g ?c1 (halfC_one g) bR (by simp; omega) hcm (by decide) ?_)
    case c1 =>
     intro qq u hu
     exact hu
    ·intro v7 w11 hn7 hb7
     rw [← hs2.out] at hn7
     have b11 := (below_al b10 (.cells #[.int .i64 g.a, .int .i64 g.b, .int .i64 g.c] 111)).trans hb7
     clear hb7 b10 N10 X10 cX10_0 cX10_1 cX10_2 fX10_0 fX10_1 fX10_2 lX
     go_wp2
     go_roundw
     case rel => exact ⟨k + 1, by omega, by go_num, ha2.out, hn7, b11⟩
     case measure => simp [intOf]; omega
  ·obtain rfl : k = p.length := by omega
   rw [List.take_length] at hall N
   have R6 := R5.below hbr
   have b7 := b5.trans (hbr.mono b5.size)
   have hml := movL_len (eroH q) p
   by_cases h0 : p.length = 0
   ·have hv := Lib.hid (mov_void (f := eroH q) h0)
    have hml0 : (movL (eroH q) p).length = 0 := by omega
    obtain ⟨Ao, co, rfl, o2⟩ := N
    rw [hml0]
    obtain ⟨cR6_0, fR6_0⟩ := R6.2 0 _ rfl
    have lR := R6.1
    clear h0 hml hml0 o2 hall
    go_wp2
    refine bodyPost_ret (v := .tuple #[.agg #[.slice none 0 0], .bool true]) (by simp [results, Tryz.results126, go_sem, *]) rfl ⟨.slice none 0 0, by rw [hv.out.1], ?_, below_st b7 (by simp only; omega) _⟩
    rw [hv.out.2]
    exact ⟨none, 0, rfl, World.ownsRow_nil _ _ _ _⟩
   have hv := Lib.hid (mov_all (f := eroH q) h0 hall)
   have hmo := movL_ok hgok.out hall
   have hml1 : ¬ (movL (eroH q) p).length = 0 := by omega
   obtain ⟨Ao, co, rfl, o2⟩ := N
   have N2 : New 111 3 halfC wr w5.heap.size (.slice Ao (movL (eroH q) p).length co) (movL (eroH q) p) := ⟨Ao, co, rfl, o2⟩
   have k9 := fun W h => sFitL_c Ao (movL (eroH q) p) co W (by omega) hmo h N2.nilcap
   have SO := N2.out halfC_len
   clear hall o2 hmo hml
   generalize movL (eroH q) p = ML at *
   have hml2 : ((ML.length : Int) == 0) = false := by rw [beq_eq_false_iff_ne]; omega
   go_wp2_with (fail)
   refine (k9 _ SO).mono ?_
   rintro e w7 ⟨v, rfl, N3, hb7⟩
   have R7 := R6.below hb7
   have b8 := below_tr b7 hb7
   obtain ⟨cR7_0, fR7_0⟩ := R7.2 0 _ rfl
   have lR := R7.1
   obtain ⟨Av, cv, rfl, o3⟩ := N3
   have N3 : New 111 3 halfC w7 wr.heap.size (.slice Av (meetR (meetL ML)).length cv) (meetR (meetL ML)) := ⟨Av, cv, rfl, o3⟩
   have z3 := hbr.size
   clear o3 k9 SO N2
   go_wp2
   refine bodyPost_ret (v := .tuple #[.agg #[.slice Av (meetR (meetL ML)).length cv], .bool (meetOk (meetL ML))]) (by simp [results, Tryz.results126, go_sem, *]) rfl ⟨.slice Av (meetR (meetL ML)).length cv, by rw [hv.out.1], ?_, below_st b8 (by simp only; omega) _⟩
   rw [hv.out.2]
   exact (N3.lowC (q := ⟨w.heap.size + 1 + 1, 0, none⟩) (by simp only; omega) [.slice Av (meetR (meetL ML)).length cv]).mono (by omega)
end Go.Proofs.YtdncnhcffbgjhaaGreat
