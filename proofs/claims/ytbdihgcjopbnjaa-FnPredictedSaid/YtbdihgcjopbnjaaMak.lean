/-
  Records with parameters that are consistent with them, of the reference's verifier.
  Conditions: at most 2^20 bytes.
-/
import Derived.Test.YtbdihgcjopbnjaaCur
import Derived.Test.YtbdihgcjopbnjaaGrA
namespace Go.Proofs.Ytbdihgcjopbnjaa
open Go.RowKit

/-- A record that is consistent with a pair of parameters within an error. -/
structure RecOf (a b err : Int) (x : Record) : Prop where
  b0 : -100 ≤ x.before ∧ x.before ≤ 99
  i0 : -20 ≤ x.input ∧ x.input ≤ 19
  d0 : -100 * err ≤ a * x.before + b * x.input - 100 * x.after ∧ a * x.before + b * x.input - 100 * x.after ≤ 100 * err
structure MakR (xs : List Record) (err a b : Int) : Prop where
  a0 : 60 ≤ a ∧ a ≤ 99
  b0 : -20 ≤ b ∧ b ≤ 39
  e0 : 1 ≤ err ∧ err ≤ 4
  len : xs.length ≤ 5
  all : ∀ x ∈ xs, RecOf a b err x
theorem recOf_mk {a b err p q r : Int} (_ : 1 ≤ err) (hp : -100 ≤ p ∧ p ≤ 99) (hq : -20 ≤ q ∧ q ≤ 19) (hr : 0 ≤ r ∧ r < 2 * err) : RecOf a b err ⟨p, q, (a * p + b * q) / 100 + r - err + 1⟩ := by
  refine ⟨hp, hq, ?_, ?_⟩ <;> (generalize a * p + b * q = v; simp only; omega)
theorem New.farG {α : Type} {T sz base g T' : Nat} {enc : α → List Value} {w w' : World} {v : Value} {xs : List α} {vs : List Value} (h : New T sz enc w base v xs) (hc : HasT w g T' vs) (hne : T ≠ T') (ho : OnlyG w w' g) : New T sz enc w' base v xs := by
  obtain ⟨A, c, rfl, o⟩ := h
  have N : New T sz enc w base (.slice A xs.length c) xs := ⟨A, c, rfl, o⟩
  refine N.far ho (fun b hb p q hp hq => ?_)
  rw [List.mem_singleton] at hb
  subst hb
  cases hq
  exact N.typ hc hne p hp
theorem record_one (x : Record) : ∀ u ∈ recordC x, u.oneCell' = true := recordC_one x
set_option maxRecDepth 100000 in
set_option maxHeartbeats 8000000 in
theorem makeRecords_c (bs : List Int) (B : Option Addr) (c : Nat) (w : World) (hn : bs.length ≤ 1048576) (hin : ∀ y ∈ bs, InB y) (hs : Sl 1 byteC w B bs) :
    Calls Try.prog 35 #[.slice B bs.length c] w fun e w' => ∃ (v : Value) (xs : List Record) (err a b : Int), e = .returned (.tuple #[v, .int .i64 err, spotV ⟨a, b, 1⟩]) ∧ MakR xs err a b ∧ New 95 3 recordC w' w.heap.size v xs ∧ Below w.heap.size w w' := by
  obtain ⟨i0, hi0, hz0, hz1, hz2⟩ := info_parts (show (Try.prog.info? 95).map (fun i => (i.zero, i.size, i.bytes)) = some (some (.agg #[.int .i64 0, .int .i64 0, .int .i64 0]), 3, 24) by kernel_rfl)
  have T0 : HasT (w.alloc (.cells #[.int .i64 0, .int .i64 0, .int .i64 0] 65)) w.heap.size 65 [.int .i64 0, .int .i64 0, .int .i64 0] := HasT.new w [.int .i64 0, .int .i64 0, .int .i64 0] 65
  have b0 : Below w.heap.size w (w.alloc (.cells #[.int .i64 0, .int .i64 0, .int .i64 0] 65)) := below_al (Below.refl _ _) _
  have k1 := curNew_c bs B c _ hn hin (hs.below b0)
  go_enter Try.func35, Try.ntmps35
  go_wp2_with (fail)
  refine k1.mono ?_
  rintro e w1 ⟨g, rfl, hg, C1, hb1⟩
  have T1 := T0.below hb1
  have b1 := below_tr b0 hb1
  simp only [World.size_alloc] at hg
  clear T0 b0 k1 hb1
  have hap : ∀ b off, B = some ⟨b, off, none⟩ → 0 < bs.length → b ≠ g := fun b off e hp => by have := hs.blt hp b off e; omega
  go_wp2_with (fail)
  refine (curBelow_c bs B c g 40 _ (by decide) (by decide) hn hin (hs.below b1) C1 hap).mono ?_
  rintro e w2 ⟨a, rfl, ⟨a0, a1⟩, C2, O2⟩
  have T2 := T1.far O2 (by omega)
  have b2 := b1.trans (O2.belowB b1.size (by omega))
  clear T1 b1 C1 O2
  go_wp2_with (fail)
  refine (curBelow_c bs B c g 60 _ (by decide) (by decide) hn hin (hs.below b2) C2 hap).mono ?_
  rintro e w3 ⟨b, rfl, ⟨q0, q1⟩, C3, O3⟩
  have T3 := T2.far O3 (by omega)
  have b3 := b2.trans (O3.belowB b2.size (by omega))
  clear T2 b2 C2 O3
  go_wp2_with (fail)
  refine (curBelow_c bs B c g 4 _ (by decide) (by decide) hn hin (hs.below b3) C3 hap).mono ?_
  rintro e w4 ⟨er, rfl, ⟨e0, e1⟩, C4, O4⟩
  have T4 := T3.far O4 (by omega)
  have b4 := b3.trans (O4.belowB b3.size (by omega))
  clear T3 b3 C3 O4
  have wa : IntKind.i64.wrap (60 + a) = 60 + a := IntWalk.i64_in _ (by omega)
  have N5 : New 95 3 recordC (w4.alloc (.cells #[] 95)) w4.heap.size (.slice (some ⟨w4.heap.size, 0, none⟩) 0 0) ([] : List Record) := New.mk0 w4
  have b5 := below_al b4 (.cells #[] 95)
  have T5 := T4.alloc (.cells #[] 95)
  have C5 : Cur (w4.alloc (.cells #[] 95)) g B bs.length c := by
    obtain ⟨i, h, i0, i1, T⟩ := C4
    exact ⟨i, h, i0, i1, T.alloc _⟩
  have lg : g < w4.heap.size := by obtain ⟨i, h, _, _, T⟩ := C4; exact lt_of_heap T
  have lt0 := lt_of_heap T4
  clear T4 C4
  go_wp2_with (fail)
  refine (curBelow_c bs B c g 6 _ (by decide) (by decide) hn hin (hs.below b5) C5 hap).mono ?_
  rintro e w6 ⟨n, rfl, ⟨n0, n1⟩, C6, O6⟩
  have T6 := T5.far O6 (by omega)
  have b6 := b5.trans (O6.belowB b5.size (by omega))
  obtain ⟨ci, ch, _, _, TC⟩ := C5
  have N6 := N5.farG TC (by decide) O6
  have z6 : w4.heap.size ≤ w6.heap.size := by have := O6.size; simp at this; omega
  clear T5 b5 TC O6 N5 b4
  generalize ha : 60 + a = A at *
  generalize hb : b - 20 = Bb at *
  generalize he : 1 + er = err at *
  generalize w4.heap.size = base at *
  go_wp2
  go_loopw [9, 10, 11] (fun out i _ wr => ∃ (k : Int) (xs : List Record), 0 ≤ k ∧ (xs.length : Int) + k ≤ 5 ∧ i = .int .i64 k ∧ (∀ x ∈ xs, RecOf A Bb err x) ∧ New 95 3 recordC wr base out xs ∧ Cur wr g B bs.length c ∧ HasT wr w.heap.size 65 [.int .i64 0, .int .i64 0, .int .i64 0] ∧ Below w.heap.size w wr ∧ base ≤ wr.heap.size) (fun _ i _ _ => (intOf i).toNat)
  case atStart => exact ⟨n, ([] : List Record), n0, by simp; omega, rfl, (fun x hx => absurd hx (List.not_mem_nil)), N6, C6, T6, b6, z6⟩
  case round =>
    obtain ⟨k, xs, k0, hk, rfl, hall, N, C, T, hbr, hz⟩ := hrel
    clear N6 C6 T6 b6
    by_cases hlt : 0 < k
    · obtain ⟨i1, h1, _, _, TG⟩ := C
      have k2 := curBelow_c bs B c g 200 _ (by decide) (by decide) hn hin (hs.below hbr) ⟨i1, h1, by assumption, by assumption, TG⟩ hap
      go_wp2_with (fail)
      refine k2.mono ?_
      rintro e w7 ⟨p, rfl, ⟨p0, p1⟩, C7, O7⟩
      have N7 := N.farG TG (by decide) O7
      have T7 := T.far O7 (by omega)
      have b7 := hbr.trans (O7.belowB hbr.size (by omega))
      have z7 := Nat.le_trans hz O7.size
      clear N T TG O7 k2 hbr
      obtain ⟨i2, h2, _, _, TG⟩ := C7
      have k2 := curBelow_c bs B c g 40 _ (by decide) (by decide) hn hin (hs.below b7) ⟨i2, h2, by assumption, by assumption, TG⟩ hap
      go_wp2_with (fail)
      refine k2.mono ?_
      rintro e w8 ⟨q, rfl, ⟨q0, q1⟩, C8, O8⟩
      have N8 := N7.farG TG (by decide) O8
      have T8 := T7.far O8 (by omega)
      have b8 := b7.trans (O8.belowB b7.size (by omega))
      have z8 := Nat.le_trans z7 O8.size
      clear N7 T7 TG O8 k2 b7 z7
      obtain ⟨i3, h3, _, _, TG⟩ := C8
      generalize hp : p - 100 = P at *
      generalize hq : q - 20 = Q at *
      have hown : ∀ kk, u9.ownBlock = some kk → kk < w8.heap.size := fun kk e => (N8.own kk e).2
      obtain ⟨Ao, co, rfl, o8⟩ := N8
      have N8 : New 95 3 recordC w8 base (.slice Ao xs.length co) xs := ⟨Ao, co, rfl, o8⟩
      have hne : ∀ p, Ao = some p → p.block ≠ w8.heap.size := fun pp hpp => by have := hown pp.block (by rw [hpp]; rfl); omega
      clear o8 hown
      go_upto_region 10 with fail
      have TX : HasT (w8.alloc (.cells #[.int .i64 P, .int .i64 Q, .int .i64 0] 95)) w8.heap.size 95 [.int .i64 P, .int .i64 Q, .int .i64 0] := HasT.new w8 [.int .i64 P, .int .i64 Q, .int .i64 0] 95
      have N9 := N8.alloc (.cells #[.int .i64 P, .int .i64 Q, .int .i64 0] 95)
      have T9 := T8.alloc (.cells #[.int .i64 P, .int .i64 Q, .int .i64 0] 95)
      have G9 := TG.alloc (.cells #[.int .i64 P, .int .i64 Q, .int .i64 0] 95)
      have b9 := below_al b8 (.cells #[.int .i64 P, .int .i64 Q, .int .i64 0] 95)
      clear N8 T8 TG b8
      generalize w8.alloc (.cells #[.int .i64 P, .int .i64 Q, .int .i64 0] 95) = w9 at *
      generalize w8.heap.size = gx at *
      have m1 := mulB (a := A) (b := P) (A := 99) (B := 100) ⟨by omega, by omega⟩ ⟨by omega, by omega⟩
      have m2 := mulB (a := Bb) (b := Q) (A := 39) (B := 20) ⟨by omega, by omega⟩ ⟨by omega, by omega⟩
      have HX := TX.has
      obtain ⟨cHX_0, fHX_0⟩ := HX.2 0 _ rfl
      obtain ⟨cHX_1, fHX_1⟩ := HX.2 1 _ rfl
      obtain ⟨cHX_2, fHX_2⟩ := HX.2 2 _ rfl
      have lX := HX.1
      have k3 := fun W => l02Floor_c (A * P + Bb * Q) 100 W (by omega) (by omega) (by omega) (by omega)
      go_wp2_with (fail)
      refine (k3 _).mono ?_
      rintro e w10 ⟨rfl, n1, rfl⟩
      have b10 := below_drewN b9 n1
      have d10 := below_drewN (Below.refl w9.heap.size w9) n1
      have N10 := N9.below d10 (Nat.le_refl _)
      have T10 := T9.below d10
      have G10 := G9.below d10
      have X10 := TX.below d10
      clear N9 T9 G9 TX b9 d10 HX cHX_0 cHX_1 cHX_2 fHX_0 fHX_1 fHX_2 lX k3
      generalize hfl : (A * P + Bb * Q) / 100 = fl at *
      have hfb : -110 ≤ fl ∧ fl ≤ 110 := by omega
      go_wp2_with (fail)
      refine (curBelow_c bs B c g (2 * err) _ (by omega) (by omega) hn hin (hs.below b10) ⟨i3, h3, by assumption, by assumption, G10⟩ hap).mono ?_
      rintro e w11 ⟨r, rfl, ⟨r0, r1⟩, C11, O11⟩
      have N11 := N10.farG G10 (by decide) O11
      have T11 := T10.far O11 (by omega)
      have X11 := X10.far O11 (by omega)
      have b11 := b10.trans (O11.belowB b10.size (by omega))
      have z11 : base ≤ w11.heap.size := by have := O11.size; have := lt_of_heap X10; omega
      clear N10 T10 G10 X10 b10
      have HX := X11.has
      obtain ⟨cHX_0, fHX_0⟩ := HX.2 0 _ rfl
      obtain ⟨cHX_1, fHX_1⟩ := HX.2 1 _ rfl
      obtain ⟨cHX_2, fHX_2⟩ := HX.2 2 _ rfl
      have lX := HX.1
      obtain ⟨i4, h4, _, _, G11⟩ := C11
      go_upto_region 11 with fail
      have X12 := X11.set_ 2 (.int .i64 (fl + r - err + 1))
      have N12 := N11.otherC hne [.int .i64 (fl + r - err + 1)] 2
      have T12 := T11.other (g' := gx) (by omega) [.int .i64 (fl + r - err + 1)] 2
      have G12 := G11.other (g' := gx) (by omega) [.int .i64 (fl + r - err + 1)] 2
      have b12 := b11.setCell (p := ⟨gx, 2, none⟩) (by simp only; omega) (.int .i64 (fl + r - err + 1))
      simp only [World.setCells] at N12 T12 G12
      have rec_ := recOf_mk (a := A) (b := Bb) (err := err) (p := P) (q := Q) (r := r) (by omega) ⟨by omega, by omega⟩ ⟨by omega, by omega⟩ ⟨r0, r1⟩
      rw [hfl] at rec_
      have z12 : base ≤ (w11.setCell ⟨gx, 2, none⟩ (.int .i64 (fl + r - err + 1))).heap.size := by simp [World.setCell]; omega
      clear N11 T11 G11 b11 HX cHX_0 cHX_1 cHX_2 fHX_0 fHX_1 fHX_2 lX X11 O11
      generalize w11.setCell ⟨gx, 2, none⟩ (.int .i64 (fl + r - err + 1)) = w12 at *
      generalize fl + r - err + 1 = F at *
      simp only [List.set_cons_succ, List.set_cons_zero] at X12
      have HX := X12.has
      obtain ⟨cHX_0, fHX_0⟩ := HX.2 0 _ rfl
      obtain ⟨cHX_1, fHX_1⟩ := HX.2 1 _ rfl
      obtain ⟨cHX_2, fHX_2⟩ := HX.2 2 _ rfl
      have lX := HX.1
      have hcm : xs.length ≤ 1073741823 := by omega
      go_wp2_with (at_builtin; refine wpList_app1 recordC_len _ rfl _ _ 71 rfl base i0 _ 24 Try.underlying71 hi0 hz0 hz1 hz2 rfl (by decide) rfl (N12.alloc _) _ 1 rfl ⟨P, Q, F⟩ ?c1 (recordC_one _) (Below.refl _ _) (by simp; omega) hcm (by decide) ?_)
      case c1 =>
        intro qq u hu
        rw [Addr.add_lit, Nat.zero_add]
        exact ((Has.new_at (by simp) #[.int .i64 P, .int .i64 Q, .int .i64 F] _ rfl).2 qq u hu).1
      · intro v7 w13 hn7 hb7
        have G13 := (G12.alloc (.cells #[.int .i64 P, .int .i64 Q, .int .i64 F] 95)).belowB hb7 lg
        have T13 := (T12.alloc (.cells #[.int .i64 P, .int .i64 Q, .int .i64 F] 95)).belowB hb7 lt0
        have b13 := (below_al b12 (.cells #[.int .i64 P, .int .i64 Q, .int .i64 F] 95)).trans (hb7.mono (Nat.le_of_lt lt0))
        have z13 : base ≤ w13.heap.size := by have := hb7.size; simp at this; omega
        clear hb7 N12 T12 G12 b12 HX cHX_0 cHX_1 cHX_2 fHX_0 fHX_1 fHX_2 lX X12
        go_wp2
        go_roundw
        case rel =>
          refine ⟨k - 1, xs ++ [⟨P, Q, F⟩], by omega, by simp; omega, by go_num, fun x hx => ?_, hn7, ⟨i4, h4, by assumption, by assumption, G13⟩, T13, b13, z13⟩
          rcases List.mem_append.1 hx with h | h
          · exact hall x h
          · rw [List.mem_singleton.1 h]; exact rec_
        case measure => simp [intOf]; omega
    · have HT := T.has
      obtain ⟨cHT_0, fHT_0⟩ := HT.2 0 _ rfl
      obtain ⟨cHT_1, fHT_1⟩ := HT.2 1 _ rfl
      obtain ⟨cHT_2, fHT_2⟩ := HT.2 2 _ rfl
      have lT := HT.1
      go_wp2
      refine bodyPost_ret (v := .tuple #[u9, .int .i64 err, spotV ⟨A, Bb, 1⟩]) (by simp [results, Try.results35, go_sem, *]) rfl ⟨u9, xs, err, A, Bb, rfl, ⟨⟨by omega, by omega⟩, ⟨by omega, by omega⟩, ⟨by omega, by omega⟩, by omega, hall⟩, ?_, below_cells3 hbr (by omega)⟩
      exact (N.lowC (q := ⟨w.heap.size, 0, none⟩) (by simp only; omega) [.int .i64 A, .int .i64 Bb, .int .i64 1]).mono (by omega)
end Go.Proofs.Ytbdihgcjopbnjaa
