/-
  For every input FnFits returns true: parameters are consistent with all records just if they lie in the fitted region.
  Conditions: none.
-/
import Derived.Test.YtbdihgcjopbnjaaFits
import Derived.Test.YtbdihgcjopbnjaaGrS
import Derived.Test.YtbdihgcjopbnjaaGrG
import Derived.Test.YtbdihgcjopbnjaaExt
import Derived.Test.YtbdihgcjopbnjaaGrO
namespace Go.Proofs.Ytbdihgcjopbnjaa
open Go.RowKit Go.ChangeShapes Go.WideShapes Go.ChangeAt Go.Deep

set_option maxRecDepth 100000 in
set_option maxHeartbeats 8000000 in
theorem walkFits (w : World) (B : Option Addr) (bs : List Int) (c : Nat) (hin : ∀ y ∈ bs, InB y) (hl : bs.length ≤ 9223372036854775807) (hs : Sl 1 byteC w B bs) :
    Calls Try.prog 6 #[.slice B bs.length c] w fun e w' => e = .returned (.bool true) ∧ Below w.heap.size w w' := by
  by_cases hbig : 1048576 < (bs.length : Int)
  · go_enter Try.func6, Try.ntmps6
    go_wp2
    go_ret
    refine ⟨rfl, ?_⟩
    repeat (first | (with_reducible exact Below.refl _ _) | (with_reducible assumption) | (with_reducible refine below_al ?_ _) | (with_reducible refine Below.drew ?_) | (with_reducible refine below_drewN ?_ _) | (with_reducible refine below_st ?_ ?_ _) | (with_reducible refine below_tr ?_ (by assumption)) | (with_reducible exact Nat.le_refl _) | (focus (simp; done)) | (focus (simp; omega)))
  have hn : bs.length ≤ 1048576 := by omega
  have k1 := makeRecords_c bs B c w hn hin hs
  go_enter Try.func6, Try.ntmps6
  go_wp2_with (fail)
  refine k1.mono ?_
  rintro e w1 ⟨v, xs, err, a, b, rfl, M, N1, hb1⟩
  obtain ⟨A1, c1, rfl, S1⟩ := N1.sl recordC_len
  have er0 := M.e0
  have hx5 := M.len
  have hie : In64 err := ⟨by omega, by omega⟩
  have T1 : HasT (w1.alloc (.cells #[.int .i64 a, .int .i64 b, .int .i64 1] 65)) w1.heap.size 65 [.int .i64 a, .int .i64 b, .int .i64 1] := HasT.new w1 [.int .i64 a, .int .i64 b, .int .i64 1] 65
  have b1 := below_al hb1 (.cells #[.int .i64 a, .int .i64 b, .int .i64 1] 65)
  have S2 := S1.alloc (.cells #[.int .i64 a, .int .i64 b, .int .i64 1] 65)
  clear k1 N1 S1 hb1
  go_upto_region 4 with fail
  generalize w1.alloc (.cells #[.int .i64 a, .int .i64 b, .int .i64 1] 65) = w2 at *
  generalize w1.heap.size = gs at *
  go_wp2_with (fail)
  refine (iFit_c A1 xs c1 err _ (by omega) hie S2).mono ?_
  rintro e w3 ⟨v3, rfl, N3, hb3⟩
  obtain ⟨A3, c3, rfl, o3⟩ := N3
  have N3' : New 177 3 halfC w3 w2.heap.size (.slice A3 (fitR xs err).length c3) (fitR xs err) := ⟨A3, c3, rfl, o3⟩
  have hnil3 := N3'.nilcap
  have S3 := S2.below hb3
  have T3 := T1.below hb3
  have b3 := below_tr b1 hb3
  have R3 := N3'.out halfC_len
  have hro := fitR_ok xs err
  have hfo := M.fit
  have hcons := Lib.hid M.cons
  have hpar := Lib.hid M.par
  have hleast := M.least
  have hcmp := M.cmp
  have hrec := M.records
  have hfit := Lib.hid (fun (h : fitR xs err ≠ []) s h2 => @fit_consistent xs err h s h2)
  have hso : spotOk ⟨a, b, 1⟩ = true := spot1_ok (by have := M.a0; omega) (by have := M.b0; omega)
  have hsin := spot_In hso
  have hri : (leastError xs ⟨a, b, 1⟩).In := by
    have hd := maxDist_bd xs (leastOk_dis hrec hpar.out)
    unfold leastError
    rw [if_pos hleast]
    exact ratioOf_in ⟨by omega, by omega⟩ ⟨by simp only; omega, by simp only; omega⟩
  have hr1 : (ratioOf err 1).In := ratioOf_in ⟨by omega, by omega⟩ ⟨by omega, by omega⟩
  rw [hfo]
  clear o3 N3' hb3 T1 S2 b1 M
  have T4 := T3.alloc (.cells #[.slice A3 (fitR xs err).length c3] 76)
  have P4 : HasT (w3.alloc (.cells #[.slice A3 (fitR xs err).length c3] 76)) w3.heap.size 76 [.slice A3 (fitR xs err).length c3] := HasT.new w3 [.slice A3 (fitR xs err).length c3] 76
  have S4 := S3.alloc (.cells #[.slice A3 (fitR xs err).length c3] 76)
  have R4 := R3.alloc (.cells #[.slice A3 (fitR xs err).length c3] 76)
  have b4 := below_al b3 (.cells #[.slice A3 (fitR xs err).length c3] 76)
  clear T3 S3 R3 b3
  go_upto_region 5 with fail
  generalize fitR xs err = R at *
  generalize w3.alloc (.cells #[.slice A3 R.length c3] 76) = w4 at *
  generalize w3.heap.size = gp at *
  have H4 := T4.has
  obtain ⟨cH4_0, fH4_0⟩ := H4.2 0 _ rfl
  obtain ⟨cH4_1, fH4_1⟩ := H4.2 1 _ rfl
  obtain ⟨cH4_2, fH4_2⟩ := H4.2 2 _ rfl
  have lH4 := H4.1
  go_wp2_with (fail)
  refine (iLeastError_c A1 xs c1 ⟨a, b, 1⟩ _ hsin (by omega) S4).mono ?_
  rintro e w5 ⟨rfl, hb5⟩
  rw [hleast]
  generalize leastError xs ⟨a, b, 1⟩ = le at *
  have T5 := (T4.below hb5).alloc (.cells #[.int .i64 le.n, .int .i64 le.d] 41)
  have P5 := (P4.below hb5).alloc (.cells #[.int .i64 le.n, .int .i64 le.d] 41)
  have L5 : HasT (w5.alloc (.cells #[.int .i64 le.n, .int .i64 le.d] 41)) w5.heap.size 41 [.int .i64 le.n, .int .i64 le.d] := HasT.new w5 [.int .i64 le.n, .int .i64 le.d] 41
  have S5 := (S4.below hb5).alloc (.cells #[.int .i64 le.n, .int .i64 le.d] 41)
  have R5 := (R4.below hb5).alloc (.cells #[.int .i64 le.n, .int .i64 le.d] 41)
  have b5 := below_al (below_tr b4 hb5) (.cells #[.int .i64 le.n, .int .i64 le.d] 41)
  clear T4 P4 S4 R4 b4 hb5 H4 cH4_0 cH4_1 cH4_2 fH4_0 fH4_1 fH4_2 lH4
  go_upto_region 6 with fail
  generalize w5.alloc (.cells #[.int .i64 le.n, .int .i64 le.d] 41) = w6 at *
  generalize w5.heap.size = gl at *
  have H5 := T5.has
  obtain ⟨cH5_0, fH5_0⟩ := H5.2 0 _ rfl
  obtain ⟨cH5_1, fH5_1⟩ := H5.2 1 _ rfl
  obtain ⟨cH5_2, fH5_2⟩ := H5.2 2 _ rfl
  have HL := L5.has
  obtain ⟨cHL_0, fHL_0⟩ := HL.2 0 _ rfl
  obtain ⟨cHL_1, fHL_1⟩ := HL.2 1 _ rfl
  have hx0 := Wx.cell w6 H5.1
  have hx1 := Wx.cell w6 HL.1
  have q1 := fun W h => iRecordsOk_c A1 xs c1 W (by omega) h
  have q2 := fun W h => iIsConsistent_c A1 xs c1 err ⟨a, b, 1⟩ W hsin (by omega) h
  have q3 := fun W => iRatioOf_c err 1 W hie ⟨by omega, by omega⟩
  have q4 := fun W => iRatioCmp_c le (ratioOf err 1) W hri hr1
  rw [hrec] at q1
  rw [hcons.out] at q2
  have hng : ¬ 0 < ratioCmp le (ratioOf err 1) := by omega
  generalize ratioOf err 1 = r1 at *
  generalize ratioCmp le r1 = rc at *
  clear hcmp hri hr1 hfo hleast
  refine wp_region_x (by kernel_rfl) (by kernel_rfl) ?_
  repeat (go_big_quiet_step ((first | (go_at_call 38; exact quiet_x (q1 _ (Sl.below S5 (Wx.below _ _)))) | (go_at_call 39; exact quiet_x (q2 _ (Sl.below S5 (Wx.below _ _)))) | (go_at_call 41; exact quiet_x (q3 _)) | (go_at_call 40; exact quiet_x (q4 _)))))
  refine wpQuiet_nil ?_
  intro w7 hw7
  have hb7 := Wx.out hw7
  have b7 := below_tr b5 hb7
  have T7 := T5.below hb7
  have P7 := P5.below hb7
  have S7 := S5.below hb7
  have R7 := R5.below hb7
  clear hw7 hx0 hx1 hb7 T5 P5 L5 S5 R5 b5 H5 HL cH5_0 cH5_1 cH5_2 fH5_0 fH5_1 fH5_2 cHL_0 cHL_1 fHL_0 fHL_1 q1 q3 q4
  have HP := P7.has
  obtain ⟨cHP_0, fHP_0⟩ := HP.2 0 _ rfl
  have HT := T7.has
  obtain ⟨cHT_0, fHT_0⟩ := HT.2 0 _ rfl
  obtain ⟨cHT_1, fHT_1⟩ := HT.2 1 _ rfl
  obtain ⟨cHT_2, fHT_2⟩ := HT.2 2 _ rfl
  have lP := HP.1
  have lT := HT.1
  by_cases hv : R.length = 0
  · have q5 := fun W => iIsVoid_c R ⟨A3, c3⟩ W
    rw [decide_eq_true hv] at q5
    clear hv
    go_wp2_with (fail)
    refine (q5 _).mono ?_
    rintro e w8 ⟨rfl, hb8⟩
    go_wp2
    go_ret
    exact ⟨rfl, below_tr b7 hb8⟩
  have q5 := fun W => iIsVoid_c R ⟨A3, c3⟩ W
  rw [decide_eq_false hv] at q5
  have hne : R ≠ [] := fun e => hv (by rw [e]; rfl)
  have hf2 := Lib.hid (hfit.out hne)
  clear hfit hne
  go_wp2_with (fail)
  refine (q5 _).mono ?_
  rintro e w8 ⟨rfl, hb8⟩
  have T8 := T7.below hb8
  have P8 := P7.below hb8
  have S8 := S7.below hb8
  have R8 := R7.below hb8
  have b8 := below_tr b7 hb8
  clear q5 T7 P7 S7 R7 b7 hb8 HP HT cHP_0 fHP_0 cHT_0 cHT_1 cHT_2 fHT_0 fHT_1 fHT_2 lP lT
  go_wp2
  go_loopw [10, 11, 12, 13] (fun i _ _ _ wr => ∃ k : Int, 0 ≤ k ∧ k ≤ 12 ∧ i = .int .i64 k ∧ Below w8.heap.size w8 wr) (fun i _ _ _ _ => (12 - intOf i).toNat)
  case atStart => exact ⟨0, by decide, by decide, rfl, Below.refl _ _⟩
  case round =>
    obtain ⟨k, k0, k12, rfl, hbr⟩ := hrel
    have b9 := b8.trans (hbr.mono b8.size)
    by_cases hlt : k < 12
    · go_wp2_with (fail)
      refine (makeWhole_c bs B c (60 + 4 * k) _ (by omega) (by omega) hn hin (hs.below b9)).mono ?_
      rintro e w10 ⟨x, y, rfl, ⟨x0, x1⟩, ⟨y0, y1⟩, hb10⟩
      have b10 := below_al (below_tr hbr hb10) (.cells #[.int .i64 x, .int .i64 y, .int .i64 1] 65)
      have T10 : HasT (w10.alloc (.cells #[.int .i64 x, .int .i64 y, .int .i64 1] 65)) w10.heap.size 65 [.int .i64 x, .int .i64 y, .int .i64 1] := HasT.new w10 [.int .i64 x, .int .i64 y, .int .i64 1] 65
      go_upto_region 14 with fail
      generalize w10.alloc (.cells #[.int .i64 x, .int .i64 y, .int .i64 1] 65) = w11 at *
      generalize w10.heap.size = g11 at *
      have q6 := fun W => iShiftSpot_c ⟨x, y, 1⟩ 70 10 W (spot_In (spot1_ok ⟨by omega, by omega⟩ ⟨by omega, by omega⟩))
      rw [shift1 ⟨by omega, by omega⟩ ⟨by omega, by omega⟩ ⟨by omega, by omega⟩ ⟨by omega, by omega⟩] at q6
      simp only [optSpotV] at q6
      have HT := T10.has
      obtain ⟨cHT_0, fHT_0⟩ := HT.2 0 _ rfl
      obtain ⟨cHT_1, fHT_1⟩ := HT.2 1 _ rfl
      obtain ⟨cHT_2, fHT_2⟩ := HT.2 2 _ rfl
      have lT := HT.1
      have hso2 : spotOk ⟨x + 70, y + 10, 1⟩ = true := spot1_ok ⟨by omega, by omega⟩ ⟨by omega, by omega⟩
      have q7 := fun W h => iHasSpot_c R ⟨A3, c3⟩ ⟨x + 70, y + 10, 1⟩ W hro hso2 h hnil3
      have q8 := fun W h => iIsConsistent_c A1 xs c1 err ⟨x + 70, y + 10, 1⟩ W (spot_In hso2) (by omega) h
      rw [hf2.out ⟨x + 70, y + 10, 1⟩ (spot1 ⟨by omega, by omega⟩ ⟨by omega, by omega⟩)] at q7
      generalize isConsistent xs err ⟨x + 70, y + 10, 1⟩ = cc at *
      generalize x + 70 = x' at *
      generalize y + 10 = y' at *
      go_wp2_with (fail)
      refine (q6 _).mono ?_
      rintro e w12 ⟨rfl, hb12⟩
      have b13 := below_al (below_tr b10 hb12) (.cells #[.int .i64 x', .int .i64 y', .int .i64 1] 65)
      have T13 : HasT (w12.alloc (.cells #[.int .i64 x', .int .i64 y', .int .i64 1] 65)) w12.heap.size 65 [.int .i64 x', .int .i64 y', .int .i64 1] := HasT.new w12 [.int .i64 x', .int .i64 y', .int .i64 1] 65
      go_upto_region 15 with fail
      generalize w12.alloc (.cells #[.int .i64 x', .int .i64 y', .int .i64 1] 65) = w13 at *
      generalize w12.heap.size = g13 at *
      have P13 := P8.below b13
      have S13 := S8.below b13
      have R13 := R8.below b13
      have HA := T13.has
      obtain ⟨cHA_0, fHA_0⟩ := HA.2 0 _ rfl
      obtain ⟨cHA_1, fHA_1⟩ := HA.2 1 _ rfl
      obtain ⟨cHA_2, fHA_2⟩ := HA.2 2 _ rfl
      have HB := P13.has
      obtain ⟨cHB_0, fHB_0⟩ := HB.2 0 _ rfl
      have hx0 := Wx.cell w13 HA.1
      have hx1 := Wx.cell w13 HB.1
      clear q6 T10 HT cHT_0 cHT_1 cHT_2 fHT_0 fHT_1 fHT_2 lT hb12 b10 hb10 b9 hbr
      refine wp_region_x (by kernel_rfl) (by kernel_rfl) ?_
      repeat (go_big_quiet_step ((first | (go_at_call 45; exact quiet_x (q7 _ (Sl.below R13 (Wx.below _ _)))) | (go_at_call 39; exact quiet_x (q8 _ (Sl.below S13 (Wx.below _ _)))))))
      refine wpQuiet_nil ?_
      intro w14 hw14
      have b14 := below_tr b13 (Wx.out hw14)
      clear hw14 hx0 hx1
      go_wp2
      go_roundw
      case rel => exact ⟨k + 1, by omega, by omega, by go_num, b14⟩
      case measure => simp [intOf]; omega
    · have q7 := fun W h => iHasSpot_c R ⟨A3, c3⟩ ⟨a, b, 1⟩ W hro hso h hnil3
      rw [hf2.out ⟨a, b, 1⟩ hpar.out, hcons.out] at q7
      have P9 := P8.below hbr
      have R9 := R8.below hbr
      have T9 := T8.below hbr
      have HA := T9.has
      obtain ⟨cHA_0, fHA_0⟩ := HA.2 0 _ rfl
      obtain ⟨cHA_1, fHA_1⟩ := HA.2 1 _ rfl
      obtain ⟨cHA_2, fHA_2⟩ := HA.2 2 _ rfl
      have HB := P9.has
      obtain ⟨cHB_0, fHB_0⟩ := HB.2 0 _ rfl
      have lA := HA.1
      have lB := HB.1
      go_wp2_with (fail)
      refine (q7 _ R9).mono ?_
      rintro e w14 ⟨rfl, hb14⟩
      go_wp2
      go_ret
      exact ⟨rfl, below_tr b9 hb14⟩

set_option maxRecDepth 100000 in
theorem lifted_FnFits (os : Os) (started : os.Started) (H : Type) (enc : TypeId × Value → H) :
    ReturnsInHanded {} Try.checked os 6 .any (Rows.fnFitsSpec.pre6 enc Try.prog Try.f6 Rows.fnFitsRow.domain false) (Rows.fnFitsSpec.post enc Try.prog Try.f6 false true false false) := by
  refine returnsInHanded_of_change (C := Try.checked) own_ started (by kernel_rfl) Try.func6
    (ChangeSpec.witness6 (enc := enc) (C := Try.checked) false ⟨#[], #[.slice none 0 0], []⟩ 8 (by kernel_rfl) (by kernel_rfl) (by kernel_rfl) (by kernel_rfl)) ?_
  intro W base args ds gs before hval0 hW hcnd _
  have hval : ∀ (j : Nat) t v, Try.f6.params[j]? = some t → args[j]? = some v → Value.okWide Try.prog W .any base t v := hval0
  have hW' := hW
  obtain ⟨p, q, hA0, hV, rfl, hfz, hnd⟩ := hW
  have hA : DataW.TrodAll enc Try.prog W 0 (fun _ => true) true Try.f6.params.toList args.toList ds p := hA0
  rw [Try.params6] at hA hval
  obtain ⟨v0, vs0, d0, ds0, p0, q0, hargs, rfl, rfl, h0, r0⟩ := trodAll_cons hA
  obtain ⟨rfl, rfl, rfl⟩ := trodAll_nil r0
  obtain rfl : args = #[v0] := by cases args; simp_all
  obtain ⟨rfl, rfl⟩ := trodVars_none hV
  have k0 := h0
  have lt0 : ∀ x ∈ p0, x.block < W.heap.size := by obtain ⟨m, hm⟩ := k0; exact DataW.trod_lt m _ _ _ hm
  have ok0 := hval 0 70 v0 rfl rfl
  obtain ⟨B, c, bs, rfl, hl, hin, hs⟩ := openByteSV ok0 h0
  refine (walkFits W B bs c hin hl hs).mono fun e W' ⟨he, bel⟩ => ?_
  subst he
  exact ⟨_, rfl, _, _, _, [], _, [], hW', trodAll_mk1 (shut_bool Try.underlying4 _), (trodAll_cons_mk (Below.trod laidOut_ (by kernel_rfl) (of_decide_eq_true (by kernel_rfl)) k0 bel lt0) trodAll_mk0), rfl, bel.frame _, fun h => by cases h⟩

/-- The statement. -/
theorem law_FnFits : Rows.FnFitsSaid :=
  OpenClaim.holds_of_wide 6 Try.f6 rfl rfl rfl rfl rfl rfl rfl ⟨rfl, rfl, rfl, rfl, rfl⟩ rfl rfl rfl rfl rfl (by kernel_rfl) Try.func6 (by kernel_rfl)
    (of_decide_eq_true (by kernel_rfl)) (by unfold Func.isWrapper; first | (rw [if_pos (by decide +kernel)]; kernel_rfl) | (rw [if_neg (by decide +kernel)]; exact ⟨rfl, rfl⟩))
    (fun os started H enc _ => lifted_FnFits os started H enc)
#print axioms law_FnFits
end Go.Proofs.Ytbdihgcjopbnjaa
