/-
  For every input FnPredicted returns true: a prediction contains the value for consistent parameters, and more records never widen it.
  Conditions: none.
-/
import Derived.Test.YtbdihgcjopbnjaaWith
import Derived.Test.YtbdihgcjopbnjaaFits2
import Derived.Test.YtbdihgcjopbnjaaPred
import Derived.Test.YtbdihgcjopbnjaaNewR
import Derived.Test.YtbdihgcjopbnjaaGrG
import Derived.Test.YtbdihgcjopbnjaaExt
import Derived.Test.YtbdihgcjopbnjaaGrO
namespace Go.Proofs.Ytbdihgcjopbnjaa
open Go.RowKit Go.ChangeShapes Go.WideShapes Go.ChangeAt Go.Deep

set_option maxRecDepth 100000 in
set_option maxHeartbeats 8000000 in
theorem walkPredicted (w : World) (B : Option Addr) (bs : List Int) (c : Nat) (hin : ∀ y ∈ bs, InB y) (hl : bs.length ≤ 9223372036854775807) (hs : Sl 1 byteC w B bs) :
    Calls Try.prog 7 #[.slice B bs.length c] w fun e w' => e = .returned (.bool true) ∧ Below w.heap.size w w' := by
  by_cases hbig : 1048576 < (bs.length : Int)
  · go_enter Try.func7, Try.ntmps7
    go_wp2
    go_ret
    refine ⟨rfl, ?_⟩
    repeat (first | (with_reducible exact Below.refl _ _) | (with_reducible assumption) | (with_reducible refine below_al ?_ _) | (with_reducible refine Below.drew ?_) | (with_reducible refine below_drewN ?_ _) | (with_reducible refine below_st ?_ ?_ _) | (with_reducible refine below_tr ?_ (by assumption)) | (with_reducible exact Nat.le_refl _) | (focus (simp; done)) | (focus (simp; omega)))
  have hn : bs.length ≤ 1048576 := by omega
  have k1 := makeRecords_c bs B c w hn hin hs
  go_enter Try.func7, Try.ntmps7
  go_wp2_with (fail)
  refine k1.mono ?_
  rintro e w1 ⟨v, xs, err, a, b, rfl, M, N1, hb1⟩
  obtain ⟨A1, c1, rfl, o1⟩ := N1
  have N1 : New 95 3 recordC w1 w.heap.size (.slice A1 xs.length c1) xs := ⟨A1, c1, rfl, o1⟩
  have S1 := N1.out recordC_len
  have hcap := N1.cap_
  have hnil1 := N1.nilcap
  have er0 := M.e0
  have hx5 := M.len
  have hie : In64 err := ⟨by omega, by omega⟩
  have T1 : HasT (w1.alloc (.cells #[.int .i64 a, .int .i64 b, .int .i64 1] 65)) w1.heap.size 65 [.int .i64 a, .int .i64 b, .int .i64 1] := HasT.new w1 [.int .i64 a, .int .i64 b, .int .i64 1] 65
  have b1 := below_al hb1 (.cells #[.int .i64 a, .int .i64 b, .int .i64 1] 65)
  have S2 := S1.alloc (.cells #[.int .i64 a, .int .i64 b, .int .i64 1] 65)
  clear k1 N1 o1 S1 hb1
  go_upto_region 4 with fail
  generalize w1.alloc (.cells #[.int .i64 a, .int .i64 b, .int .i64 1] 65) = w2 at *
  generalize w1.heap.size = gs at *
  go_wp2_with (fail)
  refine (makeNum_c bs B c 60 _ (by decide) (by decide) hn hin (hs.below b1)).mono ?_
  rintro e w3 ⟨u, rfl, ⟨u0, u1⟩, hb3⟩
  have b3 := below_tr b1 hb3
  go_wp2_with (fail)
  refine (makeNum_c bs B c 62 _ (by decide) (by decide) hn hin (hs.below b3)).mono ?_
  rintro e w4 ⟨u', rfl, ⟨u2, u3⟩, hb4⟩
  have b4 := below_tr b3 hb4
  have S4 := (S2.below hb3).below hb4
  have T4 := (T1.below hb3).below hb4
  clear S2 T1 hb3 hb4 b1 b3
  go_upto_region 6 with fail
  obtain ⟨bf, hbf⟩ : ∃ bf, bf = u % 200 - 100 := ⟨_, rfl⟩
  obtain ⟨ip, hip⟩ : ∃ ip, ip = u' % 40 - 20 := ⟨_, rfl⟩
  rw [← hbf, ← hip]
  have bb : -100 ≤ bf ∧ bf ≤ 99 := by omega
  have bi : -20 ≤ ip ∧ ip ≤ 19 := by omega
  clear hbf hip u0 u1 u2 u3
  have hpv := fun h => pred_v M bb bi h
  have hok1 := Lib.hid (show predOk xs err bf ip = !decide ((fitR xs err).length = 0) by
    unfold predOk predOkP
    rw [M.fit, inR_iff.2 (show -1000 ≤ bf ∧ bf ≤ 1000 by omega), inR_iff.2 (show -1000 ≤ ip ∧ ip ≤ 1000 by omega)]
    simp)
  have hro := fitR_ok xs err
  have hfo := M.fit
  have hrec := M.records
  have m1 := mulB (a := a) (b := bf) (A := 99) (B := 100) ⟨by have := M.a0; omega, by have := M.a0; omega⟩ ⟨by omega, by omega⟩
  have m2 := mulB (a := b) (b := ip) (A := 39) (B := 20) ⟨by have := M.b0; omega, by have := M.b0; omega⟩ ⟨by omega, by omega⟩
  have kp := iPred_c A1 xs c1 err bf ip w4 (by omega) hie ⟨by omega, by omega⟩ ⟨by omega, by omega⟩ S4
  have herr := M.err_
  by_cases hv : (fitR xs err).length = 0
  · have hq : predOk xs err bf ip = false := by rw [hok1.out, decide_eq_true hv]; rfl
    rw [hq] at kp
    clear hok1 hpv
    generalize predR xs err bf ip = pr at *
    go_wp2_with (fail)
    refine kp.mono ?_
    rintro e w5 ⟨rfl, hb5⟩
    have b5 := below_al (below_al (below_tr b4 hb5) (.cells #[.int .i64 pr.1.n, .int .i64 pr.1.d] 41)) (.cells #[.int .i64 pr.2.n, .int .i64 pr.2.d] 41)
    have S5 := ((S4.below hb5).alloc (.cells #[.int .i64 pr.1.n, .int .i64 pr.1.d] 41)).alloc (.cells #[.int .i64 pr.2.n, .int .i64 pr.2.d] 41)
    go_upto_region 7 with fail
    generalize (w5.alloc (.cells #[.int .i64 pr.1.n, .int .i64 pr.1.d] 41)).alloc (.cells #[.int .i64 pr.2.n, .int .i64 pr.2.d] 41) = w6 at *
    go_wp2_with (fail)
    refine (iFit_c A1 xs c1 err _ (by omega) hie S5).mono ?_
    rintro e w7 ⟨v3, rfl, N3, hb7⟩
    obtain ⟨A3, c3, rfl, S7⟩ := N3.sl halfC_len
    rw [hfo]
    have q1 := fun W h => iRecordsOk_c A1 xs c1 W (by omega) h
    have q2 := fun W => iIsVoid_c (fitR xs err) ⟨A3, c3⟩ W
    rw [hrec] at q1
    rw [decide_eq_true hv] at q2
    have b8 := below_al (below_tr b5 hb7) (.cells #[.slice A3 (fitR xs err).length c3] 76)
    have T8 : HasT (w7.alloc (.cells #[.slice A3 (fitR xs err).length c3] 76)) w7.heap.size 76 [.slice A3 (fitR xs err).length c3] := HasT.new w7 [.slice A3 (fitR xs err).length c3] 76
    have S8 := (S5.below hb7).alloc (.cells #[.slice A3 (fitR xs err).length c3] 76)
    clear hv N3 S7 S5 b5 hb7
    generalize fitR xs err = R at *
    go_upto_region 8 with fail
    generalize w7.alloc (.cells #[.slice A3 R.length c3] 76) = w8 at *
    generalize w7.heap.size = gp at *
    go_wp2_with (fail)
    refine (q1 _ S8).mono ?_
    rintro e w9 ⟨rfl, hb9⟩
    have T9 := T8.below hb9
    have H9 := T9.has
    obtain ⟨cH9_0, fH9_0⟩ := H9.2 0 _ rfl
    have l9 := H9.1
    go_wp2_with (fail)
    refine (q2 _).mono ?_
    rintro e w10 ⟨rfl, hb10⟩
    go_wp2
    go_ret
    exact ⟨rfl, below_tr (below_tr b8 hb9) hb10⟩
  have hne : fitR xs err ≠ [] := fun e => hv (by rw [e]; rfl)
  have hq : predOk xs err bf ip = true := by rw [hok1.out, decide_eq_false hv]; rfl
  have pv := hpv hq
  rw [hq] at kp
  have vl := pv.low
  have vh := pv.high
  have il := pv.inl
  have ih := pv.inh
  have iv := pv.inv
  clear hok1 hpv hq hv pv
  generalize predR xs err bf ip = pr at *
  obtain ⟨lo, hi⟩ := pr
  simp only at vl vh il ih kp
  go_wp2_with (fail)
  refine kp.mono ?_
  rintro e w5 ⟨rfl, hb5⟩
  have b5 := below_al (below_al (below_tr b4 hb5) (.cells #[.int .i64 lo.n, .int .i64 lo.d] 41)) (.cells #[.int .i64 hi.n, .int .i64 hi.d] 41)
  have S5 := ((S4.below hb5).alloc (.cells #[.int .i64 lo.n, .int .i64 lo.d] 41)).alloc (.cells #[.int .i64 hi.n, .int .i64 hi.d] 41)
  have T5 := ((T4.below hb5).alloc (.cells #[.int .i64 lo.n, .int .i64 lo.d] 41)).alloc (.cells #[.int .i64 hi.n, .int .i64 hi.d] 41)
  have L5 : HasT ((w5.alloc (.cells #[.int .i64 lo.n, .int .i64 lo.d] 41)).alloc (.cells #[.int .i64 hi.n, .int .i64 hi.d] 41)) w5.heap.size 41 [.int .i64 lo.n, .int .i64 lo.d] := (HasT.new w5 [.int .i64 lo.n, .int .i64 lo.d] 41).alloc _
  have U5 : HasT ((w5.alloc (.cells #[.int .i64 lo.n, .int .i64 lo.d] 41)).alloc (.cells #[.int .i64 hi.n, .int .i64 hi.d] 41)) (w5.heap.size + 1) 41 [.int .i64 hi.n, .int .i64 hi.d] := by
    have := HasT.new (w5.alloc (.cells #[.int .i64 lo.n, .int .i64 lo.d] 41)) [.int .i64 hi.n, .int .i64 hi.d] 41
    simpa using this
  clear kp S4 T4 b4 hb5
  go_upto_region 7 with fail
  generalize (w5.alloc (.cells #[.int .i64 lo.n, .int .i64 lo.d] 41)).alloc (.cells #[.int .i64 hi.n, .int .i64 hi.d] 41) = w6 at *
  generalize w5.heap.size = gl at *
  go_wp2_with (fail)
  refine (iFit_c A1 xs c1 err _ (by omega) hie S5).mono ?_
  rintro e w7 ⟨v3, rfl, N3, hb7⟩
  obtain ⟨A3, c3, rfl, o3⟩ := N3
  have N3 : New 177 3 halfC w7 w6.heap.size (.slice A3 (fitR xs err).length c3) (fitR xs err) := ⟨A3, c3, rfl, o3⟩
  have R7 := N3.out halfC_len
  have hnil3 := N3.nilcap
  rw [hfo]
  have q1 := fun W h => iRecordsOk_c A1 xs c1 W (by omega) h
  rw [hrec] at q1
  have X := Obj.cells #[.slice A3 (fitR xs err).length c3] 76
  have b8 := below_al (below_tr b5 hb7) (.cells #[.slice A3 (fitR xs err).length c3] 76)
  have P8 : HasT (w7.alloc (.cells #[.slice A3 (fitR xs err).length c3] 76)) w7.heap.size 76 [.slice A3 (fitR xs err).length c3] := HasT.new w7 [.slice A3 (fitR xs err).length c3] 76
  have S8 := (S5.below hb7).alloc (.cells #[.slice A3 (fitR xs err).length c3] 76)
  have T8 := (T5.below hb7).alloc (.cells #[.slice A3 (fitR xs err).length c3] 76)
  have L8 := (L5.below hb7).alloc (.cells #[.slice A3 (fitR xs err).length c3] 76)
  have U8 := (U5.below hb7).alloc (.cells #[.slice A3 (fitR xs err).length c3] 76)
  have R8 := R7.alloc (.cells #[.slice A3 (fitR xs err).length c3] 76)
  clear X N3 o3 R7 S5 T5 L5 U5 b5 hb7
  go_upto_region 8 with fail
  generalize w7.alloc (.cells #[.slice A3 (fitR xs err).length c3] 76) = w8 at *
  generalize w7.heap.size = gp at *
  go_wp2_with (fail)
  refine (q1 _ S8).mono ?_
  rintro e w9 ⟨rfl, hb9⟩
  have b9 := below_tr b8 hb9
  have S9 := S8.below hb9
  have T9 := T8.below hb9
  have L9 := L8.below hb9
  have U9 := U8.below hb9
  have P9 := P8.below hb9
  have R9 := R8.below hb9
  clear q1 S8 T8 L8 U8 P8 R8 b8 hb9
  have HT := T9.has
  obtain ⟨cHT_0, fHT_0⟩ := HT.2 0 _ rfl
  obtain ⟨cHT_1, fHT_1⟩ := HT.2 1 _ rfl
  obtain ⟨cHT_2, fHT_2⟩ := HT.2 2 _ rfl
  have lT := HT.1
  have q3 := fun W => iRatioOf_c (a * bf + b * ip) 100 W ⟨by omega, by omega⟩ ⟨by omega, by omega⟩
  go_wp2_with (fail)
  refine (q3 _).mono ?_
  rintro e w10 ⟨rfl, hb10⟩
  have hr1 := iv
  generalize ratioOf (a * bf + b * ip) 100 = rv at *
  have b11 := below_al (below_tr b9 hb10) (.cells #[.int .i64 rv.n, .int .i64 rv.d] 41)
  have V11 : HasT (w10.alloc (.cells #[.int .i64 rv.n, .int .i64 rv.d] 41)) w10.heap.size 41 [.int .i64 rv.n, .int .i64 rv.d] := HasT.new w10 [.int .i64 rv.n, .int .i64 rv.d] 41
  have S11 := (S9.below hb10).alloc (.cells #[.int .i64 rv.n, .int .i64 rv.d] 41)
  have L11 := (L9.below hb10).alloc (.cells #[.int .i64 rv.n, .int .i64 rv.d] 41)
  have U11 := (U9.below hb10).alloc (.cells #[.int .i64 rv.n, .int .i64 rv.d] 41)
  have P11 := (P9.below hb10).alloc (.cells #[.int .i64 rv.n, .int .i64 rv.d] 41)
  have R11 := (R9.below hb10).alloc (.cells #[.int .i64 rv.n, .int .i64 rv.d] 41)
  clear q3 S9 T9 L9 U9 P9 R9 b9 hb10 HT cHT_0 cHT_1 cHT_2 fHT_0 fHT_1 fHT_2 lT
  go_upto_region 13 with fail
  generalize w10.alloc (.cells #[.int .i64 rv.n, .int .i64 rv.d] 41) = w11 at *
  generalize w10.heap.size = gv at *
  have q4 := fun W => iRatioCmp_c lo rv W il hr1
  have q5 := fun W => iRatioCmp_c rv hi W hr1 ih
  generalize ratioCmp lo rv = r1 at *
  generalize ratioCmp rv hi = r2 at *
  have nl : ¬ 0 < r1 := by omega
  have nh : ¬ 0 < r2 := by omega
  have HL := L11.has
  obtain ⟨cHL_0, fHL_0⟩ := HL.2 0 _ rfl
  obtain ⟨cHL_1, fHL_1⟩ := HL.2 1 _ rfl
  have HV := V11.has
  obtain ⟨cHV_0, fHV_0⟩ := HV.2 0 _ rfl
  obtain ⟨cHV_1, fHV_1⟩ := HV.2 1 _ rfl
  have lL := HL.1
  have lV := HV.1
  go_wp2_with (fail)
  refine (q4 _).mono ?_
  rintro e w12 ⟨rfl, hb12⟩
  have V12 := V11.below hb12
  have U12 := U11.below hb12
  clear HL HV cHL_0 cHL_1 fHL_0 fHL_1 cHV_0 cHV_1 fHV_0 fHV_1 lL lV
  have HL := U12.has
  obtain ⟨cHL_0, fHL_0⟩ := HL.2 0 _ rfl
  obtain ⟨cHL_1, fHL_1⟩ := HL.2 1 _ rfl
  have HV := V12.has
  obtain ⟨cHV_0, fHV_0⟩ := HV.2 0 _ rfl
  obtain ⟨cHV_1, fHV_1⟩ := HV.2 1 _ rfl
  have lL := HL.1
  have lV := HV.1
  go_wp2_with (fail)
  refine (q5 _).mono ?_
  rintro e w13 ⟨rfl, hb13⟩
  have S13 := (S11.below hb12).below hb13
  have P13 := (P11.below hb12).below hb13
  have R13 := (R11.below hb12).below hb13
  have b13 := below_tr (below_tr b11 hb12) hb13
  clear HL HV cHL_0 cHL_1 fHL_0 fHL_1 cHV_0 cHV_1 fHV_0 fHV_1 lL lV q4 q5 V11 V12 U11 U12 L11 S11 P11 R11 b11 hb12 hb13 vl vh il ih iv hr1 hfo hrec
  rcases List.eq_nil_or_concat xs with rfl | ⟨ys, z, hyz⟩
  · have q6 := fun W h => iNew_c A1 [] c1 err ⟨0, 0, 0⟩ W (by simp) hie h
    rw [new_none] at q6
    go_wp2_with (fail)
    refine (q6 _ S13).mono ?_
    rintro e w14 ⟨rfl, hb14⟩
    go_wp2
    go_ret
    exact ⟨rfl, below_tr b13 hb14⟩
  have hyz : xs = ys ++ [z] := by rw [hyz]; simp
  have hlen : xs.length = ys.length + 1 := by rw [hyz]; simp
  have hsub : ∀ x ∈ ys, x ∈ xs := fun x hx => by rw [hyz]; exact List.mem_append.2 (.inl hx)
  obtain ⟨hyo, hyne⟩ := fit_fewer hsub (by omega) hne
  have hwi := within_fewer hsub (by omega) hne
  have hnl := new_last hyz (fitR_ne hne).1 hyo
  have htk : xs.take ys.length = ys := by rw [hyz]; simp
  have SY := S13.take_ ys.length
  rw [htk] at SY
  have hzl : xs[ys.length]'(by omega) = z := by simp [hyz]
  obtain ⟨zb, zo, hA1, zlt, hzc⟩ := S13.at_ (show ys.length < xs.length by omega)
  rw [hzl] at hzc
  have z0 := hzc 0 _ rfl
  have z1 := hzc 1 _ rfl
  have z2 := hzc 2 _ rfl
  simp only [Nat.add_zero] at z0
  have hry := fitR_ok ys err
  clear hzc hzl htk hsub hyz hyne
  go_upto_region 17 with fail
  have q7 := fun W h => iFit_c A1 ys c1 err W (by omega) hie h
  rw [hyo] at q7
  subst hA1
  go_wp2_with (fail)
  refine (q7 _ SY).mono ?_
  rintro e w14 ⟨v4, rfl, N4, hb14⟩
  obtain ⟨A4, c4, rfl, o4⟩ := N4
  have N4 : New 177 3 halfC w14 w13.heap.size (.slice A4 (fitR ys err).length c4) (fitR ys err) := ⟨A4, c4, rfl, o4⟩
  have R4 := N4.out halfC_len
  have hnil4 := N4.nilcap
  have Q15 : HasT (w14.alloc (.cells #[.slice A4 (fitR ys err).length c4] 76)) w14.heap.size 76 [.slice A4 (fitR ys err).length c4] := HasT.new w14 [.slice A4 (fitR ys err).length c4] 76
  have b15 := below_al (below_tr b13 hb14) (.cells #[.slice A4 (fitR ys err).length c4] 76)
  have P15 := (P13.below hb14).alloc (.cells #[.slice A4 (fitR ys err).length c4] 76)
  have R15 := (R13.below hb14).alloc (.cells #[.slice A4 (fitR ys err).length c4] 76)
  have Y15 := R4.alloc (.cells #[.slice A4 (fitR ys err).length c4] 76)
  have SY15 := (SY.below hb14).alloc (.cells #[.slice A4 (fitR ys err).length c4] 76)
  have e0 := ((below_al hb14 (.cells #[.slice A4 (fitR ys err).length c4] 76)).cell (p := ⟨zb, zo + ys.length * 3, none⟩) zlt).trans z0
  have e1 := ((below_al hb14 (.cells #[.slice A4 (fitR ys err).length c4] 76)).cell (p := ⟨zb, zo + ys.length * 3 + 1, none⟩) zlt).trans z1
  have e2 := ((below_al hb14 (.cells #[.slice A4 (fitR ys err).length c4] 76)).cell (p := ⟨zb, zo + ys.length * 3 + 2, none⟩) zlt).trans z2
  have lz := blt (below_al hb14 (.cells #[.slice A4 (fitR ys err).length c4] 76)) zlt
  clear q7 N4 o4 R4 hb14 P13 R13 SY S13 b13 z0 z1 z2 zlt
  have hlp := reg_len hro
  have hlq := reg_len hry
  have q1 := fun W h1 h2 => iIsWithin_c (fitR xs err) (fitR ys err) ⟨A3, c3⟩ ⟨A4, c4⟩ W hro hry h1 h2 hnil3 hnil4
  rw [hwi] at q1
  have q2 := fun W h => iNew_c (some ⟨zb, zo, none⟩) ys c1 err z W (by omega) hie h
  rw [hnl] at q2
  have q3 := fun W h1 h2 => iSameRegion_c (fitR xs err) (fitR ys err) ⟨A3, c3⟩ ⟨A4, c4⟩ W (by omega) (by omega) h1 h2
  have h22 := Lib.hid (rec_two herr)
  have q4 := fun W => iRecordHalves_c ⟨3, 1, 2⟩ err W
  generalize eqB (fitR xs err) (fitR ys err) = sr at *
  generalize recordHalves ⟨3, 1, 2⟩ err = rh at *
  clear hwi hnl hro hry hne hyo herr M hin hs
  generalize fitR ys err = Y at *
  generalize fitR xs err = R at *
  go_upto_region 18 with fail
  generalize w14.alloc (.cells #[.slice A4 Y.length c4] 76) = wa at *
  generalize w14.heap.size = g14 at *
  have lp := lt_of_heap P15
  have lq := lt_of_heap Q15
  have hBWA : wa.heap.size ≤ wa.heap.size := Nat.le_refl _
  have hTA_0 := P15
  have hTA_1 := Q15
  have hc2 : ys.length ≤ c1 := by omega
  have hwr : IntKind.i64.wrap (ys.length : Int) = (ys.length : Int) := IntWalk.i64_in _ (by omega)
  have hlt1 : (ys.length : Int) < (ys.length : Int) + 1 := by omega
  obtain ⟨IA, hIA⟩ : ∃ I : Act → (Nat → Bool) → Act → World → Prop, I = (fun a0 L a w' => FrameOf a0 a [97, 98, 99, 100, 101, 102, 103, 104, 105, 106, 107, 108, 109, 110, 111, 112, 113, 114, 115, 116, 117, 118, 119, 120, 121, 122, 123, 124, 125, 126, 127, 128, 2] ∧ Below (wa.heap.size) wa w' ∧ (L 0 = true → a.tmps[97]?.getD undef = .bool true) ∧ (L 1 = true → a.tmps[98]?.getD undef = .bool true) ∧ (L 2 = true → a.tmps[99]?.getD undef = .agg #[.slice A3 R.length c3]) ∧ (L 3 = true → a.tmps[100]?.getD undef = .agg #[.slice A4 Y.length c4]) ∧ (L 4 = true → a.tmps[101]?.getD undef = .bool true) ∧ (L 5 = true → a.tmps[102]?.getD undef = .bool true) ∧ (L 6 = true → a.tmps[103]?.getD undef = .bool true) ∧ (L 7 = true → a.tmps[104]?.getD undef = .slice (some ⟨zb, zo, none⟩) (ys.length + 1) c1) ∧ (L 8 = true → a.tmps[105]?.getD undef = .slice (some ⟨zb, zo, none⟩) (ys.length + 1) c1) ∧ (L 9 = true → a.tmps[106]?.getD undef = .int .i64 ((ys.length : Int) + 1)) ∧ (L 10 = true → a.tmps[107]?.getD undef = .int .i64 (ys.length : Int)) ∧ (L 11 = true → a.tmps[108]?.getD undef = .slice (some ⟨zb, zo, none⟩) ys.length c1) ∧ (L 12 = true → a.tmps[109]?.getD undef = .int .i64 err) ∧ (L 13 = true → a.tmps[110]?.getD undef = .slice (some ⟨zb, zo, none⟩) (ys.length + 1) c1) ∧ (L 14 = true → a.tmps[111]?.getD undef = .slice (some ⟨zb, zo, none⟩) (ys.length + 1) c1) ∧ (L 15 = true → a.tmps[112]?.getD undef = .int .i64 ((ys.length : Int) + 1)) ∧ (L 16 = true → a.tmps[113]?.getD undef = .int .i64 (ys.length : Int)) ∧ (L 17 = true → a.tmps[114]?.getD undef = .pointer (some ⟨zb, zo + ys.length * 3, none⟩)) ∧ (L 18 = true → a.tmps[115]?.getD undef = .agg #[.int .i64 z.before, .int .i64 z.input, .int .i64 z.after]) ∧ (L 19 = true → a.tmps[116]?.getD undef = .bool (!sr)) ∧ (L 20 = true → a.tmps[117]?.getD undef = .agg #[.slice A3 R.length c3]) ∧ (L 21 = true → a.tmps[118]?.getD undef = .agg #[.slice A4 Y.length c4]) ∧ (L 22 = true → a.tmps[119]?.getD undef = .bool sr) ∧ (L 23 = true → a.tmps[120]?.getD undef = .bool true) ∧ (L 24 = true → a.tmps[121]?.getD undef = .bool true) ∧ (L 25 = true → a.tmps[122]?.getD undef = .bool true) ∧ (L 26 = true → a.tmps[123]?.getD undef = .agg #[.int .i64 3, .int .i64 1, .int .i64 2]) ∧ (L 27 = true → a.tmps[124]?.getD undef = .int .i64 err) ∧ (L 28 = true → ∃ C k, a.tmps[125]?.getD undef = .slice C 2 k ∧ True) ∧ (L 29 = true → a.tmps[126]?.getD undef = .int .i64 2) ∧ (L 30 = true → a.tmps[127]?.getD undef = .bool true) ∧ (L 31 = true → a.tmps[128]?.getD undef = .bool true) ∧ (L 32 = true → a.tmps[2]?.getD undef = .bool true) ∧ HasT w' (gp) 76 [.slice A3 R.length c3] ∧ HasT w' (g14) 76 [.slice A4 Y.length c4]) := ⟨_, rfl⟩
  refine wp_region_I0 (by kernel_rfl) (by kernel_rfl) IA ?h0 ?hs ?he
  case h0 =>
    rw [hIA]
    exact ⟨FrameOf.refl _ _, (Below.refl _ _).drew, fun h => absurd h (by simp), fun h => absurd h (by simp), fun h => absurd h (by simp), fun h => absurd h (by simp), fun h => absurd h (by simp), fun h => absurd h (by simp), fun h => absurd h (by simp), fun h => absurd h (by simp), fun h => absurd h (by simp), fun h => absurd h (by simp), fun h => absurd h (by simp), fun h => absurd h (by simp), fun h => absurd h (by simp), fun h => absurd h (by simp), fun h => absurd h (by simp), fun h => absurd h (by simp), fun h => absurd h (by simp), fun h => absurd h (by simp), fun h => absurd h (by simp), fun h => absurd h (by simp), fun h => absurd h (by simp), fun h => absurd h (by simp), fun h => absurd h (by simp), fun h => absurd h (by simp), fun h => absurd h (by simp), fun h => absurd h (by simp), fun h => absurd h (by simp), fun h => absurd h (by simp), fun h => absurd h (by simp), fun h => absurd h (by simp), fun h => absurd h (by simp), fun h => absurd h (by simp), fun h => absurd h (by simp), hTA_0, hTA_1⟩
  case hs =>
    intro L a w' i o ho hLi hd hI'
    rw [hIA] at hI'
    obtain ⟨hF, hB, ci0, ci1, ci2, ci3, ci4, ci5, ci6, ci7, ci8, ci9, ci10, ci11, ci12, ci13, ci14, ci15, ci16, ci17, ci18, ci19, ci20, ci21, ci22, ci23, ci24, ci25, ci26, ci27, ci28, ci29, ci30, ci31, ci32, cy0, cy1⟩ := hI'
    have hi : i < 33 := by
      rcases Nat.lt_or_ge i 33 with h | h
      · exact h
      · rw [List.getElem?_eq_none (by simpa using h)] at ho; cases ho
    have zB := hB.size
    have hBw : wa.heap.size ≤ w'.heap.size := Nat.le_trans hBWA zB
    obtain rfl | rfl | rfl | rfl | rfl | rfl | rfl | rfl | rfl | rfl | rfl | rfl | rfl | rfl | rfl | rfl | rfl | rfl | rfl | rfl | rfl | rfl | rfl | rfl | rfl | rfl | rfl | rfl | rfl | rfl | rfl | rfl | rfl : i = 0 ∨ i = 1 ∨ i = 2 ∨ i = 3 ∨ i = 4 ∨ i = 5 ∨ i = 6 ∨ i = 7 ∨ i = 8 ∨ i = 9 ∨ i = 10 ∨ i = 11 ∨ i = 12 ∨ i = 13 ∨ i = 14 ∨ i = 15 ∨ i = 16 ∨ i = 17 ∨ i = 18 ∨ i = 19 ∨ i = 20 ∨ i = 21 ∨ i = 22 ∨ i = 23 ∨ i = 24 ∨ i = 25 ∨ i = 26 ∨ i = 27 ∨ i = 28 ∨ i = 29 ∨ i = 30 ∨ i = 31 ∨ i = 32 := by omega
    · simp only [List.getElem?_cons_zero, Option.some.injEq] at ho
      subst ho
      rw [if_pos (by simp [Region.wanted])]
      have e0 : a.tmps[15]?.getD undef = .bool true := hF.get (by decide)
      simp [go_sem, Array.getD_eq_getD_getElem?, e0]
      rw [hIA]
      exact ⟨hF.put (by decide) _, hB, fun _ => put_get_self (hF.lt (by simp)) _, pgK ci1 (by decide) rfl, pgK ci2 (by decide) rfl, pgK ci3 (by decide) rfl, pgK ci4 (by decide) rfl, pgK ci5 (by decide) rfl, pgK ci6 (by decide) rfl, pgK ci7 (by decide) rfl, pgK ci8 (by decide) rfl, pgK ci9 (by decide) rfl, pgK ci10 (by decide) rfl, pgK ci11 (by decide) rfl, pgK ci12 (by decide) rfl, pgK ci13 (by decide) rfl, pgK ci14 (by decide) rfl, pgK ci15 (by decide) rfl, pgK ci16 (by decide) rfl, pgK ci17 (by decide) rfl, pgK ci18 (by decide) rfl, pgK ci19 (by decide) rfl, pgK ci20 (by decide) rfl, pgK ci21 (by decide) rfl, pgK ci22 (by decide) rfl, pgK ci23 (by decide) rfl, pgK ci24 (by decide) rfl, pgK ci25 (by decide) rfl, pgK ci26 (by decide) rfl, pgK ci27 (by decide) rfl, fun h => by obtain ⟨C_z, k_z, vz, Nz⟩ := ci28 (by simpa using h); exact ⟨C_z, k_z, (put_get_ne (by decide) _).trans vz, trivial⟩, pgK ci29 (by decide) rfl, pgK ci30 (by decide) rfl, pgK ci31 (by decide) rfl, pgK ci32 (by decide) rfl, cy0, cy1⟩
    · simp only [List.getElem?_cons_zero, List.getElem?_cons_succ, Option.some.injEq] at ho
      subst ho
      rw [if_pos (by simp [Region.wanted])]
      have d0 := hd { on := 0, ground := .data } (by simp) (by decide)
      have v0 := ci0 d0
      simp [go_sem, Array.getD_eq_getD_getElem?, v0]
      rw [hIA]
      exact ⟨hF.put (by decide) _, hB, pgK ci0 (by decide) rfl, fun _ => put_get_self (hF.lt (by simp)) _, pgK ci2 (by decide) rfl, pgK ci3 (by decide) rfl, pgK ci4 (by decide) rfl, pgK ci5 (by decide) rfl, pgK ci6 (by decide) rfl, pgK ci7 (by decide) rfl, pgK ci8 (by decide) rfl, pgK ci9 (by decide) rfl, pgK ci10 (by decide) rfl, pgK ci11 (by decide) rfl, pgK ci12 (by decide) rfl, pgK ci13 (by decide) rfl, pgK ci14 (by decide) rfl, pgK ci15 (by decide) rfl, pgK ci16 (by decide) rfl, pgK ci17 (by decide) rfl, pgK ci18 (by decide) rfl, pgK ci19 (by decide) rfl, pgK ci20 (by decide) rfl, pgK ci21 (by decide) rfl, pgK ci22 (by decide) rfl, pgK ci23 (by decide) rfl, pgK ci24 (by decide) rfl, pgK ci25 (by decide) rfl, pgK ci26 (by decide) rfl, pgK ci27 (by decide) rfl, fun h => by obtain ⟨C_z, k_z, vz, Nz⟩ := ci28 (by simpa using h); exact ⟨C_z, k_z, (put_get_ne (by decide) _).trans vz, trivial⟩, pgK ci29 (by decide) rfl, pgK ci30 (by decide) rfl, pgK ci31 (by decide) rfl, pgK ci32 (by decide) rfl, cy0, cy1⟩
    · simp only [List.getElem?_cons_zero, List.getElem?_cons_succ, Option.some.injEq] at ho
      subst ho
      have dg := hd { on := 1, ground := .guard } (by simp) (by decide)
      have vg := ci1 dg
      rw [if_pos (wanted_of rfl rfl rfl vg)]
      have e0 : a.tmps[11]?.getD undef = .pointer (some ⟨gp, 0, none⟩) := hF.get (by decide)
      have HT0 := cy0
      have HH0 := HT0.has
      have lH0 := HH0.1
      obtain ⟨cH0_0, fH0_0⟩ := HH0.2 0 _ rfl
      simp [go_sem, Array.getD_eq_getD_getElem?, e0, cH0_0]
      rw [hIA]
      exact ⟨hF.put (by decide) _, hB, pgK ci0 (by decide) rfl, pgK ci1 (by decide) rfl, fun _ => put_get_self (hF.lt (by simp)) _, pgK ci3 (by decide) rfl, pgK ci4 (by decide) rfl, pgK ci5 (by decide) rfl, pgK ci6 (by decide) rfl, pgK ci7 (by decide) rfl, pgK ci8 (by decide) rfl, pgK ci9 (by decide) rfl, pgK ci10 (by decide) rfl, pgK ci11 (by decide) rfl, pgK ci12 (by decide) rfl, pgK ci13 (by decide) rfl, pgK ci14 (by decide) rfl, pgK ci15 (by decide) rfl, pgK ci16 (by decide) rfl, pgK ci17 (by decide) rfl, pgK ci18 (by decide) rfl, pgK ci19 (by decide) rfl, pgK ci20 (by decide) rfl, pgK ci21 (by decide) rfl, pgK ci22 (by decide) rfl, pgK ci23 (by decide) rfl, pgK ci24 (by decide) rfl, pgK ci25 (by decide) rfl, pgK ci26 (by decide) rfl, pgK ci27 (by decide) rfl, fun h => by obtain ⟨C_z, k_z, vz, Nz⟩ := ci28 (by simpa using h); exact ⟨C_z, k_z, (put_get_ne (by decide) _).trans vz, trivial⟩, pgK ci29 (by decide) rfl, pgK ci30 (by decide) rfl, pgK ci31 (by decide) rfl, pgK ci32 (by decide) rfl, cy0, cy1⟩
    · simp only [List.getElem?_cons_zero, List.getElem?_cons_succ, Option.some.injEq] at ho
      subst ho
      have dg := hd { on := 1, ground := .guard } (by simp) (by decide)
      have vg := ci1 dg
      rw [if_pos (wanted_of rfl rfl rfl vg)]
      have e0 : a.tmps[14]?.getD undef = .pointer (some ⟨g14, 0, none⟩) := hF.get (by decide)
      have HT1 := cy1
      have HH1 := HT1.has
      have lH1 := HH1.1
      obtain ⟨cH1_0, fH1_0⟩ := HH1.2 0 _ rfl
      simp [go_sem, Array.getD_eq_getD_getElem?, e0, cH1_0]
      rw [hIA]
      exact ⟨hF.put (by decide) _, hB, pgK ci0 (by decide) rfl, pgK ci1 (by decide) rfl, pgK ci2 (by decide) rfl, fun _ => put_get_self (hF.lt (by simp)) _, pgK ci4 (by decide) rfl, pgK ci5 (by decide) rfl, pgK ci6 (by decide) rfl, pgK ci7 (by decide) rfl, pgK ci8 (by decide) rfl, pgK ci9 (by decide) rfl, pgK ci10 (by decide) rfl, pgK ci11 (by decide) rfl, pgK ci12 (by decide) rfl, pgK ci13 (by decide) rfl, pgK ci14 (by decide) rfl, pgK ci15 (by decide) rfl, pgK ci16 (by decide) rfl, pgK ci17 (by decide) rfl, pgK ci18 (by decide) rfl, pgK ci19 (by decide) rfl, pgK ci20 (by decide) rfl, pgK ci21 (by decide) rfl, pgK ci22 (by decide) rfl, pgK ci23 (by decide) rfl, pgK ci24 (by decide) rfl, pgK ci25 (by decide) rfl, pgK ci26 (by decide) rfl, pgK ci27 (by decide) rfl, fun h => by obtain ⟨C_z, k_z, vz, Nz⟩ := ci28 (by simpa using h); exact ⟨C_z, k_z, (put_get_ne (by decide) _).trans vz, trivial⟩, pgK ci29 (by decide) rfl, pgK ci30 (by decide) rfl, pgK ci31 (by decide) rfl, pgK ci32 (by decide) rfl, cy0, cy1⟩
    · simp only [List.getElem?_cons_zero, List.getElem?_cons_succ, Option.some.injEq] at ho
      subst ho
      have dg := hd { on := 1, ground := .guard } (by simp) (by decide)
      have vg := ci1 dg
      rw [if_pos (wanted_of rfl rfl rfl vg)]
      have d2 := hd { on := 2, ground := .data } (by simp) (by decide)
      have v2 := ci2 d2
      have d3 := hd { on := 3, ground := .data } (by simp) (by decide)
      have v3 := ci3 d3
      simp [go_sem, Array.getD_eq_getD_getElem?, v2, v3]
      refine (q1 _ (R15.below hB) (Y15.below hB)).mono ?_
      rintro e wx ⟨rfl, hbx⟩
      rw [hIA]
      exact ⟨hF.put (by decide) _, hB.trans (hbx.mono hBw), pgK ci0 (by decide) rfl, pgK ci1 (by decide) rfl, pgK ci2 (by decide) rfl, pgK ci3 (by decide) rfl, fun _ => put_get_self (hF.lt (by simp)) _, pgK ci5 (by decide) rfl, pgK ci6 (by decide) rfl, pgK ci7 (by decide) rfl, pgK ci8 (by decide) rfl, pgK ci9 (by decide) rfl, pgK ci10 (by decide) rfl, pgK ci11 (by decide) rfl, pgK ci12 (by decide) rfl, pgK ci13 (by decide) rfl, pgK ci14 (by decide) rfl, pgK ci15 (by decide) rfl, pgK ci16 (by decide) rfl, pgK ci17 (by decide) rfl, pgK ci18 (by decide) rfl, pgK ci19 (by decide) rfl, pgK ci20 (by decide) rfl, pgK ci21 (by decide) rfl, pgK ci22 (by decide) rfl, pgK ci23 (by decide) rfl, pgK ci24 (by decide) rfl, pgK ci25 (by decide) rfl, pgK ci26 (by decide) rfl, pgK ci27 (by decide) rfl, fun h => by obtain ⟨C_z, k_z, vz, Nz⟩ := ci28 (by simpa using h); exact ⟨C_z, k_z, (put_get_ne (by decide) _).trans vz, trivial⟩, pgK ci29 (by decide) rfl, pgK ci30 (by decide) rfl, pgK ci31 (by decide) rfl, pgK ci32 (by decide) rfl, (cy0).below hbx, (cy1).below hbx⟩
    · simp only [List.getElem?_cons_zero, List.getElem?_cons_succ, Option.some.injEq] at ho
      subst ho
      rw [if_pos (by simp [Region.wanted])]
      have d1 := hd { on := 1, ground := .data } (by simp) (by decide)
      have v1 := ci1 d1
      have d4 := hd { on := 4, ground := .data } (by simp) (by decide)
      have v4 := ci4 d4
      simp [go_sem, Array.getD_eq_getD_getElem?, v1, v4]
      rw [hIA]
      exact ⟨hF.put (by decide) _, hB, pgK ci0 (by decide) rfl, pgK ci1 (by decide) rfl, pgK ci2 (by decide) rfl, pgK ci3 (by decide) rfl, pgK ci4 (by decide) rfl, fun _ => put_get_self (hF.lt (by simp)) _, pgK ci6 (by decide) rfl, pgK ci7 (by decide) rfl, pgK ci8 (by decide) rfl, pgK ci9 (by decide) rfl, pgK ci10 (by decide) rfl, pgK ci11 (by decide) rfl, pgK ci12 (by decide) rfl, pgK ci13 (by decide) rfl, pgK ci14 (by decide) rfl, pgK ci15 (by decide) rfl, pgK ci16 (by decide) rfl, pgK ci17 (by decide) rfl, pgK ci18 (by decide) rfl, pgK ci19 (by decide) rfl, pgK ci20 (by decide) rfl, pgK ci21 (by decide) rfl, pgK ci22 (by decide) rfl, pgK ci23 (by decide) rfl, pgK ci24 (by decide) rfl, pgK ci25 (by decide) rfl, pgK ci26 (by decide) rfl, pgK ci27 (by decide) rfl, fun h => by obtain ⟨C_z, k_z, vz, Nz⟩ := ci28 (by simpa using h); exact ⟨C_z, k_z, (put_get_ne (by decide) _).trans vz, trivial⟩, pgK ci29 (by decide) rfl, pgK ci30 (by decide) rfl, pgK ci31 (by decide) rfl, pgK ci32 (by decide) rfl, cy0, cy1⟩
    · simp only [List.getElem?_cons_zero, List.getElem?_cons_succ, Option.some.injEq] at ho
      subst ho
      rw [if_pos (by simp [Region.wanted])]
      have d5 := hd { on := 5, ground := .data } (by simp) (by decide)
      have v5 := ci5 d5
      simp [go_sem, Array.getD_eq_getD_getElem?, v5]
      rw [hIA]
      exact ⟨hF.put (by decide) _, hB, pgK ci0 (by decide) rfl, pgK ci1 (by decide) rfl, pgK ci2 (by decide) rfl, pgK ci3 (by decide) rfl, pgK ci4 (by decide) rfl, pgK ci5 (by decide) rfl, fun _ => put_get_self (hF.lt (by simp)) _, pgK ci7 (by decide) rfl, pgK ci8 (by decide) rfl, pgK ci9 (by decide) rfl, pgK ci10 (by decide) rfl, pgK ci11 (by decide) rfl, pgK ci12 (by decide) rfl, pgK ci13 (by decide) rfl, pgK ci14 (by decide) rfl, pgK ci15 (by decide) rfl, pgK ci16 (by decide) rfl, pgK ci17 (by decide) rfl, pgK ci18 (by decide) rfl, pgK ci19 (by decide) rfl, pgK ci20 (by decide) rfl, pgK ci21 (by decide) rfl, pgK ci22 (by decide) rfl, pgK ci23 (by decide) rfl, pgK ci24 (by decide) rfl, pgK ci25 (by decide) rfl, pgK ci26 (by decide) rfl, pgK ci27 (by decide) rfl, fun h => by obtain ⟨C_z, k_z, vz, Nz⟩ := ci28 (by simpa using h); exact ⟨C_z, k_z, (put_get_ne (by decide) _).trans vz, trivial⟩, pgK ci29 (by decide) rfl, pgK ci30 (by decide) rfl, pgK ci31 (by decide) rfl, pgK ci32 (by decide) rfl, cy0, cy1⟩
    · simp only [List.getElem?_cons_zero, List.getElem?_cons_succ, Option.some.injEq] at ho
      subst ho
      have dg := hd { on := 6, ground := .guard } (by simp) (by decide)
      have vg := ci6 dg
      rw [if_pos (wanted_of rfl rfl rfl vg)]
      have e0 : a.tmps[3]?.getD undef = .slice (some ⟨zb, zo, none⟩) (ys.length + 1) c1 := hF.get (by decide)
      simp [go_sem, Array.getD_eq_getD_getElem?, e0]
      rw [hIA]
      exact ⟨hF.put (by decide) _, hB, pgK ci0 (by decide) rfl, pgK ci1 (by decide) rfl, pgK ci2 (by decide) rfl, pgK ci3 (by decide) rfl, pgK ci4 (by decide) rfl, pgK ci5 (by decide) rfl, pgK ci6 (by decide) rfl, fun _ => put_get_self (hF.lt (by simp)) _, pgK ci8 (by decide) rfl, pgK ci9 (by decide) rfl, pgK ci10 (by decide) rfl, pgK ci11 (by decide) rfl, pgK ci12 (by decide) rfl, pgK ci13 (by decide) rfl, pgK ci14 (by decide) rfl, pgK ci15 (by decide) rfl, pgK ci16 (by decide) rfl, pgK ci17 (by decide) rfl, pgK ci18 (by decide) rfl, pgK ci19 (by decide) rfl, pgK ci20 (by decide) rfl, pgK ci21 (by decide) rfl, pgK ci22 (by decide) rfl, pgK ci23 (by decide) rfl, pgK ci24 (by decide) rfl, pgK ci25 (by decide) rfl, pgK ci26 (by decide) rfl, pgK ci27 (by decide) rfl, fun h => by obtain ⟨C_z, k_z, vz, Nz⟩ := ci28 (by simpa using h); exact ⟨C_z, k_z, (put_get_ne (by decide) _).trans vz, trivial⟩, pgK ci29 (by decide) rfl, pgK ci30 (by decide) rfl, pgK ci31 (by decide) rfl, pgK ci32 (by decide) rfl, cy0, cy1⟩
    · simp only [List.getElem?_cons_zero, List.getElem?_cons_succ, Option.some.injEq] at ho
      subst ho
      have dg := hd { on := 6, ground := .guard } (by simp) (by decide)
      have vg := ci6 dg
      rw [if_pos (wanted_of rfl rfl rfl vg)]
      have e0 : a.tmps[3]?.getD undef = .slice (some ⟨zb, zo, none⟩) (ys.length + 1) c1 := hF.get (by decide)
      simp [go_sem, Array.getD_eq_getD_getElem?, e0]
      rw [hIA]
      exact ⟨hF.put (by decide) _, hB, pgK ci0 (by decide) rfl, pgK ci1 (by decide) rfl, pgK ci2 (by decide) rfl, pgK ci3 (by decide) rfl, pgK ci4 (by decide) rfl, pgK ci5 (by decide) rfl, pgK ci6 (by decide) rfl, pgK ci7 (by decide) rfl, fun _ => put_get_self (hF.lt (by simp)) _, pgK ci9 (by decide) rfl, pgK ci10 (by decide) rfl, pgK ci11 (by decide) rfl, pgK ci12 (by decide) rfl, pgK ci13 (by decide) rfl, pgK ci14 (by decide) rfl, pgK ci15 (by decide) rfl, pgK ci16 (by decide) rfl, pgK ci17 (by decide) rfl, pgK ci18 (by decide) rfl, pgK ci19 (by decide) rfl, pgK ci20 (by decide) rfl, pgK ci21 (by decide) rfl, pgK ci22 (by decide) rfl, pgK ci23 (by decide) rfl, pgK ci24 (by decide) rfl, pgK ci25 (by decide) rfl, pgK ci26 (by decide) rfl, pgK ci27 (by decide) rfl, fun h => by obtain ⟨C_z, k_z, vz, Nz⟩ := ci28 (by simpa using h); exact ⟨C_z, k_z, (put_get_ne (by decide) _).trans vz, trivial⟩, pgK ci29 (by decide) rfl, pgK ci30 (by decide) rfl, pgK ci31 (by decide) rfl, pgK ci32 (by decide) rfl, cy0, cy1⟩
    · simp only [List.getElem?_cons_zero, List.getElem?_cons_succ, Option.some.injEq] at ho
      subst ho
      have dg := hd { on := 6, ground := .guard } (by simp) (by decide)
      have vg := ci6 dg
      rw [if_pos (wanted_of rfl rfl rfl vg)]
      have d8 := hd { on := 8, ground := .data } (by simp) (by decide)
      have v8 := ci8 d8
      simp [go_sem, Array.getD_eq_getD_getElem?, v8]
      rw [hIA]
      exact ⟨hF.put (by decide) _, hB, pgK ci0 (by decide) rfl, pgK ci1 (by decide) rfl, pgK ci2 (by decide) rfl, pgK ci3 (by decide) rfl, pgK ci4 (by decide) rfl, pgK ci5 (by decide) rfl, pgK ci6 (by decide) rfl, pgK ci7 (by decide) rfl, pgK ci8 (by decide) rfl, fun _ => put_get_self (hF.lt (by simp)) _, pgK ci10 (by decide) rfl, pgK ci11 (by decide) rfl, pgK ci12 (by decide) rfl, pgK ci13 (by decide) rfl, pgK ci14 (by decide) rfl, pgK ci15 (by decide) rfl, pgK ci16 (by decide) rfl, pgK ci17 (by decide) rfl, pgK ci18 (by decide) rfl, pgK ci19 (by decide) rfl, pgK ci20 (by decide) rfl, pgK ci21 (by decide) rfl, pgK ci22 (by decide) rfl, pgK ci23 (by decide) rfl, pgK ci24 (by decide) rfl, pgK ci25 (by decide) rfl, pgK ci26 (by decide) rfl, pgK ci27 (by decide) rfl, fun h => by obtain ⟨C_z, k_z, vz, Nz⟩ := ci28 (by simpa using h); exact ⟨C_z, k_z, (put_get_ne (by decide) _).trans vz, trivial⟩, pgK ci29 (by decide) rfl, pgK ci30 (by decide) rfl, pgK ci31 (by decide) rfl, pgK ci32 (by decide) rfl, cy0, cy1⟩
    · simp only [List.getElem?_cons_zero, List.getElem?_cons_succ, Option.some.injEq] at ho
      subst ho
      have dg := hd { on := 6, ground := .guard } (by simp) (by decide)
      have vg := ci6 dg
      rw [if_pos (wanted_of rfl rfl rfl vg)]
      have d9 := hd { on := 9, ground := .data } (by simp) (by decide)
      have v9 := ci9 d9
      simp [go_sem, Array.getD_eq_getD_getElem?, v9, hwr]
      rw [hIA]
      exact ⟨hF.put (by decide) _, hB, pgK ci0 (by decide) rfl, pgK ci1 (by decide) rfl, pgK ci2 (by decide) rfl, pgK ci3 (by decide) rfl, pgK ci4 (by decide) rfl, pgK ci5 (by decide) rfl, pgK ci6 (by decide) rfl, pgK ci7 (by decide) rfl, pgK ci8 (by decide) rfl, pgK ci9 (by decide) rfl, fun _ => put_get_self (hF.lt (by simp)) _, pgK ci11 (by decide) rfl, pgK ci12 (by decide) rfl, pgK ci13 (by decide) rfl, pgK ci14 (by decide) rfl, pgK ci15 (by decide) rfl, pgK ci16 (by decide) rfl, pgK ci17 (by decide) rfl, pgK ci18 (by decide) rfl, pgK ci19 (by decide) rfl, pgK ci20 (by decide) rfl, pgK ci21 (by decide) rfl, pgK ci22 (by decide) rfl, pgK ci23 (by decide) rfl, pgK ci24 (by decide) rfl, pgK ci25 (by decide) rfl, pgK ci26 (by decide) rfl, pgK ci27 (by decide) rfl, fun h => by obtain ⟨C_z, k_z, vz, Nz⟩ := ci28 (by simpa using h); exact ⟨C_z, k_z, (put_get_ne (by decide) _).trans vz, trivial⟩, pgK ci29 (by decide) rfl, pgK ci30 (by decide) rfl, pgK ci31 (by decide) rfl, pgK ci32 (by decide) rfl, cy0, cy1⟩
    · simp only [List.getElem?_cons_zero, List.getElem?_cons_succ, Option.some.injEq] at ho
      subst ho
      have dg := hd { on := 6, ground := .guard } (by simp) (by decide)
      have vg := ci6 dg
      rw [if_pos (wanted_of rfl rfl rfl vg)]
      have d7 := hd { on := 7, ground := .data } (by simp) (by decide)
      have v7 := ci7 d7
      have d10 := hd { on := 10, ground := .data } (by simp) (by decide)
      have v10 := ci10 d10
      simp [go_sem, Array.getD_eq_getD_getElem?, v7, v10, hc2]
      rw [hIA]
      exact ⟨hF.put (by decide) _, hB, pgK ci0 (by decide) rfl, pgK ci1 (by decide) rfl, pgK ci2 (by decide) rfl, pgK ci3 (by decide) rfl, pgK ci4 (by decide) rfl, pgK ci5 (by decide) rfl, pgK ci6 (by decide) rfl, pgK ci7 (by decide) rfl, pgK ci8 (by decide) rfl, pgK ci9 (by decide) rfl, pgK ci10 (by decide) rfl, fun _ => put_get_self (hF.lt (by simp)) _, pgK ci12 (by decide) rfl, pgK ci13 (by decide) rfl, pgK ci14 (by decide) rfl, pgK ci15 (by decide) rfl, pgK ci16 (by decide) rfl, pgK ci17 (by decide) rfl, pgK ci18 (by decide) rfl, pgK ci19 (by decide) rfl, pgK ci20 (by decide) rfl, pgK ci21 (by decide) rfl, pgK ci22 (by decide) rfl, pgK ci23 (by decide) rfl, pgK ci24 (by decide) rfl, pgK ci25 (by decide) rfl, pgK ci26 (by decide) rfl, pgK ci27 (by decide) rfl, fun h => by obtain ⟨C_z, k_z, vz, Nz⟩ := ci28 (by simpa using h); exact ⟨C_z, k_z, (put_get_ne (by decide) _).trans vz, trivial⟩, pgK ci29 (by decide) rfl, pgK ci30 (by decide) rfl, pgK ci31 (by decide) rfl, pgK ci32 (by decide) rfl, cy0, cy1⟩
    · simp only [List.getElem?_cons_zero, List.getElem?_cons_succ, Option.some.injEq] at ho
      subst ho
      have dg := hd { on := 6, ground := .guard } (by simp) (by decide)
      have vg := ci6 dg
      rw [if_pos (wanted_of rfl rfl rfl vg)]
      have e0 : a.tmps[4]?.getD undef = .int .i64 err := hF.get (by decide)
      simp [go_sem, Array.getD_eq_getD_getElem?, e0]
      rw [hIA]
      exact ⟨hF.put (by decide) _, hB, pgK ci0 (by decide) rfl, pgK ci1 (by decide) rfl, pgK ci2 (by decide) rfl, pgK ci3 (by decide) rfl, pgK ci4 (by decide) rfl, pgK ci5 (by decide) rfl, pgK ci6 (by decide) rfl, pgK ci7 (by decide) rfl, pgK ci8 (by decide) rfl, pgK ci9 (by decide) rfl, pgK ci10 (by decide) rfl, pgK ci11 (by decide) rfl, fun _ => put_get_self (hF.lt (by simp)) _, pgK ci13 (by decide) rfl, pgK ci14 (by decide) rfl, pgK ci15 (by decide) rfl, pgK ci16 (by decide) rfl, pgK ci17 (by decide) rfl, pgK ci18 (by decide) rfl, pgK ci19 (by decide) rfl, pgK ci20 (by decide) rfl, pgK ci21 (by decide) rfl, pgK ci22 (by decide) rfl, pgK ci23 (by decide) rfl, pgK ci24 (by decide) rfl, pgK ci25 (by decide) rfl, pgK ci26 (by decide) rfl, pgK ci27 (by decide) rfl, fun h => by obtain ⟨C_z, k_z, vz, Nz⟩ := ci28 (by simpa using h); exact ⟨C_z, k_z, (put_get_ne (by decide) _).trans vz, trivial⟩, pgK ci29 (by decide) rfl, pgK ci30 (by decide) rfl, pgK ci31 (by decide) rfl, pgK ci32 (by decide) rfl, cy0, cy1⟩
    · simp only [List.getElem?_cons_zero, List.getElem?_cons_succ, Option.some.injEq] at ho
      subst ho
      have dg := hd { on := 6, ground := .guard } (by simp) (by decide)
      have vg := ci6 dg
      rw [if_pos (wanted_of rfl rfl rfl vg)]
      have e0 : a.tmps[3]?.getD undef = .slice (some ⟨zb, zo, none⟩) (ys.length + 1) c1 := hF.get (by decide)
      simp [go_sem, Array.getD_eq_getD_getElem?, e0]
      rw [hIA]
      exact ⟨hF.put (by decide) _, hB, pgK ci0 (by decide) rfl, pgK ci1 (by decide) rfl, pgK ci2 (by decide) rfl, pgK ci3 (by decide) rfl, pgK ci4 (by decide) rfl, pgK ci5 (by decide) rfl, pgK ci6 (by decide) rfl, pgK ci7 (by decide) rfl, pgK ci8 (by decide) rfl, pgK ci9 (by decide) rfl, pgK ci10 (by decide) rfl, pgK ci11 (by decide) rfl, pgK ci12 (by decide) rfl, fun _ => put_get_self (hF.lt (by simp)) _, pgK ci14 (by decide) rfl, pgK ci15 (by decide) rfl, pgK ci16 (by decide) rfl, pgK ci17 (by decide) rfl, pgK ci18 (by decide) rfl, pgK ci19 (by decide) rfl, pgK ci20 (by decide) rfl, pgK ci21 (by decide) rfl, pgK ci22 (by decide) rfl, pgK ci23 (by decide) rfl, pgK ci24 (by decide) rfl, pgK ci25 (by decide) rfl, pgK ci26 (by decide) rfl, pgK ci27 (by decide) rfl, fun h => by obtain ⟨C_z, k_z, vz, Nz⟩ := ci28 (by simpa using h); exact ⟨C_z, k_z, (put_get_ne (by decide) _).trans vz, trivial⟩, pgK ci29 (by decide) rfl, pgK ci30 (by decide) rfl, pgK ci31 (by decide) rfl, pgK ci32 (by decide) rfl, cy0, cy1⟩
    · simp only [List.getElem?_cons_zero, List.getElem?_cons_succ, Option.some.injEq] at ho
      subst ho
      have dg := hd { on := 6, ground := .guard } (by simp) (by decide)
      have vg := ci6 dg
      rw [if_pos (wanted_of rfl rfl rfl vg)]
      have e0 : a.tmps[3]?.getD undef = .slice (some ⟨zb, zo, none⟩) (ys.length + 1) c1 := hF.get (by decide)
      simp [go_sem, Array.getD_eq_getD_getElem?, e0]
      rw [hIA]
      exact ⟨hF.put (by decide) _, hB, pgK ci0 (by decide) rfl, pgK ci1 (by decide) rfl, pgK ci2 (by decide) rfl, pgK ci3 (by decide) rfl, pgK ci4 (by decide) rfl, pgK ci5 (by decide) rfl, pgK ci6 (by decide) rfl, pgK ci7 (by decide) rfl, pgK ci8 (by decide) rfl, pgK ci9 (by decide) rfl, pgK ci10 (by decide) rfl, pgK ci11 (by decide) rfl, pgK ci12 (by decide) rfl, pgK ci13 (by decide) rfl, fun _ => put_get_self (hF.lt (by simp)) _, pgK ci15 (by decide) rfl, pgK ci16 (by decide) rfl, pgK ci17 (by decide) rfl, pgK ci18 (by decide) rfl, pgK ci19 (by decide) rfl, pgK ci20 (by decide) rfl, pgK ci21 (by decide) rfl, pgK ci22 (by decide) rfl, pgK ci23 (by decide) rfl, pgK ci24 (by decide) rfl, pgK ci25 (by decide) rfl, pgK ci26 (by decide) rfl, pgK ci27 (by decide) rfl, fun h => by obtain ⟨C_z, k_z, vz, Nz⟩ := ci28 (by simpa using h); exact ⟨C_z, k_z, (put_get_ne (by decide) _).trans vz, trivial⟩, pgK ci29 (by decide) rfl, pgK ci30 (by decide) rfl, pgK ci31 (by decide) rfl, pgK ci32 (by decide) rfl, cy0, cy1⟩
    · simp only [List.getElem?_cons_zero, List.getElem?_cons_succ, Option.some.injEq] at ho
      subst ho
      have dg := hd { on := 6, ground := .guard } (by simp) (by decide)
      have vg := ci6 dg
      rw [if_pos (wanted_of rfl rfl rfl vg)]
      have d14 := hd { on := 14, ground := .data } (by simp) (by decide)
      have v14 := ci14 d14
      simp [go_sem, Array.getD_eq_getD_getElem?, v14]
      rw [hIA]
      exact ⟨hF.put (by decide) _, hB, pgK ci0 (by decide) rfl, pgK ci1 (by decide) rfl, pgK ci2 (by decide) rfl, pgK ci3 (by decide) rfl, pgK ci4 (by decide) rfl, pgK ci5 (by decide) rfl, pgK ci6 (by decide) rfl, pgK ci7 (by decide) rfl, pgK ci8 (by decide) rfl, pgK ci9 (by decide) rfl, pgK ci10 (by decide) rfl, pgK ci11 (by decide) rfl, pgK ci12 (by decide) rfl, pgK ci13 (by decide) rfl, pgK ci14 (by decide) rfl, fun _ => put_get_self (hF.lt (by simp)) _, pgK ci16 (by decide) rfl, pgK ci17 (by decide) rfl, pgK ci18 (by decide) rfl, pgK ci19 (by decide) rfl, pgK ci20 (by decide) rfl, pgK ci21 (by decide) rfl, pgK ci22 (by decide) rfl, pgK ci23 (by decide) rfl, pgK ci24 (by decide) rfl, pgK ci25 (by decide) rfl, pgK ci26 (by decide) rfl, pgK ci27 (by decide) rfl, fun h => by obtain ⟨C_z, k_z, vz, Nz⟩ := ci28 (by simpa using h); exact ⟨C_z, k_z, (put_get_ne (by decide) _).trans vz, trivial⟩, pgK ci29 (by decide) rfl, pgK ci30 (by decide) rfl, pgK ci31 (by decide) rfl, pgK ci32 (by decide) rfl, cy0, cy1⟩
    · simp only [List.getElem?_cons_zero, List.getElem?_cons_succ, Option.some.injEq] at ho
      subst ho
      have dg := hd { on := 6, ground := .guard } (by simp) (by decide)
      have vg := ci6 dg
      rw [if_pos (wanted_of rfl rfl rfl vg)]
      have d15 := hd { on := 15, ground := .data } (by simp) (by decide)
      have v15 := ci15 d15
      simp [go_sem, Array.getD_eq_getD_getElem?, v15, hwr]
      rw [hIA]
      exact ⟨hF.put (by decide) _, hB, pgK ci0 (by decide) rfl, pgK ci1 (by decide) rfl, pgK ci2 (by decide) rfl, pgK ci3 (by decide) rfl, pgK ci4 (by decide) rfl, pgK ci5 (by decide) rfl, pgK ci6 (by decide) rfl, pgK ci7 (by decide) rfl, pgK ci8 (by decide) rfl, pgK ci9 (by decide) rfl, pgK ci10 (by decide) rfl, pgK ci11 (by decide) rfl, pgK ci12 (by decide) rfl, pgK ci13 (by decide) rfl, pgK ci14 (by decide) rfl, pgK ci15 (by decide) rfl, fun _ => put_get_self (hF.lt (by simp)) _, pgK ci17 (by decide) rfl, pgK ci18 (by decide) rfl, pgK ci19 (by decide) rfl, pgK ci20 (by decide) rfl, pgK ci21 (by decide) rfl, pgK ci22 (by decide) rfl, pgK ci23 (by decide) rfl, pgK ci24 (by decide) rfl, pgK ci25 (by decide) rfl, pgK ci26 (by decide) rfl, pgK ci27 (by decide) rfl, fun h => by obtain ⟨C_z, k_z, vz, Nz⟩ := ci28 (by simpa using h); exact ⟨C_z, k_z, (put_get_ne (by decide) _).trans vz, trivial⟩, pgK ci29 (by decide) rfl, pgK ci30 (by decide) rfl, pgK ci31 (by decide) rfl, pgK ci32 (by decide) rfl, cy0, cy1⟩
    · simp only [List.getElem?_cons_zero, List.getElem?_cons_succ, Option.some.injEq] at ho
      subst ho
      have dg := hd { on := 6, ground := .guard } (by simp) (by decide)
      have vg := ci6 dg
      rw [if_pos (wanted_of rfl rfl rfl vg)]
      have d13 := hd { on := 13, ground := .data } (by simp) (by decide)
      have v13 := ci13 d13
      have d16 := hd { on := 16, ground := .data } (by simp) (by decide)
      have v16 := ci16 d16
      simp [go_sem, Array.getD_eq_getD_getElem?, v13, v16, hlt1]
      rw [hIA]
      exact ⟨hF.put (by decide) _, hB, pgK ci0 (by decide) rfl, pgK ci1 (by decide) rfl, pgK ci2 (by decide) rfl, pgK ci3 (by decide) rfl, pgK ci4 (by decide) rfl, pgK ci5 (by decide) rfl, pgK ci6 (by decide) rfl, pgK ci7 (by decide) rfl, pgK ci8 (by decide) rfl, pgK ci9 (by decide) rfl, pgK ci10 (by decide) rfl, pgK ci11 (by decide) rfl, pgK ci12 (by decide) rfl, pgK ci13 (by decide) rfl, pgK ci14 (by decide) rfl, pgK ci15 (by decide) rfl, pgK ci16 (by decide) rfl, fun _ => put_get_self (hF.lt (by simp)) _, pgK ci18 (by decide) rfl, pgK ci19 (by decide) rfl, pgK ci20 (by decide) rfl, pgK ci21 (by decide) rfl, pgK ci22 (by decide) rfl, pgK ci23 (by decide) rfl, pgK ci24 (by decide) rfl, pgK ci25 (by decide) rfl, pgK ci26 (by decide) rfl, pgK ci27 (by decide) rfl, fun h => by obtain ⟨C_z, k_z, vz, Nz⟩ := ci28 (by simpa using h); exact ⟨C_z, k_z, (put_get_ne (by decide) _).trans vz, trivial⟩, pgK ci29 (by decide) rfl, pgK ci30 (by decide) rfl, pgK ci31 (by decide) rfl, pgK ci32 (by decide) rfl, cy0, cy1⟩
    · simp only [List.getElem?_cons_zero, List.getElem?_cons_succ, Option.some.injEq] at ho
      subst ho
      have dg := hd { on := 6, ground := .guard } (by simp) (by decide)
      have vg := ci6 dg
      rw [if_pos (wanted_of rfl rfl rfl vg)]
      have f0 := (hB.cell (p := ⟨zb, zo + ys.length * 3, none⟩) lz).trans e0
      have f1 := (hB.cell (p := ⟨zb, zo + ys.length * 3 + 1, none⟩) lz).trans e1
      have f2 := (hB.cell (p := ⟨zb, zo + ys.length * 3 + 2, none⟩) lz).trans e2
      have d17 := hd { on := 17, ground := .data } (by simp) (by decide)
      have v17 := ci17 d17
      simp [go_sem, Array.getD_eq_getD_getElem?, v17, f0, f1, f2]
      rw [hIA]
      exact ⟨hF.put (by decide) _, hB, pgK ci0 (by decide) rfl, pgK ci1 (by decide) rfl, pgK ci2 (by decide) rfl, pgK ci3 (by decide) rfl, pgK ci4 (by decide) rfl, pgK ci5 (by decide) rfl, pgK ci6 (by decide) rfl, pgK ci7 (by decide) rfl, pgK ci8 (by decide) rfl, pgK ci9 (by decide) rfl, pgK ci10 (by decide) rfl, pgK ci11 (by decide) rfl, pgK ci12 (by decide) rfl, pgK ci13 (by decide) rfl, pgK ci14 (by decide) rfl, pgK ci15 (by decide) rfl, pgK ci16 (by decide) rfl, pgK ci17 (by decide) rfl, fun _ => put_get_self (hF.lt (by simp)) _, pgK ci19 (by decide) rfl, pgK ci20 (by decide) rfl, pgK ci21 (by decide) rfl, pgK ci22 (by decide) rfl, pgK ci23 (by decide) rfl, pgK ci24 (by decide) rfl, pgK ci25 (by decide) rfl, pgK ci26 (by decide) rfl, pgK ci27 (by decide) rfl, fun h => by obtain ⟨C_z, k_z, vz, Nz⟩ := ci28 (by simpa using h); exact ⟨C_z, k_z, (put_get_ne (by decide) _).trans vz, trivial⟩, pgK ci29 (by decide) rfl, pgK ci30 (by decide) rfl, pgK ci31 (by decide) rfl, pgK ci32 (by decide) rfl, cy0, cy1⟩
    · simp only [List.getElem?_cons_zero, List.getElem?_cons_succ, Option.some.injEq] at ho
      subst ho
      have dg := hd { on := 6, ground := .guard } (by simp) (by decide)
      have vg := ci6 dg
      rw [if_pos (wanted_of rfl rfl rfl vg)]
      have d11 := hd { on := 11, ground := .data } (by simp) (by decide)
      have v11 := ci11 d11
      have d12 := hd { on := 12, ground := .data } (by simp) (by decide)
      have v12 := ci12 d12
      have d18 := hd { on := 18, ground := .data } (by simp) (by decide)
      have v18 := ci18 d18
      simp [go_sem, Array.getD_eq_getD_getElem?, v11, v12, v18]
      refine (q2 _ (SY15.below hB)).mono ?_
      rintro e wx ⟨rfl, hbx⟩
      rw [hIA]
      exact ⟨hF.put (by decide) _, hB.trans (hbx.mono hBw), pgK ci0 (by decide) rfl, pgK ci1 (by decide) rfl, pgK ci2 (by decide) rfl, pgK ci3 (by decide) rfl, pgK ci4 (by decide) rfl, pgK ci5 (by decide) rfl, pgK ci6 (by decide) rfl, pgK ci7 (by decide) rfl, pgK ci8 (by decide) rfl, pgK ci9 (by decide) rfl, pgK ci10 (by decide) rfl, pgK ci11 (by decide) rfl, pgK ci12 (by decide) rfl, pgK ci13 (by decide) rfl, pgK ci14 (by decide) rfl, pgK ci15 (by decide) rfl, pgK ci16 (by decide) rfl, pgK ci17 (by decide) rfl, pgK ci18 (by decide) rfl, fun _ => put_get_self (hF.lt (by simp)) _, pgK ci20 (by decide) rfl, pgK ci21 (by decide) rfl, pgK ci22 (by decide) rfl, pgK ci23 (by decide) rfl, pgK ci24 (by decide) rfl, pgK ci25 (by decide) rfl, pgK ci26 (by decide) rfl, pgK ci27 (by decide) rfl, fun h => by obtain ⟨C_z, k_z, vz, Nz⟩ := ci28 (by simpa using h); exact ⟨C_z, k_z, (put_get_ne (by decide) _).trans vz, trivial⟩, pgK ci29 (by decide) rfl, pgK ci30 (by decide) rfl, pgK ci31 (by decide) rfl, pgK ci32 (by decide) rfl, (cy0).below hbx, (cy1).below hbx⟩
    · simp only [List.getElem?_cons_zero, List.getElem?_cons_succ, Option.some.injEq] at ho
      subst ho
      have dg := hd { on := 6, ground := .guard } (by simp) (by decide)
      have vg := ci6 dg
      rw [if_pos (wanted_of rfl rfl rfl vg)]
      have e0 : a.tmps[11]?.getD undef = .pointer (some ⟨gp, 0, none⟩) := hF.get (by decide)
      have HT0 := cy0
      have HH0 := HT0.has
      have lH0 := HH0.1
      obtain ⟨cH0_0, fH0_0⟩ := HH0.2 0 _ rfl
      simp [go_sem, Array.getD_eq_getD_getElem?, e0, cH0_0]
      rw [hIA]
      exact ⟨hF.put (by decide) _, hB, pgK ci0 (by decide) rfl, pgK ci1 (by decide) rfl, pgK ci2 (by decide) rfl, pgK ci3 (by decide) rfl, pgK ci4 (by decide) rfl, pgK ci5 (by decide) rfl, pgK ci6 (by decide) rfl, pgK ci7 (by decide) rfl, pgK ci8 (by decide) rfl, pgK ci9 (by decide) rfl, pgK ci10 (by decide) rfl, pgK ci11 (by decide) rfl, pgK ci12 (by decide) rfl, pgK ci13 (by decide) rfl, pgK ci14 (by decide) rfl, pgK ci15 (by decide) rfl, pgK ci16 (by decide) rfl, pgK ci17 (by decide) rfl, pgK ci18 (by decide) rfl, pgK ci19 (by decide) rfl, fun _ => put_get_self (hF.lt (by simp)) _, pgK ci21 (by decide) rfl, pgK ci22 (by decide) rfl, pgK ci23 (by decide) rfl, pgK ci24 (by decide) rfl, pgK ci25 (by decide) rfl, pgK ci26 (by decide) rfl, pgK ci27 (by decide) rfl, fun h => by obtain ⟨C_z, k_z, vz, Nz⟩ := ci28 (by simpa using h); exact ⟨C_z, k_z, (put_get_ne (by decide) _).trans vz, trivial⟩, pgK ci29 (by decide) rfl, pgK ci30 (by decide) rfl, pgK ci31 (by decide) rfl, pgK ci32 (by decide) rfl, cy0, cy1⟩
    · simp only [List.getElem?_cons_zero, List.getElem?_cons_succ, Option.some.injEq] at ho
      subst ho
      have dg := hd { on := 6, ground := .guard } (by simp) (by decide)
      have vg := ci6 dg
      rw [if_pos (wanted_of rfl rfl rfl vg)]
      have e0 : a.tmps[14]?.getD undef = .pointer (some ⟨g14, 0, none⟩) := hF.get (by decide)
      have HT1 := cy1
      have HH1 := HT1.has
      have lH1 := HH1.1
      obtain ⟨cH1_0, fH1_0⟩ := HH1.2 0 _ rfl
      simp [go_sem, Array.getD_eq_getD_getElem?, e0, cH1_0]
      rw [hIA]
      exact ⟨hF.put (by decide) _, hB, pgK ci0 (by decide) rfl, pgK ci1 (by decide) rfl, pgK ci2 (by decide) rfl, pgK ci3 (by decide) rfl, pgK ci4 (by decide) rfl, pgK ci5 (by decide) rfl, pgK ci6 (by decide) rfl, pgK ci7 (by decide) rfl, pgK ci8 (by decide) rfl, pgK ci9 (by decide) rfl, pgK ci10 (by decide) rfl, pgK ci11 (by decide) rfl, pgK ci12 (by decide) rfl, pgK ci13 (by decide) rfl, pgK ci14 (by decide) rfl, pgK ci15 (by decide) rfl, pgK ci16 (by decide) rfl, pgK ci17 (by decide) rfl, pgK ci18 (by decide) rfl, pgK ci19 (by decide) rfl, pgK ci20 (by decide) rfl, fun _ => put_get_self (hF.lt (by simp)) _, pgK ci22 (by decide) rfl, pgK ci23 (by decide) rfl, pgK ci24 (by decide) rfl, pgK ci25 (by decide) rfl, pgK ci26 (by decide) rfl, pgK ci27 (by decide) rfl, fun h => by obtain ⟨C_z, k_z, vz, Nz⟩ := ci28 (by simpa using h); exact ⟨C_z, k_z, (put_get_ne (by decide) _).trans vz, trivial⟩, pgK ci29 (by decide) rfl, pgK ci30 (by decide) rfl, pgK ci31 (by decide) rfl, pgK ci32 (by decide) rfl, cy0, cy1⟩
    · simp only [List.getElem?_cons_zero, List.getElem?_cons_succ, Option.some.injEq] at ho
      subst ho
      have dg := hd { on := 6, ground := .guard } (by simp) (by decide)
      have vg := ci6 dg
      rw [if_pos (wanted_of rfl rfl rfl vg)]
      have d20 := hd { on := 20, ground := .data } (by simp) (by decide)
      have v20 := ci20 d20
      have d21 := hd { on := 21, ground := .data } (by simp) (by decide)
      have v21 := ci21 d21
      simp [go_sem, Array.getD_eq_getD_getElem?, v20, v21]
      refine (q3 _ (R15.below hB) (Y15.below hB)).mono ?_
      rintro e wx ⟨rfl, hbx⟩
      rw [hIA]
      exact ⟨hF.put (by decide) _, hB.trans (hbx.mono hBw), pgK ci0 (by decide) rfl, pgK ci1 (by decide) rfl, pgK ci2 (by decide) rfl, pgK ci3 (by decide) rfl, pgK ci4 (by decide) rfl, pgK ci5 (by decide) rfl, pgK ci6 (by decide) rfl, pgK ci7 (by decide) rfl, pgK ci8 (by decide) rfl, pgK ci9 (by decide) rfl, pgK ci10 (by decide) rfl, pgK ci11 (by decide) rfl, pgK ci12 (by decide) rfl, pgK ci13 (by decide) rfl, pgK ci14 (by decide) rfl, pgK ci15 (by decide) rfl, pgK ci16 (by decide) rfl, pgK ci17 (by decide) rfl, pgK ci18 (by decide) rfl, pgK ci19 (by decide) rfl, pgK ci20 (by decide) rfl, pgK ci21 (by decide) rfl, fun _ => put_get_self (hF.lt (by simp)) _, pgK ci23 (by decide) rfl, pgK ci24 (by decide) rfl, pgK ci25 (by decide) rfl, pgK ci26 (by decide) rfl, pgK ci27 (by decide) rfl, fun h => by obtain ⟨C_z, k_z, vz, Nz⟩ := ci28 (by simpa using h); exact ⟨C_z, k_z, (put_get_ne (by decide) _).trans vz, trivial⟩, pgK ci29 (by decide) rfl, pgK ci30 (by decide) rfl, pgK ci31 (by decide) rfl, pgK ci32 (by decide) rfl, (cy0).below hbx, (cy1).below hbx⟩
    · simp only [List.getElem?_cons_zero, List.getElem?_cons_succ, Option.some.injEq] at ho
      subst ho
      have dg := hd { on := 6, ground := .guard } (by simp) (by decide)
      have vg := ci6 dg
      rw [if_pos (wanted_of rfl rfl rfl vg)]
      have d19 := hd { on := 19, ground := .data } (by simp) (by decide)
      have v19 := ci19 d19
      have d22 := hd { on := 22, ground := .data } (by simp) (by decide)
      have v22 := ci22 d22
      simp [go_sem, Array.getD_eq_getD_getElem?, v19, v22]
      rw [hIA]
      exact ⟨hF.put (by decide) _, hB, pgK ci0 (by decide) rfl, pgK ci1 (by decide) rfl, pgK ci2 (by decide) rfl, pgK ci3 (by decide) rfl, pgK ci4 (by decide) rfl, pgK ci5 (by decide) rfl, pgK ci6 (by decide) rfl, pgK ci7 (by decide) rfl, pgK ci8 (by decide) rfl, pgK ci9 (by decide) rfl, pgK ci10 (by decide) rfl, pgK ci11 (by decide) rfl, pgK ci12 (by decide) rfl, pgK ci13 (by decide) rfl, pgK ci14 (by decide) rfl, pgK ci15 (by decide) rfl, pgK ci16 (by decide) rfl, pgK ci17 (by decide) rfl, pgK ci18 (by decide) rfl, pgK ci19 (by decide) rfl, pgK ci20 (by decide) rfl, pgK ci21 (by decide) rfl, pgK ci22 (by decide) rfl, fun _ => put_get_self (hF.lt (by simp)) _, pgK ci24 (by decide) rfl, pgK ci25 (by decide) rfl, pgK ci26 (by decide) rfl, pgK ci27 (by decide) rfl, fun h => by obtain ⟨C_z, k_z, vz, Nz⟩ := ci28 (by simpa using h); exact ⟨C_z, k_z, (put_get_ne (by decide) _).trans vz, trivial⟩, pgK ci29 (by decide) rfl, pgK ci30 (by decide) rfl, pgK ci31 (by decide) rfl, pgK ci32 (by decide) rfl, cy0, cy1⟩
    · simp only [List.getElem?_cons_zero, List.getElem?_cons_succ, Option.some.injEq] at ho
      subst ho
      rw [if_pos (by simp [Region.wanted])]
      have d6 := hd { on := 6, ground := .data } (by simp) (by decide)
      have v6 := ci6 d6
      have d23 := hd { on := 23, ground := .data } (by simp) (by decide)
      have v23 := ci23 d23
      simp [go_sem, Array.getD_eq_getD_getElem?, v6, v23]
      rw [hIA]
      exact ⟨hF.put (by decide) _, hB, pgK ci0 (by decide) rfl, pgK ci1 (by decide) rfl, pgK ci2 (by decide) rfl, pgK ci3 (by decide) rfl, pgK ci4 (by decide) rfl, pgK ci5 (by decide) rfl, pgK ci6 (by decide) rfl, pgK ci7 (by decide) rfl, pgK ci8 (by decide) rfl, pgK ci9 (by decide) rfl, pgK ci10 (by decide) rfl, pgK ci11 (by decide) rfl, pgK ci12 (by decide) rfl, pgK ci13 (by decide) rfl, pgK ci14 (by decide) rfl, pgK ci15 (by decide) rfl, pgK ci16 (by decide) rfl, pgK ci17 (by decide) rfl, pgK ci18 (by decide) rfl, pgK ci19 (by decide) rfl, pgK ci20 (by decide) rfl, pgK ci21 (by decide) rfl, pgK ci22 (by decide) rfl, pgK ci23 (by decide) rfl, fun _ => put_get_self (hF.lt (by simp)) _, pgK ci25 (by decide) rfl, pgK ci26 (by decide) rfl, pgK ci27 (by decide) rfl, fun h => by obtain ⟨C_z, k_z, vz, Nz⟩ := ci28 (by simpa using h); exact ⟨C_z, k_z, (put_get_ne (by decide) _).trans vz, trivial⟩, pgK ci29 (by decide) rfl, pgK ci30 (by decide) rfl, pgK ci31 (by decide) rfl, pgK ci32 (by decide) rfl, cy0, cy1⟩
    · simp only [List.getElem?_cons_zero, List.getElem?_cons_succ, Option.some.injEq] at ho
      subst ho
      rw [if_pos (by simp [Region.wanted])]
      have d24 := hd { on := 24, ground := .data } (by simp) (by decide)
      have v24 := ci24 d24
      simp [go_sem, Array.getD_eq_getD_getElem?, v24]
      rw [hIA]
      exact ⟨hF.put (by decide) _, hB, pgK ci0 (by decide) rfl, pgK ci1 (by decide) rfl, pgK ci2 (by decide) rfl, pgK ci3 (by decide) rfl, pgK ci4 (by decide) rfl, pgK ci5 (by decide) rfl, pgK ci6 (by decide) rfl, pgK ci7 (by decide) rfl, pgK ci8 (by decide) rfl, pgK ci9 (by decide) rfl, pgK ci10 (by decide) rfl, pgK ci11 (by decide) rfl, pgK ci12 (by decide) rfl, pgK ci13 (by decide) rfl, pgK ci14 (by decide) rfl, pgK ci15 (by decide) rfl, pgK ci16 (by decide) rfl, pgK ci17 (by decide) rfl, pgK ci18 (by decide) rfl, pgK ci19 (by decide) rfl, pgK ci20 (by decide) rfl, pgK ci21 (by decide) rfl, pgK ci22 (by decide) rfl, pgK ci23 (by decide) rfl, pgK ci24 (by decide) rfl, fun _ => put_get_self (hF.lt (by simp)) _, pgK ci26 (by decide) rfl, pgK ci27 (by decide) rfl, fun h => by obtain ⟨C_z, k_z, vz, Nz⟩ := ci28 (by simpa using h); exact ⟨C_z, k_z, (put_get_ne (by decide) _).trans vz, trivial⟩, pgK ci29 (by decide) rfl, pgK ci30 (by decide) rfl, pgK ci31 (by decide) rfl, pgK ci32 (by decide) rfl, cy0, cy1⟩
    · simp only [List.getElem?_cons_zero, List.getElem?_cons_succ, Option.some.injEq] at ho
      subst ho
      have dg := hd { on := 25, ground := .guard } (by simp) (by decide)
      have vg := ci25 dg
      rw [if_pos (wanted_of rfl rfl rfl vg)]
      simp [go_sem]
      rw [hIA]
      exact ⟨hF.put (by decide) _, hB, pgK ci0 (by decide) rfl, pgK ci1 (by decide) rfl, pgK ci2 (by decide) rfl, pgK ci3 (by decide) rfl, pgK ci4 (by decide) rfl, pgK ci5 (by decide) rfl, pgK ci6 (by decide) rfl, pgK ci7 (by decide) rfl, pgK ci8 (by decide) rfl, pgK ci9 (by decide) rfl, pgK ci10 (by decide) rfl, pgK ci11 (by decide) rfl, pgK ci12 (by decide) rfl, pgK ci13 (by decide) rfl, pgK ci14 (by decide) rfl, pgK ci15 (by decide) rfl, pgK ci16 (by decide) rfl, pgK ci17 (by decide) rfl, pgK ci18 (by decide) rfl, pgK ci19 (by decide) rfl, pgK ci20 (by decide) rfl, pgK ci21 (by decide) rfl, pgK ci22 (by decide) rfl, pgK ci23 (by decide) rfl, pgK ci24 (by decide) rfl, pgK ci25 (by decide) rfl, fun _ => put_get_self (hF.lt (by simp)) _, pgK ci27 (by decide) rfl, fun h => by obtain ⟨C_z, k_z, vz, Nz⟩ := ci28 (by simpa using h); exact ⟨C_z, k_z, (put_get_ne (by decide) _).trans vz, trivial⟩, pgK ci29 (by decide) rfl, pgK ci30 (by decide) rfl, pgK ci31 (by decide) rfl, pgK ci32 (by decide) rfl, cy0, cy1⟩
    · simp only [List.getElem?_cons_zero, List.getElem?_cons_succ, Option.some.injEq] at ho
      subst ho
      have dg := hd { on := 25, ground := .guard } (by simp) (by decide)
      have vg := ci25 dg
      rw [if_pos (wanted_of rfl rfl rfl vg)]
      have e0 : a.tmps[4]?.getD undef = .int .i64 err := hF.get (by decide)
      simp [go_sem, Array.getD_eq_getD_getElem?, e0]
      rw [hIA]
      exact ⟨hF.put (by decide) _, hB, pgK ci0 (by decide) rfl, pgK ci1 (by decide) rfl, pgK ci2 (by decide) rfl, pgK ci3 (by decide) rfl, pgK ci4 (by decide) rfl, pgK ci5 (by decide) rfl, pgK ci6 (by decide) rfl, pgK ci7 (by decide) rfl, pgK ci8 (by decide) rfl, pgK ci9 (by decide) rfl, pgK ci10 (by decide) rfl, pgK ci11 (by decide) rfl, pgK ci12 (by decide) rfl, pgK ci13 (by decide) rfl, pgK ci14 (by decide) rfl, pgK ci15 (by decide) rfl, pgK ci16 (by decide) rfl, pgK ci17 (by decide) rfl, pgK ci18 (by decide) rfl, pgK ci19 (by decide) rfl, pgK ci20 (by decide) rfl, pgK ci21 (by decide) rfl, pgK ci22 (by decide) rfl, pgK ci23 (by decide) rfl, pgK ci24 (by decide) rfl, pgK ci25 (by decide) rfl, pgK ci26 (by decide) rfl, fun _ => put_get_self (hF.lt (by simp)) _, fun h => by obtain ⟨C_z, k_z, vz, Nz⟩ := ci28 (by simpa using h); exact ⟨C_z, k_z, (put_get_ne (by decide) _).trans vz, trivial⟩, pgK ci29 (by decide) rfl, pgK ci30 (by decide) rfl, pgK ci31 (by decide) rfl, pgK ci32 (by decide) rfl, cy0, cy1⟩
    · simp only [List.getElem?_cons_zero, List.getElem?_cons_succ, Option.some.injEq] at ho
      subst ho
      have dg := hd { on := 25, ground := .guard } (by simp) (by decide)
      have vg := ci25 dg
      rw [if_pos (wanted_of rfl rfl rfl vg)]
      have d26 := hd { on := 26, ground := .data } (by simp) (by decide)
      have v26 := ci26 d26
      have d27 := hd { on := 27, ground := .data } (by simp) (by decide)
      have v27 := ci27 d27
      simp [go_sem, Array.getD_eq_getD_getElem?, v26, v27]
      refine (q4 _).mono ?_
      rintro e wx ⟨v, rfl, N, hbx⟩
      obtain ⟨C_28, k_28, rfl, _⟩ := N.same h22.out
      have N_28 := trivial
      rw [hIA]
      exact ⟨hF.put (by decide) _, hB.trans (hbx.mono hBw), pgK ci0 (by decide) rfl, pgK ci1 (by decide) rfl, pgK ci2 (by decide) rfl, pgK ci3 (by decide) rfl, pgK ci4 (by decide) rfl, pgK ci5 (by decide) rfl, pgK ci6 (by decide) rfl, pgK ci7 (by decide) rfl, pgK ci8 (by decide) rfl, pgK ci9 (by decide) rfl, pgK ci10 (by decide) rfl, pgK ci11 (by decide) rfl, pgK ci12 (by decide) rfl, pgK ci13 (by decide) rfl, pgK ci14 (by decide) rfl, pgK ci15 (by decide) rfl, pgK ci16 (by decide) rfl, pgK ci17 (by decide) rfl, pgK ci18 (by decide) rfl, pgK ci19 (by decide) rfl, pgK ci20 (by decide) rfl, pgK ci21 (by decide) rfl, pgK ci22 (by decide) rfl, pgK ci23 (by decide) rfl, pgK ci24 (by decide) rfl, pgK ci25 (by decide) rfl, pgK ci26 (by decide) rfl, pgK ci27 (by decide) rfl, fun _ => ⟨C_28, k_28, put_get_self (hF.lt (by simp)) _, N_28⟩, pgK ci29 (by decide) rfl, pgK ci30 (by decide) rfl, pgK ci31 (by decide) rfl, pgK ci32 (by decide) rfl, (cy0).below hbx, (cy1).below hbx⟩
    · simp only [List.getElem?_cons_zero, List.getElem?_cons_succ, Option.some.injEq] at ho
      subst ho
      have dg := hd { on := 25, ground := .guard } (by simp) (by decide)
      have vg := ci25 dg
      rw [if_pos (wanted_of rfl rfl rfl vg)]
      have d28 := hd { on := 28, ground := .data } (by simp) (by decide)
      obtain ⟨C_28, k_28, v28, N_28⟩ := ci28 d28
      simp [go_sem, Array.getD_eq_getD_getElem?, v28]
      rw [hIA]
      exact ⟨hF.put (by decide) _, hB, pgK ci0 (by decide) rfl, pgK ci1 (by decide) rfl, pgK ci2 (by decide) rfl, pgK ci3 (by decide) rfl, pgK ci4 (by decide) rfl, pgK ci5 (by decide) rfl, pgK ci6 (by decide) rfl, pgK ci7 (by decide) rfl, pgK ci8 (by decide) rfl, pgK ci9 (by decide) rfl, pgK ci10 (by decide) rfl, pgK ci11 (by decide) rfl, pgK ci12 (by decide) rfl, pgK ci13 (by decide) rfl, pgK ci14 (by decide) rfl, pgK ci15 (by decide) rfl, pgK ci16 (by decide) rfl, pgK ci17 (by decide) rfl, pgK ci18 (by decide) rfl, pgK ci19 (by decide) rfl, pgK ci20 (by decide) rfl, pgK ci21 (by decide) rfl, pgK ci22 (by decide) rfl, pgK ci23 (by decide) rfl, pgK ci24 (by decide) rfl, pgK ci25 (by decide) rfl, pgK ci26 (by decide) rfl, pgK ci27 (by decide) rfl, fun h => by obtain ⟨C_z, k_z, vz, Nz⟩ := ci28 (by simpa using h); exact ⟨C_z, k_z, (put_get_ne (by decide) _).trans vz, trivial⟩, fun _ => put_get_self (hF.lt (by simp)) _, pgK ci30 (by decide) rfl, pgK ci31 (by decide) rfl, pgK ci32 (by decide) rfl, cy0, cy1⟩
    · simp only [List.getElem?_cons_zero, List.getElem?_cons_succ, Option.some.injEq] at ho
      subst ho
      have dg := hd { on := 25, ground := .guard } (by simp) (by decide)
      have vg := ci25 dg
      rw [if_pos (wanted_of rfl rfl rfl vg)]
      have d29 := hd { on := 29, ground := .data } (by simp) (by decide)
      have v29 := ci29 d29
      simp [go_sem, Array.getD_eq_getD_getElem?, v29]
      rw [hIA]
      exact ⟨hF.put (by decide) _, hB, pgK ci0 (by decide) rfl, pgK ci1 (by decide) rfl, pgK ci2 (by decide) rfl, pgK ci3 (by decide) rfl, pgK ci4 (by decide) rfl, pgK ci5 (by decide) rfl, pgK ci6 (by decide) rfl, pgK ci7 (by decide) rfl, pgK ci8 (by decide) rfl, pgK ci9 (by decide) rfl, pgK ci10 (by decide) rfl, pgK ci11 (by decide) rfl, pgK ci12 (by decide) rfl, pgK ci13 (by decide) rfl, pgK ci14 (by decide) rfl, pgK ci15 (by decide) rfl, pgK ci16 (by decide) rfl, pgK ci17 (by decide) rfl, pgK ci18 (by decide) rfl, pgK ci19 (by decide) rfl, pgK ci20 (by decide) rfl, pgK ci21 (by decide) rfl, pgK ci22 (by decide) rfl, pgK ci23 (by decide) rfl, pgK ci24 (by decide) rfl, pgK ci25 (by decide) rfl, pgK ci26 (by decide) rfl, pgK ci27 (by decide) rfl, fun h => by obtain ⟨C_z, k_z, vz, Nz⟩ := ci28 (by simpa using h); exact ⟨C_z, k_z, (put_get_ne (by decide) _).trans vz, trivial⟩, pgK ci29 (by decide) rfl, fun _ => put_get_self (hF.lt (by simp)) _, pgK ci31 (by decide) rfl, pgK ci32 (by decide) rfl, cy0, cy1⟩
    · simp only [List.getElem?_cons_zero, List.getElem?_cons_succ, Option.some.injEq] at ho
      subst ho
      rw [if_pos (by simp [Region.wanted])]
      have d25 := hd { on := 25, ground := .data } (by simp) (by decide)
      have v25 := ci25 d25
      have d30 := hd { on := 30, ground := .data } (by simp) (by decide)
      have v30 := ci30 d30
      simp [go_sem, Array.getD_eq_getD_getElem?, v25, v30]
      rw [hIA]
      exact ⟨hF.put (by decide) _, hB, pgK ci0 (by decide) rfl, pgK ci1 (by decide) rfl, pgK ci2 (by decide) rfl, pgK ci3 (by decide) rfl, pgK ci4 (by decide) rfl, pgK ci5 (by decide) rfl, pgK ci6 (by decide) rfl, pgK ci7 (by decide) rfl, pgK ci8 (by decide) rfl, pgK ci9 (by decide) rfl, pgK ci10 (by decide) rfl, pgK ci11 (by decide) rfl, pgK ci12 (by decide) rfl, pgK ci13 (by decide) rfl, pgK ci14 (by decide) rfl, pgK ci15 (by decide) rfl, pgK ci16 (by decide) rfl, pgK ci17 (by decide) rfl, pgK ci18 (by decide) rfl, pgK ci19 (by decide) rfl, pgK ci20 (by decide) rfl, pgK ci21 (by decide) rfl, pgK ci22 (by decide) rfl, pgK ci23 (by decide) rfl, pgK ci24 (by decide) rfl, pgK ci25 (by decide) rfl, pgK ci26 (by decide) rfl, pgK ci27 (by decide) rfl, fun h => by obtain ⟨C_z, k_z, vz, Nz⟩ := ci28 (by simpa using h); exact ⟨C_z, k_z, (put_get_ne (by decide) _).trans vz, trivial⟩, pgK ci29 (by decide) rfl, pgK ci30 (by decide) rfl, fun _ => put_get_self (hF.lt (by simp)) _, pgK ci32 (by decide) rfl, cy0, cy1⟩
    · simp only [List.getElem?_cons_zero, List.getElem?_cons_succ, Option.some.injEq] at ho
      subst ho
      rw [if_pos (by simp [Region.wanted])]
      have d31 := hd { on := 31, ground := .data } (by simp) (by decide)
      have v31 := ci31 d31
      simp [go_sem, Array.getD_eq_getD_getElem?, v31]
      rw [hIA]
      exact ⟨hF.put (by decide) _, hB, pgK ci0 (by decide) rfl, pgK ci1 (by decide) rfl, pgK ci2 (by decide) rfl, pgK ci3 (by decide) rfl, pgK ci4 (by decide) rfl, pgK ci5 (by decide) rfl, pgK ci6 (by decide) rfl, pgK ci7 (by decide) rfl, pgK ci8 (by decide) rfl, pgK ci9 (by decide) rfl, pgK ci10 (by decide) rfl, pgK ci11 (by decide) rfl, pgK ci12 (by decide) rfl, pgK ci13 (by decide) rfl, pgK ci14 (by decide) rfl, pgK ci15 (by decide) rfl, pgK ci16 (by decide) rfl, pgK ci17 (by decide) rfl, pgK ci18 (by decide) rfl, pgK ci19 (by decide) rfl, pgK ci20 (by decide) rfl, pgK ci21 (by decide) rfl, pgK ci22 (by decide) rfl, pgK ci23 (by decide) rfl, pgK ci24 (by decide) rfl, pgK ci25 (by decide) rfl, pgK ci26 (by decide) rfl, pgK ci27 (by decide) rfl, fun h => by obtain ⟨C_z, k_z, vz, Nz⟩ := ci28 (by simpa using h); exact ⟨C_z, k_z, (put_get_ne (by decide) _).trans vz, trivial⟩, pgK ci29 (by decide) rfl, pgK ci30 (by decide) rfl, pgK ci31 (by decide) rfl, fun _ => put_get_self (hF.lt (by simp)) _, cy0, cy1⟩
  case he =>
    intro L a' wA hL hI'
    rw [hIA] at hI'
    obtain ⟨hF, hbA, ci0, ci1, ci2, ci3, ci4, ci5, ci6, ci7, ci8, ci9, ci10, ci11, ci12, ci13, ci14, ci15, ci16, ci17, ci18, ci19, ci20, ci21, ci22, ci23, ci24, ci25, ci26, ci27, ci28, ci29, ci30, ci31, ci32, cy0, cy1⟩ := hI'
    have eA_32 := ci32 (hL 32 (by decide))
    have HTA_0 := cy0
    have HTA_1 := cy1
    have hout := hF.outG (by simp)
    simp only [List.foldl_cons, List.foldl_nil, eA_32] at hout
    rw [hout]
    generalize a'.tmps[97]?.getD undef = xA_97
    generalize a'.tmps[98]?.getD undef = xA_98
    generalize a'.tmps[99]?.getD undef = xA_99
    generalize a'.tmps[100]?.getD undef = xA_100
    generalize a'.tmps[101]?.getD undef = xA_101
    generalize a'.tmps[102]?.getD undef = xA_102
    generalize a'.tmps[103]?.getD undef = xA_103
    generalize a'.tmps[104]?.getD undef = xA_104
    generalize a'.tmps[105]?.getD undef = xA_105
    generalize a'.tmps[106]?.getD undef = xA_106
    generalize a'.tmps[107]?.getD undef = xA_107
    generalize a'.tmps[108]?.getD undef = xA_108
    generalize a'.tmps[109]?.getD undef = xA_109
    generalize a'.tmps[110]?.getD undef = xA_110
    generalize a'.tmps[111]?.getD undef = xA_111
    generalize a'.tmps[112]?.getD undef = xA_112
    generalize a'.tmps[113]?.getD undef = xA_113
    generalize a'.tmps[114]?.getD undef = xA_114
    generalize a'.tmps[115]?.getD undef = xA_115
    generalize a'.tmps[116]?.getD undef = xA_116
    generalize a'.tmps[117]?.getD undef = xA_117
    generalize a'.tmps[118]?.getD undef = xA_118
    generalize a'.tmps[119]?.getD undef = xA_119
    generalize a'.tmps[120]?.getD undef = xA_120
    generalize a'.tmps[121]?.getD undef = xA_121
    generalize a'.tmps[122]?.getD undef = xA_122
    generalize a'.tmps[123]?.getD undef = xA_123
    generalize a'.tmps[124]?.getD undef = xA_124
    generalize a'.tmps[125]?.getD undef = xA_125
    generalize a'.tmps[126]?.getD undef = xA_126
    generalize a'.tmps[127]?.getD undef = xA_127
    generalize a'.tmps[128]?.getD undef = xA_128
    clear hout hIA hF hL ci0 ci1 ci2 ci3 ci4 ci5 ci6 ci7 ci8 ci9 ci10 ci11 ci12 ci13 ci14 ci15 ci16 ci17 ci18 ci19 ci20 ci21 ci22 ci23 ci24 ci25 ci26 ci27 ci28 ci29 ci30 ci31 ci32 cy0 cy1
    go_simp
    go_wp2
    go_ret
    exact ⟨rfl, b15.trans (hbA.mono b15.size)⟩

set_option maxRecDepth 100000 in
theorem lifted_FnPredicted (os : Os) (started : os.Started) (H : Type) (enc : TypeId × Value → H) :
    ReturnsInHanded {} Try.checked os 7 .any (Rows.fnPredictedSpec.pre6 enc Try.prog Try.f7 Rows.fnPredictedRow.domain false) (Rows.fnPredictedSpec.post enc Try.prog Try.f7 false true false false) := by
  refine returnsInHanded_of_change (C := Try.checked) own_ started (by kernel_rfl) Try.func7
    (ChangeSpec.witness6 (enc := enc) (C := Try.checked) false ⟨#[], #[.slice none 0 0], []⟩ 8 (by kernel_rfl) (by kernel_rfl) (by kernel_rfl) (by kernel_rfl)) ?_
  intro W base args ds gs before hval0 hW hcnd _
  have hval : ∀ (j : Nat) t v, Try.f7.params[j]? = some t → args[j]? = some v → Value.okWide Try.prog W .any base t v := hval0
  have hW' := hW
  obtain ⟨p, q, hA0, hV, rfl, hfz, hnd⟩ := hW
  have hA : DataW.TrodAll enc Try.prog W 0 (fun _ => true) true Try.f7.params.toList args.toList ds p := hA0
  rw [Try.params7] at hA hval
  obtain ⟨v0, vs0, d0, ds0, p0, q0, hargs, rfl, rfl, h0, r0⟩ := trodAll_cons hA
  obtain ⟨rfl, rfl, rfl⟩ := trodAll_nil r0
  obtain rfl : args = #[v0] := by cases args; simp_all
  obtain ⟨rfl, rfl⟩ := trodVars_none hV
  have k0 := h0
  have lt0 : ∀ x ∈ p0, x.block < W.heap.size := by obtain ⟨m, hm⟩ := k0; exact DataW.trod_lt m _ _ _ hm
  have ok0 := hval 0 70 v0 rfl rfl
  obtain ⟨B, c, bs, rfl, hl, hin, hs⟩ := openByteSV ok0 h0
  refine (walkPredicted W B bs c hin hl hs).mono fun e W' ⟨he, bel⟩ => ?_
  subst he
  exact ⟨_, rfl, _, _, _, [], _, [], hW', trodAll_mk1 (shut_bool Try.underlying4 _), (trodAll_cons_mk (Below.trod laidOut_ (by kernel_rfl) (of_decide_eq_true (by kernel_rfl)) k0 bel lt0) trodAll_mk0), rfl, bel.frame _, fun h => by cases h⟩

/-- The statement. -/
theorem law_FnPredicted : Rows.FnPredictedSaid :=
  OpenClaim.holds_of_wide 7 Try.f7 rfl rfl rfl rfl rfl rfl rfl ⟨rfl, rfl, rfl, rfl, rfl⟩ rfl rfl rfl rfl rfl (by kernel_rfl) Try.func7 (by kernel_rfl)
    (of_decide_eq_true (by kernel_rfl)) (by unfold Func.isWrapper; first | (rw [if_pos (by decide +kernel)]; kernel_rfl) | (rw [if_neg (by decide +kernel)]; exact ⟨rfl, rfl⟩))
    (fun os started H enc _ => lifted_FnPredicted os started H enc)
#print axioms law_FnPredicted
end Go.Proofs.Ytbdihgcjopbnjaa
