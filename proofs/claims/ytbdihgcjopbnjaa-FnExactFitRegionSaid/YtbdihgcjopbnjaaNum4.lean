/-
  What the functions on half planes return.
  Conditions: the numbers are ints of the machine.
-/
import Derived.Test.YtbdihgcjopbnjaaNum3
namespace Go.Proofs.Ytbdihgcjopbnjaa
open Go.RowKit

set_option maxHeartbeats 1000000 in
theorem iHalfOf_c (a b c : Int) (w : World) (ha : In64 a) (hb : In64 b) (hc : In64 c) :
    Calls Try.prog 132 #[.int .i64 a, .int .i64 b, .int .i64 c] w fun e w' => e = .returned (optHalfV (halfOf a b c)) ∧ Below w.heap.size w w' := by
  have hall : ∀ n ∈ [a, b, c], In64 n := by simp [ha, hb, hc]
  have hg := gcdOfAll_c (some ⟨w.heap.size + 1, 0, none⟩) [a, b, c] 3 _ (by simp) hall (sl_new_at (T := 3) intC_len (w.alloc (.cells #[.int .i64 0, .int .i64 0, .int .i64 0] 177)) [a, b, c] #[.int .i64 a, .int .i64 b, .int .i64 c] rfl (by simp))
  have hle := gcdAll_le [a, b, c] hall
  have m1 := fun v h => isLeast_v a v h ha
  have m2 := fun v h => isLeast_v b v h hb
  have m3 := fun v h => isLeast_v c v h hc
  by_cases hz : gcdAll [a, b, c] = 0
  · have hfin : halfOf a b c = none := by simp [halfOf, hz]
    rw [hfin]
    rw [hz] at hg
    clear hz hle
    go_enter Try.func132, Try.ntmps132
    go_wp2_with (fail)
    refine hg.mono ?_
    rintro e w1 ⟨rfl, hb1⟩
    have H1 := ((Has.new w #[.int .i64 0, .int .i64 0, .int .i64 0] 177).alloc _).below hb1
    obtain ⟨cH1_0, fH1_0⟩ := H1.2 0 _ rfl
    obtain ⟨cH1_1, fH1_1⟩ := H1.2 1 _ rfl
    obtain ⟨cH1_2, fH1_2⟩ := H1.2 2 _ rfl
    have hbw := below_tr (below_al (below_al (Below.refl w.heap.size w) _) _) hb1
    go_wp2
    refine bodyPost_ret (v := .tuple #[.agg #[.int .i64 0, .int .i64 0, .int .i64 0], .bool false]) (by simp [results, Try.results132, go_sem, *]) rfl ⟨rfl, ?_⟩
    repeat (first | (with_reducible exact Below.refl _ _) | (with_reducible assumption) | (with_reducible refine below_al ?_ _) | (with_reducible refine Below.drew ?_) | (with_reducible refine below_drewN ?_ _) | (with_reducible refine below_st ?_ ?_ _) | (with_reducible refine below_tr ?_ (by assumption)) | (with_reducible exact Nat.le_refl _) | (focus (simp; done)) | (focus (simp; omega)))
  · cases ma : isMin a
    · cases mb : isMin b
      · cases mc : isMin c
        · have hfin : Hid (halfOf a b c = if halfOk ⟨a.tdiv (gcdAll [a, b, c]), b.tdiv (gcdAll [a, b, c]), c.tdiv (gcdAll [a, b, c])⟩ = true then some ⟨a.tdiv (gcdAll [a, b, c]), b.tdiv (gcdAll [a, b, c]), c.tdiv (gcdAll [a, b, c])⟩ else none) := by
            show _ = _
            rw [halfOf, if_neg (by simp [hz, ma, mb, mc])]; rfl
          have hpos : 0 < gcdAll [a, b, c] := by omega
          clear hz
          generalize gcdAll [a, b, c] = G at *
          have i1 := tdiv_In64 ha ma G
          have i2 := tdiv_In64 hb mb G
          have i3 := tdiv_In64 hc mc G
          have c1 := fun W => divided_c a G W ha ma hpos hle
          have c2 := fun W => divided_c b G W hb mb hpos hle
          have c3 := fun W => divided_c c G W hc mc hpos hle
          have c4 := fun W => iHalfOk_c ⟨a.tdiv G, b.tdiv G, c.tdiv G⟩ W ⟨i1, i2, i3⟩
          have n1 := m1 _ ma
          have n2 := m2 _ mb
          have n3 := m3 _ mc
          have hG1 : ¬ (G = 0) := by omega
          have hG2 : ((G : Int) == 0) = false := by simp; omega
          generalize a.tdiv G = x' at *
          generalize b.tdiv G = y' at *
          generalize c.tdiv G = d' at *
          clear i1 i2 i3 ma mb mc ha hb hc hall m1 m2 m3
          generalize halfOk ⟨x', y', d'⟩ = ok at *
          go_enter Try.func132, Try.ntmps132
          go_wp2_with (fail)
          refine hg.mono ?_
          rintro e w1 ⟨rfl, hb1⟩
          have hb2 := (below_tr (below_al (below_al (Below.refl w.heap.size w) _) _) hb1)
          have H1 := ((Has.new w #[.int .i64 0, .int .i64 0, .int .i64 0] 177).alloc _).below hb1
          go_wp2_with (fail)
          refine (n1 _).mono ?_
          rintro e w' ⟨rfl, rfl⟩
          go_wp2_with (fail)
          refine (n2 _).mono ?_
          rintro e w' ⟨rfl, rfl⟩
          go_wp2_with (fail)
          refine (n3 _).mono ?_
          rintro e w' ⟨rfl, rfl⟩
          go_wp2_with (fail)
          refine (c1 _).mono ?_
          rintro e w' ⟨rfl, rfl⟩
          go_wp2_with (fail)
          refine (c2 _).mono ?_
          rintro e w' ⟨rfl, rfl⟩
          go_wp2_with (fail)
          refine (c3 _).mono ?_
          rintro e w' ⟨rfl, rfl⟩
          go_wp2_with (fail)
          refine (c4 _).mono ?_
          rintro e w2 ⟨rfl, hb4⟩
          have hb5 := below_tr (below_al hb2 (.cells #[.int .i64 x', .int .i64 y', .int .i64 d'] 177)) hb4
          have H2 := (H1.alloc _).below hb4
          have H3 := (Has.new _ _ _).below hb4
          obtain ⟨cH2_0, fH2_0⟩ := H2.2 0 _ rfl
          obtain ⟨cH2_1, fH2_1⟩ := H2.2 1 _ rfl
          obtain ⟨cH2_2, fH2_2⟩ := H2.2 2 _ rfl
          obtain ⟨cH3_0, fH3_0⟩ := H3.2 0 _ rfl
          obtain ⟨cH3_1, fH3_1⟩ := H3.2 1 _ rfl
          obtain ⟨cH3_2, fH3_2⟩ := H3.2 2 _ rfl
          cases ok
          · go_wp2
            refine bodyPost_ret (v := .tuple #[.agg #[.int .i64 0, .int .i64 0, .int .i64 0], .bool false]) (by simp [results, Try.results132, go_sem, *]) rfl ⟨by rw [hfin.out]; rfl, ?_⟩
            repeat (first | (with_reducible exact Below.refl _ _) | (with_reducible assumption) | (with_reducible refine below_al ?_ _) | (with_reducible refine Below.drew ?_) | (with_reducible refine below_drewN ?_ _) | (with_reducible refine below_st ?_ ?_ _) | (with_reducible refine below_tr ?_ (by assumption)) | (with_reducible exact Nat.le_refl _) | (focus (simp; done)) | (focus (simp; omega)))
          · go_wp2
            refine bodyPost_ret (v := .tuple #[.agg #[.int .i64 x', .int .i64 y', .int .i64 d'], .bool true]) (by simp [results, Try.results132, go_sem, *]) rfl ⟨by rw [hfin.out]; rfl, ?_⟩
            repeat (first | (with_reducible exact Below.refl _ _) | (with_reducible assumption) | (with_reducible refine below_al ?_ _) | (with_reducible refine Below.drew ?_) | (with_reducible refine below_drewN ?_ _) | (with_reducible refine below_st ?_ ?_ _) | (with_reducible refine below_tr ?_ (by assumption)) | (with_reducible exact Nat.le_refl _) | (focus (simp; done)) | (focus (simp; omega)))
        · have hfin : halfOf a b c = none := by simp [halfOf, mc]
          rw [hfin]
          have n1 := m1 _ ma
          have n2 := m2 _ mb
          have n3 := m3 _ mc
          have hG1 : ((gcdAll [a, b, c] : Int) == 0) = false := by simp; omega
          clear ma mb mc ha hb hc hall m1 m2 m3
          generalize gcdAll [a, b, c] = G at *
          go_enter Try.func132, Try.ntmps132
          go_wp2_with (fail)
          refine hg.mono ?_
          rintro e w1 ⟨rfl, hb1⟩
          have H1 := ((Has.new w #[.int .i64 0, .int .i64 0, .int .i64 0] 177).alloc _).below hb1
          have hbw := below_tr (below_al (below_al (Below.refl w.heap.size w) _) _) hb1
          obtain ⟨cH1_0, fH1_0⟩ := H1.2 0 _ rfl
          obtain ⟨cH1_1, fH1_1⟩ := H1.2 1 _ rfl
          obtain ⟨cH1_2, fH1_2⟩ := H1.2 2 _ rfl
          go_wp2_with (fail)
          refine (n1 _).mono ?_
          rintro e w' ⟨rfl, rfl⟩
          go_wp2_with (fail)
          refine (n2 _).mono ?_
          rintro e w' ⟨rfl, rfl⟩
          go_wp2_with (fail)
          refine (n3 _).mono ?_
          rintro e w' ⟨rfl, rfl⟩
          go_wp2
          refine bodyPost_ret (v := .tuple #[.agg #[.int .i64 0, .int .i64 0, .int .i64 0], .bool false]) (by simp [results, Try.results132, go_sem, *]) rfl ⟨rfl, ?_⟩
          repeat (first | (with_reducible exact Below.refl _ _) | (with_reducible assumption) | (with_reducible refine below_al ?_ _) | (with_reducible refine Below.drew ?_) | (with_reducible refine below_drewN ?_ _) | (with_reducible refine below_st ?_ ?_ _) | (with_reducible refine below_tr ?_ (by assumption)) | (with_reducible exact Nat.le_refl _) | (focus (simp; done)) | (focus (simp; omega)))
      · have hfin : halfOf a b c = none := by simp [halfOf, mb]
        rw [hfin]
        have n1 := m1 _ ma
        have n2 := m2 _ mb
        have hG1 : ((gcdAll [a, b, c] : Int) == 0) = false := by simp; omega
        clear ma mb ha hb hc hall m1 m2 m3
        generalize gcdAll [a, b, c] = G at *
        go_enter Try.func132, Try.ntmps132
        go_wp2_with (fail)
        refine hg.mono ?_
        rintro e w1 ⟨rfl, hb1⟩
        have H1 := ((Has.new w #[.int .i64 0, .int .i64 0, .int .i64 0] 177).alloc _).below hb1
        have hbw := below_tr (below_al (below_al (Below.refl w.heap.size w) _) _) hb1
        obtain ⟨cH1_0, fH1_0⟩ := H1.2 0 _ rfl
        obtain ⟨cH1_1, fH1_1⟩ := H1.2 1 _ rfl
        obtain ⟨cH1_2, fH1_2⟩ := H1.2 2 _ rfl
        go_wp2_with (fail)
        refine (n1 _).mono ?_
        rintro e w' ⟨rfl, rfl⟩
        go_wp2_with (fail)
        refine (n2 _).mono ?_
        rintro e w' ⟨rfl, rfl⟩
        go_wp2
        refine bodyPost_ret (v := .tuple #[.agg #[.int .i64 0, .int .i64 0, .int .i64 0], .bool false]) (by simp [results, Try.results132, go_sem, *]) rfl ⟨rfl, ?_⟩
        repeat (first | (with_reducible exact Below.refl _ _) | (with_reducible assumption) | (with_reducible refine below_al ?_ _) | (with_reducible refine Below.drew ?_) | (with_reducible refine below_drewN ?_ _) | (with_reducible refine below_st ?_ ?_ _) | (with_reducible refine below_tr ?_ (by assumption)) | (with_reducible exact Nat.le_refl _) | (focus (simp; done)) | (focus (simp; omega)))
    · have hfin : halfOf a b c = none := by simp [halfOf, ma]
      rw [hfin]
      have n1 := m1 _ ma
      have hG1 : ((gcdAll [a, b, c] : Int) == 0) = false := by simp; omega
      clear ma ha hb hc hall m1 m2 m3
      generalize gcdAll [a, b, c] = G at *
      go_enter Try.func132, Try.ntmps132
      go_wp2_with (fail)
      refine hg.mono ?_
      rintro e w1 ⟨rfl, hb1⟩
      have H1 := ((Has.new w #[.int .i64 0, .int .i64 0, .int .i64 0] 177).alloc _).below hb1
      have hbw := below_tr (below_al (below_al (Below.refl w.heap.size w) _) _) hb1
      obtain ⟨cH1_0, fH1_0⟩ := H1.2 0 _ rfl
      obtain ⟨cH1_1, fH1_1⟩ := H1.2 1 _ rfl
      obtain ⟨cH1_2, fH1_2⟩ := H1.2 2 _ rfl
      go_wp2_with (fail)
      refine (n1 _).mono ?_
      rintro e w' ⟨rfl, rfl⟩
      go_wp2
      refine bodyPost_ret (v := .tuple #[.agg #[.int .i64 0, .int .i64 0, .int .i64 0], .bool false]) (by simp [results, Try.results132, go_sem, *]) rfl ⟨rfl, ?_⟩
      repeat (first | (with_reducible exact Below.refl _ _) | (with_reducible assumption) | (with_reducible refine below_al ?_ _) | (with_reducible refine Below.drew ?_) | (with_reducible refine below_drewN ?_ _) | (with_reducible refine below_st ?_ ?_ _) | (with_reducible refine below_tr ?_ (by assumption)) | (with_reducible exact Nat.le_refl _) | (focus (simp; done)) | (focus (simp; omega)))

set_option maxHeartbeats 4000000 in
theorem sHalfOk_c (h : Half) (w : World) (hh : h.In) :
    Calls Try.prog 209 #[halfV h] w fun e w' => e = .returned (.bool (halfOk h)) ∧ Below w.heap.size w w' := by
  obtain ⟨h1, h2, h3⟩ := hh
  have hxy := gcdOf_In64 h1 h2
  cases e1 : inR h.a (-50000) 50000
  · go_enter Try.func209, Try.ntmps209
    go_wp2
    go_big_quiet ((first | (go_at_call 78; exact quiet_l (l01In_v _ _ _ _ (by assumption) _)) | (go_at_call 154; exact quiet_n (sGcdOf_q _ _ _ (by assumption) (by assumption)))))
    go_wp2
    go_ret
    refine ⟨ret_bool (by simp [halfOk, e1]), ?_⟩
    repeat (first | (with_reducible exact Below.refl _ _) | (with_reducible assumption) | (with_reducible refine below_al ?_ _) | (with_reducible refine Below.drew ?_) | (with_reducible refine below_drewN ?_ _) | (with_reducible refine below_st ?_ ?_ _) | (with_reducible refine below_tr ?_ (by assumption)) | (with_reducible exact Nat.le_refl _) | (focus (simp; done)) | (focus (simp; omega)))
  · cases e2 : inR h.b (-50000) 50000
    · go_enter Try.func209, Try.ntmps209
      go_wp2
      go_big_quiet ((first | (go_at_call 78; exact quiet_l (l01In_v _ _ _ _ (by assumption) _)) | (go_at_call 154; exact quiet_n (sGcdOf_q _ _ _ (by assumption) (by assumption)))))
      go_wp2
      go_ret
      refine ⟨ret_bool (by simp [halfOk, e1, e2]), ?_⟩
      repeat (first | (with_reducible exact Below.refl _ _) | (with_reducible assumption) | (with_reducible refine below_al ?_ _) | (with_reducible refine Below.drew ?_) | (with_reducible refine below_drewN ?_ _) | (with_reducible refine below_st ?_ ?_ _) | (with_reducible refine below_tr ?_ (by assumption)) | (with_reducible exact Nat.le_refl _) | (focus (simp; done)) | (focus (simp; omega)))
    · have f1 : (h.a != 0) = !(h.a == 0) := rfl
      have f2 : (h.b != 0) = !(h.b == 0) := rfl
      obtain ⟨x1, x2⟩ := inR_iff.1 e1
      obtain ⟨y1, y2⟩ := inR_iff.1 e2
      have hz : ∀ v : Bool, (h.a == 0) = v → (h.a != 0) = !v := fun v e => by rw [f1, e]
      have hz2 : ∀ v : Bool, (h.b == 0) = v → (h.b != 0) = !v := fun v e => by rw [f2, e]
      have key : (h.a ≠ 0 ∨ h.b ≠ 0) → inR h.c (-100000000) 100000000 = true → halfOk h = (gcdOf (gcdOf h.a h.b) h.c == 1) := by
        intro k1 e3
        obtain ⟨z1, z2⟩ := inR_iff.1 e3
        have := gcdOf_in h1 h2
        rw [gcdOf_no (isMin_no (a := gcdOf h.a h.b) (by omega)) (isMin_no (a := h.c) (by omega)), gcdOf_no (isMin_no (a := h.a) (by omega)) (isMin_no (a := h.b) (by omega))]
        rw [Bool.eq_iff_iff]; simp [halfOk, e1, e2, e3, gcd3]; omega
      clear f1 f2
      cases za : (h.a == 0)
      · have za2 := hz _ za
        clear hz hz2 x1 x2 y1 y2
        simp only [Bool.not_false] at za2
        have hne : h.a ≠ 0 := by simpa using za
        cases e3 : inR h.c (-100000000) 100000000
        · clear key hne
          go_enter Try.func209, Try.ntmps209
          go_wp2
          go_big_quiet ((first | (go_at_call 78; exact quiet_l (l01In_v _ _ _ _ (by assumption) _)) | (go_at_call 154; exact quiet_n (sGcdOf_q _ _ _ (by assumption) (by assumption)))))
          go_wp2
          go_ret
          refine ⟨ret_bool (by simp [halfOk, e1, e2, e3]), ?_⟩
          repeat (first | (with_reducible exact Below.refl _ _) | (with_reducible assumption) | (with_reducible refine below_al ?_ _) | (with_reducible refine Below.drew ?_) | (with_reducible refine below_drewN ?_ _) | (with_reducible refine below_st ?_ ?_ _) | (with_reducible refine below_tr ?_ (by assumption)) | (with_reducible exact Nat.le_refl _) | (focus (simp; done)) | (focus (simp; omega)))
        · have hfin := Lib.hid (key (.inl hne) e3)
          clear key hne
          cases e4 : (gcdOf (gcdOf h.a h.b) h.c == 1)
          all_goals
            go_enter Try.func209, Try.ntmps209
            go_wp2
            go_big_quiet ((first | (go_at_call 78; exact quiet_l (l01In_v _ _ _ _ (by assumption) _)) | (go_at_call 154; exact quiet_n (sGcdOf_q _ _ _ (by assumption) (by assumption)))))
            go_wp2
            go_ret
            refine ⟨ret_bool (by rw [hfin.out, e4]), ?_⟩
            repeat (first | (with_reducible exact Below.refl _ _) | (with_reducible assumption) | (with_reducible refine below_al ?_ _) | (with_reducible refine Below.drew ?_) | (with_reducible refine below_drewN ?_ _) | (with_reducible refine below_st ?_ ?_ _) | (with_reducible refine below_tr ?_ (by assumption)) | (with_reducible exact Nat.le_refl _) | (focus (simp; done)) | (focus (simp; omega)))
      · have za2 := hz _ za
        simp only [Bool.not_true] at za2
        cases zb : (h.b == 0)
        · have zb2 := hz2 _ zb
          clear hz hz2 x1 x2 y1 y2
          simp only [Bool.not_false] at zb2
          have hne : h.b ≠ 0 := by simpa using zb
          cases e3 : inR h.c (-100000000) 100000000
          · clear key hne
            go_enter Try.func209, Try.ntmps209
            go_wp2
            go_big_quiet ((first | (go_at_call 78; exact quiet_l (l01In_v _ _ _ _ (by assumption) _)) | (go_at_call 154; exact quiet_n (sGcdOf_q _ _ _ (by assumption) (by assumption)))))
            go_wp2
            go_ret
            refine ⟨ret_bool (by simp [halfOk, e1, e2, e3]), ?_⟩
            repeat (first | (with_reducible exact Below.refl _ _) | (with_reducible assumption) | (with_reducible refine below_al ?_ _) | (with_reducible refine Below.drew ?_) | (with_reducible refine below_drewN ?_ _) | (with_reducible refine below_st ?_ ?_ _) | (with_reducible refine below_tr ?_ (by assumption)) | (with_reducible exact Nat.le_refl _) | (focus (simp; done)) | (focus (simp; omega)))
          · have hfin := Lib.hid (key (.inr hne) e3)
            clear key hne
            cases e4 : (gcdOf (gcdOf h.a h.b) h.c == 1)
            all_goals
              go_enter Try.func209, Try.ntmps209
              go_wp2
              go_big_quiet ((first | (go_at_call 78; exact quiet_l (l01In_v _ _ _ _ (by assumption) _)) | (go_at_call 154; exact quiet_n (sGcdOf_q _ _ _ (by assumption) (by assumption)))))
              go_wp2
              go_ret
              refine ⟨ret_bool (by rw [hfin.out, e4]), ?_⟩
              repeat (first | (with_reducible exact Below.refl _ _) | (with_reducible assumption) | (with_reducible refine below_al ?_ _) | (with_reducible refine Below.drew ?_) | (with_reducible refine below_drewN ?_ _) | (with_reducible refine below_st ?_ ?_ _) | (with_reducible refine below_tr ?_ (by assumption)) | (with_reducible exact Nat.le_refl _) | (focus (simp; done)) | (focus (simp; omega)))
        · have zb2 := hz2 _ zb
          clear hz hz2 x1 x2 y1 y2 key
          simp only [Bool.not_true] at zb2
          have hfin : Hid (halfOk h = false) := by
            have a0 : h.a = 0 := by simpa using za
            have b0 : h.b = 0 := by simpa using zb
            show _ = _
            simp [halfOk, a0, b0]
          go_enter Try.func209, Try.ntmps209
          go_wp2
          go_big_quiet ((first | (go_at_call 78; exact quiet_l (l01In_v _ _ _ _ (by assumption) _)) | (go_at_call 154; exact quiet_n (sGcdOf_q _ _ _ (by assumption) (by assumption)))))
          go_wp2
          go_ret
          refine ⟨ret_bool (by rw [hfin.out]), ?_⟩
          repeat (first | (with_reducible exact Below.refl _ _) | (with_reducible assumption) | (with_reducible refine below_al ?_ _) | (with_reducible refine Below.drew ?_) | (with_reducible refine below_drewN ?_ _) | (with_reducible refine below_st ?_ ?_ _) | (with_reducible refine below_tr ?_ (by assumption)) | (with_reducible exact Nat.le_refl _) | (focus (simp; done)) | (focus (simp; omega)))
end Go.Proofs.Ytbdihgcjopbnjaa
