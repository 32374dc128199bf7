/-
  Whether a region lies in another one: of the program.
  Conditions: valid regions.
-/
import Derived.Test.YtbdihgcjopbnjaaHold
import Derived.Test.YtbdihgcjopbnjaaCnr
import Derived.Test.YtbdihgcjopbnjaaFits2
namespace Go.Proofs.Ytbdihgcjopbnjaa
open Go.RowKit

theorem within_no {C : List Spot} {q : List Half} {k : Nat} (h : k < C.length) (hb : holdsB q C[k] = false) : C.all (holdsB q) = false := by
  rw [List.all_eq_false]
  exact ⟨_, List.getElem_mem h, by rw [hb]; decide⟩
theorem within_step {C : List Spot} {q : List Half} {k : Nat} (h : k < C.length) (h1 : (C.take k).all (holdsB q) = true) (hb : holdsB q C[k] = true) : (C.take (k + 1)).all (holdsB q) = true := by
  rw [List.take_add_one, List.getElem?_eq_getElem h, List.all_append, h1]
  simp [hb]
set_option maxRecDepth 100000 in
set_option maxHeartbeats 4000000 in
theorem iWithin_c (p q : List Half) (a b : SlA) (w : World) (hp : regionOk p = true) (hq : regionOk q = true) (hsp : Sl 3 halfC w a.A p) (hsq : Sl 3 halfC w b.A q) :
    Calls Try.prog 130 #[regionV p a, regionV q b] w fun e w' => e = .returned (.bool (withinB p q)) ∧ Below w.heap.size w w' := by
  have hdef := Lib.hid (show withinB p q = (corners p).all (holdsB q) from rfl)
  have hlp := reg_len hp
  have hlq := reg_len hq
  have hcl : (corners p).length ≤ 40 := by rw [corners_len]; exact hlp
  have hco := Lib.hid (corners_ok hp)
  obtain ⟨W, hW⟩ : ∃ W, W = (w.alloc (.cells #[.slice a.A p.length a.c] 76)).alloc (.cells #[.slice b.A q.length b.c] 76) := ⟨_, rfl⟩
  have HA : Has W w.heap.size [.slice a.A p.length a.c] := by rw [hW]; repeat (first | ((with_reducible refine Has.new_at ?_ _ _ rfl); (first | rfl | (focus (simp; done)))) | (with_reducible refine Has.set_ ?_ ?_ _) | (with_reducible refine Has.alloc ?_ _) | (with_reducible refine Has.below ?_ (by assumption)) | (focus (simp; done)) | (focus (simp; omega)))
  have HB : Has W (w.heap.size + 1) [.slice b.A q.length b.c] := by rw [hW]; repeat (first | ((with_reducible refine Has.new_at ?_ _ _ rfl); (first | rfl | (focus (simp; done)))) | (with_reducible refine Has.set_ ?_ ?_ _) | (with_reducible refine Has.alloc ?_ _) | (with_reducible refine Has.below ?_ (by assumption)) | (focus (simp; done)) | (focus (simp; omega)))
  have b0 : Below w.heap.size w W := by rw [hW]; (repeat (first | (with_reducible exact Below.refl _ _) | (with_reducible assumption) | (with_reducible refine below_al ?_ _) | (with_reducible refine Below.drew ?_) | (with_reducible refine below_drewN ?_ _) | (with_reducible refine below_st ?_ ?_ _) | (with_reducible refine below_tr ?_ (by assumption)) | (with_reducible exact Nat.le_refl _) | (focus (simp; done)) | (focus (simp; omega))))
  have sp := hsp.below b0
  have sq := hsq.below b0
  have hW' := Lib.hid hW
  have kc := iCorners_c p a W hp sp
  clear hW hsp hsq
  obtain ⟨cHA_0, fHA_0⟩ := HA.2 0 _ rfl
  have lA := HA.1
  generalize corners p = C at *
  go_enter Try.func130, Try.ntmps130
  go_upto_region 1 with fail
  rw [← hW'.out]
  clear hW'
  go_wp2_with (fail)
  refine kc.mono ?_
  rintro e w1 ⟨v, rfl, N, hb1⟩
  obtain ⟨Ac, cc, rfl, SC⟩ := N.sl spotC_len
  have HB1 := HB.below hb1
  have SQ := sq.below hb1
  have b1 := below_tr b0 hb1
  clear N HA HB sp sq hb1 cHA_0 fHA_0 lA kc b0
  go_wp2
  go_loopw [6, 10] (fun _ i wr => ∃ k : Nat, k ≤ C.length ∧ i = .int .i64 k ∧ (C.take k).all (holdsB q) = true ∧ Below w1.heap.size w1 wr) (fun _ i _ => C.length - (intOf i).toNat)
  case atStart => exact ⟨0, Nat.zero_le _, rfl, rfl, Below.refl _ _⟩
  case round =>
    obtain ⟨k, hk, rfl, hall, hbw⟩ := hrel
    have bw := b1.trans (hbw.mono b1.size)
    by_cases hlt : k < C.length
    · obtain ⟨bb, off, rfl, hblt, hc⟩ := (SC.below hbw).at_ hlt
      have g0 := hc 0 _ rfl
      have g1 := hc 1 _ rfl
      have g2 := hc 2 _ rfl
      simp only [Nat.add_zero] at g0
      have c1 := fun W h => iHolds_c q b C[k] W (by omega) (reg_ok hq) (hco.out _ (List.getElem_mem hlt)) h
      have hn := Lib.hid (fun h => @within_no C q k hlt h)
      have hy := Lib.hid (fun h => @within_step C q k hlt hall h)
      clear hc hall
      generalize holdsB q C[k] = hv at *
      generalize C[k] = s at *
      have H1x := (HB1.below hbw).alloc (.cells #[.int .i64 s.x, .int .i64 s.y, .int .i64 s.d] 65)
      have SQx := (SQ.below hbw).alloc (.cells #[.int .i64 s.x, .int .i64 s.y, .int .i64 s.d] 65)
      have bx := hbw.alloc hbw.size (.cells #[.int .i64 s.x, .int .i64 s.y, .int .i64 s.d] 65)
      have TX := Has.new wr #[.int .i64 s.x, .int .i64 s.y, .int .i64 s.d] 65
      go_upto_region 4 with fail
      clear g0 g1 g2 hblt
      generalize wr.alloc (.cells #[.int .i64 s.x, .int .i64 s.y, .int .i64 s.d] 65) = wx at *
      generalize wr.heap.size = gx at *
      obtain ⟨cH1x_0, fH1x_0⟩ := H1x.2 0 _ rfl
      obtain ⟨cTX_0, fTX_0⟩ := TX.2 0 _ rfl
      obtain ⟨cTX_1, fTX_1⟩ := TX.2 1 _ rfl
      obtain ⟨cTX_2, fTX_2⟩ := TX.2 2 _ rfl
      have l1 := H1x.1
      have lx := TX.1
      cases hv
      · have hv := Lib.hid (hn.out rfl)
        go_wp2_with (fail)
        refine (c1 _ SQx).mono ?_
        rintro e w3 ⟨rfl, hb3⟩
        go_wp2
        go_ret
        exact ⟨by rw [hdef.out, hv.out]; rfl, b1.trans ((below_tr bx hb3).mono b1.size)⟩
      · have hv := Lib.hid (hy.out rfl)
        go_wp2_with (fail)
        refine (c1 _ SQx).mono ?_
        rintro e w3 ⟨rfl, hb3⟩
        go_wp2
        go_roundw
        case rel => exact ⟨k + 1, by omega, by go_num, hv.out, below_tr bx hb3⟩
        case measure => simp [intOf]; omega
    · obtain rfl : k = C.length := by omega
      rw [List.take_length] at hall
      have hv := Lib.hid hall
      clear hall
      go_wp2
      go_ret
      exact ⟨by rw [hdef.out, hv.out]; rfl, bw⟩
set_option maxHeartbeats 2000000 in
theorem iIsWithin_c (p q : List Half) (a b : SlA) (w : World) (hp : regionOk p = true) (hq : regionOk q = true) (hsp : Sl 3 halfC w a.A p) (hsq : Sl 3 halfC w b.A q) (hna : a.A = none → a.c = 0) (hnb : b.A = none → b.c = 0) :
    Calls Try.prog 49 #[regionV p a, regionV q b] w fun e w' => e = .returned (.bool (withinB p q)) ∧ Below w.heap.size w w' := by
  have hlp := reg_len hp
  have hlq := reg_len hq
  have k1 := fun W h => iRegionOk_c p a W (by omega) (fun h hh => hIn (hOk (reg_ok hp h hh))) h hna
  have k2 := fun W h => iRegionOk_c q b W (by omega) (fun h hh => hIn (hOk (reg_ok hq h hh))) h hnb
  have k3 := fun W h1 h2 => iWithin_c p q a b W hp hq h1 h2
  rw [hp] at k1
  rw [hq] at k2
  generalize withinB p q = r at *
  obtain ⟨W, hW⟩ : ∃ W, W = (w.alloc (.cells #[.slice a.A p.length a.c] 76)).alloc (.cells #[.slice b.A q.length b.c] 76) := ⟨_, rfl⟩
  have HA : Has W w.heap.size [.slice a.A p.length a.c] := by rw [hW]; repeat (first | ((with_reducible refine Has.new_at ?_ _ _ rfl); (first | rfl | (focus (simp; done)))) | (with_reducible refine Has.set_ ?_ ?_ _) | (with_reducible refine Has.alloc ?_ _) | (with_reducible refine Has.below ?_ (by assumption)) | (focus (simp; done)) | (focus (simp; omega)))
  have HB : Has W (w.heap.size + 1) [.slice b.A q.length b.c] := by rw [hW]; repeat (first | ((with_reducible refine Has.new_at ?_ _ _ rfl); (first | rfl | (focus (simp; done)))) | (with_reducible refine Has.set_ ?_ ?_ _) | (with_reducible refine Has.alloc ?_ _) | (with_reducible refine Has.below ?_ (by assumption)) | (focus (simp; done)) | (focus (simp; omega)))
  have b0 : Below w.heap.size w W := by rw [hW]; (repeat (first | (with_reducible exact Below.refl _ _) | (with_reducible assumption) | (with_reducible refine below_al ?_ _) | (with_reducible refine Below.drew ?_) | (with_reducible refine below_drewN ?_ _) | (with_reducible refine below_st ?_ ?_ _) | (with_reducible refine below_tr ?_ (by assumption)) | (with_reducible exact Nat.le_refl _) | (focus (simp; done)) | (focus (simp; omega))))
  have sp := hsp.below b0
  have sq := hsq.below b0
  have hW' := Lib.hid hW
  clear hW hsp hsq hp hq
  obtain ⟨cHA_0, fHA_0⟩ := HA.2 0 _ rfl
  obtain ⟨cHB_0, fHB_0⟩ := HB.2 0 _ rfl
  have lA := HA.1
  have lB := HB.1
  go_enter Try.func49, Try.ntmps49
  go_upto_region 1 with fail
  rw [← hW'.out]
  clear hW'
  go_wp2_with (fail)
  refine (k1 _ sp).mono ?_
  rintro e w3 ⟨rfl, hb_w3⟩
  have r_w3 := bcell1 hb_w3
  have l_w3_0 : w.heap.size < w3.heap.size := blt hb_w3 (by first | (simp; done) | (simp; omega) | omega)
  have l_w3_1 : w.heap.size + 1 < w3.heap.size := blt hb_w3 (by first | (simp; done) | (simp; omega) | omega)
  go_wp2_with (fail)
  refine (k2 _ (sq.below (by (repeat (first | (with_reducible exact Below.refl _ _) | (with_reducible assumption) | (with_reducible refine below_al ?_ _) | (with_reducible refine Below.drew ?_) | (with_reducible refine below_drewN ?_ _) | (with_reducible refine below_st ?_ ?_ _) | (with_reducible refine below_tr ?_ (by assumption)) | (with_reducible exact Nat.le_refl _) | (focus (simp; done)) | (focus (simp; omega))))))).mono ?_
  rintro e w4 ⟨rfl, hb_w4⟩
  have r_w4 := bcell1 hb_w4
  have l_w4_0 : w.heap.size < w4.heap.size := blt hb_w4 (by first | (simp; done) | (simp; omega) | omega)
  have l_w4_1 : w.heap.size + 1 < w4.heap.size := blt hb_w4 (by first | (simp; done) | (simp; omega) | omega)
  go_wp2_with (fail)
  refine (k3 _ (sp.below (by (repeat (first | (with_reducible exact Below.refl _ _) | (with_reducible assumption) | (with_reducible refine below_al ?_ _) | (with_reducible refine Below.drew ?_) | (with_reducible refine below_drewN ?_ _) | (with_reducible refine below_st ?_ ?_ _) | (with_reducible refine below_tr ?_ (by assumption)) | (with_reducible exact Nat.le_refl _) | (focus (simp; done)) | (focus (simp; omega)))))) (sq.below (by (repeat (first | (with_reducible exact Below.refl _ _) | (with_reducible assumption) | (with_reducible refine below_al ?_ _) | (with_reducible refine Below.drew ?_) | (with_reducible refine below_drewN ?_ _) | (with_reducible refine below_st ?_ ?_ _) | (with_reducible refine below_tr ?_ (by assumption)) | (with_reducible exact Nat.le_refl _) | (focus (simp; done)) | (focus (simp; omega))))))).mono ?_
  rintro e w5 ⟨rfl, hb_w5⟩
  have r_w5 := bcell1 hb_w5
  have l_w5_0 : w.heap.size < w5.heap.size := blt hb_w5 (by first | (simp; done) | (simp; omega) | omega)
  have l_w5_1 : w.heap.size + 1 < w5.heap.size := blt hb_w5 (by first | (simp; done) | (simp; omega) | omega)
  go_wp2
  go_ret
  refine ⟨rfl, ?_⟩
  repeat (first | (with_reducible exact Below.refl _ _) | (with_reducible assumption) | (with_reducible refine below_al ?_ _) | (with_reducible refine Below.drew ?_) | (with_reducible refine below_drewN ?_ _) | (with_reducible refine below_st ?_ ?_ _) | (with_reducible refine below_tr ?_ (by assumption)) | (with_reducible exact Nat.le_refl _) | (focus (simp; done)) | (focus (simp; omega)))
set_option maxRecDepth 100000 in
set_option maxHeartbeats 2000000 in
theorem makeNum_c (bs : List Int) (B : Option Addr) (c : Nat) (n : Int) (w : World) (h0 : 0 ≤ n) (h1 : n ≤ 1000) (hn : bs.length ≤ 1048576) (hin : ∀ y ∈ bs, InB y) (hs : Sl 1 byteC w B bs) :
    Calls Try.prog 46 #[.slice B bs.length c, .int .i64 n] w fun e w' => ∃ x : Int, e = .returned (.int .i64 x) ∧ (0 ≤ x ∧ x ≤ 65535) ∧ Below w.heap.size w w' := by
  have k1 := cur26_c bs B c n w h0 h1 hn hin hs
  go_enter Try.func46, Try.ntmps46
  go_wp2_with (fail)
  refine k1.mono ?_
  rintro e w1 ⟨g, rfl, hg, C1, b1⟩
  have hap : ∀ b off, B = some ⟨b, off, none⟩ → 0 < bs.length → b ≠ g := fun b off e hp => by have := hs.blt hp b off e; omega
  clear k1
  go_wp2_with (fail)
  refine (curByte_c bs B c g _ hn hin (hs.below b1) C1 hap).mono ?_
  rintro e w2 ⟨x, rfl, ⟨x0, x1⟩, C2, O2⟩
  have b2 := b1.trans (O2.belowB b1.size hg)
  go_wp2_with (fail)
  refine (curByte_c bs B c g _ hn hin (hs.below b2) C2 hap).mono ?_
  rintro e w3 ⟨y, rfl, ⟨y0, y1⟩, _, O3⟩
  have b3 := b2.trans (O3.belowB b2.size hg)
  go_wp2
  go_ret
  exact ⟨x * 256 + y, rfl, ⟨by omega, by omega⟩, b3⟩
theorem New.cap_ {α : Type} {T sz base n c : Nat} {enc : α → List Value} {w : World} {A : Option Addr} {xs : List α} (h : New T sz enc w base (.slice A n c) xs) : n ≤ c := by
  obtain ⟨A', c', e, _, h2⟩ := h
  injection e with e1 e2 e3
  subst e1 e2 e3
  rcases h2 with ⟨h2, h3⟩ | ⟨g, cap', cur, hv, _, _, hn, _⟩
  · omega
  · injection hv with q1 q2 q3
    omega
theorem Sl.take_ {α : Type} {sz : Nat} {enc : α → List Value} {w : World} {A : Option Addr} {xs : List α} (h : Sl sz enc w A xs) (k : Nat) : Sl sz enc w A (xs.take k) := by
  intro hn
  obtain ⟨b, off, e, hlt, hc⟩ := h (by rw [List.length_take] at hn; omega)
  refine ⟨b, off, e, hlt, fun i hi j u hu => ?_⟩
  rw [List.length_take] at hi
  refine hc i (by omega) j u ?_
  rw [List.getElem_take] at hu
  exact hu
end Go.Proofs.Ytbdihgcjopbnjaa
