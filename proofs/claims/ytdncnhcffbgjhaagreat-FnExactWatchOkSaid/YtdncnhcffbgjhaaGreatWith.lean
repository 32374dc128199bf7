/-
 Whether a region lies in another one: of the program.
 Conditions: valid regions.
-/
import Derived.Test.YtdncnhcffbgjhaaGreatHold
import Derived.Test.YtdncnhcffbgjhaaGreatCnr
namespace Go.Proofs.YtdncnhcffbgjhaaGreat
open Go.RowKit
theorem within_no {C : List Spot} {q : List Half} {k : Nat} (h : k < C.length) (hb : holdsB q C[k] = false) : C.all (holdsB q) = false := by
 rw [List.all_eq_false]
 exact ⟨_, List.getElem_mem h, by rw [hb]; decide⟩
theorem within_step {C : List Spot} {q : List Half} {k : Nat} (h : k < C.length) (h1 : (C.take k).all (holdsB q) = true) (hb : holdsB q C[k] = true) : (C.take (k + 1)).all (holdsB q) = true := by
 rw [List.take_add_one, List.getElem?_eq_getElem h, List.all_append, h1]
 simp [hb]
set_option maxRecDepth 100000 in
set_option maxHeartbeats 4000000 in
theorem iWithin_c (p q : List Half) (a b : SlA) (w : World) (hp : regionOk p = true) (hq : regionOk q = true) (hsp : Sl 3 halfC w a.A p) (hsq : Sl 3 halfC w b.A q) :
  Calls Tryz.prog 101 #[regionV p a, regionV q b] w fun e w' => e = .returned (.bool (withinB p q)) ∧ Below w.heap.size w w' := by
 have hdef := Lib.hid (show withinB p q = (corners p).all (holdsB q) from rfl)
 have hlp := reg_len hp
 have hlq := reg_len hq
 have hcl : (corners p).length ≤ 40 := by rw [corners_len]; exact hlp
 have hco := Lib.hid (corners_ok hp)
 obtain ⟨W, hW⟩ : ∃ W, W = (w.alloc (.cells #[.slice a.A p.length a.c] 37)).alloc (.cells #[.slice b.A q.length b.c] 37) := ⟨_, rfl⟩
 have HA : Has W w.heap.size [.slice a.A p.length a.c] := by rw [hW]; exact hasA
 have HB : Has W (w.heap.size + 1) [.slice b.A q.length b.c] := by rw [hW]; exact hasA
 have b0 : Below w.heap.size w W := by rw [hW]; exact belA
 have sp := hsp.below b0
 have sq := hsq.below b0
 have hW' := Lib.hid hW
 have kc := iCorners_c p a W hp sp
 clear hW hsp hsq
 obtain ⟨cHA_0, fHA_0⟩ := HA.2 0 _ rfl
 have lA := HA.1
 generalize corners p = C at *
 go_enter Tryz.func101, Tryz.ntmps101
 go_upto_region 1 with fail
 rw [← hW'.out]
 clear hW'
 go_wp2_with (fail)
 refine kc.mono ?_
 rintro e w1 ⟨v, rfl, N, hb1⟩
 obtain ⟨Ac, cc, rfl, SC⟩ := N.sl spotC_len
 have HB1 := HB.below hb1
 have SQ := sq.below hb1
 have b1 := below_tr b0 hb1
 clear N HA HB sp sq hb1 cHA_0 fHA_0 lA kc b0
 go_wp2
 go_loopw [6, 10] (fun _ i wr => ∃ k : Nat, k ≤ C.length ∧ i = .int .i64 k ∧ (C.take k).all (holdsB q) = true ∧ Below w1.heap.size w1 wr) (fun _ i _ => C.length - (intOf i).toNat)
 case atStart => exact ⟨0, Nat.zero_le _, rfl, rfl, Below.refl _ _⟩
 case round =>
  obtain ⟨k, hk, rfl, hall, hbw⟩ := hrel
  have bw := b1.trans (hbw.mono b1.size)
  by_cases hlt : k < C.length
  ·obtain ⟨bb, off, rfl, hblt, hc⟩ := (SC.below hbw).at_ hlt
   have g0 := hc 0 _ rfl
   have g1 := hc 1 _ rfl
   have g2 := hc 2 _ rfl
   simp only [Nat.add_zero] at g0
   have c1 := fun W h => iHolds_c q b C[k] W (by omega) (reg_ok hq) (hco.out _ (List.getElem_mem hlt)) h
   have hn := Lib.hid (fun h => @within_no C q k hlt h)
   have hy := Lib.hid (fun h => @within_step C q k hlt hall h)
   clear hc hall
   generalize holdsB q C[k] = hv at *
   generalize C[k] = s at *
   have H1x := (HB1.below hbw).alloc (.cells #[.int .i64 s.x, .int .i64 s.y, .int .i64 s.d] 57)
   have SQx := (SQ.below hbw).alloc (.cells #[.int .i64 s.x, .int .i64 s.y, .int .i64 s.d] 57)
   have bx := hbw.alloc hbw.size (.cells #[.int .i64 s.x, .int .i64 s.y, .int .i64 s.d] 57)
   have TX := Has.new wr #[.int .i64 s.x, .int .i64 s.y, .int .i64 s.d] 57
   go_upto_region 4 with fail
   clear g0 g1 g2 hblt
   generalize wr.alloc (.cells #[.int .i64 s.x, .int .i64 s.y, .int .i64 s.d] 57) = wx at *
   generalize wr.heap.size = gx at *
   obtain ⟨cH1x_0, fH1x_0⟩ := H1x.2 0 _ rfl
   obtain ⟨cTX_0, fTX_0⟩ := TX.2 0 _ rfl
   obtain ⟨cTX_1, fTX_1⟩ := TX.2 1 _ rfl
   obtain ⟨cTX_2, fTX_2⟩ := TX.2 2 _ rfl
   have l1 := H1x.1
   have lx := TX.1
   cases hv
   ·have hv := Lib.hid (hn.out rfl)
    go_wp2_with (fail)
    refine (c1 _ SQx).mono ?_
    rintro e w3 ⟨rfl, hb3⟩
    go_wp2
    go_ret
    exact ⟨by rw [hdef.out, hv.out]; rfl, b1.trans ((below_tr bx hb3).mono b1.size)⟩
   ·have hv := Lib.hid (hy.out rfl)
    go_wp2_with (fail)
    refine (c1 _ SQx).mono ?_
    rintro e w3 ⟨rfl, hb3⟩
    go_wp2
    go_roundw
    case rel => exact ⟨k + 1, by omega, by go_num, hv.out, below_tr bx hb3⟩
    case measure => simp [intOf]; omega
  ·obtain rfl : k = C.length := by omega
   rw [List.take_length] at hall
   have hv := Lib.hid hall
   clear hall
   go_wp2
   go_ret
   exact ⟨by rw [hdef.out, hv.out]; rfl, bw⟩
end Go.Proofs.YtdncnhcffbgjhaaGreat
