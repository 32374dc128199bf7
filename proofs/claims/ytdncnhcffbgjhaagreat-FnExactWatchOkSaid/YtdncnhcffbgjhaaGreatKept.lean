/-
  Whether a region is kept in one step: of the program.
  Conditions: the slices hold at most 2^20 elements.
-/
import Derived.Test.YtdncnhcffbgjhaaGreatPre
import Derived.Test.YtdncnhcffbgjhaaGreatWinS
namespace Go.Proofs.YtdncnhcffbgjhaaGreat
open Go.RowKit

structure RoomR (r : Room) : Prop where
  noise : regionOk r.noise = true
  nne : r.noise ≠ []
  limits : regionOk r.limits = true
  lne : r.limits ≠ []
theorem roomR {r : Room} (h : roomOk r = true) : RoomR r := by
  simp only [roomOk, Bool.and_eq_true] at h
  obtain ⟨⟨⟨⟨_, h1⟩, h2⟩, h3⟩, h4⟩ := h
  refine ⟨h3, fun e => ?_, h4, fun e => ?_⟩
  · rw [e] at h1; cases h1
  · rw [e] at h2; cases h2
def keptB (r : Room) (p : List Half) : Bool := !(!(roomOk r) || !(regionOk p) || !(withinB p r.limits)) && (preOk r p && withinB p (preR r p))
theorem preR_ok (r : Room) (p : List Half) : regionOk (preR r p) = true := by
  unfold preR
  split
  · exact movR_ok (fun _ _ _ e => pulH_ok e)
  · rfl
set_option maxRecDepth 100000 in
set_option maxHeartbeats 3000000 in
theorem iKept_c (r : Room) (p : List Half) (ra : RoomA) (b : SlA) (w : World) (hn : roomLen r ≤ 1048576) (hin : RoomIn r) (hs : RoomSl w r ra) (hnl : RoomNil ra) (hlp : p.length ≤ 1048576) (hpi : ∀ h ∈ p, h.In) (hsp : Sl 3 halfC w b.A p) (hnb : b.A = none → b.c = 0) :
    Calls Tryz.prog 87 #[roomV r ra, .agg #[.slice b.A p.length b.c]] w fun x w' => x = .returned (.bool (keptB r p)) ∧ Below w.heap.size w w' := by
 refine calls_v Tryz.func87 rfl (n := 34) Tryz.ntmps87 (by simp) ?_
 intro a0 hz hdf ha
 have s0 : a0.tmps[0]?.getD undef = roomV r ra := ha 0 _ rfl
 have s1 : a0.tmps[1]?.getD undef = .agg #[.slice b.A p.length b.c] := ha 1 _ rfl
 clear ha
 have hB := Below.refl w.heap.size w
 have hZ := Nat.le_refl w.heap.size
 refine wp_seq ?_
 refine wp_entry [2, 3, 4] [.pointer (some ⟨w.heap.size, 0, none⟩), .pointer (some ⟨(w.heap.size + 1), 0, none⟩), .bool false] [some (.cells (roomC r ra).toArray 39), some (.cells [.slice b.A p.length b.c].toArray 37), none] [0, 1, 2] [2, 3, 4] [0, 1, 2] (by kernel_rfl) (by rw [hz]; decide) (ec ?_ (ec ?_ (ec ?_ .nil))) ?_
 · intro a w' hF hs N Q hN; simp [go_sem, hF.g rfl s0]; rw [hs]; exact hN
 · intro a w' hF hs N Q hN; simp [go_sem, hF.g rfl s1]; rw [hs]; exact hN
 · intro a w' hF hs N Q hN; simp [go_sem]; exact hN
 intro a1 w2 hF hV hb hO
 replace hz := hF.size.trans hz
 replace hdf := hF.defers.trans hdf
 have s2 : a1.tmps[2]?.getD undef = .pointer (some ⟨w.heap.size, 0, none⟩) := hV 0 (by decide)
 have s3 : a1.tmps[3]?.getD undef = .pointer (some ⟨(w.heap.size + 1), 0, none⟩) := hV 1 (by decide)
 have b3 : HasT w2 w.heap.size 39 (roomC r ra) := hO 0 _ rfl
 have b4 : HasT w2 (w.heap.size + 1) 37 [.slice b.A p.length b.c] := hO 1 _ rfl
 have hG := b4.lt
 replace hB := below_tr hB hb
 have zw2 := Nat.le_trans hZ hb.size
 replace hZ := Nat.le_refl w2.heap.size
 clear hF hV hb hO s0 s1
 refine th_n ?_
 refine wp_seq ?_
 refine wp_seq ?_
 refine wp_regJ (by kernel_rfl) [7, 8, 9, 10, 11, 12, 13, 14, 15, 16, 17, 18, 19, 20, 21] [some (roomV r ra), some (.bool (roomOk r)), some (.bool (!(roomOk r))), some (.bool (!(roomOk r))), some ((bif !(roomOk r) then undef else (.agg #[.slice b.A p.length b.c] : Value))), some ((bif !(roomOk r) then undef else (.bool (regionOk p) : Value))), some ((bif !(roomOk r) then undef else (.bool (!(regionOk p)) : Value))), some (.bool (!(roomOk r) || !(regionOk p))), some (.bool (!(roomOk r) || !(regionOk p))), some ((bif (!(roomOk r) || !(regionOk p)) then undef else (.agg #[.slice b.A p.length b.c] : Value))), some ((bif (!(roomOk r) || !(regionOk p)) then undef else (.pointer (some ⟨w.heap.size, 7, none⟩) : Value))), some ((bif (!(roomOk r) || !(regionOk p)) then undef else (.agg #[.slice ra.limits.A r.limits.length ra.limits.c] : Value))), some ((bif (!(roomOk r) || !(regionOk p)) then undef else (.bool (withinB p r.limits) : Value))), some ((bif (!(roomOk r) || !(regionOk p)) then undef else (.bool (!(withinB p r.limits)) : Value))), some (.bool ((!(roomOk r) || !(regionOk p)) || !(withinB p r.limits)))] ((List.range 15).map List.range) [7, 8, 9, 10, 11, 12, 13, 14, 15, 16, 17, 18, 19, 20, 21] [0, 1, 2, 3, 4, 5, 6, 7, 8, 9, 10, 11, 12, 13, 14] [] (fun _ _ _ => True) (by kernel_rfl) (by rw [hz]; decide) ?_ (ec ?_ (ec ?_ (ec ?_ (ec ?_ (ec ?_ (ec ?_ (ec ?_ (ec ?_ (ec ?_ (ec ?_ (ec ?_ (ec ?_ (ec ?_ (ec ?_ (ec ?_ .nil))))))))))))))) ?_
 · exact fun _ _ => trivial
 · intro Lk ak ww hL hdd haa hF hK hV hX _ _ hN; refine wnt rfl ?_
   simp [go_sem, hF.g rfl s2, (b3.kp hK (by simp)).cell]
   exact (hN _ _ hK rfl trivial)
 · intro Lk ak ww hL hdd haa hF hK hV hX _ _ hN; refine wnt rfl ?_
   simp [go_sem, (gS ak 7 (hV 0 _ rfl (hdd 0 rfl)))]
   have hBi := hK.below0 hB
   refine (iRoomOk_c r ra ww hn hin (hs.below hBi) hnl).mono ?_
   rintro x wx ⟨rfl, hb⟩
   exact (hN _ _ (hK.call hb) rfl trivial)
 · exact fun Lk ak ww hL hdd haa hF hK hV hX _ _ hN => wnt rfl (wp_not rfl (ev (hV 1 _ rfl (hdd 1 rfl))) (hN _ _ hK rfl trivial))
 · exact fun Lk ak ww hL hdd haa hF hK hV hX _ _ hN => wnt rfl (wp_move rfl (ev (hV 2 _ rfl (hdd 2 rfl))) (hN _ _ hK rfl trivial))
 · intro Lk ak ww hL hdd haa hF hK hV hX _ _ hN
   refine wgf rfl rfl rfl (hV 3 _ rfl (hdd 3 rfl)) (fun qg => hN _ _ hK (bif_t qg).symm trivial) fun qg => ?_
   simp [go_sem, hF.g rfl s3, (b4.kp hK (by simp)).cell]
   exact (hN _ _ hK (bif_f qg).symm trivial)
 · intro Lk ak ww hL hdd haa hF hK hV hX _ _ hN
   refine wgf rfl rfl rfl (hV 3 _ rfl (hdd 3 rfl)) (fun qg => hN _ _ hK (bif_t qg).symm trivial) fun qg => ?_
   simp [go_sem, (show ak.tmps[11]?.getD undef = _ from (hV 4 _ rfl (hdd 4 rfl)).trans (bif_f qg))]
   have hBi := hK.below0 hB
   refine (iRegionOk_c p b ww hlp hpi (hsp.below hBi) hnb).mono ?_
   rintro x wx ⟨rfl, hb⟩
   exact (hN _ _ (hK.call hb) (bif_f qg).symm trivial)
 · intro Lk ak ww hL hdd haa hF hK hV hX _ _ hN
   refine wgf rfl rfl rfl (hV 3 _ rfl (hdd 3 rfl)) (fun qg => hN _ _ hK (bif_t qg).symm trivial) fun qg => ?_
   exact wp_not rfl (ev ((hV 5 _ rfl (hdd 5 rfl)).trans (bif_f qg))) (hN _ _ hK (bif_f qg).symm trivial)
 · exact fun Lk ak ww hL hdd haa hF hK hV hX _ _ hN => wnt rfl (wp_pick rfl (ev (hV 3 _ rfl (hdd 3 rfl))) (fun h => vor_t h) (fun h => (ev ((hV 6 _ rfl (hdd 6 rfl)).trans (bif_f h))).trans (vor_f h)) (hN _ _ hK rfl trivial))
 · exact fun Lk ak ww hL hdd haa hF hK hV hX _ _ hN => wnt rfl (wp_move rfl (ev (hV 7 _ rfl (hdd 7 rfl))) (hN _ _ hK rfl trivial))
 · intro Lk ak ww hL hdd haa hF hK hV hX _ _ hN
   refine wgf rfl rfl rfl (hV 8 _ rfl (hdd 8 rfl)) (fun qg => hN _ _ hK (bif_t qg).symm trivial) fun qg => ?_
   simp [go_sem, hF.g rfl s3, (b4.kp hK (by simp)).cell]
   exact (hN _ _ hK (bif_f qg).symm trivial)
 · intro Lk ak ww hL hdd haa hF hK hV hX _ _ hN
   refine wgf rfl rfl rfl (hV 8 _ rfl (hdd 8 rfl)) (fun qg => hN _ _ hK (bif_t qg).symm trivial) fun qg => ?_
   simp [go_sem, hF.g rfl s2]
   exact (hN _ _ hK (bif_f qg).symm trivial)
 · intro Lk ak ww hL hdd haa hF hK hV hX _ _ hN
   refine wgf rfl rfl rfl (hV 8 _ rfl (hdd 8 rfl)) (fun qg => hN _ _ hK (bif_t qg).symm trivial) fun qg => ?_
   simp [go_sem, (show ak.tmps[17]?.getD undef = _ from (hV 10 _ rfl (hdd 10 rfl)).trans (bif_f qg)), (b3.kp hK (by simp)).cell]
   exact (hN _ _ hK (bif_f qg).symm trivial)
 · intro Lk ak ww hL hdd haa hF hK hV hX _ _ hN
   refine wgf rfl rfl rfl (hV 8 _ rfl (hdd 8 rfl)) (fun qg => hN _ _ hK (bif_t qg).symm trivial) fun qg => ?_
   simp [go_sem, (show ak.tmps[16]?.getD undef = _ from (hV 9 _ rfl (hdd 9 rfl)).trans (bif_f qg)), (show ak.tmps[18]?.getD undef = _ from (hV 11 _ rfl (hdd 11 rfl)).trans (bif_f qg))]
   have hBi := hK.below0 hB
   refine (iWithin_c p r.limits b ra.limits ww (not_f (or_f2 qg)) (roomR (not_f (or_f1 qg))).limits (hsp.below hBi) (hs.limits.halves.below hBi)).mono ?_
   rintro x wx ⟨rfl, hb⟩
   exact (hN _ _ (hK.call hb) (bif_f qg).symm trivial)
 · intro Lk ak ww hL hdd haa hF hK hV hX _ _ hN
   refine wgf rfl rfl rfl (hV 8 _ rfl (hdd 8 rfl)) (fun qg => hN _ _ hK (bif_t qg).symm trivial) fun qg => ?_
   exact wp_not rfl (ev ((hV 12 _ rfl (hdd 12 rfl)).trans (bif_f qg))) (hN _ _ hK (bif_f qg).symm trivial)
 · exact fun Lk ak ww hL hdd haa hF hK hV hX _ _ hN => wnt rfl (wp_pick rfl (ev (hV 8 _ rfl (hdd 8 rfl))) (fun h => vor_t h) (fun h => (ev ((hV 13 _ rfl (hdd 13 rfl)).trans (bif_f h))).trans (vor_f h)) (hN _ _ hK rfl trivial))
 intro L a5 w6 hL hF hK hV hX
 replace hz := hF.size.trans hz
 replace hdf := hF.defers.trans hdf
 replace s2 := hF.g rfl s2
 replace s3 := hF.g rfl s3
 have s21 : a5.tmps[21]?.getD undef = .bool ((!(roomOk r) || !(regionOk p)) || !(withinB p r.limits)) := hV 14 _ rfl
 replace b3 := b3.kp hK (by simp)
 replace b4 := b4.kp hK (by simp)
 replace hZ := Nat.le_trans hZ hK.size
 replace hB := hK.below0 hB
 clear hF hK hV hL hX
 refine th_n ?_
 rcases Bool.eq_false_or_eq_true ((!(roomOk r) || !(regionOk p)) || !(withinB p r.limits)) with q7 | q7
 · skip
   refine wp_cond_true (ev (vb s21 q7)) ?_
   refine wp_seq ?_
   refine wp_regJ (by kernel_rfl) [4] [some (.bool false)] ((List.range 1).map List.range) [4] [0] [] (fun _ _ _ => True) (by kernel_rfl) (by rw [hz]; decide) ?_ (ec ?_ .nil) ?_
   · exact fun _ _ => trivial
   · exact fun Lk ak ww hL hdd haa hF hK hV hX _ _ hN => wnt rfl (wp_assign rfl rfl (hN _ _ hK rfl trivial))
   intro L a8 w9 hL hF hK hV hX
   replace hz := hF.size.trans hz
   replace hdf := hF.defers.trans hdf
   have s4 : a8.tmps[4]?.getD undef = .bool false := hV 0 _ rfl
   replace hZ := Nat.le_trans hZ hK.size
   replace hB := hK.below0 hB
   clear hF hK hV hL hX s2 s3 s21 b3 b4
   refine th_n ?_
   refine wp_ret ?_
   refine th_r ?_
   refine bodyPost_ret (v := .bool false) (by simp [results, Tryz.results87, go_sem, s4]) hdf ?_
   exact ⟨by unfold keptB; rw [q7]; rfl, hB⟩
 · skip
   refine wp_cond_false (ev (vb s21 q7)) ?_
   refine wp_skip ?_
   refine th_n ?_
   refine wp_seq ?_
   have hXb : StaysX [5, 22, 25, 26] (fun L aa ww => (L 2 = true → (fun ww v => ∃ A1 c1, v = .tuple #[.agg #[.slice A1 ((preR r p).length) c1], .bool (preOk r p)] ∧ New 111 3 halfC ww w6.heap.size (.slice A1 (preR r p).length c1) (preR r p)) ww (aa.tmps[25]?.getD undef)) ∧ (L 3 = true → (fun ww v => ∃ A1 c1, v = .tuple #[.agg #[.slice A1 ((preR r p).length) c1], .bool (preOk r p)] ∧ New 111 3 halfC ww w6.heap.size (.slice A1 (preR r p).length c1) (preR r p)) ww (aa.tmps[22]?.getD undef)) ∧ (L 4 = true → (fun ww v => ∃ A1 c1, v = .agg #[.slice A1 ((preR r p).length) c1] ∧ New 111 3 halfC ww w6.heap.size (.slice A1 (preR r p).length c1) (preR r p)) ww (aa.tmps[26]?.getD undef)) ∧ (L 6 = true → BoxX w6 aa ww 5 37 [.slice none 0 0] (L 7) (fun ww vs => ∃ A1 c1, vs = [.slice A1 ((preR r p).length) c1] ∧ New 111 3 halfC ww w6.heap.size (.slice A1 (preR r p).length c1) (preR r p)))) := by
    intro L aa ww w' kk vv hkk hb hX
    obtain ⟨x0, x1, x2, x3⟩ := hX
    exact ⟨(fun h => by rw [put_ne' (hkk 25 (by simp))]; obtain ⟨A1', c1', e, f1'⟩ := x0 h; exact ⟨A1', c1', e, f1'.below hb leR⟩), (fun h => by rw [put_ne' (hkk 22 (by simp))]; obtain ⟨A1', c1', e, f1'⟩ := x1 h; exact ⟨A1', c1', e, f1'.below hb leR⟩), (fun h => by rw [put_ne' (hkk 26 (by simp))]; obtain ⟨A1', c1', e, f1'⟩ := x2 h; exact ⟨A1', c1', e, f1'.below hb leR⟩), (fun h => ((x3 h).bel hb (fun _ ⟨A1', c1', e, f1'⟩ => ⟨A1', c1', e, f1'.below hb leR⟩)).put (hkk 5 (by simp)) _)⟩
   refine wp_regK hXb (by kernel_rfl) [23, 24, 25, 22, 26, 27, 5, 0, 6] [some (roomV r ra), some (.agg #[.slice b.A p.length b.c]), none, none, none, some (.bool (preOk r p)), none, none, some (.bool (preOk r p))] ((List.range 9).map List.range) [23, 24, 25, 22, 26, 27, 5, 6] [0, 1, 2, 3, 4, 5, 6, 7, 8] [] (by kernel_rfl) (by rw [hz]; decide) ?_ (ec ?_ (ec ?_ (ec ?_ (ec ?_ (ec ?_ (ec ?_ (ec ?_ (ec ?_ (ec ?_ .nil))))))))) ?_
   · exact fun _ h => ⟨(fun h => by cases h), (fun h => by cases h), (fun h => by cases h), (fun h => by cases h)⟩
   · intro Lk ak ww hL hdd haa hF hK hV hX _ _ hN; refine wnt rfl ?_
     simp [go_sem, hF.g rfl s2, (b3.kp hK (by simp)).cell]
     exact (hN _ _ hK rfl (hXb Lk ak ww _ (some 23) _ (by simp) bR hX))
   · intro Lk ak ww hL hdd haa hF hK hV hX _ _ hN; refine wnt rfl ?_
     simp [go_sem, hF.g rfl s3, (b4.kp hK (by simp)).cell]
     exact (hN _ _ hK rfl (hXb Lk ak ww _ (some 24) _ (by simp) bR hX))
   · intro Lk ak ww hL hdd haa hF hK hV hX _ _ hN
     obtain ⟨x0, x1, x2, x3⟩ := hX
     refine wnt rfl ?_
     simp [go_sem, (gS ak 23 (hV 0 _ rfl (hdd 0 rfl))), (gS ak 24 (hV 1 _ rfl (hdd 1 rfl)))]
     have hBi := hK.below0 hB
     refine (iPre_c r p ra b ww (not_f (or_f1 (or_f1 q7))) (not_f (or_f2 (or_f1 q7))) (roomR (not_f (or_f1 (or_f1 q7)))).noise (roomR (not_f (or_f1 (or_f1 q7)))).nne (hs.below hBi) (hsp.below hBi)).mono ?_
     rintro x wx ⟨_, rfl, ⟨A1, c1, rfl, f0⟩, hb⟩
     have f1 := New.mono (show New 111 3 halfC wx ww.heap.size (.slice A1 (preR r p).length c1) (preR r p) from ⟨_, _, rfl, f0⟩) hK.size
     exact (hN _ _ (hK.call hb) trivial ⟨(fun _ => by rw [put_get_self (hF.lt (by rw [hz]; decide))]; exact ⟨A1, c1, rfl, f1⟩), (fun h => by rw [put_ne' (by decide)]; obtain ⟨A1', c1', e, f1'⟩ := x1 h; exact ⟨A1', c1', e, f1'.below hb leR⟩), (fun h => by rw [put_ne' (by decide)]; obtain ⟨A1', c1', e, f1'⟩ := x2 h; exact ⟨A1', c1', e, f1'.below hb leR⟩), (fun h => ((x3 h).bel hb (fun _ ⟨A1', c1', e, f1'⟩ => ⟨A1', c1', e, f1'.below hb leR⟩)).put (by decide) _)⟩)
   · intro Lk ak ww hL hdd haa hF hK hV hX _ _ hN
     obtain ⟨x0, x1, x2, x3⟩ := hX
     refine wnt rfl ?_
     obtain ⟨A1, c1, ee2, f1⟩ := x0 (hdd 2 rfl)
     exact wp_move rfl (ev ee2) (hN _ _ hK trivial ⟨(fun h => by rw [put_ne' (by decide)]; obtain ⟨A1', c1', e, f1'⟩ := x0 h; exact ⟨A1', c1', e, f1'.below bR leR⟩), (fun _ => by rw [put_get_self (hF.lt (by rw [hz]; decide))]; exact ⟨A1, c1, rfl, f1⟩), (fun h => by rw [put_ne' (by decide)]; obtain ⟨A1', c1', e, f1'⟩ := x2 h; exact ⟨A1', c1', e, f1'.below bR leR⟩), (fun h => ((x3 h).bel bR (fun _ ⟨A1', c1', e, f1'⟩ => ⟨A1', c1', e, f1'.below bR leR⟩)).put (by decide) _)⟩)
   · intro Lk ak ww hL hdd haa hF hK hV hX _ _ hN
     obtain ⟨x0, x1, x2, x3⟩ := hX
     refine wnt rfl ?_
     obtain ⟨A1, c1, ee3, f1⟩ := x1 (hdd 3 rfl)
     exact wp_extract rfl (ev ee3) rfl (hN _ _ hK trivial ⟨(fun h => by rw [put_ne' (by decide)]; obtain ⟨A1', c1', e, f1'⟩ := x0 h; exact ⟨A1', c1', e, f1'.below bR leR⟩), (fun h => by rw [put_ne' (by decide)]; obtain ⟨A1', c1', e, f1'⟩ := x1 h; exact ⟨A1', c1', e, f1'.below bR leR⟩), (fun _ => by rw [put_get_self (hF.lt (by rw [hz]; decide))]; exact ⟨A1, c1, rfl, f1⟩), (fun h => ((x3 h).bel bR (fun _ ⟨A1', c1', e, f1'⟩ => ⟨A1', c1', e, f1'.below bR leR⟩)).put (by decide) _)⟩)
   · intro Lk ak ww hL hdd haa hF hK hV hX _ _ hN
     obtain ⟨x0, x1, x2, x3⟩ := hX
     refine wnt rfl ?_
     obtain ⟨A1, c1, ee3, f1⟩ := x1 (hdd 3 rfl)
     exact wp_extract rfl (ev ee3) rfl (hN _ _ hK rfl (hXb Lk ak ww _ (some 27) _ (by simp) bR ⟨x0, x1, x2, x3⟩))
   · intro Lk ak ww hL hdd haa hF hK hV hX _ _ hN
     obtain ⟨x0, x1, x2, x3⟩ := hX
     refine wnt rfl ?_
     simp [go_sem]
     exact hN _ _ (hK.alloc _) trivial ⟨(fun h => by rw [put_ne' (by decide)]; obtain ⟨A1', c1', e, f1'⟩ := x0 h; exact ⟨A1', c1', e, f1'.below (below_al bR _) leR⟩), (fun h => by rw [put_ne' (by decide)]; obtain ⟨A1', c1', e, f1'⟩ := x1 h; exact ⟨A1', c1', e, f1'.below (below_al bR _) leR⟩), (fun h => by rw [put_ne' (by decide)]; obtain ⟨A1', c1', e, f1'⟩ := x2 h; exact ⟨A1', c1', e, f1'.below (below_al bR _) leR⟩), (fun _ => by rw [show upd Lk 6 7 = false from haa 7 rfl]; exact BoxX.new (s := 5) (hF.lt (by rw [hz]; decide)) hK.size [.slice none 0 0])⟩
   · intro Lk ak ww hL hdd haa hF hK hV hX _ _ hN
     obtain ⟨x0, x1, x2, x3⟩ := hX
     refine wnt rfl ?_
     obtain ⟨A1, c1, ee4, f1⟩ := x2 (hdd 4 rfl)
     obtain ⟨g, eg, hg, y, _⟩ := x3 (hdd 6 rfl)
     have HT := y hL
     simp [go_sem, ee4, eg, HT.cell, HT.frz]
     have f1 := f1.otherC (f1.typ HT (by decide)) [.slice A1 ((preR r p).length) c1] 0
     exact hN undef _ (hK.store (.inl hg) [.slice A1 ((preR r p).length) c1] 0) trivial ⟨(fun h => by obtain ⟨A1', c1', e, f1'⟩ := x0 h; exact ⟨A1', c1', e, f1'.otherC (f1'.typ HT (by decide)) [.slice A1 ((preR r p).length) c1] 0⟩), (fun h => by obtain ⟨A1', c1', e, f1'⟩ := x1 h; exact ⟨A1', c1', e, f1'.otherC (f1'.typ HT (by decide)) [.slice A1 ((preR r p).length) c1] 0⟩), (fun h => by obtain ⟨A1', c1', e, f1'⟩ := x2 h; exact ⟨A1', c1', e, f1'.otherC (f1'.typ HT (by decide)) [.slice A1 ((preR r p).length) c1] 0⟩), (fun _ => BoxX.set eg hg HT (us := [.slice A1 ((preR r p).length) c1]) rfl ⟨A1, c1, rfl, f1⟩)⟩
   · exact fun Lk ak ww hL hdd haa hF hK hV hX _ _ hN => wnt rfl (wp_assign rfl (ev (hV 5 _ rfl (hdd 5 rfl))) (hN _ _ hK rfl (hXb Lk ak ww _ (some 6) _ (by simp) bR hX)))
   intro L a10 w11 hL hF hK hV hX
   obtain ⟨x0, x1, x2, x3⟩ := hX
   replace hz := hF.size.trans hz
   replace hdf := hF.defers.trans hdf
   replace s3 := hF.g rfl s3
   have s6 : a10.tmps[6]?.getD undef = .bool (preOk r p) := hV 8 _ rfl
   replace b4 := b4.kp hK (by simp)
   obtain ⟨g12, s5, lg12, -, b12⟩ := x3 (hL 6 (by decide))
   obtain ⟨_, b12, A1, c1, rfl, N1⟩ := b12 (hL 7 (by decide))
   have i1 : ∀ p, A1 = some p → p.block < w11.heap.size := fun p hp => (N1.blk p hp).2
   have ug12 := b12.lt
   have zw6 := hZ
   have zw11 := hK.size
   replace hZ := Nat.le_refl w11.heap.size
   replace hB := hK.below0 hB
   clear hF hK hV hL x0 x1 x2 x3 hXb s2 s21 b3
   refine th_n ?_
   refine wp_seq ?_
   refine wp_regJ (by kernel_rfl) [28, 29, 30, 31, 32, 33, 4] [some (.bool (preOk r p)), some (.bool (preOk r p)), some ((bif preOk r p then (.agg #[.slice b.A p.length b.c] : Value) else undef)), some ((bif preOk r p then (.agg #[.slice A1 ((preR r p).length) c1] : Value) else undef)), some ((bif preOk r p then (.bool (withinB p (preR r p)) : Value) else undef)), some (.bool (preOk r p && withinB p (preR r p))), some (.bool (preOk r p && withinB p (preR r p)))] ((List.range 7).map List.range) [28, 29, 30, 31, 32, 33, 4] [0, 1, 2, 3, 4, 5, 6] [] (fun _ _ _ => True) (by kernel_rfl) (by rw [hz]; decide) ?_ (ec ?_ (ec ?_ (ec ?_ (ec ?_ (ec ?_ (ec ?_ (ec ?_ .nil))))))) ?_
   · exact fun _ _ => trivial
   · exact fun Lk ak ww hL hdd haa hF hK hV hX _ _ hN => wnt rfl (wp_move rfl (ev (hF.g rfl s6)) (hN _ _ hK rfl trivial))
   · exact fun Lk ak ww hL hdd haa hF hK hV hX _ _ hN => wnt rfl (wp_move rfl (ev (hV 0 _ rfl (hdd 0 rfl))) (hN _ _ hK rfl trivial))
   · intro Lk ak ww hL hdd haa hF hK hV hX _ _ hN
     refine wgt rfl rfl rfl (hV 1 _ rfl (hdd 1 rfl)) (fun qg => hN _ _ hK (bif_f qg).symm trivial) fun qg => ?_
     simp [go_sem, hF.g rfl s3, (b4.kp hK (by simp)).cell]
     exact (hN _ _ hK (bif_t qg).symm trivial)
   · intro Lk ak ww hL hdd haa hF hK hV hX _ _ hN
     refine wgt rfl rfl rfl (hV 1 _ rfl (hdd 1 rfl)) (fun qg => hN _ _ hK (bif_f qg).symm trivial) fun qg => ?_
     simp [go_sem, hF.g rfl s5, (b12.kp hK (by simp)).cell]
     exact (hN _ _ hK (bif_t qg).symm trivial)
   · intro Lk ak ww hL hdd haa hF hK hV hX _ _ hN
     refine wgt rfl rfl rfl (hV 1 _ rfl (hdd 1 rfl)) (fun qg => hN _ _ hK (bif_f qg).symm trivial) fun qg => ?_
     simp [go_sem, (show ak.tmps[30]?.getD undef = _ from (hV 2 _ rfl (hdd 2 rfl)).trans (bif_t qg)), (show ak.tmps[31]?.getD undef = _ from (hV 3 _ rfl (hdd 3 rfl)).trans (bif_t qg))]
     have hBi := hK.below0 hB
     refine (iWithin_c p (preR r p) b ⟨A1, c1⟩ ww (not_f (or_f2 (or_f1 q7))) (preR_ok r p) (hsp.below hBi) ((N1.below hK.toBelow leR).out halfC_len)).mono ?_
     rintro x wx ⟨rfl, hb⟩
     exact (hN _ _ (hK.call hb) (bif_t qg).symm trivial)
   · exact fun Lk ak ww hL hdd haa hF hK hV hX _ _ hN => wnt rfl (wp_pick rfl (ev (hV 1 _ rfl (hdd 1 rfl))) (fun h => (ev ((hV 4 _ rfl (hdd 4 rfl)).trans (bif_t h))).trans (vand_t h)) (fun h => vand_f h) (hN _ _ hK rfl trivial))
   · exact fun Lk ak ww hL hdd haa hF hK hV hX _ _ hN => wnt rfl (wp_assign rfl (ev (hV 5 _ rfl (hdd 5 rfl))) (hN _ _ hK rfl trivial))
   intro L a13 w14 hL hF hK hV hX
   replace hz := hF.size.trans hz
   replace hdf := hF.defers.trans hdf
   have s4 : a13.tmps[4]?.getD undef = .bool (preOk r p && withinB p (preR r p)) := hV 6 _ rfl
   replace hZ := Nat.le_trans hZ hK.size
   replace hB := hK.below0 hB
   clear hF hK hV hL hX s3 s6 s5 b4 b12 N1 i1
   refine th_n ?_
   refine wp_ret ?_
   refine bodyPost_ret (v := .bool (preOk r p && withinB p (preR r p))) (by simp [results, Tryz.results87, go_sem, s4]) hdf ?_
   exact ⟨by unfold keptB; rw [q7]; rfl, hB⟩
end Go.Proofs.YtdncnhcffbgjhaaGreat
