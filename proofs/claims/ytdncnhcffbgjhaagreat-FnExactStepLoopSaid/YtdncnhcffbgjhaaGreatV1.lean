/-
  The inputs that are admitted at a state: of the reference.
  Conditions: the slices hold at most 2^20 elements.
-/
import Derived.Test.YtdncnhcffbgjhaaGreatAdm3
import Derived.Test.YtdncnhcffbgjhaaGreatGrU
import Derived.Test.YtdncnhcffbgjhaaGreatEroM
namespace Go.Proofs.YtdncnhcffbgjhaaGreat
open Go.RowKit

theorem rpOk_room {r : Room} {p : List Half} (h : rpOk r p = true) : roomOk r = true := by
  simp only [rpOk, Bool.and_eq_true] at h
  exact h.1.1
theorem optSpan_eq (x : Option Span) : optSpanV x = .tuple #[spanV (x.getD span0), .bool x.isSome] := by cases x <;> rfl
theorem admAt_no1 {r : Room} {p : List Half} {s : Spot} (h : (!(regionOk p) || !(spotOk s) || decide (s.d > 100000)) = true) : admAt r p s = none := by
  unfold admAt robOk rpOk
  rcases Bool.eq_false_or_eq_true (regionOk p) with h1 | h1
  · rcases Bool.eq_false_or_eq_true (spotOk s) with h2 | h2
    · rw [h1, h2] at h
      have h3 : 100000 < s.d := by simpa using h
      rw [adm_no h3]; split <;> rfl
    · rw [h2, if_neg (by simp)]
  · rw [h1, if_neg (by simp)]
theorem admAt_no2 {r : Room} {p : List Half} {s : Spot} (h : (!(rpOk r p) || decide ((rpR r p).length = 0)) = true) : admAt r p s = none := by
  unfold admAt robOk
  rcases Bool.eq_false_or_eq_true (rpOk r p) with h1 | h1
  · rw [h1] at h
    have h2 : decide ((rpR r p).length = 0) = true := by simpa using h
    rw [h2, if_neg (by simp)]
  · rw [h1, if_neg (by simp)]
theorem admAt_yes {r : Room} {p : List Half} {s : Spot} (h1 : spotOk s = true) (h : (!(rpOk r p) || decide ((rpR r p).length = 0)) = false) : admAt r p s = admit r (rpR r p) s := by
  have h2 := not_f (or_f1 h)
  have h3 := or_f2 h
  unfold admAt robOk
  have hp : decide (p.length = 0) = false := by
    cases hq : decide (p.length = 0)
    · rfl
    · have := of_decide_eq_true hq
      have h5 : rpR r p = [] := by
        unfold rpR
        split
        · exact (mov_void this).2
        · rfl
      rw [h5] at h3; cases h3
  rw [hp, h2, h3, h1, if_pos (by simp)]
set_option maxRecDepth 100000 in
set_option maxHeartbeats 3000000 in
theorem sAdmAt_c (r : Room) (p : List Half) (s : Spot) (ra : RoomA) (b : SlA) (w : World) (hn : roomLen r ≤ 1048576) (hin : RoomIn r) (hs : RoomSl w r ra) (hnl : RoomNil ra) (hlp : p.length ≤ 1048576) (hpi : ∀ h ∈ p, h.In) (hsp : Sl 3 halfC w b.A p) (hnb : b.A = none → b.c = 0) (hsi : s.In) :
    Calls Tryz.prog 79 #[roomV r ra, .agg #[.slice b.A p.length b.c], spotV s] w fun x w' => x = .returned (optSpanV (admAt r p s)) ∧ Below w.heap.size w w' := by
 refine calls_v Tryz.func79 rfl (n := 43) Tryz.ntmps79 (by simp) ?_
 intro a0 hz hdf ha
 have s0 : a0.tmps[0]?.getD undef = roomV r ra := ha 0 _ rfl
 have s1 : a0.tmps[1]?.getD undef = .agg #[.slice b.A p.length b.c] := ha 1 _ rfl
 have s2 : a0.tmps[2]?.getD undef = spotV s := ha 2 _ rfl
 clear ha
 have hB := Below.refl w.heap.size w
 have hZ := Nat.le_refl w.heap.size
 refine wp_seq ?_
 refine wp_entry [3, 4, 5, 6, 7] [.pointer (some ⟨w.heap.size, 0, none⟩), .pointer (some ⟨(w.heap.size + 1), 0, none⟩), .pointer (some ⟨(w.heap.size + 2), 0, none⟩), .pointer (some ⟨(w.heap.size + 3), 0, none⟩), .bool false] [some (.cells (roomC r ra).toArray 39), some (.cells [.slice b.A p.length b.c].toArray 37), some (.cells [.int .i64 s.x, .int .i64 s.y, .int .i64 s.d].toArray 57), some (.cells [.int .i64 0, .int .i64 0, .int .i64 0, .int .i64 0].toArray 54), none] [0, 1, 2, 3, 4] [3, 4, 5, 6, 7] [0, 1, 2, 3, 4] (by kernel_rfl) (by rw [hz]; decide) (ec ?_ (ec ?_ (ec ?_ (ec ?_ (ec ?_ .nil))))) ?_
 · intro a w' hF hs N Q hN; simp [go_sem, hF.g rfl s0]; rw [hs]; exact hN
 · intro a w' hF hs N Q hN; simp [go_sem, hF.g rfl s1]; rw [hs]; exact hN
 · intro a w' hF hs N Q hN; simp [go_sem, hF.g rfl s2]; rw [hs]; exact hN
 · intro a w' hF hs N Q hN; simp [go_sem]; rw [hs]; exact hN
 · intro a w' hF hs N Q hN; simp [go_sem]; exact hN
 intro a1 w2 hF hV hb hO
 replace hz := hF.size.trans hz
 replace hdf := hF.defers.trans hdf
 have s3 : a1.tmps[3]?.getD undef = .pointer (some ⟨w.heap.size, 0, none⟩) := hV 0 (by decide)
 have s4 : a1.tmps[4]?.getD undef = .pointer (some ⟨(w.heap.size + 1), 0, none⟩) := hV 1 (by decide)
 have s5 : a1.tmps[5]?.getD undef = .pointer (some ⟨(w.heap.size + 2), 0, none⟩) := hV 2 (by decide)
 have s6 : a1.tmps[6]?.getD undef = .pointer (some ⟨(w.heap.size + 3), 0, none⟩) := hV 3 (by decide)
 have b3 : HasT w2 w.heap.size 39 (roomC r ra) := hO 0 _ rfl
 have b4 : HasT w2 (w.heap.size + 1) 37 [.slice b.A p.length b.c] := hO 1 _ rfl
 have b5 : HasT w2 (w.heap.size + 2) 57 [.int .i64 s.x, .int .i64 s.y, .int .i64 s.d] := hO 2 _ rfl
 have b6 : HasT w2 (w.heap.size + 3) 54 [.int .i64 0, .int .i64 0, .int .i64 0, .int .i64 0] := hO 3 _ rfl
 have hG := b6.lt
 replace hB := below_tr hB hb
 have zw2 := Nat.le_trans hZ hb.size
 replace hZ := Nat.le_refl w2.heap.size
 clear hF hV hb hO s0 s1 s2
 refine th_n ?_
 refine wp_seq ?_
 refine wp_seq ?_
 refine wp_regJ (by kernel_rfl) [10, 11, 12, 13, 14, 15, 16, 17, 18, 19, 20, 21, 22] [some (.agg #[.slice b.A p.length b.c]), some (.bool (regionOk p)), some (.bool (!(regionOk p))), some (.bool (!(regionOk p))), some ((bif !(regionOk p) then undef else (spotV s : Value))), some ((bif !(regionOk p) then undef else (.bool (spotOk s) : Value))), some ((bif !(regionOk p) then undef else (.bool (!(spotOk s)) : Value))), some (.bool (!(regionOk p) || !(spotOk s))), some (.bool (!(regionOk p) || !(spotOk s))), some ((bif (!(regionOk p) || !(spotOk s)) then undef else (.pointer (some ⟨(w.heap.size + 2), 2, none⟩) : Value))), some ((bif (!(regionOk p) || !(spotOk s)) then undef else (.int .i64 s.d : Value))), some ((bif (!(regionOk p) || !(spotOk s)) then undef else (.bool (decide (s.d > 100000)) : Value))), some (.bool ((!(regionOk p) || !(spotOk s)) || decide (s.d > 100000)))] ((List.range 13).map List.range) [10, 11, 12, 13, 14, 15, 16, 17, 18, 19, 20, 21, 22] [0, 1, 2, 3, 4, 5, 6, 7, 8, 9, 10, 11, 12] [] (fun _ _ _ => True) (by kernel_rfl) (by rw [hz]; decide) ?_ (ec ?_ (ec ?_ (ec ?_ (ec ?_ (ec ?_ (ec ?_ (ec ?_ (ec ?_ (ec ?_ (ec ?_ (ec ?_ (ec ?_ (ec ?_ .nil))))))))))))) ?_
 · exact fun _ _ => trivial
 · intro Lk ak ww hL hdd haa hF hK hV hX Nk Qk hN; refine wnt rfl ?_
   simp [go_sem, hF.g rfl s4, (b4.kp hK (by simp)).cell]
   exact (hN _ _ hK rfl trivial)
 · intro Lk ak ww hL hdd haa hF hK hV hX Nk Qk hN; refine wnt rfl ?_
   simp [go_sem, (show ak.tmps[10]?.getD undef = _ from hV 0 _ rfl (hdd 0 rfl))]
   have hBi := hK.below0 hB
   refine (sRegionOk_c p b ww hlp hpi (hsp.below hBi) hnb).mono ?_
   rintro x wx ⟨rfl, hb⟩
   exact (hN _ _ (hK.call hb) rfl trivial)
 · exact fun Lk ak ww hL hdd haa hF hK hV hX Nk Qk hN => wnt rfl (wp_not rfl (ev (hV 1 _ rfl (hdd 1 rfl))) (hN _ _ hK rfl trivial))
 · exact fun Lk ak ww hL hdd haa hF hK hV hX Nk Qk hN => wnt rfl (wp_move rfl (ev (hV 2 _ rfl (hdd 2 rfl))) (hN _ _ hK rfl trivial))
 · intro Lk ak ww hL hdd haa hF hK hV hX Nk Qk hN
   refine wgf rfl rfl rfl (hV 3 _ rfl (hdd 3 rfl)) (fun qg => hN _ _ hK (bif_t qg).symm trivial) fun qg => ?_
   simp [go_sem, hF.g rfl s5, (b5.kp hK (by simp)).cell]
   exact (hN _ _ hK (bif_f qg).symm trivial)
 · intro Lk ak ww hL hdd haa hF hK hV hX Nk Qk hN
   refine wgf rfl rfl rfl (hV 3 _ rfl (hdd 3 rfl)) (fun qg => hN _ _ hK (bif_t qg).symm trivial) fun qg => ?_
   simp [go_sem, (show ak.tmps[14]?.getD undef = _ from (hV 4 _ rfl (hdd 4 rfl)).trans (bif_f qg))]
   refine (sSpotOk_c s ww hsi).mono ?_
   rintro x wx ⟨rfl, hb⟩
   exact (hN _ _ (hK.call hb) (bif_f qg).symm trivial)
 · intro Lk ak ww hL hdd haa hF hK hV hX Nk Qk hN
   refine wgf rfl rfl rfl (hV 3 _ rfl (hdd 3 rfl)) (fun qg => hN _ _ hK (bif_t qg).symm trivial) fun qg => ?_
   exact wp_not rfl (ev ((hV 5 _ rfl (hdd 5 rfl)).trans (bif_f qg))) (hN _ _ hK (bif_f qg).symm trivial)
 · exact fun Lk ak ww hL hdd haa hF hK hV hX Nk Qk hN => wnt rfl (wp_pick rfl (ev (hV 3 _ rfl (hdd 3 rfl))) (fun h => vor_t h) (fun h => (ev ((hV 6 _ rfl (hdd 6 rfl)).trans (bif_f h))).trans (vor_f h)) (hN _ _ hK rfl trivial))
 · exact fun Lk ak ww hL hdd haa hF hK hV hX Nk Qk hN => wnt rfl (wp_move rfl (ev (hV 7 _ rfl (hdd 7 rfl))) (hN _ _ hK rfl trivial))
 · intro Lk ak ww hL hdd haa hF hK hV hX Nk Qk hN
   refine wgf rfl rfl rfl (hV 8 _ rfl (hdd 8 rfl)) (fun qg => hN _ _ hK (bif_t qg).symm trivial) fun qg => ?_
   simp [go_sem, hF.g rfl s5]
   exact (hN _ _ hK (bif_f qg).symm trivial)
 · intro Lk ak ww hL hdd haa hF hK hV hX Nk Qk hN
   refine wgf rfl rfl rfl (hV 8 _ rfl (hdd 8 rfl)) (fun qg => hN _ _ hK (bif_t qg).symm trivial) fun qg => ?_
   simp [go_sem, (show ak.tmps[19]?.getD undef = _ from (hV 9 _ rfl (hdd 9 rfl)).trans (bif_f qg)), (b5.kp hK (by simp)).cell]
   exact (hN _ _ hK (bif_f qg).symm trivial)
 · intro Lk ak ww hL hdd haa hF hK hV hX Nk Qk hN
   refine wgf rfl rfl rfl (hV 8 _ rfl (hdd 8 rfl)) (fun qg => hN _ _ hK (bif_t qg).symm trivial) fun qg => ?_
   exact wp_bin rfl (ev ((hV 10 _ rfl (hdd 10 rfl)).trans (bif_f qg))) rfl rfl rfl (hN _ _ hK (bif_f qg).symm trivial)
 · exact fun Lk ak ww hL hdd haa hF hK hV hX Nk Qk hN => wnt rfl (wp_pick rfl (ev (hV 8 _ rfl (hdd 8 rfl))) (fun h => vor_t h) (fun h => (ev ((hV 11 _ rfl (hdd 11 rfl)).trans (bif_f h))).trans (vor_f h)) (hN _ _ hK rfl trivial))
 intro L a7 w8 hL hF hK hV hX
 replace hz := hF.size.trans hz
 replace hdf := hF.defers.trans hdf
 replace s3 := hF.g rfl s3
 replace s4 := hF.g rfl s4
 replace s5 := hF.g rfl s5
 replace s6 := hF.g rfl s6
 have s22 : a7.tmps[22]?.getD undef = .bool ((!(regionOk p) || !(spotOk s)) || decide (s.d > 100000)) := hV 12 _ rfl
 replace b3 := b3.kp hK (by simp)
 replace b4 := b4.kp hK (by simp)
 replace b5 := b5.kp hK (by simp)
 replace b6 := b6.kp hK (by simp)
 replace hZ := Nat.le_trans hZ hK.size
 replace hB := hK.below0 hB
 clear hF hK hV hL hX
 refine th_n ?_
 rcases Bool.eq_false_or_eq_true ((!(regionOk p) || !(spotOk s)) || decide (s.d > 100000)) with q9 | q9
 · skip
   refine wp_cond_true (ev (vb s22 q9)) ?_
   refine wp_seq ?_
   refine wp_regJ (by kernel_rfl) [23, 0, 7] [some (.agg #[.int .i64 0, .int .i64 0, .int .i64 0, .int .i64 0]), none, some (.bool false)] ((List.range 3).map List.range) [23, 7] [0, 1, 2] [(w.heap.size + 3)] (fun L aa ww => PreX ww (w.heap.size + 3) 54 [.int .i64 0, .int .i64 0, .int .i64 0, .int .i64 0] (L 1) (fun _ vs => vs = [.int .i64 0, .int .i64 0, .int .i64 0, .int .i64 0])) (by kernel_rfl) (by rw [hz]; decide) ?_ (ec ?_ (ec ?_ (ec ?_ .nil))) ?_
   · exact fun _ h => (⟨fun _ => b6.kp h (by simp), (fun h => by cases h)⟩)
   · intro Lk ak ww hL hdd haa hF hK hV hX Nk Qk hN; refine wnt rfl ?_
     simp [go_sem]
     exact (hN _ _ hK rfl (hX.bel (Below.refl _ _) (fun _ h => h)))
   · intro Lk ak ww hL hdd haa hF hK hV hX Nk Qk hN
     have x0 := hX
     refine wnt rfl ?_
     have HT := x0.1 hL
     simp [go_sem, (show ak.tmps[23]?.getD undef = _ from hV 0 _ rfl (hdd 0 rfl)), hF.g rfl s6, HT.cell, HT.frz]
     exact hN undef _ (hK.store (.inr (by simp)) [.int .i64 0, .int .i64 0, .int .i64 0, .int .i64 0] 0) trivial (PreX.set HT (us := [.int .i64 0, .int .i64 0, .int .i64 0, .int .i64 0]) rfl rfl)
   · exact fun Lk ak ww hL hdd haa hF hK hV hX Nk Qk hN => wnt rfl (wp_assign rfl rfl (hN _ _ hK rfl (hX.bel (Below.refl _ _) (fun _ h => h))))
   intro L a10 w11 hL hF hK hV hX
   have x0 := hX
   replace hz := hF.size.trans hz
   replace hdf := hF.defers.trans hdf
   replace s6 := hF.g rfl s6
   have s7 : a10.tmps[7]?.getD undef = .bool false := hV 2 _ rfl
   clear b6
   obtain ⟨_, b6, rfl⟩ := x0.2 (hL 1 (by decide))
   replace hZ := Nat.le_trans hZ hK.size
   replace hB := hK.below hB hB.size (by simp <;> omega)
   clear hF hK hV hL x0 s3 s4 s5 s22 b3 b4 b5
   refine th_n ?_
   refine wp_ret ?_
   refine th_r ?_
   refine bodyPost_ret (v := .tuple #[.agg #[.int .i64 0, .int .i64 0, .int .i64 0, .int .i64 0], .bool false]) (by simp [results, Tryz.results79, go_sem, s6, b6.cell, s7]) hdf ?_
   exact ⟨by rw [admAt_no1 q9]; rfl, hB⟩
 · skip
   refine wp_cond_false (ev (vb s22 q9)) ?_
   refine wp_skip ?_
   refine th_n ?_
   refine wp_seq ?_
   have hXb : ∀ (L : Nat → Bool) (aa : Act) (ww w' : World) (k : Option Nat) (v : Value), (∀ s ∈ [8, 24, 27, 28], k ≠ some s) → Below ww.heap.size ww w' → (L 2 = true → (fun ww v => ∃ A1 c1, v = .tuple #[.agg #[.slice A1 ((rpR r p).length) c1], .bool (rpOk r p)] ∧ New 111 3 halfC ww w8.heap.size (.slice A1 (rpR r p).length c1) (rpR r p)) ww (aa.tmps[27]?.getD undef)) ∧ (L 3 = true → (fun ww v => ∃ A1 c1, v = .tuple #[.agg #[.slice A1 ((rpR r p).length) c1], .bool (rpOk r p)] ∧ New 111 3 halfC ww w8.heap.size (.slice A1 (rpR r p).length c1) (rpR r p)) ww (aa.tmps[24]?.getD undef)) ∧ (L 4 = true → (fun ww v => ∃ A1 c1, v = .agg #[.slice A1 ((rpR r p).length) c1] ∧ New 111 3 halfC ww w8.heap.size (.slice A1 (rpR r p).length c1) (rpR r p)) ww (aa.tmps[28]?.getD undef)) ∧ (L 6 = true → BoxX w8 aa ww 8 37 [.slice none 0 0] (L 7) (fun ww vs => ∃ A1 c1, vs = [.slice A1 ((rpR r p).length) c1] ∧ New 111 3 halfC ww w8.heap.size (.slice A1 (rpR r p).length c1) (rpR r p))) → (L 2 = true → (fun ww v => ∃ A1 c1, v = .tuple #[.agg #[.slice A1 ((rpR r p).length) c1], .bool (rpOk r p)] ∧ New 111 3 halfC ww w8.heap.size (.slice A1 (rpR r p).length c1) (rpR r p)) w' ((aa.put k v).tmps[27]?.getD undef)) ∧ (L 3 = true → (fun ww v => ∃ A1 c1, v = .tuple #[.agg #[.slice A1 ((rpR r p).length) c1], .bool (rpOk r p)] ∧ New 111 3 halfC ww w8.heap.size (.slice A1 (rpR r p).length c1) (rpR r p)) w' ((aa.put k v).tmps[24]?.getD undef)) ∧ (L 4 = true → (fun ww v => ∃ A1 c1, v = .agg #[.slice A1 ((rpR r p).length) c1] ∧ New 111 3 halfC ww w8.heap.size (.slice A1 (rpR r p).length c1) (rpR r p)) w' ((aa.put k v).tmps[28]?.getD undef)) ∧ (L 6 = true → BoxX w8 (aa.put k v) w' 8 37 [.slice none 0 0] (L 7) (fun ww vs => ∃ A1 c1, vs = [.slice A1 ((rpR r p).length) c1] ∧ New 111 3 halfC ww w8.heap.size (.slice A1 (rpR r p).length c1) (rpR r p))) := by
    intro L aa ww w' k v hk hb hX
    obtain ⟨x0, x1, x2, x3⟩ := hX
    exact ⟨(fun h => by rw [put_ne' (hk 27 (by simp))]; obtain ⟨A1', c1', e, f1'⟩ := x0 h; exact ⟨A1', c1', e, f1'.below hb (Nat.le_refl _)⟩), (fun h => by rw [put_ne' (hk 24 (by simp))]; obtain ⟨A1', c1', e, f1'⟩ := x1 h; exact ⟨A1', c1', e, f1'.below hb (Nat.le_refl _)⟩), (fun h => by rw [put_ne' (hk 28 (by simp))]; obtain ⟨A1', c1', e, f1'⟩ := x2 h; exact ⟨A1', c1', e, f1'.below hb (Nat.le_refl _)⟩), (fun h => ((x3 h).bel hb (fun _ ⟨A1', c1', e, f1'⟩ => ⟨A1', c1', e, f1'.below hb (Nat.le_refl _)⟩)).put (hk 8 (by simp)) _)⟩
   refine wp_regJ (by kernel_rfl) [25, 26, 27, 24, 28, 29, 8, 0, 9] [some (roomV r ra), some (.agg #[.slice b.A p.length b.c]), none, none, none, some (.bool (rpOk r p)), none, none, some (.bool (rpOk r p))] ((List.range 9).map List.range) [25, 26, 27, 24, 28, 29, 8, 9] [0, 1, 2, 3, 4, 5, 6, 7, 8] [] (fun L aa ww => (L 2 = true → (fun ww v => ∃ A1 c1, v = .tuple #[.agg #[.slice A1 ((rpR r p).length) c1], .bool (rpOk r p)] ∧ New 111 3 halfC ww w8.heap.size (.slice A1 (rpR r p).length c1) (rpR r p)) ww (aa.tmps[27]?.getD undef)) ∧ (L 3 = true → (fun ww v => ∃ A1 c1, v = .tuple #[.agg #[.slice A1 ((rpR r p).length) c1], .bool (rpOk r p)] ∧ New 111 3 halfC ww w8.heap.size (.slice A1 (rpR r p).length c1) (rpR r p)) ww (aa.tmps[24]?.getD undef)) ∧ (L 4 = true → (fun ww v => ∃ A1 c1, v = .agg #[.slice A1 ((rpR r p).length) c1] ∧ New 111 3 halfC ww w8.heap.size (.slice A1 (rpR r p).length c1) (rpR r p)) ww (aa.tmps[28]?.getD undef)) ∧ (L 6 = true → BoxX w8 aa ww 8 37 [.slice none 0 0] (L 7) (fun ww vs => ∃ A1 c1, vs = [.slice A1 ((rpR r p).length) c1] ∧ New 111 3 halfC ww w8.heap.size (.slice A1 (rpR r p).length c1) (rpR r p)))) (by kernel_rfl) (by rw [hz]; decide) ?_ (ec ?_ (ec ?_ (ec ?_ (ec ?_ (ec ?_ (ec ?_ (ec ?_ (ec ?_ (ec ?_ .nil))))))))) ?_
   · exact fun _ h => ⟨(fun h => by cases h), (fun h => by cases h), (fun h => by cases h), (fun h => by cases h)⟩
   · intro Lk ak ww hL hdd haa hF hK hV hX Nk Qk hN; refine wnt rfl ?_
     simp [go_sem, hF.g rfl s3, (b3.kp hK (by simp)).cell]
     exact (hN _ _ hK rfl (hXb Lk ak ww _ (some 25) _ (by simp) (Below.refl _ _) hX))
   · intro Lk ak ww hL hdd haa hF hK hV hX Nk Qk hN; refine wnt rfl ?_
     simp [go_sem, hF.g rfl s4, (b4.kp hK (by simp)).cell]
     exact (hN _ _ hK rfl (hXb Lk ak ww _ (some 26) _ (by simp) (Below.refl _ _) hX))
   · intro Lk ak ww hL hdd haa hF hK hV hX Nk Qk hN
     obtain ⟨x0, x1, x2, x3⟩ := hX
     refine wnt rfl ?_
     simp [go_sem, (show ak.tmps[25]?.getD undef = _ from hV 0 _ rfl (hdd 0 rfl)), (show ak.tmps[26]?.getD undef = _ from hV 1 _ rfl (hdd 1 rfl))]
     have hBi := hK.below0 hB
     refine (sRob_c r p ra b ww hn hin (hs.below hBi) hnl hlp hpi (hsp.below hBi) hnb).mono ?_
     rintro x wx ⟨_, rfl, ⟨A1, c1, rfl, f0⟩, hb⟩
     have f1 := New.mono (show New 111 3 halfC wx ww.heap.size (.slice A1 (rpR r p).length c1) (rpR r p) from ⟨_, _, rfl, f0⟩) hK.size
     exact (hN _ _ (hK.call hb) trivial ⟨(fun _ => by rw [put_get_self (hF.lt (by rw [hz]; decide))]; exact ⟨A1, c1, rfl, f1⟩), (fun h => by rw [put_ne' (by decide)]; obtain ⟨A1', c1', e, f1'⟩ := x1 h; exact ⟨A1', c1', e, f1'.below hb (Nat.le_refl _)⟩), (fun h => by rw [put_ne' (by decide)]; obtain ⟨A1', c1', e, f1'⟩ := x2 h; exact ⟨A1', c1', e, f1'.below hb (Nat.le_refl _)⟩), (fun h => ((x3 h).bel hb (fun _ ⟨A1', c1', e, f1'⟩ => ⟨A1', c1', e, f1'.below hb (Nat.le_refl _)⟩)).put (by decide) _)⟩)
   · intro Lk ak ww hL hdd haa hF hK hV hX Nk Qk hN
     obtain ⟨x0, x1, x2, x3⟩ := hX
     refine wnt rfl ?_
     obtain ⟨A1, c1, ee2, f1⟩ := x0 (hdd 2 rfl)
     exact wp_move rfl (ev ee2) (hN _ _ hK trivial ⟨(fun h => by rw [put_ne' (by decide)]; obtain ⟨A1', c1', e, f1'⟩ := x0 h; exact ⟨A1', c1', e, f1'.below (Below.refl _ _) (Nat.le_refl _)⟩), (fun _ => by rw [put_get_self (hF.lt (by rw [hz]; decide))]; exact ⟨A1, c1, rfl, f1⟩), (fun h => by rw [put_ne' (by decide)]; obtain ⟨A1', c1', e, f1'⟩ := x2 h; exact ⟨A1', c1', e, f1'.below (Below.refl _ _) (Nat.le_refl _)⟩), (fun h => ((x3 h).bel (Below.refl _ _) (fun _ ⟨A1', c1', e, f1'⟩ => ⟨A1', c1', e, f1'.below (Below.refl _ _) (Nat.le_refl _)⟩)).put (by decide) _)⟩)
   · intro Lk ak ww hL hdd haa hF hK hV hX Nk Qk hN
     obtain ⟨x0, x1, x2, x3⟩ := hX
     refine wnt rfl ?_
     obtain ⟨A1, c1, ee3, f1⟩ := x1 (hdd 3 rfl)
     exact wp_extract rfl (ev ee3) rfl (hN _ _ hK trivial ⟨(fun h => by rw [put_ne' (by decide)]; obtain ⟨A1', c1', e, f1'⟩ := x0 h; exact ⟨A1', c1', e, f1'.below (Below.refl _ _) (Nat.le_refl _)⟩), (fun h => by rw [put_ne' (by decide)]; obtain ⟨A1', c1', e, f1'⟩ := x1 h; exact ⟨A1', c1', e, f1'.below (Below.refl _ _) (Nat.le_refl _)⟩), (fun _ => by rw [put_get_self (hF.lt (by rw [hz]; decide))]; exact ⟨A1, c1, rfl, f1⟩), (fun h => ((x3 h).bel (Below.refl _ _) (fun _ ⟨A1', c1', e, f1'⟩ => ⟨A1', c1', e, f1'.below (Below.refl _ _) (Nat.le_refl _)⟩)).put (by decide) _)⟩)
   · intro Lk ak ww hL hdd haa hF hK hV hX Nk Qk hN
     obtain ⟨x0, x1, x2, x3⟩ := hX
     refine wnt rfl ?_
     obtain ⟨A1, c1, ee3, f1⟩ := x1 (hdd 3 rfl)
     exact wp_extract rfl (ev ee3) rfl (hN _ _ hK rfl (hXb Lk ak ww _ (some 29) _ (by simp) (Below.refl _ _) ⟨x0, x1, x2, x3⟩))
   · intro Lk ak ww hL hdd haa hF hK hV hX Nk Qk hN
     obtain ⟨x0, x1, x2, x3⟩ := hX
     refine wnt rfl ?_
     simp [go_sem]
     exact hN _ _ (hK.alloc _) trivial ⟨(fun h => by rw [put_ne' (by decide)]; obtain ⟨A1', c1', e, f1'⟩ := x0 h; exact ⟨A1', c1', e, f1'.below (below_al (Below.refl _ _) _) (Nat.le_refl _)⟩), (fun h => by rw [put_ne' (by decide)]; obtain ⟨A1', c1', e, f1'⟩ := x1 h; exact ⟨A1', c1', e, f1'.below (below_al (Below.refl _ _) _) (Nat.le_refl _)⟩), (fun h => by rw [put_ne' (by decide)]; obtain ⟨A1', c1', e, f1'⟩ := x2 h; exact ⟨A1', c1', e, f1'.below (below_al (Below.refl _ _) _) (Nat.le_refl _)⟩), (fun _ => by rw [show upd Lk 6 7 = false from haa 7 rfl]; exact BoxX.new (s := 8) (hF.lt (by rw [hz]; decide)) hK.size [.slice none 0 0])⟩
   · intro Lk ak ww hL hdd haa hF hK hV hX Nk Qk hN
     obtain ⟨x0, x1, x2, x3⟩ := hX
     refine wnt rfl ?_
     obtain ⟨A1, c1, ee4, f1⟩ := x2 (hdd 4 rfl)
     obtain ⟨g, eg, hg, y, _⟩ := x3 (hdd 6 rfl)
     have HT := y hL
     simp [go_sem, ee4, eg, HT.cell, HT.frz]
     have f1 := f1.otherC (f1.typ HT (by decide)) [.slice A1 ((rpR r p).length) c1] 0
     exact hN undef _ (hK.store (.inl hg) [.slice A1 ((rpR r p).length) c1] 0) trivial ⟨(fun h => by obtain ⟨A1', c1', e, f1'⟩ := x0 h; exact ⟨A1', c1', e, f1'.otherC (f1'.typ HT (by decide)) [.slice A1 ((rpR r p).length) c1] 0⟩), (fun h => by obtain ⟨A1', c1', e, f1'⟩ := x1 h; exact ⟨A1', c1', e, f1'.otherC (f1'.typ HT (by decide)) [.slice A1 ((rpR r p).length) c1] 0⟩), (fun h => by obtain ⟨A1', c1', e, f1'⟩ := x2 h; exact ⟨A1', c1', e, f1'.otherC (f1'.typ HT (by decide)) [.slice A1 ((rpR r p).length) c1] 0⟩), (fun _ => BoxX.set eg hg HT (us := [.slice A1 ((rpR r p).length) c1]) rfl ⟨A1, c1, rfl, f1⟩)⟩
   · exact fun Lk ak ww hL hdd haa hF hK hV hX Nk Qk hN => wnt rfl (wp_assign rfl (ev (hV 5 _ rfl (hdd 5 rfl))) (hN _ _ hK rfl (hXb Lk ak ww _ (some 9) _ (by simp) (Below.refl _ _) hX)))
   intro L a12 w13 hL hF hK hV hX
   obtain ⟨x0, x1, x2, x3⟩ := hX
   replace hz := hF.size.trans hz
   replace hdf := hF.defers.trans hdf
   replace s3 := hF.g rfl s3
   replace s5 := hF.g rfl s5
   replace s6 := hF.g rfl s6
   have s9 : a12.tmps[9]?.getD undef = .bool (rpOk r p) := hV 8 _ rfl
   replace b3 := b3.kp hK (by simp)
   replace b5 := b5.kp hK (by simp)
   replace b6 := b6.kp hK (by simp)
   obtain ⟨g14, s8, lg14, -, b14⟩ := x3 (hL 6 (by decide))
   obtain ⟨_, b14, A1, c1, rfl, N1⟩ := b14 (hL 7 (by decide))
   have i1 : ∀ p, A1 = some p → p.block < w13.heap.size := fun p hp => (N1.blk p hp).2
   have ug14 := b14.lt
   have zw8 := hZ
   have zw13 := hK.size
   replace hZ := Nat.le_refl w13.heap.size
   replace hB := hK.below0 hB
   clear hF hK hV hL x0 x1 x2 x3 hXb s4 s22 b4
   refine th_n ?_
   refine wp_seq ?_
   refine wp_seq ?_
   refine wp_regJ (by kernel_rfl) [30, 31, 32, 33, 34, 35] [some (.bool (rpOk r p)), some (.bool (!(rpOk r p))), some (.bool (!(rpOk r p))), some ((bif !(rpOk r p) then undef else (.agg #[.slice A1 ((rpR r p).length) c1] : Value))), some ((bif !(rpOk r p) then undef else (.bool (decide ((rpR r p).length = 0)) : Value))), some (.bool (!(rpOk r p) || decide ((rpR r p).length = 0)))] ((List.range 6).map List.range) [30, 31, 32, 33, 34, 35] [0, 1, 2, 3, 4, 5] [] (fun _ _ _ => True) (by kernel_rfl) (by rw [hz]; decide) ?_ (ec ?_ (ec ?_ (ec ?_ (ec ?_ (ec ?_ (ec ?_ .nil)))))) ?_
   · exact fun _ _ => trivial
   · exact fun Lk ak ww hL hdd haa hF hK hV hX Nk Qk hN => wnt rfl (wp_move rfl (ev (hF.g rfl s9)) (hN _ _ hK rfl trivial))
   · exact fun Lk ak ww hL hdd haa hF hK hV hX Nk Qk hN => wnt rfl (wp_not rfl (ev (hV 0 _ rfl (hdd 0 rfl))) (hN _ _ hK rfl trivial))
   · exact fun Lk ak ww hL hdd haa hF hK hV hX Nk Qk hN => wnt rfl (wp_move rfl (ev (hV 1 _ rfl (hdd 1 rfl))) (hN _ _ hK rfl trivial))
   · intro Lk ak ww hL hdd haa hF hK hV hX Nk Qk hN
     refine wgf rfl rfl rfl (hV 2 _ rfl (hdd 2 rfl)) (fun qg => hN _ _ hK (bif_t qg).symm trivial) fun qg => ?_
     simp [go_sem, hF.g rfl s8, (b14.kp hK (by simp)).cell]
     exact (hN _ _ hK (bif_f qg).symm trivial)
   · intro Lk ak ww hL hdd haa hF hK hV hX Nk Qk hN
     refine wgf rfl rfl rfl (hV 2 _ rfl (hdd 2 rfl)) (fun qg => hN _ _ hK (bif_t qg).symm trivial) fun qg => ?_
     simp [go_sem, (show ak.tmps[33]?.getD undef = _ from (hV 3 _ rfl (hdd 3 rfl)).trans (bif_f qg))]
     refine (sIsVoid_c (rpR r p) ⟨A1, c1⟩ ww).mono ?_
     rintro x wx ⟨rfl, hb⟩
     exact (hN _ _ (hK.call hb) (bif_f qg).symm trivial)
   · exact fun Lk ak ww hL hdd haa hF hK hV hX Nk Qk hN => wnt rfl (wp_pick rfl (ev (hV 2 _ rfl (hdd 2 rfl))) (fun h => vor_t h) (fun h => (ev ((hV 4 _ rfl (hdd 4 rfl)).trans (bif_f h))).trans (vor_f h)) (hN _ _ hK rfl trivial))
   intro L a15 w16 hL hF hK hV hX
   replace hz := hF.size.trans hz
   replace hdf := hF.defers.trans hdf
   replace s3 := hF.g rfl s3
   replace s5 := hF.g rfl s5
   replace s6 := hF.g rfl s6
   replace s8 := hF.g rfl s8
   have s35 : a15.tmps[35]?.getD undef = .bool (!(rpOk r p) || decide ((rpR r p).length = 0)) := hV 5 _ rfl
   replace b3 := b3.kp hK (by simp)
   replace b5 := b5.kp hK (by simp)
   replace b6 := b6.kp hK (by simp)
   replace b14 := b14.kp hK (by simp)
   replace N1 := N1.below hK.toBelow (Nat.le_refl _)
   replace hZ := Nat.le_trans hZ hK.size
   replace hB := hK.below0 hB
   clear hF hK hV hL hX s9
   refine th_n ?_
   rcases Bool.eq_false_or_eq_true (!(rpOk r p) || decide ((rpR r p).length = 0)) with q17 | q17
   · skip
     refine wp_cond_true (ev (vb s35 q17)) ?_
     refine wp_seq ?_
     refine wp_regJ (by kernel_rfl) [36, 0, 7] [some (.agg #[.int .i64 0, .int .i64 0, .int .i64 0, .int .i64 0]), none, some (.bool false)] ((List.range 3).map List.range) [36, 7] [0, 1, 2] [(w.heap.size + 3)] (fun L aa ww => PreX ww (w.heap.size + 3) 54 [.int .i64 0, .int .i64 0, .int .i64 0, .int .i64 0] (L 1) (fun _ vs => vs = [.int .i64 0, .int .i64 0, .int .i64 0, .int .i64 0])) (by kernel_rfl) (by rw [hz]; decide) ?_ (ec ?_ (ec ?_ (ec ?_ .nil))) ?_
     · exact fun _ h => (⟨fun _ => b6.kp h (by simp), (fun h => by cases h)⟩)
     · intro Lk ak ww hL hdd haa hF hK hV hX Nk Qk hN; refine wnt rfl ?_
       simp [go_sem]
       exact (hN _ _ hK rfl (hX.bel (Below.refl _ _) (fun _ h => h)))
     · intro Lk ak ww hL hdd haa hF hK hV hX Nk Qk hN
       have x0 := hX
       refine wnt rfl ?_
       have HT := x0.1 hL
       simp [go_sem, (show ak.tmps[36]?.getD undef = _ from hV 0 _ rfl (hdd 0 rfl)), hF.g rfl s6, HT.cell, HT.frz]
       exact hN undef _ (hK.store (.inr (by simp)) [.int .i64 0, .int .i64 0, .int .i64 0, .int .i64 0] 0) trivial (PreX.set HT (us := [.int .i64 0, .int .i64 0, .int .i64 0, .int .i64 0]) rfl rfl)
     · exact fun Lk ak ww hL hdd haa hF hK hV hX Nk Qk hN => wnt rfl (wp_assign rfl rfl (hN _ _ hK rfl (hX.bel (Below.refl _ _) (fun _ h => h))))
     intro L a18 w19 hL hF hK hV hX
     have x0 := hX
     replace hz := hF.size.trans hz
     replace hdf := hF.defers.trans hdf
     replace s6 := hF.g rfl s6
     have s7 : a18.tmps[7]?.getD undef = .bool false := hV 2 _ rfl
     clear b6
     obtain ⟨_, b6, rfl⟩ := x0.2 (hL 1 (by decide))
     replace hZ := Nat.le_trans hZ hK.size
     replace hB := hK.below hB hB.size (by simp <;> omega)
     clear hF hK hV hL x0 s3 s5 s8 s35 b3 b5 b14 N1 i1
     refine th_n ?_
     refine wp_ret ?_
     refine th_r ?_
     refine bodyPost_ret (v := .tuple #[.agg #[.int .i64 0, .int .i64 0, .int .i64 0, .int .i64 0], .bool false]) (by simp [results, Tryz.results79, go_sem, s6, b6.cell, s7]) hdf ?_
     exact ⟨by rw [admAt_no2 q17]; rfl, hB⟩
   · skip
     refine wp_cond_false (ev (vb s35 q17)) ?_
     refine wp_skip ?_
     refine th_n ?_
     refine wp_seq ?_
     refine wp_regJ (by kernel_rfl) [37, 38, 39, 40, 41, 42, 0, 7] [some (roomV r ra), some (.agg #[.slice A1 ((rpR r p).length) c1]), some (spotV s), some (.tuple #[spanV ((admit r (rpR r p) s).getD span0), .bool ((admit r (rpR r p) s).isSome)]), some (spanV ((admit r (rpR r p) s).getD span0)), some (.bool ((admit r (rpR r p) s).isSome)), none, some (.bool ((admit r (rpR r p) s).isSome))] ((List.range 8).map List.range) [37, 38, 39, 40, 41, 42, 7] [0, 1, 2, 3, 4, 5, 6, 7] [(w.heap.size + 3)] (fun L aa ww => PreX ww (w.heap.size + 3) 54 [.int .i64 0, .int .i64 0, .int .i64 0, .int .i64 0] (L 6) (fun _ vs => vs = [.int .i64 (((admit r (rpR r p) s).getD span0).low.n), .int .i64 (((admit r (rpR r p) s).getD span0).low.d), .int .i64 (((admit r (rpR r p) s).getD span0).high.n), .int .i64 (((admit r (rpR r p) s).getD span0).high.d)])) (by kernel_rfl) (by rw [hz]; decide) ?_ (ec ?_ (ec ?_ (ec ?_ (ec ?_ (ec ?_ (ec ?_ (ec ?_ (ec ?_ .nil)))))))) ?_
     · exact fun _ h => (⟨fun _ => b6.kp h (by simp), (fun h => by cases h)⟩)
     · intro Lk ak ww hL hdd haa hF hK hV hX Nk Qk hN; refine wnt rfl ?_
       simp [go_sem, hF.g rfl s3, (b3.kp hK (by simp <;> omega)).cell]
       exact (hN _ _ hK rfl (hX.bel (Below.refl _ _) (fun _ h => h)))
     · intro Lk ak ww hL hdd haa hF hK hV hX Nk Qk hN; refine wnt rfl ?_
       simp [go_sem, hF.g rfl s8, (b14.kp hK (by simp <;> omega)).cell]
       exact (hN _ _ hK rfl (hX.bel (Below.refl _ _) (fun _ h => h)))
     · intro Lk ak ww hL hdd haa hF hK hV hX Nk Qk hN; refine wnt rfl ?_
       simp [go_sem, hF.g rfl s5, (b5.kp hK (by simp <;> omega)).cell]
       exact (hN _ _ hK rfl (hX.bel (Below.refl _ _) (fun _ h => h)))
     · intro Lk ak ww hL hdd haa hF hK hV hX Nk Qk hN; refine wnt rfl ?_
       simp [go_sem, (show ak.tmps[37]?.getD undef = _ from hV 0 _ rfl (hdd 0 rfl)), (show ak.tmps[38]?.getD undef = _ from hV 1 _ rfl (hdd 1 rfl)), (show ak.tmps[39]?.getD undef = _ from hV 2 _ rfl (hdd 2 rfl))]
       have hBi := hK.below hB hB.size (by simp <;> omega)
       refine (sAdmit_c r (rpR r p) s ra ⟨A1, c1⟩ ww (rpOk_room (not_f (or_f1 q17))) (reg_ok (rpR_ok r p)) (reg_len (rpR_ok r p)) (not_f (or_f2 (or_f1 q9))) (dec_f (or_f2 q9)) (hs.below hBi) ((N1.kp hK i1 (by omega) (by simp <;> omega)).out halfC_len)).mono ?_
       rintro x wx ⟨rfl, hb⟩
       exact (hN _ _ (hK.call hb) (optSpan_eq _) (hX.bel hb (fun _ h => h)))
     · exact fun Lk ak ww hL hdd haa hF hK hV hX Nk Qk hN => wnt rfl (wp_extract rfl (ev (hV 3 _ rfl (hdd 3 rfl))) rfl (hN _ _ hK rfl (hX.bel (Below.refl _ _) (fun _ h => h))))
     · exact fun Lk ak ww hL hdd haa hF hK hV hX Nk Qk hN => wnt rfl (wp_extract rfl (ev (hV 3 _ rfl (hdd 3 rfl))) rfl (hN _ _ hK rfl (hX.bel (Below.refl _ _) (fun _ h => h))))
     · intro Lk ak ww hL hdd haa hF hK hV hX Nk Qk hN
       have x0 := hX
       refine wnt rfl ?_
       have HT := x0.1 hL
       simp [go_sem, (show ak.tmps[41]?.getD undef = _ from hV 4 _ rfl (hdd 4 rfl)), hF.g rfl s6, HT.cell, HT.frz]
       exact hN undef _ (hK.store (.inr (by simp)) [.int .i64 (((admit r (rpR r p) s).getD span0).low.n), .int .i64 (((admit r (rpR r p) s).getD span0).low.d), .int .i64 (((admit r (rpR r p) s).getD span0).high.n), .int .i64 (((admit r (rpR r p) s).getD span0).high.d)] 0) trivial (PreX.set HT (us := [.int .i64 (((admit r (rpR r p) s).getD span0).low.n), .int .i64 (((admit r (rpR r p) s).getD span0).low.d), .int .i64 (((admit r (rpR r p) s).getD span0).high.n), .int .i64 (((admit r (rpR r p) s).getD span0).high.d)]) rfl rfl)
     · exact fun Lk ak ww hL hdd haa hF hK hV hX Nk Qk hN => wnt rfl (wp_assign rfl (ev (hV 5 _ rfl (hdd 5 rfl))) (hN _ _ hK rfl (hX.bel (Below.refl _ _) (fun _ h => h))))
     intro L a20 w21 hL hF hK hV hX
     have x0 := hX
     replace hz := hF.size.trans hz
     replace hdf := hF.defers.trans hdf
     replace s6 := hF.g rfl s6
     have s7 : a20.tmps[7]?.getD undef = .bool ((admit r (rpR r p) s).isSome) := hV 7 _ rfl
     clear b6
     obtain ⟨_, b6, rfl⟩ := x0.2 (hL 6 (by decide))
     replace hZ := Nat.le_trans hZ hK.size
     replace hB := hK.below hB hB.size (by simp <;> omega)
     clear hF hK hV hL x0 s3 s5 s8 s35 b3 b5 b14 N1 i1
     refine th_n ?_
     refine wp_ret ?_
     refine bodyPost_ret (v := .tuple #[spanV ((admit r (rpR r p) s).getD span0), .bool ((admit r (rpR r p) s).isSome)]) (by simp [results, Tryz.results79, go_sem, s6, b6.cell, s7]) hdf ?_
     exact ⟨by rw [admAt_yes (not_f (or_f2 (or_f1 q9))) q17, optSpan_eq], hB⟩
end Go.Proofs.YtdncnhcffbgjhaaGreat
