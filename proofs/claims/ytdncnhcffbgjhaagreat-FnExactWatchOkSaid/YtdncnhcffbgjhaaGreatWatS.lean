/-
  The region from which an input leads into a region, whether a region is kept, whether a watch is valid: of the reference.
  Conditions: the slices hold at most 2^20 elements.
-/
import Derived.Test.YtdncnhcffbgjhaaGreatGrowS
import Derived.Test.YtdncnhcffbgjhaaGreatWatI
namespace Go.Proofs.YtdncnhcffbgjhaaGreat
open Go.RowKit

theorem rp_eq {r : Room} {p : List Half} (hr : roomOk r = true) (hp : regionOk p = true) : rpOk r p = movOk (eroH r.noise) p ∧ rpR r p = preE r p := by
  unfold rpOk rpR preE
  rw [hr, hp, if_pos ⟨rfl, rfl⟩]; exact ⟨rfl, rfl⟩
theorem sRobE_c (r : Room) (p : List Half) (a : RoomA) (b : SlA) (w : World) (hr : roomOk r = true) (hp : regionOk p = true) (hn : roomLen r ≤ 1048576) (hin : RoomIn r) (hs : RoomSl w r a) (hnl : RoomNil a) (hlp : p.length ≤ 1048576) (hpi : ∀ h ∈ p, h.In) (hsp : Sl 3 halfC w b.A p) (hnb : b.A = none → b.c = 0) :
    Calls Tryz.prog 61 #[roomV r a, regionV p b] w fun e w' => ∃ v, e = .returned (.tuple #[.agg #[v], .bool (movOk (eroH r.noise) p)]) ∧ New 111 3 halfC w' w.heap.size v (preE r p) ∧ Below w.heap.size w w' := by
  have h := sRob_c r p a b w hn hin hs hnl hlp hpi hsp hnb
  rw [(rp_eq hr hp).1, (rp_eq hr hp).2] at h
  exact h
theorem preS_no1 {r : Room} {p : List Half} (h : movOk (eroH r.noise) p = false) : preOk r p = false ∧ preR r p = [] := pre_no1 (by rw [h]; rfl)
theorem preS_no2 {r : Room} {p : List Half} (h : gaOk r.bx r.by_ r.low r.high (preE r p) = false) : preOk r p = false ∧ preR r p = [] := by
  unfold gaOk at h
  rcases Bool.eq_false_or_eq_true (decide ((preE r p).length ≤ 38)) with h1 | h1
  · rw [h1, Bool.true_and] at h; exact pre_no2 h
  · exact pre_no1 (by
      have := of_decide_eq_false h1
      rw [decide_eq_true (show (((preE r p).length : Nat) : Int) > 38 by omega), Bool.or_true])
theorem preS_yes {r : Room} {p : List Half} (h1 : movOk (eroH r.noise) p = true) (h2 : gaOk r.bx r.by_ r.low r.high (preE r p) = true) : preOk r p = movOk (pulH r.map r.div) (preG r p) ∧ preR r p = movR (pulH r.map r.div) (preG r p) := by
  unfold gaOk at h2
  refine pre_yes ?_ (and_t2 h2)
  unfold preA
  rw [h1, and_t1 h2]; rfl
theorem ga_eq {r : Room} {p : List Half} (h2 : gaOk r.bx r.by_ r.low r.high (preE r p) = true) : gaR r.bx r.by_ r.low r.high (preE r p) = preG r p := (ga_yes (of_decide_eq_true (and_t1 h2))).2
theorem gaR_ok {bx by_ lo hi : Int} {p : List Half} (hp : regionOk p = true) : regionOk (gaR bx by_ lo hi p) = true := by
  unfold gaR
  split
  · exact grwR_ok hp
  · rfl
theorem room_map {r : Room} (h : roomOk r = true) : mapOk r.map r.div = true := by
  simp only [roomOk, turnOk, Bool.and_eq_true] at h
  exact h.1.1.1.1.1.1.1.1
theorem room_det {r : Room} (h : roomOk r = true) : r.map.getD 0 0 * r.map.getD 3 0 - r.map.getD 1 0 * r.map.getD 2 0 ≠ 0 := by
  simp only [roomOk, turnOk, Bool.and_eq_true] at h
  have h2 := h.1.1.1.1.1.1.1.2
  unfold det at h2
  simpa using h2
theorem kept_void {r : Room} {p : List Half} (h : (!(roomOk r) || !(regionOk p && regionOk r.limits && withinB p r.limits)) = false) (hv : p.length = 0) : keptB r p = true := by
  have h1 := not_f (or_f1 h)
  have h2 := not_f (or_f2 h)
  have h3 := and_t2 h2
  have h4 := and_t1 (and_t1 h2)
  have hp : p = [] := List.eq_nil_of_length_eq_zero hv
  unfold keptB
  rw [h1, h4, h3, within_void hv]
  subst hp
  have e0 : preE r [] = [] := (mov_void rfl).2
  have e1 := grow_triv (p := []) (bx := r.bx) (by_ := r.by_) (lo := r.low) (hi := r.high) rfl
  have e2 : preG r [] = [] := by unfold preG; rw [e0]; exact e1.2
  unfold preOk preA
  rw [e0, e1.1, e2, (mov_void rfl).1, (mov_void rfl).1]; rfl
theorem kept_no {r : Room} {p : List Half} (h : (!(roomOk r) || !(regionOk p && regionOk r.limits && withinB p r.limits)) = true) : keptB r p = false := by
  unfold keptB
  rcases Bool.eq_false_or_eq_true (roomOk r) with h1 | h1
  · rw [h1, (roomR h1).limits, Bool.and_true] at h
    rcases Bool.eq_false_or_eq_true (regionOk p) with h2 | h2
    · rw [h2] at h
      rcases Bool.eq_false_or_eq_true (withinB p r.limits) with h3 | h3
      · rw [h3] at h; cases h
      · rw [h1, h2, h3]; rfl
    · rw [h1, h2]; rfl
  · rw [h1]; rfl
theorem kept_yes {r : Room} {p : List Half} (h : (!(roomOk r) || !(regionOk p && regionOk r.limits && withinB p r.limits)) = false) : keptB r p = (preOk r p && withinB p (preR r p)) := by
  have h2 := not_f (or_f2 h)
  unfold keptB
  rw [not_f (or_f1 h), and_t1 (and_t1 h2), and_t2 h2]; rfl
theorem kept_rp {r : Room} {p : List Half} (h : (!(roomOk r) || !(regionOk p && regionOk r.limits && withinB p r.limits)) = false) : roomOk r = true ∧ regionOk p = true := ⟨not_f (or_f1 h), and_t1 (and_t1 (not_f (or_f2 h)))⟩
theorem watch_no {r : Room} {p : List Half} {l : List Int} (h : (decide (p.length = 0) || !(keptB r p) || decide ((l.length : Int) > 40)) = true) : watchB r p l = false := by
  unfold watchB
  rcases Bool.eq_false_or_eq_true (decide (p.length = 0)) with h1 | h1
  · rw [h1]; simp
  · rcases Bool.eq_false_or_eq_true (keptB r p) with h2 | h2
    · rw [h1, h2] at h
      have : decide ((l.length : Int) > 40) = true := by simpa using h
      rw [this]; rfl
    · rw [h2]; simp
theorem watch_yes {r : Room} {p : List Half} {l : List Int} (h : (decide (p.length = 0) || !(keptB r p) || decide ((l.length : Int) > 40)) = false) : watchB r p l = logB l := by
  unfold watchB
  rw [or_f2 h, or_f1 (or_f1 h), not_f (or_f2 (or_f1 h))]
  cases logB l <;> rfl
set_option maxRecDepth 100000 in
set_option maxHeartbeats 3000000 in
theorem sPre_c (r : Room) (p : List Half) (ra : RoomA) (b : SlA) (w : World) (hn : roomLen r ≤ 1048576) (hin : RoomIn r) (hs : RoomSl w r ra) (hnl : RoomNil ra) (hlp : p.length ≤ 1048576) (hpi : ∀ h ∈ p, h.In) (hsp : Sl 3 halfC w b.A p) (hnb : b.A = none → b.c = 0) (hr : roomOk r = true) (hp : regionOk p = true) :
    Calls Tryz.prog 117 #[roomV r ra, .agg #[.slice b.A p.length b.c]] w fun x w' => ∃ v, x = .returned (.tuple #[.agg #[v], .bool (preOk r p)]) ∧ New 111 3 halfC w' w.heap.size v (preR r p) ∧ Below w.heap.size w w' := by
 have hmap : mapOk r.map r.div = true := room_map hr
 have hdet := room_det hr
 refine calls_v Tryz.func117 rfl (n := 43) Tryz.ntmps117 (by simp) ?_
 intro a0 hz hdf ha
 have s0 : a0.tmps[0]?.getD undef = roomV r ra := ha 0 _ rfl
 have s1 : a0.tmps[1]?.getD undef = .agg #[.slice b.A p.length b.c] := ha 1 _ rfl
 clear ha
 have hB := Below.refl w.heap.size w
 have hZ := Nat.le_refl w.heap.size
 refine wp_seq ?_
 refine wp_entry [2, 3, 4, 5] [.pointer (some ⟨w.heap.size, 0, none⟩), .pointer (some ⟨(w.heap.size + 1), 0, none⟩), .pointer (some ⟨(w.heap.size + 2), 0, none⟩), .bool false] [some (.cells (roomC r ra).toArray 39), some (.cells [.slice b.A p.length b.c].toArray 37), some (.cells [.slice none 0 0].toArray 37), none] [0, 1, 2, 3] [2, 3, 4, 5] [0, 1, 2, 3] (by kernel_rfl) (by rw [hz]; decide) (ec ?_ (ec ?_ (ec ?_ (ec ?_ .nil)))) ?_
 · intro a w' hF hs N Q hN; simp [go_sem, hF.g rfl s0]; rw [hs]; exact hN
 · intro a w' hF hs N Q hN; simp [go_sem, hF.g rfl s1]; rw [hs]; exact hN
 · intro a w' hF hs N Q hN; simp [go_sem]; rw [hs]; exact hN
 · intro a w' hF hs N Q hN; simp [go_sem]; exact hN
 intro a1 w2 hF hV hb hO
 replace hz := hF.size.trans hz
 replace hdf := hF.defers.trans hdf
 have s2 : a1.tmps[2]?.getD undef = .pointer (some ⟨w.heap.size, 0, none⟩) := hV 0 (by decide)
 have s3 : a1.tmps[3]?.getD undef = .pointer (some ⟨(w.heap.size + 1), 0, none⟩) := hV 1 (by decide)
 have s4 : a1.tmps[4]?.getD undef = .pointer (some ⟨(w.heap.size + 2), 0, none⟩) := hV 2 (by decide)
 have b3 : HasT w2 w.heap.size 39 (roomC r ra) := hO 0 _ rfl
 have b4 : HasT w2 (w.heap.size + 1) 37 [.slice b.A p.length b.c] := hO 1 _ rfl
 have b5 : HasT w2 (w.heap.size + 2) 37 [.slice none 0 0] := hO 2 _ rfl
 have hG := b5.lt
 replace hB := below_tr hB hb
 have zw2 := Nat.le_trans hZ hb.size
 replace hZ := Nat.le_refl w2.heap.size
 clear hF hV hb hO s0 s1
 refine th_n ?_
 refine wp_seq ?_
 have hXb : StaysX [6, 10, 13, 14] (fun L aa ww => (L 2 = true → (fun ww v => ∃ A1 c1, v = .tuple #[.agg #[.slice A1 ((preE r p).length) c1], .bool (movOk (eroH r.noise) p)] ∧ New 111 3 halfC ww w2.heap.size (.slice A1 (preE r p).length c1) (preE r p)) ww (aa.tmps[13]?.getD undef)) ∧ (L 3 = true → (fun ww v => ∃ A1 c1, v = .tuple #[.agg #[.slice A1 ((preE r p).length) c1], .bool (movOk (eroH r.noise) p)] ∧ New 111 3 halfC ww w2.heap.size (.slice A1 (preE r p).length c1) (preE r p)) ww (aa.tmps[10]?.getD undef)) ∧ (L 4 = true → (fun ww v => ∃ A1 c1, v = .agg #[.slice A1 ((preE r p).length) c1] ∧ New 111 3 halfC ww w2.heap.size (.slice A1 (preE r p).length c1) (preE r p)) ww (aa.tmps[14]?.getD undef)) ∧ (L 6 = true → BoxX w2 aa ww 6 37 [.slice none 0 0] (L 7) (fun ww vs => ∃ A1 c1, vs = [.slice A1 ((preE r p).length) c1] ∧ New 111 3 halfC ww w2.heap.size (.slice A1 (preE r p).length c1) (preE r p)))) := by
  intro L aa ww w' kk vv hkk hb hX
  obtain ⟨x0, x1, x2, x3⟩ := hX
  exact ⟨(fun h => by rw [put_ne' (hkk 13 (by simp))]; obtain ⟨A1', c1', e, f1'⟩ := x0 h; exact ⟨A1', c1', e, f1'.below hb leR⟩), (fun h => by rw [put_ne' (hkk 10 (by simp))]; obtain ⟨A1', c1', e, f1'⟩ := x1 h; exact ⟨A1', c1', e, f1'.below hb leR⟩), (fun h => by rw [put_ne' (hkk 14 (by simp))]; obtain ⟨A1', c1', e, f1'⟩ := x2 h; exact ⟨A1', c1', e, f1'.below hb leR⟩), (fun h => ((x3 h).bel hb (fun _ ⟨A1', c1', e, f1'⟩ => ⟨A1', c1', e, f1'.below hb leR⟩)).put (hkk 6 (by simp)) _)⟩
 refine wp_regK hXb (by kernel_rfl) [11, 12, 13, 10, 14, 15, 6, 0, 7] [some (roomV r ra), some (.agg #[.slice b.A p.length b.c]), none, none, none, some (.bool (movOk (eroH r.noise) p)), none, none, some (.bool (movOk (eroH r.noise) p))] ((List.range 9).map List.range) [11, 12, 13, 10, 14, 15, 6, 7] [0, 1, 2, 3, 4, 5, 6, 7, 8] [] (by kernel_rfl) (by rw [hz]; decide) ?_ (ec ?_ (ec ?_ (ec ?_ (ec ?_ (ec ?_ (ec ?_ (ec ?_ (ec ?_ (ec ?_ .nil))))))))) ?_
 · exact fun _ h => ⟨(fun h => by cases h), (fun h => by cases h), (fun h => by cases h), (fun h => by cases h)⟩
 · intro Lk ak ww hL hdd haa hF hK hV hX _ _ hN; refine wnt rfl ?_
   simp [go_sem, hF.g rfl s2, (b3.kp hK (by simp)).cell]
   exact (hN _ _ hK rfl (hXb Lk ak ww _ (some 11) _ (by simp) bR hX))
 · intro Lk ak ww hL hdd haa hF hK hV hX _ _ hN; refine wnt rfl ?_
   simp [go_sem, hF.g rfl s3, (b4.kp hK (by simp)).cell]
   exact (hN _ _ hK rfl (hXb Lk ak ww _ (some 12) _ (by simp) bR hX))
 · intro Lk ak ww hL hdd haa hF hK hV hX _ _ hN
   obtain ⟨x0, x1, x2, x3⟩ := hX
   refine wnt rfl ?_
   simp [go_sem, (gS ak 11 (hV 0 _ rfl (hdd 0 rfl))), (gS ak 12 (hV 1 _ rfl (hdd 1 rfl)))]
   have hBi := hK.below0 hB
   refine (sRobE_c r p ra b ww hr hp hn hin (hs.below hBi) hnl hlp hpi (hsp.below hBi) hnb).mono ?_
   rintro x wx ⟨_, rfl, ⟨A1, c1, rfl, f0⟩, hb⟩
   have f1 := New.mono (show New 111 3 halfC wx ww.heap.size (.slice A1 (preE r p).length c1) (preE r p) from ⟨_, _, rfl, f0⟩) hK.size
   exact (hN _ _ (hK.call hb) trivial ⟨(fun _ => by rw [put_get_self (hF.lt (by rw [hz]; decide))]; exact ⟨A1, c1, rfl, f1⟩), (fun h => by rw [put_ne' (by decide)]; obtain ⟨A1', c1', e, f1'⟩ := x1 h; exact ⟨A1', c1', e, f1'.below hb leR⟩), (fun h => by rw [put_ne' (by decide)]; obtain ⟨A1', c1', e, f1'⟩ := x2 h; exact ⟨A1', c1', e, f1'.below hb leR⟩), (fun h => ((x3 h).bel hb (fun _ ⟨A1', c1', e, f1'⟩ => ⟨A1', c1', e, f1'.below hb leR⟩)).put (by decide) _)⟩)
 · intro Lk ak ww hL hdd haa hF hK hV hX _ _ hN
   obtain ⟨x0, x1, x2, x3⟩ := hX
   refine wnt rfl ?_
   obtain ⟨A1, c1, ee2, f1⟩ := x0 (hdd 2 rfl)
   exact wp_move rfl (ev ee2) (hN _ _ hK trivial ⟨(fun h => by rw [put_ne' (by decide)]; obtain ⟨A1', c1', e, f1'⟩ := x0 h; exact ⟨A1', c1', e, f1'.below bR leR⟩), (fun _ => by rw [put_get_self (hF.lt (by rw [hz]; decide))]; exact ⟨A1, c1, rfl, f1⟩), (fun h => by rw [put_ne' (by decide)]; obtain ⟨A1', c1', e, f1'⟩ := x2 h; exact ⟨A1', c1', e, f1'.below bR leR⟩), (fun h => ((x3 h).bel bR (fun _ ⟨A1', c1', e, f1'⟩ => ⟨A1', c1', e, f1'.below bR leR⟩)).put (by decide) _)⟩)
 · intro Lk ak ww hL hdd haa hF hK hV hX _ _ hN
   obtain ⟨x0, x1, x2, x3⟩ := hX
   refine wnt rfl ?_
   obtain ⟨A1, c1, ee3, f1⟩ := x1 (hdd 3 rfl)
   exact wp_extract rfl (ev ee3) rfl (hN _ _ hK trivial ⟨(fun h => by rw [put_ne' (by decide)]; obtain ⟨A1', c1', e, f1'⟩ := x0 h; exact ⟨A1', c1', e, f1'.below bR leR⟩), (fun h => by rw [put_ne' (by decide)]; obtain ⟨A1', c1', e, f1'⟩ := x1 h; exact ⟨A1', c1', e, f1'.below bR leR⟩), (fun _ => by rw [put_get_self (hF.lt (by rw [hz]; decide))]; exact ⟨A1, c1, rfl, f1⟩), (fun h => ((x3 h).bel bR (fun _ ⟨A1', c1', e, f1'⟩ => ⟨A1', c1', e, f1'.below bR leR⟩)).put (by decide) _)⟩)
 · intro Lk ak ww hL hdd haa hF hK hV hX _ _ hN
   obtain ⟨x0, x1, x2, x3⟩ := hX
   refine wnt rfl ?_
   obtain ⟨A1, c1, ee3, f1⟩ := x1 (hdd 3 rfl)
   exact wp_extract rfl (ev ee3) rfl (hN _ _ hK rfl (hXb Lk ak ww _ (some 15) _ (by simp) bR ⟨x0, x1, x2, x3⟩))
 · intro Lk ak ww hL hdd haa hF hK hV hX _ _ hN
   obtain ⟨x0, x1, x2, x3⟩ := hX
   refine wnt rfl ?_
   simp [go_sem]
   exact hN _ _ (hK.alloc _) trivial ⟨(fun h => by rw [put_ne' (by decide)]; obtain ⟨A1', c1', e, f1'⟩ := x0 h; exact ⟨A1', c1', e, f1'.below (below_al bR _) leR⟩), (fun h => by rw [put_ne' (by decide)]; obtain ⟨A1', c1', e, f1'⟩ := x1 h; exact ⟨A1', c1', e, f1'.below (below_al bR _) leR⟩), (fun h => by rw [put_ne' (by decide)]; obtain ⟨A1', c1', e, f1'⟩ := x2 h; exact ⟨A1', c1', e, f1'.below (below_al bR _) leR⟩), (fun _ => by rw [show upd Lk 6 7 = false from haa 7 rfl]; exact BoxX.new (s := 6) (hF.lt (by rw [hz]; decide)) hK.size [.slice none 0 0])⟩
 · intro Lk ak ww hL hdd haa hF hK hV hX _ _ hN
   obtain ⟨x0, x1, x2, x3⟩ := hX
   refine wnt rfl ?_
   obtain ⟨A1, c1, ee4, f1⟩ := x2 (hdd 4 rfl)
   obtain ⟨g, eg, hg, y, _⟩ := x3 (hdd 6 rfl)
   have HT := y hL
   simp [go_sem, ee4, eg, HT.cell, HT.frz]
   have f1 := f1.otherC (f1.typ HT (by decide)) [.slice A1 ((preE r p).length) c1] 0
   exact hN undef _ (hK.store (.inl hg) [.slice A1 ((preE r p).length) c1] 0) trivial ⟨(fun h => by obtain ⟨A1', c1', e, f1'⟩ := x0 h; exact ⟨A1', c1', e, f1'.otherC (f1'.typ HT (by decide)) [.slice A1 ((preE r p).length) c1] 0⟩), (fun h => by obtain ⟨A1', c1', e, f1'⟩ := x1 h; exact ⟨A1', c1', e, f1'.otherC (f1'.typ HT (by decide)) [.slice A1 ((preE r p).length) c1] 0⟩), (fun h => by obtain ⟨A1', c1', e, f1'⟩ := x2 h; exact ⟨A1', c1', e, f1'.otherC (f1'.typ HT (by decide)) [.slice A1 ((preE r p).length) c1] 0⟩), (fun _ => BoxX.set eg hg HT (us := [.slice A1 ((preE r p).length) c1]) rfl ⟨A1, c1, rfl, f1⟩)⟩
 · exact fun Lk ak ww hL hdd haa hF hK hV hX _ _ hN => wnt rfl (wp_assign rfl (ev (hV 5 _ rfl (hdd 5 rfl))) (hN _ _ hK rfl (hXb Lk ak ww _ (some 7) _ (by simp) bR hX)))
 intro L a6 w7 hL hF hK hV hX
 obtain ⟨x0, x1, x2, x3⟩ := hX
 replace hz := hF.size.trans hz
 replace hdf := hF.defers.trans hdf
 replace s2 := hF.g rfl s2
 replace s4 := hF.g rfl s4
 have s7 : a6.tmps[7]?.getD undef = .bool (movOk (eroH r.noise) p) := hV 8 _ rfl
 replace b3 := b3.kp hK (by simp)
 replace b5 := b5.kp hK (by simp)
 obtain ⟨g8, s6, lg8, -, b8⟩ := x3 (hL 6 (by decide))
 obtain ⟨_, b8, A1, c1, rfl, N1⟩ := b8 (hL 7 (by decide))
 have i1 : ∀ p, A1 = some p → p.block < w7.heap.size := fun p hp => (N1.blk p hp).2
 have ug8 := b8.lt
 have zw7 := hK.size
 replace hZ := Nat.le_refl w7.heap.size
 replace hB := hK.below0 hB
 clear hF hK hV hL x0 x1 x2 x3 hXb s3 b4
 refine th_n ?_
 refine wp_seq ?_
 refine wp_seq ?_
 refine wp_regJ (by kernel_rfl) [16, 17] [some (.bool (movOk (eroH r.noise) p)), some (.bool (!(movOk (eroH r.noise) p)))] ((List.range 2).map List.range) [16, 17] [0, 1] [] (fun _ _ _ => True) (by kernel_rfl) (by rw [hz]; decide) ?_ (ec ?_ (ec ?_ .nil)) ?_
 · exact fun _ _ => trivial
 · exact fun Lk ak ww hL hdd haa hF hK hV hX _ _ hN => wnt rfl (wp_move rfl (ev (hF.g rfl s7)) (hN _ _ hK rfl trivial))
 · exact fun Lk ak ww hL hdd haa hF hK hV hX _ _ hN => wnt rfl (wp_not rfl (ev (hV 0 _ rfl (hdd 0 rfl))) (hN _ _ hK rfl trivial))
 intro L a9 w10 hL hF hK hV hX
 replace hz := hF.size.trans hz
 replace hdf := hF.defers.trans hdf
 replace s2 := hF.g rfl s2
 replace s4 := hF.g rfl s4
 replace s6 := hF.g rfl s6
 have s17 : a9.tmps[17]?.getD undef = .bool (!(movOk (eroH r.noise) p)) := hV 1 _ rfl
 replace b3 := b3.kp hK (by simp)
 replace b5 := b5.kp hK (by simp)
 replace b8 := b8.kp hK (by simp)
 replace N1 := N1.below hK.toBelow leR
 replace hZ := Nat.le_trans hZ hK.size
 replace hB := hK.below0 hB
 clear hF hK hV hL hX s7
 refine th_n ?_
 rcases Bool.eq_false_or_eq_true (!(movOk (eroH r.noise) p)) with q11 | q11
 · skip
   refine wp_cond_true (ev (vb s17 q11)) ?_
   refine wp_seq ?_
   refine wp_regJ (by kernel_rfl) [18, 0, 5] [some (.agg #[.slice none 0 0]), none, some (.bool false)] ((List.range 3).map List.range) [18, 5] [0, 1, 2] [(w.heap.size + 2)] (fun L aa ww => PreX ww (w.heap.size + 2) 37 [.slice none 0 0] (L 1) (fun _ vs => vs = [.slice none 0 0])) (by kernel_rfl) (by rw [hz]; decide) ?_ (ec ?_ (ec ?_ (ec ?_ .nil))) ?_
   · exact fun _ h => (⟨fun _ => b5.kp h (by simp), (fun h => by cases h)⟩)
   · intro Lk ak ww hL hdd haa hF hK hV hX _ _ hN; refine wnt rfl ?_
     simp [go_sem]
     exact (hN _ _ hK rfl (hX.bel bR (fun _ h => h)))
   · intro Lk ak ww hL hdd haa hF hK hV hX _ _ hN
     have x0 := hX
     refine wnt rfl ?_
     have HT := x0.1 hL
     simp [go_sem, (gS ak 18 (hV 0 _ rfl (hdd 0 rfl))), hF.g rfl s4, HT.cell, HT.frz]
     exact hN undef _ (hK.store (.inr (by simp)) [.slice none 0 0] 0) trivial (PreX.set HT (us := [.slice none 0 0]) rfl rfl)
   · exact fun Lk ak ww hL hdd haa hF hK hV hX _ _ hN => wnt rfl (wp_assign rfl rfl (hN _ _ hK rfl (hX.bel bR (fun _ h => h))))
   intro L a12 w13 hL hF hK hV hX
   have x0 := hX
   replace hz := hF.size.trans hz
   replace hdf := hF.defers.trans hdf
   replace s4 := hF.g rfl s4
   have s5 : a12.tmps[5]?.getD undef = .bool false := hV 2 _ rfl
   clear b5
   obtain ⟨_, b5, rfl⟩ := x0.2 (hL 1 (by decide))
   replace hZ := Nat.le_trans hZ hK.size
   replace hB := hK.below hB hB.size (by simp <;> omega)
   clear hF hK hV hL x0 s2 s6 s17 b3 b8 N1 i1
   refine th_n ?_
   refine wp_ret ?_
   refine th_r ?_
   refine bodyPost_ret (v := .tuple #[.agg #[.slice none 0 0], .bool false]) (by simp [results, Tryz.results117, go_sem, s4, b5.cell, s5]) hdf ?_
   have h0 := preS_no1 (r := r) (p := p) (not_t q11)
   exact ⟨_, by rw [h0.1], by rw [h0.2]; exact New.nilN _ _ _ _ _, hB⟩
 · skip
   refine wp_cond_false (ev (vb s17 q11)) ?_
   refine wp_skip ?_
   refine th_n ?_
   refine wp_seq ?_
   have hXb : StaysX [8, 19, 29, 30] (fun L aa ww => (L 9 = true → (fun ww v => ∃ A2 c2, v = .tuple #[.agg #[.slice A2 ((gaR r.bx r.by_ r.low r.high (preE r p)).length) c2], .bool (gaOk r.bx r.by_ r.low r.high (preE r p))] ∧ New 111 3 halfC ww w10.heap.size (.slice A2 (gaR r.bx r.by_ r.low r.high (preE r p)).length c2) (gaR r.bx r.by_ r.low r.high (preE r p))) ww (aa.tmps[29]?.getD undef)) ∧ (L 10 = true → (fun ww v => ∃ A2 c2, v = .tuple #[.agg #[.slice A2 ((gaR r.bx r.by_ r.low r.high (preE r p)).length) c2], .bool (gaOk r.bx r.by_ r.low r.high (preE r p))] ∧ New 111 3 halfC ww w10.heap.size (.slice A2 (gaR r.bx r.by_ r.low r.high (preE r p)).length c2) (gaR r.bx r.by_ r.low r.high (preE r p))) ww (aa.tmps[19]?.getD undef)) ∧ (L 11 = true → (fun ww v => ∃ A2 c2, v = .agg #[.slice A2 ((gaR r.bx r.by_ r.low r.high (preE r p)).length) c2] ∧ New 111 3 halfC ww w10.heap.size (.slice A2 (gaR r.bx r.by_ r.low r.high (preE r p)).length c2) (gaR r.bx r.by_ r.low r.high (preE r p))) ww (aa.tmps[30]?.getD undef)) ∧ (L 13 = true → BoxX w10 aa ww 8 37 [.slice none 0 0] (L 14) (fun ww vs => ∃ A2 c2, vs = [.slice A2 ((gaR r.bx r.by_ r.low r.high (preE r p)).length) c2] ∧ New 111 3 halfC ww w10.heap.size (.slice A2 (gaR r.bx r.by_ r.low r.high (preE r p)).length c2) (gaR r.bx r.by_ r.low r.high (preE r p))))) := by
    intro L aa ww w' kk vv hkk hb hX
    obtain ⟨x0, x1, x2, x3⟩ := hX
    exact ⟨(fun h => by rw [put_ne' (hkk 29 (by simp))]; obtain ⟨A2', c2', e, f2'⟩ := x0 h; exact ⟨A2', c2', e, f2'.below hb leR⟩), (fun h => by rw [put_ne' (hkk 19 (by simp))]; obtain ⟨A2', c2', e, f2'⟩ := x1 h; exact ⟨A2', c2', e, f2'.below hb leR⟩), (fun h => by rw [put_ne' (hkk 30 (by simp))]; obtain ⟨A2', c2', e, f2'⟩ := x2 h; exact ⟨A2', c2', e, f2'.below hb leR⟩), (fun h => ((x3 h).bel hb (fun _ ⟨A2', c2', e, f2'⟩ => ⟨A2', c2', e, f2'.below hb leR⟩)).put (hkk 8 (by simp)) _)⟩
   refine wp_regK hXb (by kernel_rfl) [20, 21, 22, 23, 24, 25, 26, 27, 28, 29, 19, 30, 31, 8, 0, 9] [some (.agg #[.slice A1 ((preE r p).length) c1]), some (.pointer (some ⟨w.heap.size, 2, none⟩)), some (.int .i64 r.bx), some (.pointer (some ⟨w.heap.size, 3, none⟩)), some (.int .i64 r.by_), some (.pointer (some ⟨w.heap.size, 4, none⟩)), some (.int .i64 r.low), some (.pointer (some ⟨w.heap.size, 5, none⟩)), some (.int .i64 r.high), none, none, none, some (.bool (gaOk r.bx r.by_ r.low r.high (preE r p))), none, none, some (.bool (gaOk r.bx r.by_ r.low r.high (preE r p)))] ((List.range 16).map List.range) [20, 21, 22, 23, 24, 25, 26, 27, 28, 29, 19, 30, 31, 8, 9] [0, 1, 2, 3, 4, 5, 6, 7, 8, 9, 10, 11, 12, 13, 14, 15] [] (by kernel_rfl) (by rw [hz]; decide) ?_ (ec ?_ (ec ?_ (ec ?_ (ec ?_ (ec ?_ (ec ?_ (ec ?_ (ec ?_ (ec ?_ (ec ?_ (ec ?_ (ec ?_ (ec ?_ (ec ?_ (ec ?_ (ec ?_ .nil)))))))))))))))) ?_
   · exact fun _ h => ⟨(fun h => by cases h), (fun h => by cases h), (fun h => by cases h), (fun h => by cases h)⟩
   · intro Lk ak ww hL hdd haa hF hK hV hX _ _ hN; refine wnt rfl ?_
     simp [go_sem, hF.g rfl s6, (b8.kp hK (by simp)).cell]
     exact (hN _ _ hK rfl (hXb Lk ak ww _ (some 20) _ (by simp) bR hX))
   · intro Lk ak ww hL hdd haa hF hK hV hX _ _ hN; refine wnt rfl ?_
     simp [go_sem, hF.g rfl s2]
     exact (hN _ _ hK rfl (hXb Lk ak ww _ (some 21) _ (by simp) bR hX))
   · intro Lk ak ww hL hdd haa hF hK hV hX _ _ hN; refine wnt rfl ?_
     simp [go_sem, (gS ak 21 (hV 1 _ rfl (hdd 1 rfl))), (b3.kp hK (by simp)).cell]
     exact (hN _ _ hK rfl (hXb Lk ak ww _ (some 22) _ (by simp) bR hX))
   · intro Lk ak ww hL hdd haa hF hK hV hX _ _ hN; refine wnt rfl ?_
     simp [go_sem, hF.g rfl s2]
     exact (hN _ _ hK rfl (hXb Lk ak ww _ (some 23) _ (by simp) bR hX))
   · intro Lk ak ww hL hdd haa hF hK hV hX _ _ hN; refine wnt rfl ?_
     simp [go_sem, (gS ak 23 (hV 3 _ rfl (hdd 3 rfl))), (b3.kp hK (by simp)).cell]
     exact (hN _ _ hK rfl (hXb Lk ak ww _ (some 24) _ (by simp) bR hX))
   · intro Lk ak ww hL hdd haa hF hK hV hX _ _ hN; refine wnt rfl ?_
     simp [go_sem, hF.g rfl s2]
     exact (hN _ _ hK rfl (hXb Lk ak ww _ (some 25) _ (by simp) bR hX))
   · intro Lk ak ww hL hdd haa hF hK hV hX _ _ hN; refine wnt rfl ?_
     simp [go_sem, (gS ak 25 (hV 5 _ rfl (hdd 5 rfl))), (b3.kp hK (by simp)).cell]
     exact (hN _ _ hK rfl (hXb Lk ak ww _ (some 26) _ (by simp) bR hX))
   · intro Lk ak ww hL hdd haa hF hK hV hX _ _ hN; refine wnt rfl ?_
     simp [go_sem, hF.g rfl s2]
     exact (hN _ _ hK rfl (hXb Lk ak ww _ (some 27) _ (by simp) bR hX))
   · intro Lk ak ww hL hdd haa hF hK hV hX _ _ hN; refine wnt rfl ?_
     simp [go_sem, (gS ak 27 (hV 7 _ rfl (hdd 7 rfl))), (b3.kp hK (by simp)).cell]
     exact (hN _ _ hK rfl (hXb Lk ak ww _ (some 28) _ (by simp) bR hX))
   · intro Lk ak ww hL hdd haa hF hK hV hX _ _ hN
     obtain ⟨x0, x1, x2, x3⟩ := hX
     refine wnt rfl ?_
     simp [go_sem, (gS ak 20 (hV 0 _ rfl (hdd 0 rfl))), (gS ak 22 (hV 2 _ rfl (hdd 2 rfl))), (gS ak 24 (hV 4 _ rfl (hdd 4 rfl))), (gS ak 26 (hV 6 _ rfl (hdd 6 rfl))), (gS ak 28 (hV 8 _ rfl (hdd 8 rfl)))]
     refine (sAlong_c (preE r p) r.bx r.by_ r.low r.high ⟨A1, c1⟩ ww (preE_ok r p) (drvIn hr) ((N1.below hK.toBelow leR).out halfC_len) N1.nilcap).mono ?_
     rintro x wx ⟨_, rfl, ⟨A2, c2, rfl, f0⟩, hb⟩
     have f2 := New.mono (show New 111 3 halfC wx ww.heap.size (.slice A2 (gaR r.bx r.by_ r.low r.high (preE r p)).length c2) (gaR r.bx r.by_ r.low r.high (preE r p)) from ⟨_, _, rfl, f0⟩) hK.size
     exact (hN _ _ (hK.call hb) trivial ⟨(fun _ => by rw [put_get_self (hF.lt (by rw [hz]; decide))]; exact ⟨A2, c2, rfl, f2⟩), (fun h => by rw [put_ne' (by decide)]; obtain ⟨A2', c2', e, f2'⟩ := x1 h; exact ⟨A2', c2', e, f2'.below hb leR⟩), (fun h => by rw [put_ne' (by decide)]; obtain ⟨A2', c2', e, f2'⟩ := x2 h; exact ⟨A2', c2', e, f2'.below hb leR⟩), (fun h => ((x3 h).bel hb (fun _ ⟨A2', c2', e, f2'⟩ => ⟨A2', c2', e, f2'.below hb leR⟩)).put (by decide) _)⟩)
   · intro Lk ak ww hL hdd haa hF hK hV hX _ _ hN
     obtain ⟨x0, x1, x2, x3⟩ := hX
     refine wnt rfl ?_
     obtain ⟨A2, c2, ee9, f2⟩ := x0 (hdd 9 rfl)
     exact wp_move rfl (ev ee9) (hN _ _ hK trivial ⟨(fun h => by rw [put_ne' (by decide)]; obtain ⟨A2', c2', e, f2'⟩ := x0 h; exact ⟨A2', c2', e, f2'.below bR leR⟩), (fun _ => by rw [put_get_self (hF.lt (by rw [hz]; decide))]; exact ⟨A2, c2, rfl, f2⟩), (fun h => by rw [put_ne' (by decide)]; obtain ⟨A2', c2', e, f2'⟩ := x2 h; exact ⟨A2', c2', e, f2'.below bR leR⟩), (fun h => ((x3 h).bel bR (fun _ ⟨A2', c2', e, f2'⟩ => ⟨A2', c2', e, f2'.below bR leR⟩)).put (by decide) _)⟩)
   · intro Lk ak ww hL hdd haa hF hK hV hX _ _ hN
     obtain ⟨x0, x1, x2, x3⟩ := hX
     refine wnt rfl ?_
     obtain ⟨A2, c2, ee10, f2⟩ := x1 (hdd 10 rfl)
     exact wp_extract rfl (ev ee10) rfl (hN _ _ hK trivial ⟨(fun h => by rw [put_ne' (by decide)]; obtain ⟨A2', c2', e, f2'⟩ := x0 h; exact ⟨A2', c2', e, f2'.below bR leR⟩), (fun h => by rw [put_ne' (by decide)]; obtain ⟨A2', c2', e, f2'⟩ := x1 h; exact ⟨A2', c2', e, f2'.below bR leR⟩), (fun _ => by rw [put_get_self (hF.lt (by rw [hz]; decide))]; exact ⟨A2, c2, rfl, f2⟩), (fun h => ((x3 h).bel bR (fun _ ⟨A2', c2', e, f2'⟩ => ⟨A2', c2', e, f2'.below bR leR⟩)).put (by decide) _)⟩)
   · intro Lk ak ww hL hdd haa hF hK hV hX _ _ hN
     obtain ⟨x0, x1, x2, x3⟩ := hX
     refine wnt rfl ?_
     obtain ⟨A2, c2, ee10, f2⟩ := x1 (hdd 10 rfl)
     exact wp_extract rfl (ev ee10) rfl (hN _ _ hK rfl (hXb Lk ak ww _ (some 31) _ (by simp) bR ⟨x0, x1, x2, x3⟩))
   · intro Lk ak ww hL hdd haa hF hK hV hX _ _ hN
     obtain ⟨x0, x1, x2, x3⟩ := hX
     refine wnt rfl ?_
     simp [go_sem]
     exact hN _ _ (hK.alloc _) trivial ⟨(fun h => by rw [put_ne' (by decide)]; obtain ⟨A2', c2', e, f2'⟩ := x0 h; exact ⟨A2', c2', e, f2'.below (below_al bR _) leR⟩), (fun h => by rw [put_ne' (by decide)]; obtain ⟨A2', c2', e, f2'⟩ := x1 h; exact ⟨A2', c2', e, f2'.below (below_al bR _) leR⟩), (fun h => by rw [put_ne' (by decide)]; obtain ⟨A2', c2', e, f2'⟩ := x2 h; exact ⟨A2', c2', e, f2'.below (below_al bR _) leR⟩), (fun _ => by rw [show upd Lk 13 14 = false from haa 14 rfl]; exact BoxX.new (s := 8) (hF.lt (by rw [hz]; decide)) hK.size [.slice none 0 0])⟩
   · intro Lk ak ww hL hdd haa hF hK hV hX _ _ hN
     obtain ⟨x0, x1, x2, x3⟩ := hX
     refine wnt rfl ?_
     obtain ⟨A2, c2, ee11, f2⟩ := x2 (hdd 11 rfl)
     obtain ⟨g, eg, hg, y, _⟩ := x3 (hdd 13 rfl)
     have HT := y hL
     simp [go_sem, ee11, eg, HT.cell, HT.frz]
     have f2 := f2.otherC (f2.typ HT (by decide)) [.slice A2 ((gaR r.bx r.by_ r.low r.high (preE r p)).length) c2] 0
     exact hN undef _ (hK.store (.inl hg) [.slice A2 ((gaR r.bx r.by_ r.low r.high (preE r p)).length) c2] 0) trivial ⟨(fun h => by obtain ⟨A2', c2', e, f2'⟩ := x0 h; exact ⟨A2', c2', e, f2'.otherC (f2'.typ HT (by decide)) [.slice A2 ((gaR r.bx r.by_ r.low r.high (preE r p)).length) c2] 0⟩), (fun h => by obtain ⟨A2', c2', e, f2'⟩ := x1 h; exact ⟨A2', c2', e, f2'.otherC (f2'.typ HT (by decide)) [.slice A2 ((gaR r.bx r.by_ r.low r.high (preE r p)).length) c2] 0⟩), (fun h => by obtain ⟨A2', c2', e, f2'⟩ := x2 h; exact ⟨A2', c2', e, f2'.otherC (f2'.typ HT (by decide)) [.slice A2 ((gaR r.bx r.by_ r.low r.high (preE r p)).length) c2] 0⟩), (fun _ => BoxX.set eg hg HT (us := [.slice A2 ((gaR r.bx r.by_ r.low r.high (preE r p)).length) c2]) rfl ⟨A2, c2, rfl, f2⟩)⟩
   · exact fun Lk ak ww hL hdd haa hF hK hV hX _ _ hN => wnt rfl (wp_assign rfl (ev (hV 12 _ rfl (hdd 12 rfl))) (hN _ _ hK rfl (hXb Lk ak ww _ (some 9) _ (by simp) bR hX)))
   intro L a14 w15 hL hF hK hV hX
   obtain ⟨x0, x1, x2, x3⟩ := hX
   replace hz := hF.size.trans hz
   replace hdf := hF.defers.trans hdf
   replace s2 := hF.g rfl s2
   replace s4 := hF.g rfl s4
   have s9 : a14.tmps[9]?.getD undef = .bool (gaOk r.bx r.by_ r.low r.high (preE r p)) := hV 15 _ rfl
   replace b3 := b3.kp hK (by simp)
   replace b5 := b5.kp hK (by simp)
   obtain ⟨g16, s8, lg16, -, b16⟩ := x3 (hL 13 (by decide))
   obtain ⟨_, b16, A2, c2, rfl, N2⟩ := b16 (hL 14 (by decide))
   have i2 : ∀ p, A2 = some p → p.block < w15.heap.size := fun p hp => (N2.blk p hp).2
   have ug16 := b16.lt
   have zw10 := hZ
   have zw15 := hK.size
   replace hZ := Nat.le_refl w15.heap.size
   replace hB := hK.below0 hB
   clear hF hK hV hL x0 x1 x2 x3 hXb s6 s17 b8 N1 i1
   refine th_n ?_
   refine wp_seq ?_
   refine wp_seq ?_
   refine wp_regJ (by kernel_rfl) [32, 33] [some (.bool (gaOk r.bx r.by_ r.low r.high (preE r p))), some (.bool (!(gaOk r.bx r.by_ r.low r.high (preE r p))))] ((List.range 2).map List.range) [32, 33] [0, 1] [] (fun _ _ _ => True) (by kernel_rfl) (by rw [hz]; decide) ?_ (ec ?_ (ec ?_ .nil)) ?_
   · exact fun _ _ => trivial
   · exact fun Lk ak ww hL hdd haa hF hK hV hX _ _ hN => wnt rfl (wp_move rfl (ev (hF.g rfl s9)) (hN _ _ hK rfl trivial))
   · exact fun Lk ak ww hL hdd haa hF hK hV hX _ _ hN => wnt rfl (wp_not rfl (ev (hV 0 _ rfl (hdd 0 rfl))) (hN _ _ hK rfl trivial))
   intro L a17 w18 hL hF hK hV hX
   replace hz := hF.size.trans hz
   replace hdf := hF.defers.trans hdf
   replace s2 := hF.g rfl s2
   replace s4 := hF.g rfl s4
   replace s8 := hF.g rfl s8
   have s33 : a17.tmps[33]?.getD undef = .bool (!(gaOk r.bx r.by_ r.low r.high (preE r p))) := hV 1 _ rfl
   replace b3 := b3.kp hK (by simp)
   replace b5 := b5.kp hK (by simp)
   replace b16 := b16.kp hK (by simp)
   replace N2 := N2.below hK.toBelow leR
   replace hZ := Nat.le_trans hZ hK.size
   replace hB := hK.below0 hB
   clear hF hK hV hL hX s9
   refine th_n ?_
   rcases Bool.eq_false_or_eq_true (!(gaOk r.bx r.by_ r.low r.high (preE r p))) with q19 | q19
   · skip
     refine wp_cond_true (ev (vb s33 q19)) ?_
     refine wp_seq ?_
     refine wp_regJ (by kernel_rfl) [34, 0, 5] [some (.agg #[.slice none 0 0]), none, some (.bool false)] ((List.range 3).map List.range) [34, 5] [0, 1, 2] [(w.heap.size + 2)] (fun L aa ww => PreX ww (w.heap.size + 2) 37 [.slice none 0 0] (L 1) (fun _ vs => vs = [.slice none 0 0])) (by kernel_rfl) (by rw [hz]; decide) ?_ (ec ?_ (ec ?_ (ec ?_ .nil))) ?_
     · exact fun _ h => (⟨fun _ => b5.kp h (by simp), (fun h => by cases h)⟩)
     · intro Lk ak ww hL hdd haa hF hK hV hX _ _ hN; refine wnt rfl ?_
       simp [go_sem]
       exact (hN _ _ hK rfl (hX.bel bR (fun _ h => h)))
     · intro Lk ak ww hL hdd haa hF hK hV hX _ _ hN
       have x0 := hX
       refine wnt rfl ?_
       have HT := x0.1 hL
       simp [go_sem, (gS ak 34 (hV 0 _ rfl (hdd 0 rfl))), hF.g rfl s4, HT.cell, HT.frz]
       exact hN undef _ (hK.store (.inr (by simp)) [.slice none 0 0] 0) trivial (PreX.set HT (us := [.slice none 0 0]) rfl rfl)
     · exact fun Lk ak ww hL hdd haa hF hK hV hX _ _ hN => wnt rfl (wp_assign rfl rfl (hN _ _ hK rfl (hX.bel bR (fun _ h => h))))
     intro L a20 w21 hL hF hK hV hX
     have x0 := hX
     replace hz := hF.size.trans hz
     replace hdf := hF.defers.trans hdf
     replace s4 := hF.g rfl s4
     have s5 : a20.tmps[5]?.getD undef = .bool false := hV 2 _ rfl
     clear b5
     obtain ⟨_, b5, rfl⟩ := x0.2 (hL 1 (by decide))
     replace hZ := Nat.le_trans hZ hK.size
     replace hB := hK.below hB hB.size (by simp <;> omega)
     clear hF hK hV hL x0 s2 s8 s33 b3 b16 N2 i2
     refine th_n ?_
     refine wp_ret ?_
     refine th_r ?_
     refine bodyPost_ret (v := .tuple #[.agg #[.slice none 0 0], .bool false]) (by simp [results, Tryz.results117, go_sem, s4, b5.cell, s5]) hdf ?_
     have h0 := preS_no2 (r := r) (p := p) (not_t q19)
     exact ⟨_, by rw [h0.1], by rw [h0.2]; exact New.nilN _ _ _ _ _, hB⟩
   · skip
     refine wp_cond_false (ev (vb s33 q19)) ?_
     refine wp_skip ?_
     refine th_n ?_
     refine wp_seq ?_
     have hXb : StaysX [40, 41] (fun L aa ww => (L 5 = true → (fun ww v => ∃ A3 c3, v = .tuple #[.agg #[.slice A3 ((movR (pulH r.map r.div) (gaR r.bx r.by_ r.low r.high (preE r p))).length) c3], .bool (movOk (pulH r.map r.div) (gaR r.bx r.by_ r.low r.high (preE r p)))] ∧ New 111 3 halfC ww w18.heap.size (.slice A3 (movR (pulH r.map r.div) (gaR r.bx r.by_ r.low r.high (preE r p))).length c3) (movR (pulH r.map r.div) (gaR r.bx r.by_ r.low r.high (preE r p)))) ww (aa.tmps[40]?.getD undef)) ∧ (L 6 = true → (fun ww v => ∃ A3 c3, v = .agg #[.slice A3 ((movR (pulH r.map r.div) (gaR r.bx r.by_ r.low r.high (preE r p))).length) c3] ∧ New 111 3 halfC ww w18.heap.size (.slice A3 (movR (pulH r.map r.div) (gaR r.bx r.by_ r.low r.high (preE r p))).length c3) (movR (pulH r.map r.div) (gaR r.bx r.by_ r.low r.high (preE r p)))) ww (aa.tmps[41]?.getD undef)) ∧ PreX ww (w.heap.size + 2) 37 [.slice none 0 0] (L 8) (fun ww vs => ∃ A3 c3, vs = [.slice A3 ((movR (pulH r.map r.div) (gaR r.bx r.by_ r.low r.high (preE r p))).length) c3] ∧ New 111 3 halfC ww w18.heap.size (.slice A3 (movR (pulH r.map r.div) (gaR r.bx r.by_ r.low r.high (preE r p))).length c3) (movR (pulH r.map r.div) (gaR r.bx r.by_ r.low r.high (preE r p))))) := by
      intro L aa ww w' kk vv hkk hb hX
      obtain ⟨x0, x1, x2⟩ := hX
      exact ⟨(fun h => by rw [put_ne' (hkk 40 (by simp))]; obtain ⟨A3', c3', e, f3'⟩ := x0 h; exact ⟨A3', c3', e, f3'.below hb leR⟩), (fun h => by rw [put_ne' (hkk 41 (by simp))]; obtain ⟨A3', c3', e, f3'⟩ := x1 h; exact ⟨A3', c3', e, f3'.below hb leR⟩), (x2.bel hb (fun _ ⟨A3', c3', e, f3'⟩ => ⟨A3', c3', e, f3'.below hb leR⟩))⟩
     refine wp_regK hXb (by kernel_rfl) [35, 36, 37, 38, 39, 40, 41, 42, 0, 5] [some (.agg #[.slice A2 ((gaR r.bx r.by_ r.low r.high (preE r p)).length) c2]), some (.pointer (some ⟨w.heap.size, 0, none⟩)), some (.slice ra.map.A r.map.length ra.map.c), some (.pointer (some ⟨w.heap.size, 1, none⟩)), some (.int .i64 r.div), none, none, some (.bool (movOk (pulH r.map r.div) (gaR r.bx r.by_ r.low r.high (preE r p)))), none, some (.bool (movOk (pulH r.map r.div) (gaR r.bx r.by_ r.low r.high (preE r p))))] ((List.range 10).map List.range) [35, 36, 37, 38, 39, 40, 41, 42, 5] [0, 1, 2, 3, 4, 5, 6, 7, 8, 9] [(w.heap.size + 2)] (by kernel_rfl) (by rw [hz]; decide) ?_ (ec ?_ (ec ?_ (ec ?_ (ec ?_ (ec ?_ (ec ?_ (ec ?_ (ec ?_ (ec ?_ (ec ?_ .nil)))))))))) ?_
     · exact fun _ h => ⟨(fun h => by cases h), (fun h => by cases h), (⟨fun _ => b5.kp h (by simp), (fun h => by cases h)⟩)⟩
     · intro Lk ak ww hL hdd haa hF hK hV hX _ _ hN; refine wnt rfl ?_
       simp [go_sem, hF.g rfl s8, (b16.kp hK (by simp <;> omega)).cell]
       exact (hN _ _ hK rfl (hXb Lk ak ww _ (some 35) _ (by simp) bR hX))
     · intro Lk ak ww hL hdd haa hF hK hV hX _ _ hN; refine wnt rfl ?_
       simp [go_sem, hF.g rfl s2]
       exact (hN _ _ hK rfl (hXb Lk ak ww _ (some 36) _ (by simp) bR hX))
     · intro Lk ak ww hL hdd haa hF hK hV hX _ _ hN; refine wnt rfl ?_
       simp [go_sem, (gS ak 36 (hV 1 _ rfl (hdd 1 rfl))), (b3.kp hK (by simp <;> omega)).cell]
       exact (hN _ _ hK rfl (hXb Lk ak ww _ (some 37) _ (by simp) bR hX))
     · intro Lk ak ww hL hdd haa hF hK hV hX _ _ hN; refine wnt rfl ?_
       simp [go_sem, hF.g rfl s2]
       exact (hN _ _ hK rfl (hXb Lk ak ww _ (some 38) _ (by simp) bR hX))
     · intro Lk ak ww hL hdd haa hF hK hV hX _ _ hN; refine wnt rfl ?_
       simp [go_sem, (gS ak 38 (hV 3 _ rfl (hdd 3 rfl))), (b3.kp hK (by simp <;> omega)).cell]
       exact (hN _ _ hK rfl (hXb Lk ak ww _ (some 39) _ (by simp) bR hX))
     · intro Lk ak ww hL hdd haa hF hK hV hX _ _ hN
       obtain ⟨x0, x1, x2⟩ := hX
       refine wnt rfl ?_
       simp [go_sem, (gS ak 35 (hV 0 _ rfl (hdd 0 rfl))), (gS ak 37 (hV 2 _ rfl (hdd 2 rfl))), (gS ak 39 (hV 4 _ rfl (hdd 4 rfl)))]
       have hBi := hK.below hB hB.size (by simp <;> omega)
       refine (sPull_c (gaR r.bx r.by_ r.low r.high (preE r p)) r.map r.div ⟨A2, c2⟩ ra.map.A ra.map.c ww (gaR_ok (preE_ok r p)) (mapIn hr) hmap hdet ((N2.kp hK i2 (by omega) (by simp <;> omega)).out halfC_len) (hs.below hBi).map N2.nilcap).mono ?_
       rintro x wx ⟨_, rfl, ⟨A3, c3, rfl, f0⟩, hb⟩
       have f3 := New.mono (show New 111 3 halfC wx ww.heap.size (.slice A3 (movR (pulH r.map r.div) (gaR r.bx r.by_ r.low r.high (preE r p))).length c3) (movR (pulH r.map r.div) (gaR r.bx r.by_ r.low r.high (preE r p))) from ⟨_, _, rfl, f0⟩) hK.size
       exact (hN _ _ (hK.call hb) trivial ⟨(fun _ => by rw [put_get_self (hF.lt (by rw [hz]; decide))]; exact ⟨A3, c3, rfl, f3⟩), (fun h => by rw [put_ne' (by decide)]; obtain ⟨A3', c3', e, f3'⟩ := x1 h; exact ⟨A3', c3', e, f3'.below hb leR⟩), (x2.bel hb (fun _ ⟨A3', c3', e, f3'⟩ => ⟨A3', c3', e, f3'.below hb leR⟩))⟩)
     · intro Lk ak ww hL hdd haa hF hK hV hX _ _ hN
       obtain ⟨x0, x1, x2⟩ := hX
       refine wnt rfl ?_
       obtain ⟨A3, c3, ee5, f3⟩ := x0 (hdd 5 rfl)
       exact wp_extract rfl (ev ee5) rfl (hN _ _ hK trivial ⟨(fun h => by rw [put_ne' (by decide)]; obtain ⟨A3', c3', e, f3'⟩ := x0 h; exact ⟨A3', c3', e, f3'.below bR leR⟩), (fun _ => by rw [put_get_self (hF.lt (by rw [hz]; decide))]; exact ⟨A3, c3, rfl, f3⟩), (x2.bel bR (fun _ ⟨A3', c3', e, f3'⟩ => ⟨A3', c3', e, f3'.below bR leR⟩))⟩)
     · intro Lk ak ww hL hdd haa hF hK hV hX _ _ hN
       obtain ⟨x0, x1, x2⟩ := hX
       refine wnt rfl ?_
       obtain ⟨A3, c3, ee5, f3⟩ := x0 (hdd 5 rfl)
       exact wp_extract rfl (ev ee5) rfl (hN _ _ hK rfl (hXb Lk ak ww _ (some 42) _ (by simp) bR ⟨x0, x1, x2⟩))
     · intro Lk ak ww hL hdd haa hF hK hV hX _ _ hN
       obtain ⟨x0, x1, x2⟩ := hX
       refine wnt rfl ?_
       obtain ⟨A3, c3, ee6, f3⟩ := x1 (hdd 6 rfl)
       have HT := x2.1 hL
       simp [go_sem, ee6, hF.g rfl s4, HT.cell, HT.frz]
       have f3 := f3.otherC (f3.typ HT (by decide)) [.slice A3 ((movR (pulH r.map r.div) (gaR r.bx r.by_ r.low r.high (preE r p))).length) c3] 0
       exact hN undef _ (hK.store (.inr (by simp)) [.slice A3 ((movR (pulH r.map r.div) (gaR r.bx r.by_ r.low r.high (preE r p))).length) c3] 0) trivial ⟨(fun h => by obtain ⟨A3', c3', e, f3'⟩ := x0 h; exact ⟨A3', c3', e, f3'.otherC (f3'.typ HT (by decide)) [.slice A3 ((movR (pulH r.map r.div) (gaR r.bx r.by_ r.low r.high (preE r p))).length) c3] 0⟩), (fun h => by obtain ⟨A3', c3', e, f3'⟩ := x1 h; exact ⟨A3', c3', e, f3'.otherC (f3'.typ HT (by decide)) [.slice A3 ((movR (pulH r.map r.div) (gaR r.bx r.by_ r.low r.high (preE r p))).length) c3] 0⟩), (PreX.set HT (us := [.slice A3 ((movR (pulH r.map r.div) (gaR r.bx r.by_ r.low r.high (preE r p))).length) c3]) rfl ⟨A3, c3, rfl, f3⟩)⟩
     · exact fun Lk ak ww hL hdd haa hF hK hV hX _ _ hN => wnt rfl (wp_assign rfl (ev (hV 7 _ rfl (hdd 7 rfl))) (hN _ _ hK rfl (hXb Lk ak ww _ (some 5) _ (by simp) bR hX)))
     intro L a22 w23 hL hF hK hV hX
     obtain ⟨x0, x1, x2⟩ := hX
     replace hz := hF.size.trans hz
     replace hdf := hF.defers.trans hdf
     replace s4 := hF.g rfl s4
     have s5 : a22.tmps[5]?.getD undef = .bool (movOk (pulH r.map r.div) (gaR r.bx r.by_ r.low r.high (preE r p))) := hV 9 _ rfl
     clear b5
     obtain ⟨_, b5, A3, c3, rfl, N3⟩ := x2.2 (hL 8 (by decide))
     have i3 : ∀ p, A3 = some p → p.block < w23.heap.size := fun p hp => (N3.blk p hp).2
     have zw18 := hZ
     have zw23 := hK.size
     replace hZ := Nat.le_refl w23.heap.size
     replace hB := hK.below hB hB.size (by simp <;> omega)
     clear hF hK hV hL x0 x1 x2 hXb s2 s8 s33 b3 b16 N2 i2
     refine th_n ?_
     refine wp_ret ?_
     refine bodyPost_ret (v := .tuple #[.agg #[.slice A3 ((movR (pulH r.map r.div) (gaR r.bx r.by_ r.low r.high (preE r p))).length) c3], .bool (movOk (pulH r.map r.div) (gaR r.bx r.by_ r.low r.high (preE r p)))]) (by simp [results, Tryz.results117, go_sem, s4, b5.cell, s5]) hdf ?_
     have h9 := ga_eq (not_f q19)
     have h0 := preS_yes (not_f q11) (not_f q19)
     exact ⟨_, by rw [h9, h0.1], by rw [h0.2, ← h9]; exact N3.mono (by omega), hB⟩
set_option maxRecDepth 100000 in
set_option maxHeartbeats 3000000 in
theorem sKept_c (r : Room) (p : List Half) (ra : RoomA) (b : SlA) (w : World) (hn : roomLen r ≤ 1048576) (hin : RoomIn r) (hs : RoomSl w r ra) (hnl : RoomNil ra) (hlp : p.length ≤ 1048576) (hpi : ∀ h ∈ p, h.In) (hsp : Sl 3 halfC w b.A p) (hnb : b.A = none → b.c = 0) :
    Calls Tryz.prog 84 #[roomV r ra, .agg #[.slice b.A p.length b.c]] w fun x w' => x = .returned (.bool (keptB r p)) ∧ Below w.heap.size w w' := by
 refine calls_v Tryz.func84 rfl (n := 31) Tryz.ntmps84 (by simp) ?_
 intro a0 hz hdf ha
 have s0 : a0.tmps[0]?.getD undef = roomV r ra := ha 0 _ rfl
 have s1 : a0.tmps[1]?.getD undef = .agg #[.slice b.A p.length b.c] := ha 1 _ rfl
 clear ha
 have hB := Below.refl w.heap.size w
 have hZ := Nat.le_refl w.heap.size
 refine wp_seq ?_
 refine wp_entry [2, 3, 4] [.pointer (some ⟨w.heap.size, 0, none⟩), .pointer (some ⟨(w.heap.size + 1), 0, none⟩), .bool false] [some (.cells (roomC r ra).toArray 39), some (.cells [.slice b.A p.length b.c].toArray 37), none] [0, 1, 2] [2, 3, 4] [0, 1, 2] (by kernel_rfl) (by rw [hz]; decide) (ec ?_ (ec ?_ (ec ?_ .nil))) ?_
 · intro a w' hF hs N Q hN; simp [go_sem, hF.g rfl s0]; rw [hs]; exact hN
 · intro a w' hF hs N Q hN; simp [go_sem, hF.g rfl s1]; rw [hs]; exact hN
 · intro a w' hF hs N Q hN; simp [go_sem]; exact hN
 intro a1 w2 hF hV hb hO
 replace hz := hF.size.trans hz
 replace hdf := hF.defers.trans hdf
 have s2 : a1.tmps[2]?.getD undef = .pointer (some ⟨w.heap.size, 0, none⟩) := hV 0 (by decide)
 have s3 : a1.tmps[3]?.getD undef = .pointer (some ⟨(w.heap.size + 1), 0, none⟩) := hV 1 (by decide)
 have b3 : HasT w2 w.heap.size 39 (roomC r ra) := hO 0 _ rfl
 have b4 : HasT w2 (w.heap.size + 1) 37 [.slice b.A p.length b.c] := hO 1 _ rfl
 have hG := b4.lt
 replace hB := below_tr hB hb
 have zw2 := Nat.le_trans hZ hb.size
 replace hZ := Nat.le_refl w2.heap.size
 clear hF hV hb hO s0 s1
 refine th_n ?_
 refine wp_seq ?_
 refine wp_seq ?_
 refine wp_regJ (by kernel_rfl) [7, 8, 9, 10, 11, 12, 13, 14, 15, 16] [some (roomV r ra), some (.bool (roomOk r)), some (.bool (!(roomOk r))), some (.bool (!(roomOk r))), some ((bif !(roomOk r) then undef else (.agg #[.slice b.A p.length b.c] : Value))), some ((bif !(roomOk r) then undef else (.pointer (some ⟨w.heap.size, 7, none⟩) : Value))), some ((bif !(roomOk r) then undef else (.agg #[.slice ra.limits.A r.limits.length ra.limits.c] : Value))), some ((bif !(roomOk r) then undef else (.bool ((regionOk p && regionOk r.limits && withinB p r.limits)) : Value))), some ((bif !(roomOk r) then undef else (.bool (!(regionOk p && regionOk r.limits && withinB p r.limits)) : Value))), some (.bool (!(roomOk r) || !(regionOk p && regionOk r.limits && withinB p r.limits)))] ((List.range 10).map List.range) [7, 8, 9, 10, 11, 12, 13, 14, 15, 16] [0, 1, 2, 3, 4, 5, 6, 7, 8, 9] [] (fun _ _ _ => True) (by kernel_rfl) (by rw [hz]; decide) ?_ (ec ?_ (ec ?_ (ec ?_ (ec ?_ (ec ?_ (ec ?_ (ec ?_ (ec ?_ (ec ?_ (ec ?_ .nil)))))))))) ?_
 · exact fun _ _ => trivial
 · intro Lk ak ww hL hdd haa hF hK hV hX _ _ hN; refine wnt rfl ?_
   simp [go_sem, hF.g rfl s2, (b3.kp hK (by simp)).cell]
   exact (hN _ _ hK rfl trivial)
 · intro Lk ak ww hL hdd haa hF hK hV hX _ _ hN; refine wnt rfl ?_
   simp [go_sem, (gS ak 7 (hV 0 _ rfl (hdd 0 rfl)))]
   have hBi := hK.below0 hB
   refine (sRoomOk_c r ra ww hn hin (hs.below hBi) hnl).mono ?_
   rintro x wx ⟨rfl, hb⟩
   exact (hN _ _ (hK.call hb) rfl trivial)
 · exact fun Lk ak ww hL hdd haa hF hK hV hX _ _ hN => wnt rfl (wp_not rfl (ev (hV 1 _ rfl (hdd 1 rfl))) (hN _ _ hK rfl trivial))
 · exact fun Lk ak ww hL hdd haa hF hK hV hX _ _ hN => wnt rfl (wp_move rfl (ev (hV 2 _ rfl (hdd 2 rfl))) (hN _ _ hK rfl trivial))
 · intro Lk ak ww hL hdd haa hF hK hV hX _ _ hN
   refine wgf rfl rfl rfl (hV 3 _ rfl (hdd 3 rfl)) (fun qg => hN _ _ hK (bif_t qg).symm trivial) fun qg => ?_
   simp [go_sem, hF.g rfl s3, (b4.kp hK (by simp)).cell]
   exact (hN _ _ hK (bif_f qg).symm trivial)
 · intro Lk ak ww hL hdd haa hF hK hV hX _ _ hN
   refine wgf rfl rfl rfl (hV 3 _ rfl (hdd 3 rfl)) (fun qg => hN _ _ hK (bif_t qg).symm trivial) fun qg => ?_
   simp [go_sem, hF.g rfl s2]
   exact (hN _ _ hK (bif_f qg).symm trivial)
 · intro Lk ak ww hL hdd haa hF hK hV hX _ _ hN
   refine wgf rfl rfl rfl (hV 3 _ rfl (hdd 3 rfl)) (fun qg => hN _ _ hK (bif_t qg).symm trivial) fun qg => ?_
   simp [go_sem, (show ak.tmps[12]?.getD undef = _ from (hV 5 _ rfl (hdd 5 rfl)).trans (bif_f qg)), (b3.kp hK (by simp)).cell]
   exact (hN _ _ hK (bif_f qg).symm trivial)
 · intro Lk ak ww hL hdd haa hF hK hV hX _ _ hN
   refine wgf rfl rfl rfl (hV 3 _ rfl (hdd 3 rfl)) (fun qg => hN _ _ hK (bif_t qg).symm trivial) fun qg => ?_
   simp [go_sem, (show ak.tmps[11]?.getD undef = _ from (hV 4 _ rfl (hdd 4 rfl)).trans (bif_f qg)), (show ak.tmps[13]?.getD undef = _ from (hV 6 _ rfl (hdd 6 rfl)).trans (bif_f qg))]
   have hBi := hK.below0 hB
   refine (sIsWithin_c p r.limits b ra.limits ww hlp hpi (by unfold roomLen at hn; omega) hin.limits.halves (hsp.below hBi) (hs.limits.halves.below hBi) hnb hnl.limits).mono ?_
   rintro x wx ⟨rfl, hb⟩
   exact (hN _ _ (hK.call hb) (bif_f qg).symm trivial)
 · intro Lk ak ww hL hdd haa hF hK hV hX _ _ hN
   refine wgf rfl rfl rfl (hV 3 _ rfl (hdd 3 rfl)) (fun qg => hN _ _ hK (bif_t qg).symm trivial) fun qg => ?_
   exact wp_not rfl (ev ((hV 7 _ rfl (hdd 7 rfl)).trans (bif_f qg))) (hN _ _ hK (bif_f qg).symm trivial)
 · exact fun Lk ak ww hL hdd haa hF hK hV hX _ _ hN => wnt rfl (wp_pick rfl (ev (hV 3 _ rfl (hdd 3 rfl))) (fun h => vor_t h) (fun h => (ev ((hV 8 _ rfl (hdd 8 rfl)).trans (bif_f h))).trans (vor_f h)) (hN _ _ hK rfl trivial))
 intro L a5 w6 hL hF hK hV hX
 replace hz := hF.size.trans hz
 replace hdf := hF.defers.trans hdf
 replace s2 := hF.g rfl s2
 replace s3 := hF.g rfl s3
 have s16 : a5.tmps[16]?.getD undef = .bool (!(roomOk r) || !(regionOk p && regionOk r.limits && withinB p r.limits)) := hV 9 _ rfl
 replace b3 := b3.kp hK (by simp)
 replace b4 := b4.kp hK (by simp)
 replace hZ := Nat.le_trans hZ hK.size
 replace hB := hK.below0 hB
 clear hF hK hV hL hX
 refine th_n ?_
 rcases Bool.eq_false_or_eq_true (!(roomOk r) || !(regionOk p && regionOk r.limits && withinB p r.limits)) with q7 | q7
 · skip
   refine wp_cond_true (ev (vb s16 q7)) ?_
   refine wp_seq ?_
   refine wp_regJ (by kernel_rfl) [4] [some (.bool false)] ((List.range 1).map List.range) [4] [0] [] (fun _ _ _ => True) (by kernel_rfl) (by rw [hz]; decide) ?_ (ec ?_ .nil) ?_
   · exact fun _ _ => trivial
   · exact fun Lk ak ww hL hdd haa hF hK hV hX _ _ hN => wnt rfl (wp_assign rfl rfl (hN _ _ hK rfl trivial))
   intro L a8 w9 hL hF hK hV hX
   replace hz := hF.size.trans hz
   replace hdf := hF.defers.trans hdf
   have s4 : a8.tmps[4]?.getD undef = .bool false := hV 0 _ rfl
   replace hZ := Nat.le_trans hZ hK.size
   replace hB := hK.below0 hB
   clear hF hK hV hL hX s2 s3 s16 b3 b4
   refine th_n ?_
   refine wp_ret ?_
   refine th_r ?_
   refine bodyPost_ret (v := .bool false) (by simp [results, Tryz.results84, go_sem, s4]) hdf ?_
   exact ⟨by rw [kept_no q7], hB⟩
 · skip
   have hrp := kept_rp q7
   refine wp_cond_false (ev (vb s16 q7)) ?_
   refine wp_skip ?_
   refine th_n ?_
   refine wp_seq ?_
   refine wp_seq ?_
   refine wp_regJ (by kernel_rfl) [17, 18] [some (.agg #[.slice b.A p.length b.c]), some (.bool (decide (p.length = 0)))] ((List.range 2).map List.range) [17, 18] [0, 1] [] (fun _ _ _ => True) (by kernel_rfl) (by rw [hz]; decide) ?_ (ec ?_ (ec ?_ .nil)) ?_
   · exact fun _ _ => trivial
   · intro Lk ak ww hL hdd haa hF hK hV hX _ _ hN; refine wnt rfl ?_
     simp [go_sem, hF.g rfl s3, (b4.kp hK (by simp)).cell]
     exact (hN _ _ hK rfl trivial)
   · intro Lk ak ww hL hdd haa hF hK hV hX _ _ hN; refine wnt rfl ?_
     simp [go_sem, (gS ak 17 (hV 0 _ rfl (hdd 0 rfl)))]
     refine (sIsVoid_c p b ww).mono ?_
     rintro x wx ⟨rfl, hb⟩
     exact (hN _ _ (hK.call hb) rfl trivial)
   intro L a10 w11 hL hF hK hV hX
   replace hz := hF.size.trans hz
   replace hdf := hF.defers.trans hdf
   replace s2 := hF.g rfl s2
   replace s3 := hF.g rfl s3
   have s18 : a10.tmps[18]?.getD undef = .bool (decide (p.length = 0)) := hV 1 _ rfl
   replace b3 := b3.kp hK (by simp)
   replace b4 := b4.kp hK (by simp)
   replace hZ := Nat.le_trans hZ hK.size
   replace hB := hK.below0 hB
   clear hF hK hV hL hX s16
   refine th_n ?_
   rcases Bool.eq_false_or_eq_true (decide (p.length = 0)) with q12 | q12
   · skip
     refine wp_cond_true (ev (vb s18 q12)) ?_
     refine wp_seq ?_
     refine wp_regJ (by kernel_rfl) [4] [some (.bool true)] ((List.range 1).map List.range) [4] [0] [] (fun _ _ _ => True) (by kernel_rfl) (by rw [hz]; decide) ?_ (ec ?_ .nil) ?_
     · exact fun _ _ => trivial
     · exact fun Lk ak ww hL hdd haa hF hK hV hX _ _ hN => wnt rfl (wp_assign rfl rfl (hN _ _ hK rfl trivial))
     intro L a13 w14 hL hF hK hV hX
     replace hz := hF.size.trans hz
     replace hdf := hF.defers.trans hdf
     have s4 : a13.tmps[4]?.getD undef = .bool true := hV 0 _ rfl
     replace hZ := Nat.le_trans hZ hK.size
     replace hB := hK.below0 hB
     clear hF hK hV hL hX s2 s3 s18 b3 b4
     refine th_n ?_
     refine wp_ret ?_
     refine th_r ?_
     refine bodyPost_ret (v := .bool true) (by simp [results, Tryz.results84, go_sem, s4]) hdf ?_
     exact ⟨by rw [kept_void q7 (of_decide_eq_true q12)], hB⟩
   · skip
     refine wp_cond_false (ev (vb s18 q12)) ?_
     refine wp_skip ?_
     refine th_n ?_
     refine wp_seq ?_
     have hXb : StaysX [5, 19, 22, 23] (fun L aa ww => (L 2 = true → (fun ww v => ∃ A1 c1, v = .tuple #[.agg #[.slice A1 ((preR r p).length) c1], .bool (preOk r p)] ∧ New 111 3 halfC ww w11.heap.size (.slice A1 (preR r p).length c1) (preR r p)) ww (aa.tmps[22]?.getD undef)) ∧ (L 3 = true → (fun ww v => ∃ A1 c1, v = .tuple #[.agg #[.slice A1 ((preR r p).length) c1], .bool (preOk r p)] ∧ New 111 3 halfC ww w11.heap.size (.slice A1 (preR r p).length c1) (preR r p)) ww (aa.tmps[19]?.getD undef)) ∧ (L 4 = true → (fun ww v => ∃ A1 c1, v = .agg #[.slice A1 ((preR r p).length) c1] ∧ New 111 3 halfC ww w11.heap.size (.slice A1 (preR r p).length c1) (preR r p)) ww (aa.tmps[23]?.getD undef)) ∧ (L 6 = true → BoxX w11 aa ww 5 37 [.slice none 0 0] (L 7) (fun ww vs => ∃ A1 c1, vs = [.slice A1 ((preR r p).length) c1] ∧ New 111 3 halfC ww w11.heap.size (.slice A1 (preR r p).length c1) (preR r p)))) := by
      intro L aa ww w' kk vv hkk hb hX
      obtain ⟨x0, x1, x2, x3⟩ := hX
      exact ⟨(fun h => by rw [put_ne' (hkk 22 (by simp))]; obtain ⟨A1', c1', e, f1'⟩ := x0 h; exact ⟨A1', c1', e, f1'.below hb leR⟩), (fun h => by rw [put_ne' (hkk 19 (by simp))]; obtain ⟨A1', c1', e, f1'⟩ := x1 h; exact ⟨A1', c1', e, f1'.below hb leR⟩), (fun h => by rw [put_ne' (hkk 23 (by simp))]; obtain ⟨A1', c1', e, f1'⟩ := x2 h; exact ⟨A1', c1', e, f1'.below hb leR⟩), (fun h => ((x3 h).bel hb (fun _ ⟨A1', c1', e, f1'⟩ => ⟨A1', c1', e, f1'.below hb leR⟩)).put (hkk 5 (by simp)) _)⟩
     refine wp_regK hXb (by kernel_rfl) [20, 21, 22, 19, 23, 24, 5, 0, 6] [some (roomV r ra), some (.agg #[.slice b.A p.length b.c]), none, none, none, some (.bool (preOk r p)), none, none, some (.bool (preOk r p))] ((List.range 9).map List.range) [20, 21, 22, 19, 23, 24, 5, 6] [0, 1, 2, 3, 4, 5, 6, 7, 8] [] (by kernel_rfl) (by rw [hz]; decide) ?_ (ec ?_ (ec ?_ (ec ?_ (ec ?_ (ec ?_ (ec ?_ (ec ?_ (ec ?_ (ec ?_ .nil))))))))) ?_
     · exact fun _ h => ⟨(fun h => by cases h), (fun h => by cases h), (fun h => by cases h), (fun h => by cases h)⟩
     · intro Lk ak ww hL hdd haa hF hK hV hX _ _ hN; refine wnt rfl ?_
       simp [go_sem, hF.g rfl s2, (b3.kp hK (by simp)).cell]
       exact (hN _ _ hK rfl (hXb Lk ak ww _ (some 20) _ (by simp) bR hX))
     · intro Lk ak ww hL hdd haa hF hK hV hX _ _ hN; refine wnt rfl ?_
       simp [go_sem, hF.g rfl s3, (b4.kp hK (by simp)).cell]
       exact (hN _ _ hK rfl (hXb Lk ak ww _ (some 21) _ (by simp) bR hX))
     · intro Lk ak ww hL hdd haa hF hK hV hX _ _ hN
       obtain ⟨x0, x1, x2, x3⟩ := hX
       refine wnt rfl ?_
       simp [go_sem, (gS ak 20 (hV 0 _ rfl (hdd 0 rfl))), (gS ak 21 (hV 1 _ rfl (hdd 1 rfl)))]
       have hBi := hK.below0 hB
       refine (sPre_c r p ra b ww hn hin (hs.below hBi) hnl hlp hpi (hsp.below hBi) hnb hrp.1 hrp.2).mono ?_
       rintro x wx ⟨_, rfl, ⟨A1, c1, rfl, f0⟩, hb⟩
       have f1 := New.mono (show New 111 3 halfC wx ww.heap.size (.slice A1 (preR r p).length c1) (preR r p) from ⟨_, _, rfl, f0⟩) hK.size
       exact (hN _ _ (hK.call hb) trivial ⟨(fun _ => by rw [put_get_self (hF.lt (by rw [hz]; decide))]; exact ⟨A1, c1, rfl, f1⟩), (fun h => by rw [put_ne' (by decide)]; obtain ⟨A1', c1', e, f1'⟩ := x1 h; exact ⟨A1', c1', e, f1'.below hb leR⟩), (fun h => by rw [put_ne' (by decide)]; obtain ⟨A1', c1', e, f1'⟩ := x2 h; exact ⟨A1', c1', e, f1'.below hb leR⟩), (fun h => ((x3 h).bel hb (fun _ ⟨A1', c1', e, f1'⟩ => ⟨A1', c1', e, f1'.below hb leR⟩)).put (by decide) _)⟩)
     · intro Lk ak ww hL hdd haa hF hK hV hX _ _ hN
       obtain ⟨x0, x1, x2, x3⟩ := hX
       refine wnt rfl ?_
       obtain ⟨A1, c1, ee2, f1⟩ := x0 (hdd 2 rfl)
       exact wp_move rfl (ev ee2) (hN _ _ hK trivial ⟨(fun h => by rw [put_ne' (by decide)]; obtain ⟨A1', c1', e, f1'⟩ := x0 h; exact ⟨A1', c1', e, f1'.below bR leR⟩), (fun _ => by rw [put_get_self (hF.lt (by rw [hz]; decide))]; exact ⟨A1, c1, rfl, f1⟩), (fun h => by rw [put_ne' (by decide)]; obtain ⟨A1', c1', e, f1'⟩ := x2 h; exact ⟨A1', c1', e, f1'.below bR leR⟩), (fun h => ((x3 h).bel bR (fun _ ⟨A1', c1', e, f1'⟩ => ⟨A1', c1', e, f1'.below bR leR⟩)).put (by decide) _)⟩)
     · intro Lk ak ww hL hdd haa hF hK hV hX _ _ hN
       obtain ⟨x0, x1, x2, x3⟩ := hX
       refine wnt rfl ?_
       obtain ⟨A1, c1, ee3, f1⟩ := x1 (hdd 3 rfl)
       exact wp_extract rfl (ev ee3) rfl (hN _ _ hK trivial ⟨(fun h => by rw [put_ne' (by decide)]; obtain ⟨A1', c1', e, f1'⟩ := x0 h; exact ⟨A1', c1', e, f1'.below bR leR⟩), (fun h => by rw [put_ne' (by decide)]; obtain ⟨A1', c1', e, f1'⟩ := x1 h; exact ⟨A1', c1', e, f1'.below bR leR⟩), (fun _ => by rw [put_get_self (hF.lt (by rw [hz]; decide))]; exact ⟨A1, c1, rfl, f1⟩), (fun h => ((x3 h).bel bR (fun _ ⟨A1', c1', e, f1'⟩ => ⟨A1', c1', e, f1'.below bR leR⟩)).put (by decide) _)⟩)
     · intro Lk ak ww hL hdd haa hF hK hV hX _ _ hN
       obtain ⟨x0, x1, x2, x3⟩ := hX
       refine wnt rfl ?_
       obtain ⟨A1, c1, ee3, f1⟩ := x1 (hdd 3 rfl)
       exact wp_extract rfl (ev ee3) rfl (hN _ _ hK rfl (hXb Lk ak ww _ (some 24) _ (by simp) bR ⟨x0, x1, x2, x3⟩))
     · intro Lk ak ww hL hdd haa hF hK hV hX _ _ hN
       obtain ⟨x0, x1, x2, x3⟩ := hX
       refine wnt rfl ?_
       simp [go_sem]
       exact hN _ _ (hK.alloc _) trivial ⟨(fun h => by rw [put_ne' (by decide)]; obtain ⟨A1', c1', e, f1'⟩ := x0 h; exact ⟨A1', c1', e, f1'.below (below_al bR _) leR⟩), (fun h => by rw [put_ne' (by decide)]; obtain ⟨A1', c1', e, f1'⟩ := x1 h; exact ⟨A1', c1', e, f1'.below (below_al bR _) leR⟩), (fun h => by rw [put_ne' (by decide)]; obtain ⟨A1', c1', e, f1'⟩ := x2 h; exact ⟨A1', c1', e, f1'.below (below_al bR _) leR⟩), (fun _ => by rw [show upd Lk 6 7 = false from haa 7 rfl]; exact BoxX.new (s := 5) (hF.lt (by rw [hz]; decide)) hK.size [.slice none 0 0])⟩
     · intro Lk ak ww hL hdd haa hF hK hV hX _ _ hN
       obtain ⟨x0, x1, x2, x3⟩ := hX
       refine wnt rfl ?_
       obtain ⟨A1, c1, ee4, f1⟩ := x2 (hdd 4 rfl)
       obtain ⟨g, eg, hg, y, _⟩ := x3 (hdd 6 rfl)
       have HT := y hL
       simp [go_sem, ee4, eg, HT.cell, HT.frz]
       have f1 := f1.otherC (f1.typ HT (by decide)) [.slice A1 ((preR r p).length) c1] 0
       exact hN undef _ (hK.store (.inl hg) [.slice A1 ((preR r p).length) c1] 0) trivial ⟨(fun h => by obtain ⟨A1', c1', e, f1'⟩ := x0 h; exact ⟨A1', c1', e, f1'.otherC (f1'.typ HT (by decide)) [.slice A1 ((preR r p).length) c1] 0⟩), (fun h => by obtain ⟨A1', c1', e, f1'⟩ := x1 h; exact ⟨A1', c1', e, f1'.otherC (f1'.typ HT (by decide)) [.slice A1 ((preR r p).length) c1] 0⟩), (fun h => by obtain ⟨A1', c1', e, f1'⟩ := x2 h; exact ⟨A1', c1', e, f1'.otherC (f1'.typ HT (by decide)) [.slice A1 ((preR r p).length) c1] 0⟩), (fun _ => BoxX.set eg hg HT (us := [.slice A1 ((preR r p).length) c1]) rfl ⟨A1, c1, rfl, f1⟩)⟩
     · exact fun Lk ak ww hL hdd haa hF hK hV hX _ _ hN => wnt rfl (wp_assign rfl (ev (hV 5 _ rfl (hdd 5 rfl))) (hN _ _ hK rfl (hXb Lk ak ww _ (some 6) _ (by simp) bR hX)))
     intro L a15 w16 hL hF hK hV hX
     obtain ⟨x0, x1, x2, x3⟩ := hX
     replace hz := hF.size.trans hz
     replace hdf := hF.defers.trans hdf
     replace s3 := hF.g rfl s3
     have s6 : a15.tmps[6]?.getD undef = .bool (preOk r p) := hV 8 _ rfl
     replace b4 := b4.kp hK (by simp)
     obtain ⟨g17, s5, lg17, -, b17⟩ := x3 (hL 6 (by decide))
     obtain ⟨_, b17, A1, c1, rfl, N1⟩ := b17 (hL 7 (by decide))
     have i1 : ∀ p, A1 = some p → p.block < w16.heap.size := fun p hp => (N1.blk p hp).2
     have ug17 := b17.lt
     have zw11 := hZ
     have zw16 := hK.size
     replace hZ := Nat.le_refl w16.heap.size
     replace hB := hK.below0 hB
     clear hF hK hV hL x0 x1 x2 x3 hXb s2 s18 b3
     refine th_n ?_
     refine wp_seq ?_
     refine wp_regJ (by kernel_rfl) [25, 26, 27, 28, 29, 30, 4] [some (.bool (preOk r p)), some (.bool (preOk r p)), some ((bif preOk r p then (.agg #[.slice b.A p.length b.c] : Value) else undef)), some ((bif preOk r p then (.agg #[.slice A1 ((preR r p).length) c1] : Value) else undef)), some ((bif preOk r p then (.bool ((regionOk p && regionOk (preR r p) && withinB p (preR r p))) : Value) else undef)), some (.bool (preOk r p && (regionOk p && regionOk (preR r p) && withinB p (preR r p)))), some (.bool (preOk r p && (regionOk p && regionOk (preR r p) && withinB p (preR r p))))] ((List.range 7).map List.range) [25, 26, 27, 28, 29, 30, 4] [0, 1, 2, 3, 4, 5, 6] [] (fun _ _ _ => True) (by kernel_rfl) (by rw [hz]; decide) ?_ (ec ?_ (ec ?_ (ec ?_ (ec ?_ (ec ?_ (ec ?_ (ec ?_ .nil))))))) ?_
     · exact fun _ _ => trivial
     · exact fun Lk ak ww hL hdd haa hF hK hV hX _ _ hN => wnt rfl (wp_move rfl (ev (hF.g rfl s6)) (hN _ _ hK rfl trivial))
     · exact fun Lk ak ww hL hdd haa hF hK hV hX _ _ hN => wnt rfl (wp_move rfl (ev (hV 0 _ rfl (hdd 0 rfl))) (hN _ _ hK rfl trivial))
     · intro Lk ak ww hL hdd haa hF hK hV hX _ _ hN
       refine wgt rfl rfl rfl (hV 1 _ rfl (hdd 1 rfl)) (fun qg => hN _ _ hK (bif_f qg).symm trivial) fun qg => ?_
       simp [go_sem, hF.g rfl s3, (b4.kp hK (by simp)).cell]
       exact (hN _ _ hK (bif_t qg).symm trivial)
     · intro Lk ak ww hL hdd haa hF hK hV hX _ _ hN
       refine wgt rfl rfl rfl (hV 1 _ rfl (hdd 1 rfl)) (fun qg => hN _ _ hK (bif_f qg).symm trivial) fun qg => ?_
       simp [go_sem, hF.g rfl s5, (b17.kp hK (by simp)).cell]
       exact (hN _ _ hK (bif_t qg).symm trivial)
     · intro Lk ak ww hL hdd haa hF hK hV hX _ _ hN
       refine wgt rfl rfl rfl (hV 1 _ rfl (hdd 1 rfl)) (fun qg => hN _ _ hK (bif_f qg).symm trivial) fun qg => ?_
       simp [go_sem, (show ak.tmps[27]?.getD undef = _ from (hV 2 _ rfl (hdd 2 rfl)).trans (bif_t qg)), (show ak.tmps[28]?.getD undef = _ from (hV 3 _ rfl (hdd 3 rfl)).trans (bif_t qg))]
       have hBi := hK.below0 hB
       refine (sIsWithin_c p (preR r p) b ⟨A1, c1⟩ ww hlp hpi (Nat.le_trans (reg_len (preR_ok r p)) (by decide)) (fun h hh => hIn (hOk (reg_ok (preR_ok r p) h hh))) (hsp.below hBi) ((N1.below hK.toBelow leR).out halfC_len) hnb N1.nilcap).mono ?_
       rintro x wx ⟨rfl, hb⟩
       exact (hN _ _ (hK.call hb) (bif_t qg).symm trivial)
     · exact fun Lk ak ww hL hdd haa hF hK hV hX _ _ hN => wnt rfl (wp_pick rfl (ev (hV 1 _ rfl (hdd 1 rfl))) (fun h => (ev ((hV 4 _ rfl (hdd 4 rfl)).trans (bif_t h))).trans (vand_t h)) (fun h => vand_f h) (hN _ _ hK rfl trivial))
     · exact fun Lk ak ww hL hdd haa hF hK hV hX _ _ hN => wnt rfl (wp_assign rfl (ev (hV 5 _ rfl (hdd 5 rfl))) (hN _ _ hK rfl trivial))
     intro L a18 w19 hL hF hK hV hX
     replace hz := hF.size.trans hz
     replace hdf := hF.defers.trans hdf
     have s4 : a18.tmps[4]?.getD undef = .bool (preOk r p && (regionOk p && regionOk (preR r p) && withinB p (preR r p))) := hV 6 _ rfl
     replace hZ := Nat.le_trans hZ hK.size
     replace hB := hK.below0 hB
     clear hF hK hV hL hX s3 s6 s5 b4 b17 N1 i1
     refine th_n ?_
     refine wp_ret ?_
     refine bodyPost_ret (v := .bool (preOk r p && (regionOk p && regionOk (preR r p) && withinB p (preR r p)))) (by simp [results, Tryz.results84, go_sem, s4]) hdf ?_
     exact ⟨by rw [kept_yes q7, hrp.2, preR_ok r p, Bool.and_self, Bool.true_and], hB⟩
set_option maxRecDepth 100000 in
set_option maxHeartbeats 3000000 in
theorem sWatchOk_c (r : Room) (p : List Half) (l : List Int) (ra : RoomA) (b : SlA) (w : World) (hn : roomLen r ≤ 1048576) (hin : RoomIn r) (hs : RoomSl w r ra) (hnl : RoomNil ra) (hlp : p.length ≤ 1048576) (hpi : ∀ h ∈ p, h.In) (hsp : Sl 3 halfC w b.A p) (hnb : b.A = none → b.c = 0) (e : SlA) (hll : l.length ≤ 1048576) (hsl : Sl 1 intC w e.A l) :
    Calls Tryz.prog 31 #[.agg #[.slice ra.map.A r.map.length ra.map.c, .int .i64 r.div, .int .i64 r.bx, .int .i64 r.by_, .int .i64 r.low, .int .i64 r.high, .slice ra.noise.A r.noise.length ra.noise.c, .slice ra.limits.A r.limits.length ra.limits.c, .slice b.A p.length b.c, .slice e.A l.length e.c]] w fun x w' => x = .returned (.bool (watchB r p l)) ∧ Below w.heap.size w w' := by
 refine calls_v Tryz.func31 rfl (n := 33) Tryz.ntmps31 (by simp) ?_
 intro a0 hz hdf ha
 have s0 : a0.tmps[0]?.getD undef = .agg #[.slice ra.map.A r.map.length ra.map.c, .int .i64 r.div, .int .i64 r.bx, .int .i64 r.by_, .int .i64 r.low, .int .i64 r.high, .slice ra.noise.A r.noise.length ra.noise.c, .slice ra.limits.A r.limits.length ra.limits.c, .slice b.A p.length b.c, .slice e.A l.length e.c] := ha 0 _ rfl
 clear ha
 have hB := Below.refl w.heap.size w
 have hZ := Nat.le_refl w.heap.size
 refine wp_seq ?_
 refine wp_entry [1, 2] [.pointer (some ⟨w.heap.size, 0, none⟩), .bool false] [some (.cells [.slice ra.map.A r.map.length ra.map.c, .int .i64 r.div, .int .i64 r.bx, .int .i64 r.by_, .int .i64 r.low, .int .i64 r.high, .slice ra.noise.A r.noise.length ra.noise.c, .slice ra.limits.A r.limits.length ra.limits.c, .slice b.A p.length b.c, .slice e.A l.length e.c].toArray 68), none] [0, 1] [1, 2] [0, 1] (by kernel_rfl) (by rw [hz]; decide) (ec ?_ (ec ?_ .nil)) ?_
 · intro a w' hF hs N Q hN; simp [go_sem, hF.g rfl s0]; rw [hs]; exact hN
 · intro a w' hF hs N Q hN; simp [go_sem]; exact hN
 intro a1 w2 hF hV hb hO
 replace hz := hF.size.trans hz
 replace hdf := hF.defers.trans hdf
 have s1 : a1.tmps[1]?.getD undef = .pointer (some ⟨w.heap.size, 0, none⟩) := hV 0 (by decide)
 have b3 : HasT w2 w.heap.size 68 [.slice ra.map.A r.map.length ra.map.c, .int .i64 r.div, .int .i64 r.bx, .int .i64 r.by_, .int .i64 r.low, .int .i64 r.high, .slice ra.noise.A r.noise.length ra.noise.c, .slice ra.limits.A r.limits.length ra.limits.c, .slice b.A p.length b.c, .slice e.A l.length e.c] := hO 0 _ rfl
 have hG := b3.lt
 replace hB := below_tr hB hb
 have zw2 := Nat.le_trans hZ hb.size
 replace hZ := Nat.le_refl w2.heap.size
 clear hF hV hb hO s0
 refine th_n ?_
 refine wp_seq ?_
 refine wp_seq ?_
 refine wp_regJ (by kernel_rfl) [5, 6, 7, 8, 9, 10, 11, 12, 13, 14, 15, 16, 17, 18, 19, 20, 21] [some (.pointer (some ⟨w.heap.size, 8, none⟩)), some (.agg #[.slice b.A p.length b.c]), some (.bool (decide (p.length = 0))), some (.bool (decide (p.length = 0))), some ((bif decide (p.length = 0) then undef else (.pointer (some ⟨w.heap.size, 0, none⟩) : Value))), some ((bif decide (p.length = 0) then undef else (roomV r ra : Value))), some ((bif decide (p.length = 0) then undef else (.pointer (some ⟨w.heap.size, 8, none⟩) : Value))), some ((bif decide (p.length = 0) then undef else (.agg #[.slice b.A p.length b.c] : Value))), some ((bif decide (p.length = 0) then undef else (.bool (keptB r p) : Value))), some ((bif decide (p.length = 0) then undef else (.bool (!(keptB r p)) : Value))), some (.bool (decide (p.length = 0) || !(keptB r p))), some (.bool (decide (p.length = 0) || !(keptB r p))), some ((bif (decide (p.length = 0) || !(keptB r p)) then undef else (.pointer (some ⟨w.heap.size, 9, none⟩) : Value))), some ((bif (decide (p.length = 0) || !(keptB r p)) then undef else (.slice e.A l.length e.c : Value))), some ((bif (decide (p.length = 0) || !(keptB r p)) then undef else (.int .i64 (l.length : Int) : Value))), some ((bif (decide (p.length = 0) || !(keptB r p)) then undef else (.bool (decide ((l.length : Int) > 40)) : Value))), some (.bool ((decide (p.length = 0) || !(keptB r p)) || decide ((l.length : Int) > 40)))] ((List.range 17).map List.range) [5, 6, 7, 8, 9, 10, 11, 12, 13, 14, 15, 16, 17, 18, 19, 20, 21] [0, 1, 2, 3, 4, 5, 6, 7, 8, 9, 10, 11, 12, 13, 14, 15, 16] [] (fun _ _ _ => True) (by kernel_rfl) (by rw [hz]; decide) ?_ (ec ?_ (ec ?_ (ec ?_ (ec ?_ (ec ?_ (ec ?_ (ec ?_ (ec ?_ (ec ?_ (ec ?_ (ec ?_ (ec ?_ (ec ?_ (ec ?_ (ec ?_ (ec ?_ (ec ?_ .nil))))))))))))))))) ?_
 · exact fun _ _ => trivial
 · intro Lk ak ww hL hdd haa hF hK hV hX _ _ hN; refine wnt rfl ?_
   simp [go_sem, hF.g rfl s1]
   exact (hN _ _ hK rfl trivial)
 · intro Lk ak ww hL hdd haa hF hK hV hX _ _ hN; refine wnt rfl ?_
   simp [go_sem, (gS ak 5 (hV 0 _ rfl (hdd 0 rfl))), (b3.kp hK (by simp)).cell]
   exact (hN _ _ hK rfl trivial)
 · intro Lk ak ww hL hdd haa hF hK hV hX _ _ hN; refine wnt rfl ?_
   simp [go_sem, (gS ak 6 (hV 1 _ rfl (hdd 1 rfl)))]
   refine (sIsVoid_c p b ww).mono ?_
   rintro x wx ⟨rfl, hb⟩
   exact (hN _ _ (hK.call hb) rfl trivial)
 · exact fun Lk ak ww hL hdd haa hF hK hV hX _ _ hN => wnt rfl (wp_move rfl (ev (hV 2 _ rfl (hdd 2 rfl))) (hN _ _ hK rfl trivial))
 · intro Lk ak ww hL hdd haa hF hK hV hX _ _ hN
   refine wgf rfl rfl rfl (hV 3 _ rfl (hdd 3 rfl)) (fun qg => hN _ _ hK (bif_t qg).symm trivial) fun qg => ?_
   simp [go_sem, hF.g rfl s1]
   exact (hN _ _ hK (bif_f qg).symm trivial)
 · intro Lk ak ww hL hdd haa hF hK hV hX _ _ hN
   refine wgf rfl rfl rfl (hV 3 _ rfl (hdd 3 rfl)) (fun qg => hN _ _ hK (bif_t qg).symm trivial) fun qg => ?_
   simp [go_sem, (show ak.tmps[9]?.getD undef = _ from (hV 4 _ rfl (hdd 4 rfl)).trans (bif_f qg)), (b3.kp hK (by simp)).cell]
   exact (hN _ _ hK (bif_f qg).symm trivial)
 · intro Lk ak ww hL hdd haa hF hK hV hX _ _ hN
   refine wgf rfl rfl rfl (hV 3 _ rfl (hdd 3 rfl)) (fun qg => hN _ _ hK (bif_t qg).symm trivial) fun qg => ?_
   simp [go_sem, hF.g rfl s1]
   exact (hN _ _ hK (bif_f qg).symm trivial)
 · intro Lk ak ww hL hdd haa hF hK hV hX _ _ hN
   refine wgf rfl rfl rfl (hV 3 _ rfl (hdd 3 rfl)) (fun qg => hN _ _ hK (bif_t qg).symm trivial) fun qg => ?_
   simp [go_sem, (show ak.tmps[11]?.getD undef = _ from (hV 6 _ rfl (hdd 6 rfl)).trans (bif_f qg)), (b3.kp hK (by simp)).cell]
   exact (hN _ _ hK (bif_f qg).symm trivial)
 · intro Lk ak ww hL hdd haa hF hK hV hX _ _ hN
   refine wgf rfl rfl rfl (hV 3 _ rfl (hdd 3 rfl)) (fun qg => hN _ _ hK (bif_t qg).symm trivial) fun qg => ?_
   simp [go_sem, (show ak.tmps[10]?.getD undef = _ from (hV 5 _ rfl (hdd 5 rfl)).trans (bif_f qg)), (show ak.tmps[12]?.getD undef = _ from (hV 7 _ rfl (hdd 7 rfl)).trans (bif_f qg))]
   have hBi := hK.below0 hB
   refine (sKept_c r p ra b ww hn hin (hs.below hBi) hnl hlp hpi (hsp.below hBi) hnb).mono ?_
   rintro x wx ⟨rfl, hb⟩
   exact (hN _ _ (hK.call hb) (bif_f qg).symm trivial)
 · intro Lk ak ww hL hdd haa hF hK hV hX _ _ hN
   refine wgf rfl rfl rfl (hV 3 _ rfl (hdd 3 rfl)) (fun qg => hN _ _ hK (bif_t qg).symm trivial) fun qg => ?_
   exact wp_not rfl (ev ((hV 8 _ rfl (hdd 8 rfl)).trans (bif_f qg))) (hN _ _ hK (bif_f qg).symm trivial)
 · exact fun Lk ak ww hL hdd haa hF hK hV hX _ _ hN => wnt rfl (wp_pick rfl (ev (hV 3 _ rfl (hdd 3 rfl))) (fun h => vor_t h) (fun h => (ev ((hV 9 _ rfl (hdd 9 rfl)).trans (bif_f h))).trans (vor_f h)) (hN _ _ hK rfl trivial))
 · exact fun Lk ak ww hL hdd haa hF hK hV hX _ _ hN => wnt rfl (wp_move rfl (ev (hV 10 _ rfl (hdd 10 rfl))) (hN _ _ hK rfl trivial))
 · intro Lk ak ww hL hdd haa hF hK hV hX _ _ hN
   refine wgf rfl rfl rfl (hV 11 _ rfl (hdd 11 rfl)) (fun qg => hN _ _ hK (bif_t qg).symm trivial) fun qg => ?_
   simp [go_sem, hF.g rfl s1]
   exact (hN _ _ hK (bif_f qg).symm trivial)
 · intro Lk ak ww hL hdd haa hF hK hV hX _ _ hN
   refine wgf rfl rfl rfl (hV 11 _ rfl (hdd 11 rfl)) (fun qg => hN _ _ hK (bif_t qg).symm trivial) fun qg => ?_
   simp [go_sem, (show ak.tmps[17]?.getD undef = _ from (hV 12 _ rfl (hdd 12 rfl)).trans (bif_f qg)), (b3.kp hK (by simp)).cell]
   exact (hN _ _ hK (bif_f qg).symm trivial)
 · intro Lk ak ww hL hdd haa hF hK hV hX _ _ hN
   refine wgf rfl rfl rfl (hV 11 _ rfl (hdd 11 rfl)) (fun qg => hN _ _ hK (bif_t qg).symm trivial) fun qg => ?_
   simp [go_sem, (show ak.tmps[18]?.getD undef = _ from (hV 13 _ rfl (hdd 13 rfl)).trans (bif_f qg))]
   exact (hN _ _ hK (bif_f qg).symm trivial)
 · intro Lk ak ww hL hdd haa hF hK hV hX _ _ hN
   refine wgf rfl rfl rfl (hV 11 _ rfl (hdd 11 rfl)) (fun qg => hN _ _ hK (bif_t qg).symm trivial) fun qg => ?_
   exact wp_bin rfl (ev ((hV 14 _ rfl (hdd 14 rfl)).trans (bif_f qg))) rfl rfl rfl (hN _ _ hK (bif_f qg).symm trivial)
 · exact fun Lk ak ww hL hdd haa hF hK hV hX _ _ hN => wnt rfl (wp_pick rfl (ev (hV 11 _ rfl (hdd 11 rfl))) (fun h => vor_t h) (fun h => (ev ((hV 15 _ rfl (hdd 15 rfl)).trans (bif_f h))).trans (vor_f h)) (hN _ _ hK rfl trivial))
 intro L a4 w5 hL hF hK hV hX
 replace hz := hF.size.trans hz
 replace hdf := hF.defers.trans hdf
 replace s1 := hF.g rfl s1
 have s21 : a4.tmps[21]?.getD undef = .bool ((decide (p.length = 0) || !(keptB r p)) || decide ((l.length : Int) > 40)) := hV 16 _ rfl
 replace b3 := b3.kp hK (by simp)
 replace hZ := Nat.le_trans hZ hK.size
 replace hB := hK.below0 hB
 clear hF hK hV hL hX
 refine th_n ?_
 rcases Bool.eq_false_or_eq_true ((decide (p.length = 0) || !(keptB r p)) || decide ((l.length : Int) > 40)) with q6 | q6
 · skip
   refine wp_cond_true (ev (vb s21 q6)) ?_
   refine wp_seq ?_
   refine wp_regJ (by kernel_rfl) [2] [some (.bool false)] ((List.range 1).map List.range) [2] [0] [] (fun _ _ _ => True) (by kernel_rfl) (by rw [hz]; decide) ?_ (ec ?_ .nil) ?_
   · exact fun _ _ => trivial
   · exact fun Lk ak ww hL hdd haa hF hK hV hX _ _ hN => wnt rfl (wp_assign rfl rfl (hN _ _ hK rfl trivial))
   intro L a7 w8 hL hF hK hV hX
   replace hz := hF.size.trans hz
   replace hdf := hF.defers.trans hdf
   have s2 : a7.tmps[2]?.getD undef = .bool false := hV 0 _ rfl
   replace hZ := Nat.le_trans hZ hK.size
   replace hB := hK.below0 hB
   clear hF hK hV hL hX s1 s21 b3
   refine th_n ?_
   refine wp_ret ?_
   refine th_r ?_
   refine bodyPost_ret (v := .bool false) (by simp [results, Tryz.results31, go_sem, s2]) hdf ?_
   exact ⟨by rw [watch_no q6], hB⟩
 · skip
   refine wp_cond_false (ev (vb s21 q6)) ?_
   refine wp_skip ?_
   refine th_n ?_
   refine wp_seq ?_
   refine wp_seq ?_
   refine wp_regJ (by kernel_rfl) [22, 23, 24, 25] [some (.pointer (some ⟨w.heap.size, 9, none⟩)), some (.slice e.A l.length e.c), some (.int .i64 (l.length : Int)), some (.int .i64 0)] ((List.range 4).map List.range) [22, 23, 24, 25] [0, 1, 2, 3] [] (fun _ _ _ => True) (by kernel_rfl) (by rw [hz]; decide) ?_ (ec ?_ (ec ?_ (ec ?_ (ec ?_ .nil)))) ?_
   · exact fun _ _ => trivial
   · intro Lk ak ww hL hdd haa hF hK hV hX _ _ hN; refine wnt rfl ?_
     simp [go_sem, hF.g rfl s1]
     exact (hN _ _ hK rfl trivial)
   · intro Lk ak ww hL hdd haa hF hK hV hX _ _ hN; refine wnt rfl ?_
     simp [go_sem, (gS ak 22 (hV 0 _ rfl (hdd 0 rfl))), (b3.kp hK (by simp)).cell]
     exact (hN _ _ hK rfl trivial)
   · intro Lk ak ww hL hdd haa hF hK hV hX _ _ hN; refine wnt rfl ?_
     simp [go_sem, (gS ak 23 (hV 1 _ rfl (hdd 1 rfl)))]
     exact (hN _ _ hK rfl trivial)
   · exact fun Lk ak ww hL hdd haa hF hK hV hX _ _ hN => wnt rfl (wp_move rfl rfl (hN _ _ hK rfl trivial))
   intro L a9 w10 hL hF hK hV hX
   replace hz := hF.size.trans hz
   replace hdf := hF.defers.trans hdf
   have s23 : a9.tmps[23]?.getD undef = .slice e.A l.length e.c := hV 1 _ rfl
   have s24 : a9.tmps[24]?.getD undef = .int .i64 (l.length : Int) := hV 2 _ rfl
   have s25 : a9.tmps[25]?.getD undef = .int .i64 0 := hV 3 _ rfl
   replace hZ := Nat.le_trans hZ hK.size
   replace hB := hK.below0 hB
   clear hF hK hV hL hX s1 s21 b3
   refine th_n ?_
   refine wp_block ?_
   refine wp_loop (fun al wl => al.tmps.size = 33 ∧ al.defers = [] ∧ ∃ (k : Nat), (k ≤ l.length) ∧ (logB (l.take k) = true) ∧ al.tmps[23]?.getD undef = .slice e.A l.length e.c ∧ al.tmps[24]?.getD undef = .int .i64 (l.length : Int) ∧ al.tmps[25]?.getD undef = .int .i64 (k : Int) ∧ Below w.heap.size w wl ∧ w2.heap.size ≤ wl.heap.size) (fun al _ => (l.length - (intOf (al.tmps[25]?.getD undef)).toNat)) ?_ ?_
   · exact ⟨hz, hdf, (0), (Nat.zero_le _), (rfl), s23, s24, s25, hB, (by omega)⟩
   clear hz hdf hB hZ s23 s24 s25
   rintro a11 w12 ⟨hz, hdf, k, hk, hall, s23, s24, s25, hB, hZ⟩
   have zw12 := hZ
   replace hZ := Nat.le_refl w12.heap.size
   have hmu : (l.length - (intOf (a11.tmps[25]?.getD undef)).toNat) = (l.length - (intOf ((.int .i64 (k : Int)))).toNat) := by rw [s25]
   refine wp_seq ?_
   refine wp_regJ (by kernel_rfl) [26] [some (.bool (decide ((k : Int) < (l.length : Int))))] ((List.range 1).map List.range) [26] [0] [] (fun _ _ _ => True) (by kernel_rfl) (by rw [hz]; decide) ?_ (ec ?_ .nil) ?_
   · exact fun _ _ => trivial
   · exact fun Lk ak ww hL hdd haa hF hK hV hX _ _ hN => wnt rfl (wp_bin rfl (ev (hF.g rfl s25)) (ev (hF.g rfl s24)) rfl rfl (hN _ _ hK rfl trivial))
   intro L a13 w14 hL hF hK hV hX
   replace hz := hF.size.trans hz
   replace hdf := hF.defers.trans hdf
   replace s23 := hF.g rfl s23
   replace s24 := hF.g rfl s24
   replace s25 := hF.g rfl s25
   have s26 : a13.tmps[26]?.getD undef = .bool (decide ((k : Int) < (l.length : Int))) := hV 0 _ rfl
   replace hZ := Nat.le_trans hZ hK.size
   replace hB := hK.below0 hB
   clear hF hK hV hL hX
   refine th_n ?_
   refine wp_seq ?_
   rcases Bool.eq_false_or_eq_true (decide ((k : Int) < (l.length : Int))) with q15 | q15
   · skip
     have hkl : k < l.length := by have := dec_t q15; omega
     obtain ⟨bl, ol, el, fe⟩ := ElS.open_ (hsl.below hB) (by omega)
     refine wp_cond_true (ev (vb s26 q15)) ?_
     refine wp_skip ?_
     refine th_n ?_
     refine wp_seq ?_
     refine wp_block ?_
     refine wp_seq ?_
     refine wp_regJ (by kernel_rfl) [27, 28, 4] [some (.pointer (some ⟨bl, ol + k, none⟩)), some (.int .i64 (l.getD k 0)), some (.int .i64 (l.getD k 0))] ((List.range 3).map List.range) [27, 28, 4] [0, 1, 2] [] (fun _ _ _ => True) (by kernel_rfl) (by rw [hz]; decide) ?_ (ec ?_ (ec ?_ (ec ?_ .nil))) ?_
     · exact fun _ _ => trivial
     · intro Lk ak ww hL hdd haa hF hK hV hX _ _ hN; refine wnt rfl ?_
       simp [go_sem, hF.g rfl s23, hF.g rfl s25, hkl, el]
       exact (hN _ _ hK rfl trivial)
     · intro Lk ak ww hL hdd haa hF hK hV hX _ _ hN; refine wnt rfl ?_
       have hE := fe.kp hK (by simp)
       simp [go_sem, (gS ak 27 (hV 0 _ rfl (hdd 0 rfl))), (hE.at_ 0 (i := k) (by omega) 0 (p := ol + k) (by omega) rfl)]
       exact (hN _ _ hK rfl trivial)
     · exact fun Lk ak ww hL hdd haa hF hK hV hX _ _ hN => wnt rfl (wp_assign rfl (ev (hV 1 _ rfl (hdd 1 rfl))) (hN _ _ hK rfl trivial))
     intro L a16 w17 hL hF hK hV hX
     replace hz := hF.size.trans hz
     replace hdf := hF.defers.trans hdf
     replace s23 := hF.g rfl s23
     replace s24 := hF.g rfl s24
     replace s25 := hF.g rfl s25
     have s4 : a16.tmps[4]?.getD undef = .int .i64 (l.getD k 0) := hV 2 _ rfl
     replace hZ := Nat.le_trans hZ hK.size
     replace hB := hK.below0 hB
     clear hF hK hV hL hX s26 fe
     refine th_n ?_
     refine wp_seq ?_
     refine wp_regJ (by kernel_rfl) [29, 30, 31] [some (.int .i64 (l.getD k 0)), some (.bool (inR (l.getD k 0) 1 3)), some (.bool (!(inR (l.getD k 0) 1 3)))] ((List.range 3).map List.range) [29, 30, 31] [0, 1, 2] [] (fun _ _ _ => True) (by kernel_rfl) (by rw [hz]; decide) ?_ (ec ?_ (ec ?_ (ec ?_ .nil))) ?_
     · exact fun _ _ => trivial
     · exact fun Lk ak ww hL hdd haa hF hK hV hX _ _ hN => wnt rfl (wp_move rfl (ev (hF.g rfl s4)) (hN _ _ hK rfl trivial))
     · intro Lk ak ww hL hdd haa hF hK hV hX _ _ hN; refine wnt rfl ?_
       simp [go_sem, (gS ak 29 (hV 0 _ rfl (hdd 0 rfl)))]
       refine (l01In_c (l.getD k 0) 1 3 ww).mono ?_
       rintro x wx ⟨rfl, rfl⟩
       exact (hN _ _ hK rfl trivial)
     · exact fun Lk ak ww hL hdd haa hF hK hV hX _ _ hN => wnt rfl (wp_not rfl (ev (hV 1 _ rfl (hdd 1 rfl))) (hN _ _ hK rfl trivial))
     intro L a18 w19 hL hF hK hV hX
     replace hz := hF.size.trans hz
     replace hdf := hF.defers.trans hdf
     replace s23 := hF.g rfl s23
     replace s24 := hF.g rfl s24
     replace s25 := hF.g rfl s25
     have s31 : a18.tmps[31]?.getD undef = .bool (!(inR (l.getD k 0) 1 3)) := hV 2 _ rfl
     replace hZ := Nat.le_trans hZ hK.size
     replace hB := hK.below0 hB
     clear hF hK hV hL hX s4
     refine th_n ?_
     rcases Bool.eq_false_or_eq_true (!(inR (l.getD k 0) 1 3)) with q20 | q20
     · skip
       refine wp_cond_true (ev (vb s31 q20)) ?_
       refine wp_seq ?_
       refine wp_regJ (by kernel_rfl) [2] [some (.bool false)] ((List.range 1).map List.range) [2] [0] [] (fun _ _ _ => True) (by kernel_rfl) (by rw [hz]; decide) ?_ (ec ?_ .nil) ?_
       · exact fun _ _ => trivial
       · exact fun Lk ak ww hL hdd haa hF hK hV hX _ _ hN => wnt rfl (wp_assign rfl rfl (hN _ _ hK rfl trivial))
       intro L a21 w22 hL hF hK hV hX
       replace hz := hF.size.trans hz
       replace hdf := hF.defers.trans hdf
       have s2 : a21.tmps[2]?.getD undef = .bool false := hV 0 _ rfl
       replace hZ := Nat.le_trans hZ hK.size
       replace hB := hK.below0 hB
       clear hF hK hV hL hX s23 s24 s25 s31
       refine th_n ?_
       refine wp_ret ?_
       refine ib_r (th_r (th_r (ib_r (th_r ?_))))
       refine bodyPost_ret (v := .bool false) (by simp [results, Tryz.results31, go_sem, s2]) hdf ?_
       exact ⟨by rw [watch_yes q6, log_stop hkl (not_t q20)], hB⟩
     · skip
       refine wp_cond_false (ev (vb s31 q20)) ?_
       refine wp_skip ?_
       refine ib_n (th_n ?_)
       refine wp_regJ (by kernel_rfl) [32, 25] [some (.int .i64 ((k : Int) + 1)), some (.int .i64 ((k : Int) + 1))] ((List.range 2).map List.range) [32, 25] [0, 1] [] (fun L aa ww => (L 1 = false → aa.tmps[25]?.getD undef = .int .i64 (k : Int))) (by kernel_rfl) (by rw [hz]; decide) ?_ (ec ?_ (ec ?_ .nil)) ?_
       · exact fun _ h => (fun _ => s25)
       · intro Lk ak ww hL hdd haa hF hK hV hX _ _ hN
         have x0 := hX
         refine wnt rfl ?_
         exact wp_add rfl (ev (x0 (haa 1 rfl))) rfl (by omega) (hN _ _ hK rfl (fun h => (put_ne' (by decide) _).trans (x0 h)))
       · intro Lk ak ww hL hdd haa hF hK hV hX _ _ hN
         have x0 := hX
         refine wnt rfl ?_
         exact wp_move rfl (ev (hV 0 _ rfl (hdd 0 rfl))) (hN _ _ hK rfl (fun h => by simp [upd] at h))
       intro L a23 w24 hL hF hK hV hX
       have x0 := hX
       replace hz := hF.size.trans hz
       replace hdf := hF.defers.trans hdf
       replace s23 := hF.g rfl s23
       replace s24 := hF.g rfl s24
       have s25 : a23.tmps[25]?.getD undef = .int .i64 ((k : Int) + 1) := hV 1 _ rfl
       replace hZ := Nat.le_trans hZ hK.size
       replace hB := hK.below0 hB
       clear hF hK hV hL x0 s31
       refine th_n ?_
       refine ⟨?_, ?_⟩
       · exact ⟨hz, hdf, (k + 1), (by omega), (log_next hkl hall (not_f q20)), s23, s24, s25, hB, (by omega)⟩
       · show (l.length - (intOf (a23.tmps[25]?.getD undef)).toNat) < _
         rw [s25, hmu]; simp only [intOf]; omega
   · skip
     have ek : k = l.length := by have := dec_f q15; omega
     rw [ek, List.take_length] at hall
     refine wp_cond_false (ev (vb s26 q15)) ?_
     refine wp_exit ?_
     refine th_e (th_e (ib_x (th_n ?_)))
     refine wp_seq ?_
     refine wp_regJ (by kernel_rfl) [2] [some (.bool true)] ((List.range 1).map List.range) [2] [0] [] (fun _ _ _ => True) (by kernel_rfl) (by rw [hz]; decide) ?_ (ec ?_ .nil) ?_
     · exact fun _ _ => trivial
     · exact fun Lk ak ww hL hdd haa hF hK hV hX _ _ hN => wnt rfl (wp_assign rfl rfl (hN _ _ hK rfl trivial))
     intro L a25 w26 hL hF hK hV hX
     replace hz := hF.size.trans hz
     replace hdf := hF.defers.trans hdf
     have s2 : a25.tmps[2]?.getD undef = .bool true := hV 0 _ rfl
     replace hZ := Nat.le_trans hZ hK.size
     replace hB := hK.below0 hB
     clear hF hK hV hL hX s23 s24 s25 s26
     refine th_n ?_
     refine wp_ret ?_
     refine bodyPost_ret (v := .bool true) (by simp [results, Tryz.results31, go_sem, s2]) hdf ?_
     exact ⟨by rw [watch_yes q6, hall], hB⟩
end Go.Proofs.YtdncnhcffbgjhaaGreat
