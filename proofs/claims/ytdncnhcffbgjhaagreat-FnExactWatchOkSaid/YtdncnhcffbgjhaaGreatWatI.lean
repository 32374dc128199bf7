/-
  Whether a watch is valid: of the program.
  Conditions: the slices hold at most 2^20 elements.
-/
import Derived.Test.YtdncnhcffbgjhaaGreatKept
namespace Go.Proofs.YtdncnhcffbgjhaaGreat
open Go.RowKit

def logB (l : List Int) : Bool := l.all fun x => inR x 1 3
def watchB (r : Room) (p : List Half) (l : List Int) : Bool := !decide ((l.length : Int) > 40) && logB l && (!decide (p.length = 0) && keptB r p)
theorem log_next {l : List Int} {k : Nat} (h : k < l.length) (h1 : logB (l.take k) = true) (hb : inR (l.getD k 0) 1 3 = true) : logB (l.take (k + 1)) = true := by
  rw [getD_el h] at hb
  unfold logB at h1 ⊢
  rw [List.take_add_one, List.getElem?_eq_getElem h, List.all_append, h1]
  simp [hb]
theorem log_stop {l : List Int} {k : Nat} (h : k < l.length) (hb : inR (l.getD k 0) 1 3 = false) : logB l = false := by
  rw [getD_el h] at hb
  unfold logB
  rw [List.all_eq_false]
  exact ⟨_, List.getElem_mem h, by rw [hb]; decide⟩
set_option maxRecDepth 100000 in
set_option maxHeartbeats 3000000 in
theorem iWatchOk_c (r : Room) (p : List Half) (l : List Int) (ra : RoomA) (b : SlA) (w : World) (hn : roomLen r ≤ 1048576) (hin : RoomIn r) (hs : RoomSl w r ra) (hnl : RoomNil ra) (hlp : p.length ≤ 1048576) (hpi : ∀ h ∈ p, h.In) (hsp : Sl 3 halfC w b.A p) (hnb : b.A = none → b.c = 0) (e : SlA) (hll : l.length ≤ 1048576) (hsl : Sl 1 intC w e.A l) :
    Calls Tryz.prog 33 #[.agg #[.slice ra.map.A r.map.length ra.map.c, .int .i64 r.div, .int .i64 r.bx, .int .i64 r.by_, .int .i64 r.low, .int .i64 r.high, .slice ra.noise.A r.noise.length ra.noise.c, .slice ra.limits.A r.limits.length ra.limits.c, .slice b.A p.length b.c, .slice e.A l.length e.c]] w fun x w' => x = .returned (.bool (watchB r p l)) ∧ Below w.heap.size w w' := by
 refine calls_v Tryz.func33 rfl (n := 31) Tryz.ntmps33 (by simp) ?_
 intro a0 hz hdf ha
 have s0 : a0.tmps[0]?.getD undef = .agg #[.slice ra.map.A r.map.length ra.map.c, .int .i64 r.div, .int .i64 r.bx, .int .i64 r.by_, .int .i64 r.low, .int .i64 r.high, .slice ra.noise.A r.noise.length ra.noise.c, .slice ra.limits.A r.limits.length ra.limits.c, .slice b.A p.length b.c, .slice e.A l.length e.c] := ha 0 _ rfl
 clear ha
 have hB := Below.refl w.heap.size w
 have hZ := Nat.le_refl w.heap.size
 refine wp_seq ?_
 refine wp_entry [1, 2] [.pointer (some ⟨w.heap.size, 0, none⟩), .bool false] [some (.cells [.slice ra.map.A r.map.length ra.map.c, .int .i64 r.div, .int .i64 r.bx, .int .i64 r.by_, .int .i64 r.low, .int .i64 r.high, .slice ra.noise.A r.noise.length ra.noise.c, .slice ra.limits.A r.limits.length ra.limits.c, .slice b.A p.length b.c, .slice e.A l.length e.c].toArray 68), none] [0, 1] [1, 2] [0, 1] (by kernel_rfl) (by rw [hz]; decide) (ec ?_ (ec ?_ .nil)) ?_
 · intro a w' hF hs N Q hN; simp [go_sem, hF.g rfl s0]; rw [hs]; exact hN
 · intro a w' hF hs N Q hN; simp [go_sem]; exact hN
 intro a1 w2 hF hV hb hO
 replace hz := hF.size.trans hz
 replace hdf := hF.defers.trans hdf
 have s1 : a1.tmps[1]?.getD undef = .pointer (some ⟨w.heap.size, 0, none⟩) := hV 0 (by decide)
 have b3 : HasT w2 w.heap.size 68 [.slice ra.map.A r.map.length ra.map.c, .int .i64 r.div, .int .i64 r.bx, .int .i64 r.by_, .int .i64 r.low, .int .i64 r.high, .slice ra.noise.A r.noise.length ra.noise.c, .slice ra.limits.A r.limits.length ra.limits.c, .slice b.A p.length b.c, .slice e.A l.length e.c] := hO 0 _ rfl
 have hG := b3.lt
 replace hB := below_tr hB hb
 have zw2 := Nat.le_trans hZ hb.size
 replace hZ := Nat.le_refl w2.heap.size
 clear hF hV hb hO s0
 refine th_n ?_
 refine wp_seq ?_
 refine wp_seq ?_
 refine wp_regJ (by kernel_rfl) [5, 6, 7, 8] [some (.pointer (some ⟨w.heap.size, 9, none⟩)), some (.slice e.A l.length e.c), some (.int .i64 (l.length : Int)), some (.bool (decide ((l.length : Int) > 40)))] ((List.range 4).map List.range) [5, 6, 7, 8] [0, 1, 2, 3] [] (fun _ _ _ => True) (by kernel_rfl) (by rw [hz]; decide) ?_ (ec ?_ (ec ?_ (ec ?_ (ec ?_ .nil)))) ?_
 · exact fun _ _ => trivial
 · intro Lk ak ww hL hdd haa hF hK hV hX _ _ hN; refine wnt rfl ?_
   simp [go_sem, hF.g rfl s1]
   exact (hN _ _ hK rfl trivial)
 · intro Lk ak ww hL hdd haa hF hK hV hX _ _ hN; refine wnt rfl ?_
   simp [go_sem, (gS ak 5 (hV 0 _ rfl (hdd 0 rfl))), (b3.kp hK (by simp)).cell]
   exact (hN _ _ hK rfl trivial)
 · intro Lk ak ww hL hdd haa hF hK hV hX _ _ hN; refine wnt rfl ?_
   simp [go_sem, (gS ak 6 (hV 1 _ rfl (hdd 1 rfl)))]
   exact (hN _ _ hK rfl trivial)
 · exact fun Lk ak ww hL hdd haa hF hK hV hX _ _ hN => wnt rfl (wp_bin rfl (ev (hV 2 _ rfl (hdd 2 rfl))) rfl rfl rfl (hN _ _ hK rfl trivial))
 intro L a4 w5 hL hF hK hV hX
 replace hz := hF.size.trans hz
 replace hdf := hF.defers.trans hdf
 replace s1 := hF.g rfl s1
 have s8 : a4.tmps[8]?.getD undef = .bool (decide ((l.length : Int) > 40)) := hV 3 _ rfl
 replace b3 := b3.kp hK (by simp)
 replace hZ := Nat.le_trans hZ hK.size
 replace hB := hK.below0 hB
 clear hF hK hV hL hX
 refine th_n ?_
 rcases Bool.eq_false_or_eq_true (decide ((l.length : Int) > 40)) with q6 | q6
 · skip
   refine wp_cond_true (ev (vb s8 q6)) ?_
   refine wp_seq ?_
   refine wp_regJ (by kernel_rfl) [2] [some (.bool false)] ((List.range 1).map List.range) [2] [0] [] (fun _ _ _ => True) (by kernel_rfl) (by rw [hz]; decide) ?_ (ec ?_ .nil) ?_
   · exact fun _ _ => trivial
   · exact fun Lk ak ww hL hdd haa hF hK hV hX _ _ hN => wnt rfl (wp_assign rfl rfl (hN _ _ hK rfl trivial))
   intro L a7 w8 hL hF hK hV hX
   replace hz := hF.size.trans hz
   replace hdf := hF.defers.trans hdf
   have s2 : a7.tmps[2]?.getD undef = .bool false := hV 0 _ rfl
   replace hZ := Nat.le_trans hZ hK.size
   replace hB := hK.below0 hB
   clear hF hK hV hL hX s1 s8 b3
   refine th_n ?_
   refine wp_ret ?_
   refine th_r ?_
   refine bodyPost_ret (v := .bool false) (by simp [results, Tryz.results33, go_sem, s2]) hdf ?_
   exact ⟨by unfold watchB; rw [q6]; rfl, hB⟩
 · skip
   refine wp_cond_false (ev (vb s8 q6)) ?_
   refine wp_skip ?_
   refine th_n ?_
   refine wp_seq ?_
   refine wp_seq ?_
   refine wp_regJ (by kernel_rfl) [9, 10, 11, 12] [some (.pointer (some ⟨w.heap.size, 9, none⟩)), some (.slice e.A l.length e.c), some (.int .i64 (l.length : Int)), some (.int .i64 0)] ((List.range 4).map List.range) [9, 10, 11, 12] [0, 1, 2, 3] [] (fun _ _ _ => True) (by kernel_rfl) (by rw [hz]; decide) ?_ (ec ?_ (ec ?_ (ec ?_ (ec ?_ .nil)))) ?_
   · exact fun _ _ => trivial
   · intro Lk ak ww hL hdd haa hF hK hV hX _ _ hN; refine wnt rfl ?_
     simp [go_sem, hF.g rfl s1]
     exact (hN _ _ hK rfl trivial)
   · intro Lk ak ww hL hdd haa hF hK hV hX _ _ hN; refine wnt rfl ?_
     simp [go_sem, (gS ak 9 (hV 0 _ rfl (hdd 0 rfl))), (b3.kp hK (by simp)).cell]
     exact (hN _ _ hK rfl trivial)
   · intro Lk ak ww hL hdd haa hF hK hV hX _ _ hN; refine wnt rfl ?_
     simp [go_sem, (gS ak 10 (hV 1 _ rfl (hdd 1 rfl)))]
     exact (hN _ _ hK rfl trivial)
   · exact fun Lk ak ww hL hdd haa hF hK hV hX _ _ hN => wnt rfl (wp_move rfl rfl (hN _ _ hK rfl trivial))
   intro L a9 w10 hL hF hK hV hX
   replace hz := hF.size.trans hz
   replace hdf := hF.defers.trans hdf
   replace s1 := hF.g rfl s1
   have s10 : a9.tmps[10]?.getD undef = .slice e.A l.length e.c := hV 1 _ rfl
   have s11 : a9.tmps[11]?.getD undef = .int .i64 (l.length : Int) := hV 2 _ rfl
   have s12 : a9.tmps[12]?.getD undef = .int .i64 0 := hV 3 _ rfl
   replace b3 := b3.kp hK (by simp)
   replace hZ := Nat.le_trans hZ hK.size
   replace hB := hK.below0 hB
   clear hF hK hV hL hX s8
   refine th_n ?_
   refine wp_block ?_
   refine wp_loop (fun al wl => al.tmps.size = 31 ∧ al.defers = [] ∧ ∃ (k : Nat), (k ≤ l.length) ∧ (logB (l.take k) = true) ∧ al.tmps[1]?.getD undef = .pointer (some ⟨w.heap.size, 0, none⟩) ∧ al.tmps[10]?.getD undef = .slice e.A l.length e.c ∧ al.tmps[11]?.getD undef = .int .i64 (l.length : Int) ∧ al.tmps[12]?.getD undef = .int .i64 (k : Int) ∧ HasT wl w.heap.size 68 [.slice ra.map.A r.map.length ra.map.c, .int .i64 r.div, .int .i64 r.bx, .int .i64 r.by_, .int .i64 r.low, .int .i64 r.high, .slice ra.noise.A r.noise.length ra.noise.c, .slice ra.limits.A r.limits.length ra.limits.c, .slice b.A p.length b.c, .slice e.A l.length e.c] ∧ Below w.heap.size w wl ∧ w2.heap.size ≤ wl.heap.size) (fun al _ => (l.length - (intOf (al.tmps[12]?.getD undef)).toNat)) ?_ ?_
   · exact ⟨hz, hdf, (0), (Nat.zero_le _), (rfl), s1, s10, s11, s12, b3, hB, (by omega)⟩
   clear hz hdf hB hZ s1 s10 s11 s12 b3
   rintro a11 w12 ⟨hz, hdf, k, hk, hall, s1, s10, s11, s12, b3, hB, hZ⟩
   have zw12 := hZ
   replace hZ := Nat.le_refl w12.heap.size
   have hmu : (l.length - (intOf (a11.tmps[12]?.getD undef)).toNat) = (l.length - (intOf ((.int .i64 (k : Int)))).toNat) := by rw [s12]
   refine wp_seq ?_
   refine wp_regJ (by kernel_rfl) [13] [some (.bool (decide ((k : Int) < (l.length : Int))))] ((List.range 1).map List.range) [13] [0] [] (fun _ _ _ => True) (by kernel_rfl) (by rw [hz]; decide) ?_ (ec ?_ .nil) ?_
   · exact fun _ _ => trivial
   · exact fun Lk ak ww hL hdd haa hF hK hV hX _ _ hN => wnt rfl (wp_bin rfl (ev (hF.g rfl s12)) (ev (hF.g rfl s11)) rfl rfl (hN _ _ hK rfl trivial))
   intro L a13 w14 hL hF hK hV hX
   replace hz := hF.size.trans hz
   replace hdf := hF.defers.trans hdf
   replace s1 := hF.g rfl s1
   replace s10 := hF.g rfl s10
   replace s11 := hF.g rfl s11
   replace s12 := hF.g rfl s12
   have s13 : a13.tmps[13]?.getD undef = .bool (decide ((k : Int) < (l.length : Int))) := hV 0 _ rfl
   replace b3 := b3.kp hK (by simp)
   replace hZ := Nat.le_trans hZ hK.size
   replace hB := hK.below0 hB
   clear hF hK hV hL hX
   refine th_n ?_
   refine wp_seq ?_
   rcases Bool.eq_false_or_eq_true (decide ((k : Int) < (l.length : Int))) with q15 | q15
   · skip
     have hkl : k < l.length := by have := dec_t q15; omega
     obtain ⟨bl, ol, el, fe⟩ := ElS.open_ (hsl.below hB) (by omega)
     refine wp_cond_true (ev (vb s13 q15)) ?_
     refine wp_skip ?_
     refine th_n ?_
     refine wp_seq ?_
     refine wp_block ?_
     refine wp_seq ?_
     refine wp_regJ (by kernel_rfl) [14, 15, 4] [some (.pointer (some ⟨bl, ol + k, none⟩)), some (.int .i64 (l.getD k 0)), some (.int .i64 (l.getD k 0))] ((List.range 3).map List.range) [14, 15, 4] [0, 1, 2] [] (fun _ _ _ => True) (by kernel_rfl) (by rw [hz]; decide) ?_ (ec ?_ (ec ?_ (ec ?_ .nil))) ?_
     · exact fun _ _ => trivial
     · intro Lk ak ww hL hdd haa hF hK hV hX _ _ hN; refine wnt rfl ?_
       simp [go_sem, hF.g rfl s10, hF.g rfl s12, hkl, el]
       exact (hN _ _ hK rfl trivial)
     · intro Lk ak ww hL hdd haa hF hK hV hX _ _ hN; refine wnt rfl ?_
       have hE := fe.kp hK (by simp)
       simp [go_sem, (gS ak 14 (hV 0 _ rfl (hdd 0 rfl))), (hE.at_ 0 (i := k) (by omega) 0 (p := ol + k) (by omega) rfl)]
       exact (hN _ _ hK rfl trivial)
     · exact fun Lk ak ww hL hdd haa hF hK hV hX _ _ hN => wnt rfl (wp_assign rfl (ev (hV 1 _ rfl (hdd 1 rfl))) (hN _ _ hK rfl trivial))
     intro L a16 w17 hL hF hK hV hX
     replace hz := hF.size.trans hz
     replace hdf := hF.defers.trans hdf
     replace s1 := hF.g rfl s1
     replace s10 := hF.g rfl s10
     replace s11 := hF.g rfl s11
     replace s12 := hF.g rfl s12
     have s4 : a16.tmps[4]?.getD undef = .int .i64 (l.getD k 0) := hV 2 _ rfl
     replace b3 := b3.kp hK (by simp)
     replace hZ := Nat.le_trans hZ hK.size
     replace hB := hK.below0 hB
     clear hF hK hV hL hX s13 fe
     refine th_n ?_
     refine wp_seq ?_
     refine wp_regJ (by kernel_rfl) [16, 17, 18] [some (.int .i64 (l.getD k 0)), some (.bool (inR (l.getD k 0) 1 3)), some (.bool (!(inR (l.getD k 0) 1 3)))] ((List.range 3).map List.range) [16, 17, 18] [0, 1, 2] [] (fun _ _ _ => True) (by kernel_rfl) (by rw [hz]; decide) ?_ (ec ?_ (ec ?_ (ec ?_ .nil))) ?_
     · exact fun _ _ => trivial
     · exact fun Lk ak ww hL hdd haa hF hK hV hX _ _ hN => wnt rfl (wp_move rfl (ev (hF.g rfl s4)) (hN _ _ hK rfl trivial))
     · intro Lk ak ww hL hdd haa hF hK hV hX _ _ hN; refine wnt rfl ?_
       simp [go_sem, (gS ak 16 (hV 0 _ rfl (hdd 0 rfl)))]
       refine (inRange_c (l.getD k 0) 1 3 ww).mono ?_
       rintro x wx ⟨rfl, rfl⟩
       exact (hN _ _ hK rfl trivial)
     · exact fun Lk ak ww hL hdd haa hF hK hV hX _ _ hN => wnt rfl (wp_not rfl (ev (hV 1 _ rfl (hdd 1 rfl))) (hN _ _ hK rfl trivial))
     intro L a18 w19 hL hF hK hV hX
     replace hz := hF.size.trans hz
     replace hdf := hF.defers.trans hdf
     replace s1 := hF.g rfl s1
     replace s10 := hF.g rfl s10
     replace s11 := hF.g rfl s11
     replace s12 := hF.g rfl s12
     have s18 : a18.tmps[18]?.getD undef = .bool (!(inR (l.getD k 0) 1 3)) := hV 2 _ rfl
     replace b3 := b3.kp hK (by simp)
     replace hZ := Nat.le_trans hZ hK.size
     replace hB := hK.below0 hB
     clear hF hK hV hL hX s4
     refine th_n ?_
     rcases Bool.eq_false_or_eq_true (!(inR (l.getD k 0) 1 3)) with q20 | q20
     · skip
       refine wp_cond_true (ev (vb s18 q20)) ?_
       refine wp_seq ?_
       refine wp_regJ (by kernel_rfl) [2] [some (.bool false)] ((List.range 1).map List.range) [2] [0] [] (fun _ _ _ => True) (by kernel_rfl) (by rw [hz]; decide) ?_ (ec ?_ .nil) ?_
       · exact fun _ _ => trivial
       · exact fun Lk ak ww hL hdd haa hF hK hV hX _ _ hN => wnt rfl (wp_assign rfl rfl (hN _ _ hK rfl trivial))
       intro L a21 w22 hL hF hK hV hX
       replace hz := hF.size.trans hz
       replace hdf := hF.defers.trans hdf
       have s2 : a21.tmps[2]?.getD undef = .bool false := hV 0 _ rfl
       replace hZ := Nat.le_trans hZ hK.size
       replace hB := hK.below0 hB
       clear hF hK hV hL hX s1 s10 s11 s12 s18 b3
       refine th_n ?_
       refine wp_ret ?_
       refine ib_r (th_r (th_r (ib_r (th_r ?_))))
       refine bodyPost_ret (v := .bool false) (by simp [results, Tryz.results33, go_sem, s2]) hdf ?_
       exact ⟨by unfold watchB; rw [log_stop hkl (not_t q20), Bool.and_false]; rfl, hB⟩
     · skip
       refine wp_cond_false (ev (vb s18 q20)) ?_
       refine wp_skip ?_
       refine ib_n (th_n ?_)
       refine wp_regJ (by kernel_rfl) [19, 12] [some (.int .i64 ((k : Int) + 1)), some (.int .i64 ((k : Int) + 1))] ((List.range 2).map List.range) [19, 12] [0, 1] [] (fun L aa ww => (L 1 = false → aa.tmps[12]?.getD undef = .int .i64 (k : Int))) (by kernel_rfl) (by rw [hz]; decide) ?_ (ec ?_ (ec ?_ .nil)) ?_
       · exact fun _ h => (fun _ => s12)
       · intro Lk ak ww hL hdd haa hF hK hV hX _ _ hN
         have x0 := hX
         refine wnt rfl ?_
         exact wp_add rfl (ev (x0 (haa 1 rfl))) rfl (by omega) (hN _ _ hK rfl (fun h => (put_ne' (by decide) _).trans (x0 h)))
       · intro Lk ak ww hL hdd haa hF hK hV hX _ _ hN
         have x0 := hX
         refine wnt rfl ?_
         exact wp_move rfl (ev (hV 0 _ rfl (hdd 0 rfl))) (hN _ _ hK rfl (fun h => by simp [upd] at h))
       intro L a23 w24 hL hF hK hV hX
       have x0 := hX
       replace hz := hF.size.trans hz
       replace hdf := hF.defers.trans hdf
       replace s1 := hF.g rfl s1
       replace s10 := hF.g rfl s10
       replace s11 := hF.g rfl s11
       have s12 : a23.tmps[12]?.getD undef = .int .i64 ((k : Int) + 1) := hV 1 _ rfl
       replace b3 := b3.kp hK (by simp)
       replace hZ := Nat.le_trans hZ hK.size
       replace hB := hK.below0 hB
       clear hF hK hV hL x0 s18
       refine th_n ?_
       refine ⟨?_, ?_⟩
       · exact ⟨hz, hdf, (k + 1), (by omega), (log_next hkl hall (not_f q20)), s1, s10, s11, s12, b3, hB, (by omega)⟩
       · show (l.length - (intOf (a23.tmps[12]?.getD undef)).toNat) < _
         rw [s12, hmu]; simp only [intOf]; omega
   · skip
     have ek : k = l.length := by have := dec_f q15; omega
     rw [ek, List.take_length] at hall
     refine wp_cond_false (ev (vb s13 q15)) ?_
     refine wp_exit ?_
     refine th_e (th_e (ib_x (th_n ?_)))
     refine wp_seq ?_
     refine wp_regJ (by kernel_rfl) [20, 21, 22, 23, 24, 25, 26, 27, 28, 29, 30, 2] [some (.pointer (some ⟨w.heap.size, 8, none⟩)), some (.agg #[.slice b.A p.length b.c]), some (.bool (decide (p.length = 0))), some (.bool (!(decide (p.length = 0)))), some (.bool (!(decide (p.length = 0)))), some ((bif !(decide (p.length = 0)) then (.pointer (some ⟨w.heap.size, 0, none⟩) : Value) else undef)), some ((bif !(decide (p.length = 0)) then (roomV r ra : Value) else undef)), some ((bif !(decide (p.length = 0)) then (.pointer (some ⟨w.heap.size, 8, none⟩) : Value) else undef)), some ((bif !(decide (p.length = 0)) then (.agg #[.slice b.A p.length b.c] : Value) else undef)), some ((bif !(decide (p.length = 0)) then (.bool (keptB r p) : Value) else undef)), some (.bool (!(decide (p.length = 0)) && keptB r p)), some (.bool (!(decide (p.length = 0)) && keptB r p))] ((List.range 12).map List.range) [20, 21, 22, 23, 24, 25, 26, 27, 28, 29, 30, 2] [0, 1, 2, 3, 4, 5, 6, 7, 8, 9, 10, 11] [] (fun _ _ _ => True) (by kernel_rfl) (by rw [hz]; decide) ?_ (ec ?_ (ec ?_ (ec ?_ (ec ?_ (ec ?_ (ec ?_ (ec ?_ (ec ?_ (ec ?_ (ec ?_ (ec ?_ (ec ?_ .nil)))))))))))) ?_
     · exact fun _ _ => trivial
     · intro Lk ak ww hL hdd haa hF hK hV hX _ _ hN; refine wnt rfl ?_
       simp [go_sem, hF.g rfl s1]
       exact (hN _ _ hK rfl trivial)
     · intro Lk ak ww hL hdd haa hF hK hV hX _ _ hN; refine wnt rfl ?_
       simp [go_sem, (gS ak 20 (hV 0 _ rfl (hdd 0 rfl))), (b3.kp hK (by simp)).cell]
       exact (hN _ _ hK rfl trivial)
     · intro Lk ak ww hL hdd haa hF hK hV hX _ _ hN; refine wnt rfl ?_
       simp [go_sem, (gS ak 21 (hV 1 _ rfl (hdd 1 rfl)))]
       refine (iIsVoid_c p b ww).mono ?_
       rintro x wx ⟨rfl, hb⟩
       exact (hN _ _ (hK.call hb) rfl trivial)
     · exact fun Lk ak ww hL hdd haa hF hK hV hX _ _ hN => wnt rfl (wp_not rfl (ev (hV 2 _ rfl (hdd 2 rfl))) (hN _ _ hK rfl trivial))
     · exact fun Lk ak ww hL hdd haa hF hK hV hX _ _ hN => wnt rfl (wp_move rfl (ev (hV 3 _ rfl (hdd 3 rfl))) (hN _ _ hK rfl trivial))
     · intro Lk ak ww hL hdd haa hF hK hV hX _ _ hN
       refine wgt rfl rfl rfl (hV 4 _ rfl (hdd 4 rfl)) (fun qg => hN _ _ hK (bif_f qg).symm trivial) fun qg => ?_
       simp [go_sem, hF.g rfl s1]
       exact (hN _ _ hK (bif_t qg).symm trivial)
     · intro Lk ak ww hL hdd haa hF hK hV hX _ _ hN
       refine wgt rfl rfl rfl (hV 4 _ rfl (hdd 4 rfl)) (fun qg => hN _ _ hK (bif_f qg).symm trivial) fun qg => ?_
       simp [go_sem, (show ak.tmps[25]?.getD undef = _ from (hV 5 _ rfl (hdd 5 rfl)).trans (bif_t qg)), (b3.kp hK (by simp)).cell]
       exact (hN _ _ hK (bif_t qg).symm trivial)
     · intro Lk ak ww hL hdd haa hF hK hV hX _ _ hN
       refine wgt rfl rfl rfl (hV 4 _ rfl (hdd 4 rfl)) (fun qg => hN _ _ hK (bif_f qg).symm trivial) fun qg => ?_
       simp [go_sem, hF.g rfl s1]
       exact (hN _ _ hK (bif_t qg).symm trivial)
     · intro Lk ak ww hL hdd haa hF hK hV hX _ _ hN
       refine wgt rfl rfl rfl (hV 4 _ rfl (hdd 4 rfl)) (fun qg => hN _ _ hK (bif_f qg).symm trivial) fun qg => ?_
       simp [go_sem, (show ak.tmps[27]?.getD undef = _ from (hV 7 _ rfl (hdd 7 rfl)).trans (bif_t qg)), (b3.kp hK (by simp)).cell]
       exact (hN _ _ hK (bif_t qg).symm trivial)
     · intro Lk ak ww hL hdd haa hF hK hV hX _ _ hN
       refine wgt rfl rfl rfl (hV 4 _ rfl (hdd 4 rfl)) (fun qg => hN _ _ hK (bif_f qg).symm trivial) fun qg => ?_
       simp [go_sem, (show ak.tmps[26]?.getD undef = _ from (hV 6 _ rfl (hdd 6 rfl)).trans (bif_t qg)), (show ak.tmps[28]?.getD undef = _ from (hV 8 _ rfl (hdd 8 rfl)).trans (bif_t qg))]
       have hBi := hK.below0 hB
       refine (iKept_c r p ra b ww hn hin (hs.below hBi) hnl hlp hpi (hsp.below hBi) hnb).mono ?_
       rintro x wx ⟨rfl, hb⟩
       exact (hN _ _ (hK.call hb) (bif_t qg).symm trivial)
     · exact fun Lk ak ww hL hdd haa hF hK hV hX _ _ hN => wnt rfl (wp_pick rfl (ev (hV 4 _ rfl (hdd 4 rfl))) (fun h => (ev ((hV 9 _ rfl (hdd 9 rfl)).trans (bif_t h))).trans (vand_t h)) (fun h => vand_f h) (hN _ _ hK rfl trivial))
     · exact fun Lk ak ww hL hdd haa hF hK hV hX _ _ hN => wnt rfl (wp_assign rfl (ev (hV 10 _ rfl (hdd 10 rfl))) (hN _ _ hK rfl trivial))
     intro L a25 w26 hL hF hK hV hX
     replace hz := hF.size.trans hz
     replace hdf := hF.defers.trans hdf
     have s2 : a25.tmps[2]?.getD undef = .bool (!(decide (p.length = 0)) && keptB r p) := hV 11 _ rfl
     replace hZ := Nat.le_trans hZ hK.size
     replace hB := hK.below0 hB
     clear hF hK hV hL hX s1 s10 s11 s12 s13 b3
     refine th_n ?_
     refine wp_ret ?_
     refine bodyPost_ret (v := .bool (!(decide (p.length = 0)) && keptB r p)) (by simp [results, Tryz.results33, go_sem, s2]) hdf ?_
     exact ⟨by unfold watchB; rw [q6, hall]; rfl, hB⟩
end Go.Proofs.YtdncnhcffbgjhaaGreat
