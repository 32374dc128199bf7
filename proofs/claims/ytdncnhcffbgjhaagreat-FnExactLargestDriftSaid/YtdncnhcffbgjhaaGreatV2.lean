/-
  The greatest drift that is admitted: of the program and of the reference.
  Conditions: the slices hold at most 2^20 elements.
-/
import Derived.Test.YtdncnhcffbgjhaaGreatV1
import Derived.Test.YtdncnhcffbgjhaaGreatAdmD
namespace Go.Proofs.YtdncnhcffbgjhaaGreat
open Go.RowKit

def largG (f : Int → Bool) : Nat → Int
  | 0 => -1
  | n + 1 => if f n = true then n else largG f n
def largD (r : Room) (p : List Half) (s : Spot) (most : Int) : Int := if inR most 0 100 = true then largG (fun n => (admDrift r p s n n).isSome) (most + 1).toNat else -1
theorem largG_yes {f : Int → Bool} {n : Int} (h0 : 0 ≤ n) (h : f n = true) : largG f (n + 1).toNat = n := by
  obtain ⟨k, rfl⟩ := Int.eq_ofNat_of_zero_le h0
  show (if f k = true then (k : Int) else largG f k) = k
  rw [if_pos h]
theorem largG_no {f : Int → Bool} {n : Int} (h0 : 0 ≤ n) (h : f n = false) : largG f (n + 1).toNat = largG f (n - 1 + 1).toNat := by
  obtain ⟨k, rfl⟩ := Int.eq_ofNat_of_zero_le h0
  rw [show ((k : Int) - 1 + 1).toNat = k by omega]
  show (if f k = true then (k : Int) else largG f k) = _
  rw [if_neg (by rw [h]; simp)]
set_option maxRecDepth 100000 in
set_option maxHeartbeats 3000000 in
theorem iLarg_c (r : Room) (p : List Half) (s : Spot) (most : Int) (ra : RoomA) (b : SlA) (w : World) (hn : roomLen r ≤ 1048576) (hin : RoomIn r) (hs : RoomSl w r ra) (hnl : RoomNil ra) (hlp : p.length ≤ 1048576) (hpi : ∀ h ∈ p, h.In) (hsp : Sl 3 halfC w b.A p) (hnb : b.A = none → b.c = 0) (hsi : s.In) :
    Calls Tryz.prog 29 #[roomV r ra, .agg #[.slice b.A p.length b.c], .agg #[.int .i64 s.x, .int .i64 s.y, .int .i64 s.d], .int .i64 most] w fun x w' => x = .returned (.int .i64 (largD r p s most)) ∧ Below w.heap.size w w' := by
 refine calls_v Tryz.func29 rfl (n := 31) Tryz.ntmps29 (by simp) ?_
 intro a0 hz hdf ha
 have s0 : a0.tmps[0]?.getD undef = roomV r ra := ha 0 _ rfl
 have s1 : a0.tmps[1]?.getD undef = .agg #[.slice b.A p.length b.c] := ha 1 _ rfl
 have s2 : a0.tmps[2]?.getD undef = .agg #[.int .i64 s.x, .int .i64 s.y, .int .i64 s.d] := ha 2 _ rfl
 have s3 : a0.tmps[3]?.getD undef = .int .i64 most := ha 3 _ rfl
 clear ha
 have hB := Below.refl w.heap.size w
 have hZ := Nat.le_refl w.heap.size
 refine wp_seq ?_
 refine wp_entry [4, 5, 6, 8] [.pointer (some ⟨w.heap.size, 0, none⟩), .pointer (some ⟨(w.heap.size + 1), 0, none⟩), .pointer (some ⟨(w.heap.size + 2), 0, none⟩), .int .i64 0] [some (.cells (roomC r ra).toArray 39), some (.cells [.slice b.A p.length b.c].toArray 37), some (.cells [.int .i64 s.x, .int .i64 s.y, .int .i64 s.d].toArray 57), none] [0, 1, 2, 3] [4, 5, 6, 8] [0, 1, 2, 3] (by kernel_rfl) (by rw [hz]; decide) (.cons ?_ (.cons ?_ (.cons ?_ (.cons ?_ .nil)))) ?_
 · intro a w' hF hs N Q hN; simp [go_sem, Array.getD_eq_getD_getElem?, hF.g rfl s0]; rw [hs]; exact hN
 · intro a w' hF hs N Q hN; simp [go_sem, Array.getD_eq_getD_getElem?, hF.g rfl s1]; rw [hs]; exact hN
 · intro a w' hF hs N Q hN; simp [go_sem, Array.getD_eq_getD_getElem?, hF.g rfl s2]; rw [hs]; exact hN
 · intro a w' hF hs N Q hN; simp [go_sem]; exact hN
 intro a1 w2 hF hV hb hO
 replace hz := hF.size.trans hz
 replace hdf := hF.defers.trans hdf
 replace s3 := hF.g rfl s3
 have s4 : a1.tmps[4]?.getD undef = .pointer (some ⟨w.heap.size, 0, none⟩) := hV 0 (by decide)
 have s5 : a1.tmps[5]?.getD undef = .pointer (some ⟨(w.heap.size + 1), 0, none⟩) := hV 1 (by decide)
 have s6 : a1.tmps[6]?.getD undef = .pointer (some ⟨(w.heap.size + 2), 0, none⟩) := hV 2 (by decide)
 have b3 : HasT w2 w.heap.size 39 (roomC r ra) := hO 0 _ rfl
 have b4 : HasT w2 (w.heap.size + 1) 37 [.slice b.A p.length b.c] := hO 1 _ rfl
 have b5 : HasT w2 (w.heap.size + 2) 57 [.int .i64 s.x, .int .i64 s.y, .int .i64 s.d] := hO 2 _ rfl
 have hG := b5.lt
 replace hB := below_tr hB hb
 have zw2 := Nat.le_trans hZ hb.size
 replace hZ := Nat.le_refl w2.heap.size
 clear hF hV hb hO s0 s1 s2
 refine th_n ?_
 refine wp_seq ?_
 refine wp_seq ?_
 refine wp_regJ (by kernel_rfl) [12, 13, 14] [some (.int .i64 most), some (.bool (inR most 0 100)), some (.bool (!(inR most 0 100)))] ((List.range 3).map List.range) [12, 13, 14] [0, 1, 2] [] (fun _ _ _ => True) (by kernel_rfl) (by rw [hz]; decide) ?_ (.cons ?_ (.cons ?_ (.cons ?_ .nil))) ?_
 · exact fun _ _ => trivial
 · intro Lk ak ww hL hdd haa hF hK hV hX Nk Qk hN; refine wnt rfl ?_
   exact wp_move rfl (ev (hF.g rfl s3)) (hN _ _ hK rfl trivial)
 · intro Lk ak ww hL hdd haa hF hK hV hX Nk Qk hN; refine wnt rfl ?_
   simp [go_sem, Array.getD_eq_getD_getElem?, (show ak.tmps[12]?.getD undef = _ from hV 0 _ rfl (hdd 0 rfl))]
   refine (isDrift_c most ww).mono ?_
   rintro x wx ⟨rfl, rfl⟩
   exact (hN _ _ hK rfl trivial)
 · intro Lk ak ww hL hdd haa hF hK hV hX Nk Qk hN; refine wnt rfl ?_
   exact wp_not rfl (ev (hV 1 _ rfl (hdd 1 rfl))) (hN _ _ hK rfl trivial)
 intro L a6 w7 hL hF hK hV hX
 replace hz := hF.size.trans hz
 replace hdf := hF.defers.trans hdf
 replace s3 := hF.g rfl s3
 replace s4 := hF.g rfl s4
 replace s5 := hF.g rfl s5
 replace s6 := hF.g rfl s6
 have s14 : a6.tmps[14]?.getD undef = .bool (!(inR most 0 100)) := hV 2 _ rfl
 replace b3 := b3.kp hK (by simp)
 replace b4 := b4.kp hK (by simp)
 replace b5 := b5.kp hK (by simp)
 replace hZ := Nat.le_trans hZ hK.size
 replace hB := hK.below0 hB
 clear hF hK hV hL hX
 refine th_n ?_
 rcases Bool.eq_false_or_eq_true (!(inR most 0 100)) with q8 | q8
 · skip
   refine wp_cond_true (ev (vb s14 q8)) ?_
   refine wp_seq ?_
   refine wp_regJ (by kernel_rfl) [8] [some (.int .i64 (-1))] ((List.range 1).map List.range) [8] [0] [] (fun _ _ _ => True) (by kernel_rfl) (by rw [hz]; decide) ?_ (.cons ?_ .nil) ?_
   · exact fun _ _ => trivial
   · intro Lk ak ww hL hdd haa hF hK hV hX Nk Qk hN; refine wnt rfl ?_
     exact wp_assign rfl rfl (hN _ _ hK rfl trivial)
   intro L a9 w10 hL hF hK hV hX
   replace hz := hF.size.trans hz
   replace hdf := hF.defers.trans hdf
   have s8 : a9.tmps[8]?.getD undef = .int .i64 (-1) := hV 0 _ rfl
   replace hZ := Nat.le_trans hZ hK.size
   replace hB := hK.below0 hB
   clear hF hK hV hL hX s3 s4 s5 s6 s14 b3 b4 b5
   refine th_n ?_
   refine wp_ret ?_
   refine th_r ?_
   refine bodyPost_ret (v := .int .i64 (-1)) (by simp [results, Tryz.results29, go_sem, Array.getD_eq_getD_getElem?, s8]) hdf ?_
   exact ⟨by rw [show largD r p s most = -1 from by unfold largD; rw [not_t q8, if_neg (by simp)]], hB⟩
 · skip
   refine wp_cond_false (ev (vb s14 q8)) ?_
   refine wp_skip ?_
   refine th_n ?_
   refine wp_seq ?_
   refine wp_seq ?_
   refine wp_regJ (by kernel_rfl) [15, 9] [some (.int .i64 most), some (.int .i64 most)] ((List.range 2).map List.range) [15, 9] [0, 1] [] (fun _ _ _ => True) (by kernel_rfl) (by rw [hz]; decide) ?_ (.cons ?_ (.cons ?_ .nil)) ?_
   · exact fun _ _ => trivial
   · intro Lk ak ww hL hdd haa hF hK hV hX Nk Qk hN; refine wnt rfl ?_
     exact wp_move rfl (ev (hF.g rfl s3)) (hN _ _ hK rfl trivial)
   · intro Lk ak ww hL hdd haa hF hK hV hX Nk Qk hN; refine wnt rfl ?_
     exact wp_assign rfl (ev (hV 0 _ rfl (hdd 0 rfl))) (hN _ _ hK rfl trivial)
   intro L a11 w12 hL hF hK hV hX
   replace hz := hF.size.trans hz
   replace hdf := hF.defers.trans hdf
   replace s4 := hF.g rfl s4
   replace s5 := hF.g rfl s5
   replace s6 := hF.g rfl s6
   have s9 : a11.tmps[9]?.getD undef = .int .i64 most := hV 1 _ rfl
   replace b3 := b3.kp hK (by simp)
   replace b4 := b4.kp hK (by simp)
   replace b5 := b5.kp hK (by simp)
   replace hZ := Nat.le_trans hZ hK.size
   replace hB := hK.below0 hB
   clear hF hK hV hL hX s3 s14
   refine th_n ?_
   refine wp_block ?_
   refine wp_loop (fun al wl => al.tmps.size = 31 ∧ al.defers = [] ∧ ∃ (n : Int), (-1 ≤ n ∧ n ≤ 100) ∧ (largG (fun n => (admDrift r p s n n).isSome) (most + 1).toNat = largG (fun n => (admDrift r p s n n).isSome) (n + 1).toNat) ∧ al.tmps[4]?.getD undef = .pointer (some ⟨w.heap.size, 0, none⟩) ∧ al.tmps[5]?.getD undef = .pointer (some ⟨(w.heap.size + 1), 0, none⟩) ∧ al.tmps[6]?.getD undef = .pointer (some ⟨(w.heap.size + 2), 0, none⟩) ∧ al.tmps[9]?.getD undef = .int .i64 n ∧ HasT wl w.heap.size 39 (roomC r ra) ∧ HasT wl (w.heap.size + 1) 37 [.slice b.A p.length b.c] ∧ HasT wl (w.heap.size + 2) 57 [.int .i64 s.x, .int .i64 s.y, .int .i64 s.d] ∧ Below w.heap.size w wl ∧ w2.heap.size ≤ wl.heap.size) (fun al _ => (intOf (al.tmps[9]?.getD undef) + 1).toNat) ?_ ?_
   · exact ⟨hz, hdf, (most), (by have := inR_iff.1 (not_f q8); omega), (rfl), s4, s5, s6, s9, b3, b4, b5, hB, (by omega)⟩
   clear hz hdf hB hZ s4 s5 s6 s9 b3 b4 b5
   rintro a13 w14 ⟨hz, hdf, n, hn1, hg, s4, s5, s6, s9, b3, b4, b5, hB, hZ⟩
   have hmu : (intOf (a13.tmps[9]?.getD undef) + 1).toNat = (intOf ((.int .i64 n)) + 1).toNat := by rw [s9]
   refine wp_seq ?_
   refine wp_seq ?_
   refine wp_regJ (by kernel_rfl) [16, 17] [some (.int .i64 n), some (.bool (decide (n ≥ 0)))] ((List.range 2).map List.range) [16, 17] [0, 1] [] (fun _ _ _ => True) (by kernel_rfl) (by rw [hz]; decide) ?_ (.cons ?_ (.cons ?_ .nil)) ?_
   · exact fun _ _ => trivial
   · intro Lk ak ww hL hdd haa hF hK hV hX Nk Qk hN; refine wnt rfl ?_
     exact wp_move rfl (ev (hF.g rfl s9)) (hN _ _ hK rfl trivial)
   · intro Lk ak ww hL hdd haa hF hK hV hX Nk Qk hN; refine wnt rfl ?_
     exact wp_bin rfl (ev (hV 0 _ rfl (hdd 0 rfl))) rfl rfl rfl (hN _ _ hK rfl trivial)
   intro L a15 w16 hL hF hK hV hX
   replace hz := hF.size.trans hz
   replace hdf := hF.defers.trans hdf
   replace s4 := hF.g rfl s4
   replace s5 := hF.g rfl s5
   replace s6 := hF.g rfl s6
   replace s9 := hF.g rfl s9
   have s16 : a15.tmps[16]?.getD undef = .int .i64 n := hV 0 _ rfl
   have s17 : a15.tmps[17]?.getD undef = .bool (decide (n ≥ 0)) := hV 1 _ rfl
   replace b3 := b3.kp hK (by simp)
   replace b4 := b4.kp hK (by simp)
   replace b5 := b5.kp hK (by simp)
   replace hZ := Nat.le_trans hZ hK.size
   replace hB := hK.below0 hB
   clear hF hK hV hL hX
   refine th_n ?_
   rcases Bool.eq_false_or_eq_true (decide (n ≥ 0)) with q17 | q17
   · skip
     refine wp_cond_true (ev (vb s17 q17)) ?_
     refine wp_skip ?_
     refine th_n ?_
     refine wp_seq ?_
     refine wp_block ?_
     refine wp_seq ?_
     refine wp_regJ (by kernel_rfl) [21, 22, 23, 24, 25, 26, 20, 27, 28, 10, 0, 11] [some (roomV r ra), some (.agg #[.slice b.A p.length b.c]), some (.agg #[.int .i64 s.x, .int .i64 s.y, .int .i64 s.d]), some (.int .i64 n), some (.int .i64 n), some (.tuple #[.agg #[.int .i64 (((admDrift r p s n n).getD span0).low.n), .int .i64 (((admDrift r p s n n).getD span0).low.d), .int .i64 (((admDrift r p s n n).getD span0).high.n), .int .i64 (((admDrift r p s n n).getD span0).high.d)], .bool ((admDrift r p s n n).isSome)]), some (.tuple #[.agg #[.int .i64 (((admDrift r p s n n).getD span0).low.n), .int .i64 (((admDrift r p s n n).getD span0).low.d), .int .i64 (((admDrift r p s n n).getD span0).high.n), .int .i64 (((admDrift r p s n n).getD span0).high.d)], .bool ((admDrift r p s n n).isSome)]), some (.agg #[.int .i64 (((admDrift r p s n n).getD span0).low.n), .int .i64 (((admDrift r p s n n).getD span0).low.d), .int .i64 (((admDrift r p s n n).getD span0).high.n), .int .i64 (((admDrift r p s n n).getD span0).high.d)]), some (.bool ((admDrift r p s n n).isSome)), none, none, some (.bool ((admDrift r p s n n).isSome))] ((List.range 12).map List.range) [21, 22, 23, 24, 25, 26, 20, 27, 28, 10, 11] [0, 1, 2, 3, 4, 5, 6, 7, 8, 9, 10, 11] [] (fun L aa ww => (L 9 = true → BoxX w16 aa ww 10 54 [.int .i64 0, .int .i64 0, .int .i64 0, .int .i64 0] (L 10) (fun _ vs => vs = [.int .i64 (((admDrift r p s n n).getD span0).low.n), .int .i64 (((admDrift r p s n n).getD span0).low.d), .int .i64 (((admDrift r p s n n).getD span0).high.n), .int .i64 (((admDrift r p s n n).getD span0).high.d)]))) (by kernel_rfl) (by rw [hz]; decide) ?_ (.cons ?_ (.cons ?_ (.cons ?_ (.cons ?_ (.cons ?_ (.cons ?_ (.cons ?_ (.cons ?_ (.cons ?_ (.cons ?_ (.cons ?_ (.cons ?_ .nil)))))))))))) ?_
     · exact fun _ h => (fun h => by cases h)
     · intro Lk ak ww hL hdd haa hF hK hV hX Nk Qk hN; refine wnt rfl ?_
       simp [go_sem, Array.getD_eq_getD_getElem?, hF.g rfl s4, (b3.kp hK (by simp)).cell]
       exact (hN _ _ hK rfl (fun h => ((hX h).bel (Below.refl _ _) (fun _ h => h)).put (by decide) _))
     · intro Lk ak ww hL hdd haa hF hK hV hX Nk Qk hN; refine wnt rfl ?_
       simp [go_sem, Array.getD_eq_getD_getElem?, hF.g rfl s5, (b4.kp hK (by simp)).cell]
       exact (hN _ _ hK rfl (fun h => ((hX h).bel (Below.refl _ _) (fun _ h => h)).put (by decide) _))
     · intro Lk ak ww hL hdd haa hF hK hV hX Nk Qk hN; refine wnt rfl ?_
       simp [go_sem, Array.getD_eq_getD_getElem?, hF.g rfl s6, (b5.kp hK (by simp)).cell]
       exact (hN _ _ hK rfl (fun h => ((hX h).bel (Below.refl _ _) (fun _ h => h)).put (by decide) _))
     · intro Lk ak ww hL hdd haa hF hK hV hX Nk Qk hN; refine wnt rfl ?_
       exact wp_move rfl (ev (hF.g rfl s9)) (hN _ _ hK rfl (fun h => ((hX h).bel (Below.refl _ _) (fun _ h => h)).put (by decide) _))
     · intro Lk ak ww hL hdd haa hF hK hV hX Nk Qk hN; refine wnt rfl ?_
       exact wp_move rfl (ev (hF.g rfl s9)) (hN _ _ hK rfl (fun h => ((hX h).bel (Below.refl _ _) (fun _ h => h)).put (by decide) _))
     · intro Lk ak ww hL hdd haa hF hK hV hX Nk Qk hN; refine wnt rfl ?_
       simp [go_sem, Array.getD_eq_getD_getElem?, (show ak.tmps[21]?.getD undef = _ from hV 0 _ rfl (hdd 0 rfl)), (show ak.tmps[22]?.getD undef = _ from hV 1 _ rfl (hdd 1 rfl)), (show ak.tmps[23]?.getD undef = _ from hV 2 _ rfl (hdd 2 rfl)), (show ak.tmps[24]?.getD undef = _ from hV 3 _ rfl (hdd 3 rfl)), (show ak.tmps[25]?.getD undef = _ from hV 4 _ rfl (hdd 4 rfl))]
       have hBi := hK.below0 hB
       refine (iAdmDrift_c r p s n n ra b ww hn hin (hs.below hBi) hnl hlp hpi (hsp.below hBi) hnb hsi).mono ?_
       rintro x wx ⟨rfl, hb⟩
       exact (hN _ _ (hK.call hb) (optSpan_eq _) (fun h => ((hX h).bel hb (fun _ h => h)).put (by decide) _))
     · intro Lk ak ww hL hdd haa hF hK hV hX Nk Qk hN; refine wnt rfl ?_
       exact wp_move rfl (ev (hV 5 _ rfl (hdd 5 rfl))) (hN _ _ hK rfl (fun h => ((hX h).bel (Below.refl _ _) (fun _ h => h)).put (by decide) _))
     · intro Lk ak ww hL hdd haa hF hK hV hX Nk Qk hN; refine wnt rfl ?_
       exact wp_extract rfl (ev (hV 6 _ rfl (hdd 6 rfl))) rfl (hN _ _ hK rfl (fun h => ((hX h).bel (Below.refl _ _) (fun _ h => h)).put (by decide) _))
     · intro Lk ak ww hL hdd haa hF hK hV hX Nk Qk hN; refine wnt rfl ?_
       exact wp_extract rfl (ev (hV 6 _ rfl (hdd 6 rfl))) rfl (hN _ _ hK rfl (fun h => ((hX h).bel (Below.refl _ _) (fun _ h => h)).put (by decide) _))
     · intro Lk ak ww hL hdd haa hF hK hV hX Nk Qk hN
       have x0 := hX
       refine wnt rfl ?_
       simp [go_sem]
       exact hN _ _ (hK.alloc _) trivial (fun _ => by rw [show upd Lk 9 10 = false from haa 10 rfl]; exact BoxX.new (s := 10) (hF.lt (by rw [hz]; decide)) hK.size [.int .i64 0, .int .i64 0, .int .i64 0, .int .i64 0])
     · intro Lk ak ww hL hdd haa hF hK hV hX Nk Qk hN
       have x0 := hX
       refine wnt rfl ?_
       obtain ⟨g, eg, hg, y, _⟩ := x0 (hdd 9 rfl)
       have HT := y hL
       simp [go_sem, Array.getD_eq_getD_getElem?, (show ak.tmps[27]?.getD undef = _ from hV 7 _ rfl (hdd 7 rfl)), eg, HT.cell, HT.frz]
       exact hN undef _ (hK.store (.inl hg) [.int .i64 (((admDrift r p s n n).getD span0).low.n), .int .i64 (((admDrift r p s n n).getD span0).low.d), .int .i64 (((admDrift r p s n n).getD span0).high.n), .int .i64 (((admDrift r p s n n).getD span0).high.d)] 0) trivial (fun _ => BoxX.set eg hg HT (us := [.int .i64 (((admDrift r p s n n).getD span0).low.n), .int .i64 (((admDrift r p s n n).getD span0).low.d), .int .i64 (((admDrift r p s n n).getD span0).high.n), .int .i64 (((admDrift r p s n n).getD span0).high.d)]) rfl rfl)
     · intro Lk ak ww hL hdd haa hF hK hV hX Nk Qk hN; refine wnt rfl ?_
       exact wp_assign rfl (ev (hV 8 _ rfl (hdd 8 rfl))) (hN _ _ hK rfl (fun h => ((hX h).bel (Below.refl _ _) (fun _ h => h)).put (by decide) _))
     intro L a18 w19 hL hF hK hV hX
     have x0 := hX
     replace hz := hF.size.trans hz
     replace hdf := hF.defers.trans hdf
     replace s4 := hF.g rfl s4
     replace s5 := hF.g rfl s5
     replace s6 := hF.g rfl s6
     replace s9 := hF.g rfl s9
     replace s16 := hF.g rfl s16
     have s21 : a18.tmps[21]?.getD undef = roomV r ra := hV 0 _ rfl
     have s22 : a18.tmps[22]?.getD undef = .agg #[.slice b.A p.length b.c] := hV 1 _ rfl
     have s23 : a18.tmps[23]?.getD undef = .agg #[.int .i64 s.x, .int .i64 s.y, .int .i64 s.d] := hV 2 _ rfl
     have s24 : a18.tmps[24]?.getD undef = .int .i64 n := hV 3 _ rfl
     have s25 : a18.tmps[25]?.getD undef = .int .i64 n := hV 4 _ rfl
     have s26 : a18.tmps[26]?.getD undef = .tuple #[.agg #[.int .i64 (((admDrift r p s n n).getD span0).low.n), .int .i64 (((admDrift r p s n n).getD span0).low.d), .int .i64 (((admDrift r p s n n).getD span0).high.n), .int .i64 (((admDrift r p s n n).getD span0).high.d)], .bool ((admDrift r p s n n).isSome)] := hV 5 _ rfl
     have s20 : a18.tmps[20]?.getD undef = .tuple #[.agg #[.int .i64 (((admDrift r p s n n).getD span0).low.n), .int .i64 (((admDrift r p s n n).getD span0).low.d), .int .i64 (((admDrift r p s n n).getD span0).high.n), .int .i64 (((admDrift r p s n n).getD span0).high.d)], .bool ((admDrift r p s n n).isSome)] := hV 6 _ rfl
     have s27 : a18.tmps[27]?.getD undef = .agg #[.int .i64 (((admDrift r p s n n).getD span0).low.n), .int .i64 (((admDrift r p s n n).getD span0).low.d), .int .i64 (((admDrift r p s n n).getD span0).high.n), .int .i64 (((admDrift r p s n n).getD span0).high.d)] := hV 7 _ rfl
     have s28 : a18.tmps[28]?.getD undef = .bool ((admDrift r p s n n).isSome) := hV 8 _ rfl
     have s11 : a18.tmps[11]?.getD undef = .bool ((admDrift r p s n n).isSome) := hV 11 _ rfl
     replace b3 := b3.kp hK (by simp)
     replace b4 := b4.kp hK (by simp)
     replace b5 := b5.kp hK (by simp)
     obtain ⟨g20, s10, lg20, -, b20⟩ := x0 (hL 9 (by decide))
     obtain ⟨_, b20, rfl⟩ := b20 (hL 10 (by decide))
     have ug20 := b20.lt
     have zw16 := hZ
     have zw19 := hK.size
     replace hZ := Nat.le_refl w19.heap.size
     replace hB := hK.below0 hB
     clear hF hK hV hL x0 s17
     refine th_n ?_
     refine wp_seq ?_
     refine wp_regJ (by kernel_rfl) [29] [some (.bool ((admDrift r p s n n).isSome))] ((List.range 1).map List.range) [29] [0] [] (fun _ _ _ => True) (by kernel_rfl) (by rw [hz]; decide) ?_ (.cons ?_ .nil) ?_
     · exact fun _ _ => trivial
     · intro Lk ak ww hL hdd haa hF hK hV hX Nk Qk hN; refine wnt rfl ?_
       exact wp_move rfl (ev (hF.g rfl s11)) (hN _ _ hK rfl trivial)
     intro L a21 w22 hL hF hK hV hX
     replace hz := hF.size.trans hz
     replace hdf := hF.defers.trans hdf
     replace s4 := hF.g rfl s4
     replace s5 := hF.g rfl s5
     replace s6 := hF.g rfl s6
     replace s9 := hF.g rfl s9
     replace s16 := hF.g rfl s16
     replace s21 := hF.g rfl s21
     replace s22 := hF.g rfl s22
     replace s23 := hF.g rfl s23
     replace s24 := hF.g rfl s24
     replace s25 := hF.g rfl s25
     replace s26 := hF.g rfl s26
     replace s20 := hF.g rfl s20
     replace s27 := hF.g rfl s27
     replace s28 := hF.g rfl s28
     replace s10 := hF.g rfl s10
     have s29 : a21.tmps[29]?.getD undef = .bool ((admDrift r p s n n).isSome) := hV 0 _ rfl
     replace b3 := b3.kp hK (by simp)
     replace b4 := b4.kp hK (by simp)
     replace b5 := b5.kp hK (by simp)
     replace b20 := b20.kp hK (by simp)
     replace hZ := Nat.le_trans hZ hK.size
     replace hB := hK.below0 hB
     clear hF hK hV hL hX s11
     refine th_n ?_
     rcases Bool.eq_false_or_eq_true ((admDrift r p s n n).isSome) with q23 | q23
     · skip
       refine wp_cond_true (ev (vb s29 q23)) ?_
       refine wp_seq ?_
       refine wp_regJ (by kernel_rfl) [30, 8] [some (.int .i64 n), some (.int .i64 n)] ((List.range 2).map List.range) [30, 8] [0, 1] [] (fun _ _ _ => True) (by kernel_rfl) (by rw [hz]; decide) ?_ (.cons ?_ (.cons ?_ .nil)) ?_
       · exact fun _ _ => trivial
       · intro Lk ak ww hL hdd haa hF hK hV hX Nk Qk hN; refine wnt rfl ?_
         exact wp_move rfl (ev (hF.g rfl s9)) (hN _ _ hK rfl trivial)
       · intro Lk ak ww hL hdd haa hF hK hV hX Nk Qk hN; refine wnt rfl ?_
         exact wp_assign rfl (ev (hV 0 _ rfl (hdd 0 rfl))) (hN _ _ hK rfl trivial)
       intro L a24 w25 hL hF hK hV hX
       replace hz := hF.size.trans hz
       replace hdf := hF.defers.trans hdf
       have s8 : a24.tmps[8]?.getD undef = .int .i64 n := hV 1 _ rfl
       replace hZ := Nat.le_trans hZ hK.size
       replace hB := hK.below0 hB
       clear hF hK hV hL hX s4 s5 s6 s9 s16 s21 s22 s23 s24 s25 s26 s20 s27 s28 s10 s29 b3 b4 b5 b20
       refine th_n ?_
       refine wp_ret ?_
       refine ib_r (th_r (th_r (ib_r (th_r ?_))))
       refine bodyPost_ret (v := .int .i64 n) (by simp [results, Tryz.results29, go_sem, Array.getD_eq_getD_getElem?, s8]) hdf ?_
       exact ⟨by rw [show largD r p s most = n from by unfold largD; rw [not_f q8, if_pos rfl, hg]; exact largG_yes (f := fun n => (admDrift r p s n n).isSome) (by have := dec_t q17; omega) q23], hB⟩
     · skip
       refine wp_cond_false (ev (vb s29 q23)) ?_
       refine wp_skip ?_
       refine ib_n (th_n ?_)
       refine wp_regJ (by kernel_rfl) [18, 19, 9] [some (.int .i64 n), some (.int .i64 (n - 1)), some (.int .i64 (n - 1))] ((List.range 3).map List.range) [18, 19, 9] [0, 1, 2] [] (fun L aa ww => (L 2 = false → aa.tmps[9]?.getD undef = .int .i64 n)) (by kernel_rfl) (by rw [hz]; decide) ?_ (.cons ?_ (.cons ?_ (.cons ?_ .nil))) ?_
       · exact fun _ h => (fun _ => s9)
       · intro Lk ak ww hL hdd haa hF hK hV hX Nk Qk hN
         have x0 := hX
         refine wnt rfl ?_
         exact wp_move rfl (ev (x0 (haa 2 rfl))) (hN _ _ hK rfl (fun h => (put_ne' (by decide) _).trans (x0 h)))
       · intro Lk ak ww hL hdd haa hF hK hV hX Nk Qk hN; refine wnt rfl ?_
         exact wp_sub rfl (ev (hV 0 _ rfl (hdd 0 rfl))) rfl (by omega) (hN _ _ hK rfl (fun h => (put_ne' (by decide) _).trans (hX h)))
       · intro Lk ak ww hL hdd haa hF hK hV hX Nk Qk hN
         have x0 := hX
         refine wnt rfl ?_
         exact wp_assign rfl (ev (hV 1 _ rfl (hdd 1 rfl))) (hN _ _ hK rfl (fun h => by cases h))
       intro L a26 w27 hL hF hK hV hX
       have x0 := hX
       replace hz := hF.size.trans hz
       replace hdf := hF.defers.trans hdf
       replace s4 := hF.g rfl s4
       replace s5 := hF.g rfl s5
       replace s6 := hF.g rfl s6
       replace s16 := hF.g rfl s16
       replace s21 := hF.g rfl s21
       replace s22 := hF.g rfl s22
       replace s23 := hF.g rfl s23
       replace s24 := hF.g rfl s24
       replace s25 := hF.g rfl s25
       replace s26 := hF.g rfl s26
       replace s20 := hF.g rfl s20
       replace s27 := hF.g rfl s27
       replace s28 := hF.g rfl s28
       replace s10 := hF.g rfl s10
       have s18 : a26.tmps[18]?.getD undef = .int .i64 n := hV 0 _ rfl
       have s19 : a26.tmps[19]?.getD undef = .int .i64 (n - 1) := hV 1 _ rfl
       have s9 : a26.tmps[9]?.getD undef = .int .i64 (n - 1) := hV 2 _ rfl
       replace b3 := b3.kp hK (by simp)
       replace b4 := b4.kp hK (by simp)
       replace b5 := b5.kp hK (by simp)
       replace b20 := b20.kp hK (by simp)
       replace hZ := Nat.le_trans hZ hK.size
       replace hB := hK.below0 hB
       clear hF hK hV hL x0 s29
       refine th_n ?_
       refine ⟨?_, ?_⟩
       · exact ⟨hz, hdf, (n - 1), (by have := dec_t q17; omega), (hg.trans (largG_no (f := fun n => (admDrift r p s n n).isSome) (by have := dec_t q17; omega) q23)), s4, s5, s6, s9, b3, b4, b5, hB, (by omega)⟩
       · show (intOf (a26.tmps[9]?.getD undef) + 1).toNat < _
         rw [s9, hmu]; simp only [intOf]; have := dec_t q17; omega
   · skip
     refine wp_cond_false (ev (vb s17 q17)) ?_
     refine wp_exit ?_
     refine th_e (th_e (ib_x (th_n ?_)))
     refine wp_seq ?_
     refine wp_regJ (by kernel_rfl) [8] [some (.int .i64 (-1))] ((List.range 1).map List.range) [8] [0] [] (fun _ _ _ => True) (by kernel_rfl) (by rw [hz]; decide) ?_ (.cons ?_ .nil) ?_
     · exact fun _ _ => trivial
     · intro Lk ak ww hL hdd haa hF hK hV hX Nk Qk hN; refine wnt rfl ?_
       exact wp_assign rfl rfl (hN _ _ hK rfl trivial)
     intro L a28 w29 hL hF hK hV hX
     replace hz := hF.size.trans hz
     replace hdf := hF.defers.trans hdf
     have s8 : a28.tmps[8]?.getD undef = .int .i64 (-1) := hV 0 _ rfl
     replace hZ := Nat.le_trans hZ hK.size
     replace hB := hK.below0 hB
     clear hF hK hV hL hX s4 s5 s6 s9 s16 s17 b3 b4 b5
     refine th_n ?_
     refine wp_ret ?_
     refine bodyPost_ret (v := .int .i64 (-1)) (by simp [results, Tryz.results29, go_sem, Array.getD_eq_getD_getElem?, s8]) hdf ?_
     exact ⟨by rw [show largD r p s most = -1 from by unfold largD; rw [not_f q8, if_pos rfl, hg]; rw [show (n + 1).toNat = 0 by have := dec_f q17; omega]; rfl], hB⟩
set_option maxRecDepth 100000 in
set_option maxHeartbeats 3000000 in
theorem sLarg_c (r : Room) (p : List Half) (s : Spot) (most : Int) (ra : RoomA) (b : SlA) (w : World) (hn : roomLen r ≤ 1048576) (hin : RoomIn r) (hs : RoomSl w r ra) (hnl : RoomNil ra) (hlp : p.length ≤ 1048576) (hpi : ∀ h ∈ p, h.In) (hsp : Sl 3 halfC w b.A p) (hnb : b.A = none → b.c = 0) (hsi : s.In) :
    Calls Tryz.prog 28 #[roomV r ra, .agg #[.slice b.A p.length b.c], .agg #[.int .i64 s.x, .int .i64 s.y, .int .i64 s.d], .int .i64 most] w fun x w' => x = .returned (.int .i64 (largD r p s most)) ∧ Below w.heap.size w w' := by
 refine calls_v Tryz.func28 rfl (n := 31) Tryz.ntmps28 (by simp) ?_
 intro a0 hz hdf ha
 have s0 : a0.tmps[0]?.getD undef = roomV r ra := ha 0 _ rfl
 have s1 : a0.tmps[1]?.getD undef = .agg #[.slice b.A p.length b.c] := ha 1 _ rfl
 have s2 : a0.tmps[2]?.getD undef = .agg #[.int .i64 s.x, .int .i64 s.y, .int .i64 s.d] := ha 2 _ rfl
 have s3 : a0.tmps[3]?.getD undef = .int .i64 most := ha 3 _ rfl
 clear ha
 have hB := Below.refl w.heap.size w
 have hZ := Nat.le_refl w.heap.size
 refine wp_seq ?_
 refine wp_entry [4, 5, 6, 8] [.pointer (some ⟨w.heap.size, 0, none⟩), .pointer (some ⟨(w.heap.size + 1), 0, none⟩), .pointer (some ⟨(w.heap.size + 2), 0, none⟩), .int .i64 0] [some (.cells (roomC r ra).toArray 39), some (.cells [.slice b.A p.length b.c].toArray 37), some (.cells [.int .i64 s.x, .int .i64 s.y, .int .i64 s.d].toArray 57), none] [0, 1, 2, 3] [4, 5, 6, 8] [0, 1, 2, 3] (by kernel_rfl) (by rw [hz]; decide) (.cons ?_ (.cons ?_ (.cons ?_ (.cons ?_ .nil)))) ?_
 · intro a w' hF hs N Q hN; simp [go_sem, Array.getD_eq_getD_getElem?, hF.g rfl s0]; rw [hs]; exact hN
 · intro a w' hF hs N Q hN; simp [go_sem, Array.getD_eq_getD_getElem?, hF.g rfl s1]; rw [hs]; exact hN
 · intro a w' hF hs N Q hN; simp [go_sem, Array.getD_eq_getD_getElem?, hF.g rfl s2]; rw [hs]; exact hN
 · intro a w' hF hs N Q hN; simp [go_sem]; exact hN
 intro a1 w2 hF hV hb hO
 replace hz := hF.size.trans hz
 replace hdf := hF.defers.trans hdf
 replace s3 := hF.g rfl s3
 have s4 : a1.tmps[4]?.getD undef = .pointer (some ⟨w.heap.size, 0, none⟩) := hV 0 (by decide)
 have s5 : a1.tmps[5]?.getD undef = .pointer (some ⟨(w.heap.size + 1), 0, none⟩) := hV 1 (by decide)
 have s6 : a1.tmps[6]?.getD undef = .pointer (some ⟨(w.heap.size + 2), 0, none⟩) := hV 2 (by decide)
 have b3 : HasT w2 w.heap.size 39 (roomC r ra) := hO 0 _ rfl
 have b4 : HasT w2 (w.heap.size + 1) 37 [.slice b.A p.length b.c] := hO 1 _ rfl
 have b5 : HasT w2 (w.heap.size + 2) 57 [.int .i64 s.x, .int .i64 s.y, .int .i64 s.d] := hO 2 _ rfl
 have hG := b5.lt
 replace hB := below_tr hB hb
 have zw2 := Nat.le_trans hZ hb.size
 replace hZ := Nat.le_refl w2.heap.size
 clear hF hV hb hO s0 s1 s2
 refine th_n ?_
 refine wp_seq ?_
 refine wp_seq ?_
 refine wp_regJ (by kernel_rfl) [12, 13, 14] [some (.int .i64 most), some (.bool (inR most 0 100)), some (.bool (!(inR most 0 100)))] ((List.range 3).map List.range) [12, 13, 14] [0, 1, 2] [] (fun _ _ _ => True) (by kernel_rfl) (by rw [hz]; decide) ?_ (.cons ?_ (.cons ?_ (.cons ?_ .nil))) ?_
 · exact fun _ _ => trivial
 · intro Lk ak ww hL hdd haa hF hK hV hX Nk Qk hN; refine wnt rfl ?_
   exact wp_move rfl (ev (hF.g rfl s3)) (hN _ _ hK rfl trivial)
 · intro Lk ak ww hL hdd haa hF hK hV hX Nk Qk hN; refine wnt rfl ?_
   simp [go_sem, Array.getD_eq_getD_getElem?, (show ak.tmps[12]?.getD undef = _ from hV 0 _ rfl (hdd 0 rfl))]
   refine (l01In_c most 0 100 ww).mono ?_
   rintro x wx ⟨rfl, rfl⟩
   exact (hN _ _ hK rfl trivial)
 · intro Lk ak ww hL hdd haa hF hK hV hX Nk Qk hN; refine wnt rfl ?_
   exact wp_not rfl (ev (hV 1 _ rfl (hdd 1 rfl))) (hN _ _ hK rfl trivial)
 intro L a6 w7 hL hF hK hV hX
 replace hz := hF.size.trans hz
 replace hdf := hF.defers.trans hdf
 replace s3 := hF.g rfl s3
 replace s4 := hF.g rfl s4
 replace s5 := hF.g rfl s5
 replace s6 := hF.g rfl s6
 have s14 : a6.tmps[14]?.getD undef = .bool (!(inR most 0 100)) := hV 2 _ rfl
 replace b3 := b3.kp hK (by simp)
 replace b4 := b4.kp hK (by simp)
 replace b5 := b5.kp hK (by simp)
 replace hZ := Nat.le_trans hZ hK.size
 replace hB := hK.below0 hB
 clear hF hK hV hL hX
 refine th_n ?_
 rcases Bool.eq_false_or_eq_true (!(inR most 0 100)) with q8 | q8
 · skip
   refine wp_cond_true (ev (vb s14 q8)) ?_
   refine wp_seq ?_
   refine wp_regJ (by kernel_rfl) [8] [some (.int .i64 (-1))] ((List.range 1).map List.range) [8] [0] [] (fun _ _ _ => True) (by kernel_rfl) (by rw [hz]; decide) ?_ (.cons ?_ .nil) ?_
   · exact fun _ _ => trivial
   · intro Lk ak ww hL hdd haa hF hK hV hX Nk Qk hN; refine wnt rfl ?_
     exact wp_assign rfl rfl (hN _ _ hK rfl trivial)
   intro L a9 w10 hL hF hK hV hX
   replace hz := hF.size.trans hz
   replace hdf := hF.defers.trans hdf
   have s8 : a9.tmps[8]?.getD undef = .int .i64 (-1) := hV 0 _ rfl
   replace hZ := Nat.le_trans hZ hK.size
   replace hB := hK.below0 hB
   clear hF hK hV hL hX s3 s4 s5 s6 s14 b3 b4 b5
   refine th_n ?_
   refine wp_ret ?_
   refine th_r ?_
   refine bodyPost_ret (v := .int .i64 (-1)) (by simp [results, Tryz.results28, go_sem, Array.getD_eq_getD_getElem?, s8]) hdf ?_
   exact ⟨by rw [show largD r p s most = -1 from by unfold largD; rw [not_t q8, if_neg (by simp)]], hB⟩
 · skip
   refine wp_cond_false (ev (vb s14 q8)) ?_
   refine wp_skip ?_
   refine th_n ?_
   refine wp_seq ?_
   refine wp_seq ?_
   refine wp_regJ (by kernel_rfl) [15, 9] [some (.int .i64 most), some (.int .i64 most)] ((List.range 2).map List.range) [15, 9] [0, 1] [] (fun _ _ _ => True) (by kernel_rfl) (by rw [hz]; decide) ?_ (.cons ?_ (.cons ?_ .nil)) ?_
   · exact fun _ _ => trivial
   · intro Lk ak ww hL hdd haa hF hK hV hX Nk Qk hN; refine wnt rfl ?_
     exact wp_move rfl (ev (hF.g rfl s3)) (hN _ _ hK rfl trivial)
   · intro Lk ak ww hL hdd haa hF hK hV hX Nk Qk hN; refine wnt rfl ?_
     exact wp_assign rfl (ev (hV 0 _ rfl (hdd 0 rfl))) (hN _ _ hK rfl trivial)
   intro L a11 w12 hL hF hK hV hX
   replace hz := hF.size.trans hz
   replace hdf := hF.defers.trans hdf
   replace s4 := hF.g rfl s4
   replace s5 := hF.g rfl s5
   replace s6 := hF.g rfl s6
   have s9 : a11.tmps[9]?.getD undef = .int .i64 most := hV 1 _ rfl
   replace b3 := b3.kp hK (by simp)
   replace b4 := b4.kp hK (by simp)
   replace b5 := b5.kp hK (by simp)
   replace hZ := Nat.le_trans hZ hK.size
   replace hB := hK.below0 hB
   clear hF hK hV hL hX s3 s14
   refine th_n ?_
   refine wp_block ?_
   refine wp_loop (fun al wl => al.tmps.size = 31 ∧ al.defers = [] ∧ ∃ (n : Int), (-1 ≤ n ∧ n ≤ 100) ∧ (largG (fun n => (admDrift r p s n n).isSome) (most + 1).toNat = largG (fun n => (admDrift r p s n n).isSome) (n + 1).toNat) ∧ al.tmps[4]?.getD undef = .pointer (some ⟨w.heap.size, 0, none⟩) ∧ al.tmps[5]?.getD undef = .pointer (some ⟨(w.heap.size + 1), 0, none⟩) ∧ al.tmps[6]?.getD undef = .pointer (some ⟨(w.heap.size + 2), 0, none⟩) ∧ al.tmps[9]?.getD undef = .int .i64 n ∧ HasT wl w.heap.size 39 (roomC r ra) ∧ HasT wl (w.heap.size + 1) 37 [.slice b.A p.length b.c] ∧ HasT wl (w.heap.size + 2) 57 [.int .i64 s.x, .int .i64 s.y, .int .i64 s.d] ∧ Below w.heap.size w wl ∧ w2.heap.size ≤ wl.heap.size) (fun al _ => (intOf (al.tmps[9]?.getD undef) + 1).toNat) ?_ ?_
   · exact ⟨hz, hdf, (most), (by have := inR_iff.1 (not_f q8); omega), (rfl), s4, s5, s6, s9, b3, b4, b5, hB, (by omega)⟩
   clear hz hdf hB hZ s4 s5 s6 s9 b3 b4 b5
   rintro a13 w14 ⟨hz, hdf, n, hn1, hg, s4, s5, s6, s9, b3, b4, b5, hB, hZ⟩
   have hmu : (intOf (a13.tmps[9]?.getD undef) + 1).toNat = (intOf ((.int .i64 n)) + 1).toNat := by rw [s9]
   refine wp_seq ?_
   refine wp_seq ?_
   refine wp_regJ (by kernel_rfl) [16, 17] [some (.int .i64 n), some (.bool (decide (n ≥ 0)))] ((List.range 2).map List.range) [16, 17] [0, 1] [] (fun _ _ _ => True) (by kernel_rfl) (by rw [hz]; decide) ?_ (.cons ?_ (.cons ?_ .nil)) ?_
   · exact fun _ _ => trivial
   · intro Lk ak ww hL hdd haa hF hK hV hX Nk Qk hN; refine wnt rfl ?_
     exact wp_move rfl (ev (hF.g rfl s9)) (hN _ _ hK rfl trivial)
   · intro Lk ak ww hL hdd haa hF hK hV hX Nk Qk hN; refine wnt rfl ?_
     exact wp_bin rfl (ev (hV 0 _ rfl (hdd 0 rfl))) rfl rfl rfl (hN _ _ hK rfl trivial)
   intro L a15 w16 hL hF hK hV hX
   replace hz := hF.size.trans hz
   replace hdf := hF.defers.trans hdf
   replace s4 := hF.g rfl s4
   replace s5 := hF.g rfl s5
   replace s6 := hF.g rfl s6
   replace s9 := hF.g rfl s9
   have s16 : a15.tmps[16]?.getD undef = .int .i64 n := hV 0 _ rfl
   have s17 : a15.tmps[17]?.getD undef = .bool (decide (n ≥ 0)) := hV 1 _ rfl
   replace b3 := b3.kp hK (by simp)
   replace b4 := b4.kp hK (by simp)
   replace b5 := b5.kp hK (by simp)
   replace hZ := Nat.le_trans hZ hK.size
   replace hB := hK.below0 hB
   clear hF hK hV hL hX
   refine th_n ?_
   rcases Bool.eq_false_or_eq_true (decide (n ≥ 0)) with q17 | q17
   · skip
     refine wp_cond_true (ev (vb s17 q17)) ?_
     refine wp_skip ?_
     refine th_n ?_
     refine wp_seq ?_
     refine wp_block ?_
     refine wp_seq ?_
     refine wp_regJ (by kernel_rfl) [21, 22, 23, 24, 25, 26, 20, 27, 28, 10, 0, 11] [some (roomV r ra), some (.agg #[.slice b.A p.length b.c]), some (.agg #[.int .i64 s.x, .int .i64 s.y, .int .i64 s.d]), some (.int .i64 n), some (.int .i64 n), some (.tuple #[.agg #[.int .i64 (((admDrift r p s n n).getD span0).low.n), .int .i64 (((admDrift r p s n n).getD span0).low.d), .int .i64 (((admDrift r p s n n).getD span0).high.n), .int .i64 (((admDrift r p s n n).getD span0).high.d)], .bool ((admDrift r p s n n).isSome)]), some (.tuple #[.agg #[.int .i64 (((admDrift r p s n n).getD span0).low.n), .int .i64 (((admDrift r p s n n).getD span0).low.d), .int .i64 (((admDrift r p s n n).getD span0).high.n), .int .i64 (((admDrift r p s n n).getD span0).high.d)], .bool ((admDrift r p s n n).isSome)]), some (.agg #[.int .i64 (((admDrift r p s n n).getD span0).low.n), .int .i64 (((admDrift r p s n n).getD span0).low.d), .int .i64 (((admDrift r p s n n).getD span0).high.n), .int .i64 (((admDrift r p s n n).getD span0).high.d)]), some (.bool ((admDrift r p s n n).isSome)), none, none, some (.bool ((admDrift r p s n n).isSome))] ((List.range 12).map List.range) [21, 22, 23, 24, 25, 26, 20, 27, 28, 10, 11] [0, 1, 2, 3, 4, 5, 6, 7, 8, 9, 10, 11] [] (fun L aa ww => (L 9 = true → BoxX w16 aa ww 10 54 [.int .i64 0, .int .i64 0, .int .i64 0, .int .i64 0] (L 10) (fun _ vs => vs = [.int .i64 (((admDrift r p s n n).getD span0).low.n), .int .i64 (((admDrift r p s n n).getD span0).low.d), .int .i64 (((admDrift r p s n n).getD span0).high.n), .int .i64 (((admDrift r p s n n).getD span0).high.d)]))) (by kernel_rfl) (by rw [hz]; decide) ?_ (.cons ?_ (.cons ?_ (.cons ?_ (.cons ?_ (.cons ?_ (.cons ?_ (.cons ?_ (.cons ?_ (.cons ?_ (.cons ?_ (.cons ?_ (.cons ?_ .nil)))))))))))) ?_
     · exact fun _ h => (fun h => by cases h)
     · intro Lk ak ww hL hdd haa hF hK hV hX Nk Qk hN; refine wnt rfl ?_
       simp [go_sem, Array.getD_eq_getD_getElem?, hF.g rfl s4, (b3.kp hK (by simp)).cell]
       exact (hN _ _ hK rfl (fun h => ((hX h).bel (Below.refl _ _) (fun _ h => h)).put (by decide) _))
     · intro Lk ak ww hL hdd haa hF hK hV hX Nk Qk hN; refine wnt rfl ?_
       simp [go_sem, Array.getD_eq_getD_getElem?, hF.g rfl s5, (b4.kp hK (by simp)).cell]
       exact (hN _ _ hK rfl (fun h => ((hX h).bel (Below.refl _ _) (fun _ h => h)).put (by decide) _))
     · intro Lk ak ww hL hdd haa hF hK hV hX Nk Qk hN; refine wnt rfl ?_
       simp [go_sem, Array.getD_eq_getD_getElem?, hF.g rfl s6, (b5.kp hK (by simp)).cell]
       exact (hN _ _ hK rfl (fun h => ((hX h).bel (Below.refl _ _) (fun _ h => h)).put (by decide) _))
     · intro Lk ak ww hL hdd haa hF hK hV hX Nk Qk hN; refine wnt rfl ?_
       exact wp_move rfl (ev (hF.g rfl s9)) (hN _ _ hK rfl (fun h => ((hX h).bel (Below.refl _ _) (fun _ h => h)).put (by decide) _))
     · intro Lk ak ww hL hdd haa hF hK hV hX Nk Qk hN; refine wnt rfl ?_
       exact wp_move rfl (ev (hF.g rfl s9)) (hN _ _ hK rfl (fun h => ((hX h).bel (Below.refl _ _) (fun _ h => h)).put (by decide) _))
     · intro Lk ak ww hL hdd haa hF hK hV hX Nk Qk hN; refine wnt rfl ?_
       simp [go_sem, Array.getD_eq_getD_getElem?, (show ak.tmps[21]?.getD undef = _ from hV 0 _ rfl (hdd 0 rfl)), (show ak.tmps[22]?.getD undef = _ from hV 1 _ rfl (hdd 1 rfl)), (show ak.tmps[23]?.getD undef = _ from hV 2 _ rfl (hdd 2 rfl)), (show ak.tmps[24]?.getD undef = _ from hV 3 _ rfl (hdd 3 rfl)), (show ak.tmps[25]?.getD undef = _ from hV 4 _ rfl (hdd 4 rfl))]
       have hBi := hK.below0 hB
       refine (sAdmDrift_c r p s n n ra b ww hn hin (hs.below hBi) hnl hlp hpi (hsp.below hBi) hnb hsi).mono ?_
       rintro x wx ⟨rfl, hb⟩
       exact (hN _ _ (hK.call hb) (optSpan_eq _) (fun h => ((hX h).bel hb (fun _ h => h)).put (by decide) _))
     · intro Lk ak ww hL hdd haa hF hK hV hX Nk Qk hN; refine wnt rfl ?_
       exact wp_move rfl (ev (hV 5 _ rfl (hdd 5 rfl))) (hN _ _ hK rfl (fun h => ((hX h).bel (Below.refl _ _) (fun _ h => h)).put (by decide) _))
     · intro Lk ak ww hL hdd haa hF hK hV hX Nk Qk hN; refine wnt rfl ?_
       exact wp_extract rfl (ev (hV 6 _ rfl (hdd 6 rfl))) rfl (hN _ _ hK rfl (fun h => ((hX h).bel (Below.refl _ _) (fun _ h => h)).put (by decide) _))
     · intro Lk ak ww hL hdd haa hF hK hV hX Nk Qk hN; refine wnt rfl ?_
       exact wp_extract rfl (ev (hV 6 _ rfl (hdd 6 rfl))) rfl (hN _ _ hK rfl (fun h => ((hX h).bel (Below.refl _ _) (fun _ h => h)).put (by decide) _))
     · intro Lk ak ww hL hdd haa hF hK hV hX Nk Qk hN
       have x0 := hX
       refine wnt rfl ?_
       simp [go_sem]
       exact hN _ _ (hK.alloc _) trivial (fun _ => by rw [show upd Lk 9 10 = false from haa 10 rfl]; exact BoxX.new (s := 10) (hF.lt (by rw [hz]; decide)) hK.size [.int .i64 0, .int .i64 0, .int .i64 0, .int .i64 0])
     · intro Lk ak ww hL hdd haa hF hK hV hX Nk Qk hN
       have x0 := hX
       refine wnt rfl ?_
       obtain ⟨g, eg, hg, y, _⟩ := x0 (hdd 9 rfl)
       have HT := y hL
       simp [go_sem, Array.getD_eq_getD_getElem?, (show ak.tmps[27]?.getD undef = _ from hV 7 _ rfl (hdd 7 rfl)), eg, HT.cell, HT.frz]
       exact hN undef _ (hK.store (.inl hg) [.int .i64 (((admDrift r p s n n).getD span0).low.n), .int .i64 (((admDrift r p s n n).getD span0).low.d), .int .i64 (((admDrift r p s n n).getD span0).high.n), .int .i64 (((admDrift r p s n n).getD span0).high.d)] 0) trivial (fun _ => BoxX.set eg hg HT (us := [.int .i64 (((admDrift r p s n n).getD span0).low.n), .int .i64 (((admDrift r p s n n).getD span0).low.d), .int .i64 (((admDrift r p s n n).getD span0).high.n), .int .i64 (((admDrift r p s n n).getD span0).high.d)]) rfl rfl)
     · intro Lk ak ww hL hdd haa hF hK hV hX Nk Qk hN; refine wnt rfl ?_
       exact wp_assign rfl (ev (hV 8 _ rfl (hdd 8 rfl))) (hN _ _ hK rfl (fun h => ((hX h).bel (Below.refl _ _) (fun _ h => h)).put (by decide) _))
     intro L a18 w19 hL hF hK hV hX
     have x0 := hX
     replace hz := hF.size.trans hz
     replace hdf := hF.defers.trans hdf
     replace s4 := hF.g rfl s4
     replace s5 := hF.g rfl s5
     replace s6 := hF.g rfl s6
     replace s9 := hF.g rfl s9
     replace s16 := hF.g rfl s16
     have s21 : a18.tmps[21]?.getD undef = roomV r ra := hV 0 _ rfl
     have s22 : a18.tmps[22]?.getD undef = .agg #[.slice b.A p.length b.c] := hV 1 _ rfl
     have s23 : a18.tmps[23]?.getD undef = .agg #[.int .i64 s.x, .int .i64 s.y, .int .i64 s.d] := hV 2 _ rfl
     have s24 : a18.tmps[24]?.getD undef = .int .i64 n := hV 3 _ rfl
     have s25 : a18.tmps[25]?.getD undef = .int .i64 n := hV 4 _ rfl
     have s26 : a18.tmps[26]?.getD undef = .tuple #[.agg #[.int .i64 (((admDrift r p s n n).getD span0).low.n), .int .i64 (((admDrift r p s n n).getD span0).low.d), .int .i64 (((admDrift r p s n n).getD span0).high.n), .int .i64 (((admDrift r p s n n).getD span0).high.d)], .bool ((admDrift r p s n n).isSome)] := hV 5 _ rfl
     have s20 : a18.tmps[20]?.getD undef = .tuple #[.agg #[.int .i64 (((admDrift r p s n n).getD span0).low.n), .int .i64 (((admDrift r p s n n).getD span0).low.d), .int .i64 (((admDrift r p s n n).getD span0).high.n), .int .i64 (((admDrift r p s n n).getD span0).high.d)], .bool ((admDrift r p s n n).isSome)] := hV 6 _ rfl
     have s27 : a18.tmps[27]?.getD undef = .agg #[.int .i64 (((admDrift r p s n n).getD span0).low.n), .int .i64 (((admDrift r p s n n).getD span0).low.d), .int .i64 (((admDrift r p s n n).getD span0).high.n), .int .i64 (((admDrift r p s n n).getD span0).high.d)] := hV 7 _ rfl
     have s28 : a18.tmps[28]?.getD undef = .bool ((admDrift r p s n n).isSome) := hV 8 _ rfl
     have s11 : a18.tmps[11]?.getD undef = .bool ((admDrift r p s n n).isSome) := hV 11 _ rfl
     replace b3 := b3.kp hK (by simp)
     replace b4 := b4.kp hK (by simp)
     replace b5 := b5.kp hK (by simp)
     obtain ⟨g20, s10, lg20, -, b20⟩ := x0 (hL 9 (by decide))
     obtain ⟨_, b20, rfl⟩ := b20 (hL 10 (by decide))
     have ug20 := b20.lt
     have zw16 := hZ
     have zw19 := hK.size
     replace hZ := Nat.le_refl w19.heap.size
     replace hB := hK.below0 hB
     clear hF hK hV hL x0 s17
     refine th_n ?_
     refine wp_seq ?_
     refine wp_regJ (by kernel_rfl) [29] [some (.bool ((admDrift r p s n n).isSome))] ((List.range 1).map List.range) [29] [0] [] (fun _ _ _ => True) (by kernel_rfl) (by rw [hz]; decide) ?_ (.cons ?_ .nil) ?_
     · exact fun _ _ => trivial
     · intro Lk ak ww hL hdd haa hF hK hV hX Nk Qk hN; refine wnt rfl ?_
       exact wp_move rfl (ev (hF.g rfl s11)) (hN _ _ hK rfl trivial)
     intro L a21 w22 hL hF hK hV hX
     replace hz := hF.size.trans hz
     replace hdf := hF.defers.trans hdf
     replace s4 := hF.g rfl s4
     replace s5 := hF.g rfl s5
     replace s6 := hF.g rfl s6
     replace s9 := hF.g rfl s9
     replace s16 := hF.g rfl s16
     replace s21 := hF.g rfl s21
     replace s22 := hF.g rfl s22
     replace s23 := hF.g rfl s23
     replace s24 := hF.g rfl s24
     replace s25 := hF.g rfl s25
     replace s26 := hF.g rfl s26
     replace s20 := hF.g rfl s20
     replace s27 := hF.g rfl s27
     replace s28 := hF.g rfl s28
     replace s10 := hF.g rfl s10
     have s29 : a21.tmps[29]?.getD undef = .bool ((admDrift r p s n n).isSome) := hV 0 _ rfl
     replace b3 := b3.kp hK (by simp)
     replace b4 := b4.kp hK (by simp)
     replace b5 := b5.kp hK (by simp)
     replace b20 := b20.kp hK (by simp)
     replace hZ := Nat.le_trans hZ hK.size
     replace hB := hK.below0 hB
     clear hF hK hV hL hX s11
     refine th_n ?_
     rcases Bool.eq_false_or_eq_true ((admDrift r p s n n).isSome) with q23 | q23
     · skip
       refine wp_cond_true (ev (vb s29 q23)) ?_
       refine wp_seq ?_
       refine wp_regJ (by kernel_rfl) [30, 8] [some (.int .i64 n), some (.int .i64 n)] ((List.range 2).map List.range) [30, 8] [0, 1] [] (fun _ _ _ => True) (by kernel_rfl) (by rw [hz]; decide) ?_ (.cons ?_ (.cons ?_ .nil)) ?_
       · exact fun _ _ => trivial
       · intro Lk ak ww hL hdd haa hF hK hV hX Nk Qk hN; refine wnt rfl ?_
         exact wp_move rfl (ev (hF.g rfl s9)) (hN _ _ hK rfl trivial)
       · intro Lk ak ww hL hdd haa hF hK hV hX Nk Qk hN; refine wnt rfl ?_
         exact wp_assign rfl (ev (hV 0 _ rfl (hdd 0 rfl))) (hN _ _ hK rfl trivial)
       intro L a24 w25 hL hF hK hV hX
       replace hz := hF.size.trans hz
       replace hdf := hF.defers.trans hdf
       have s8 : a24.tmps[8]?.getD undef = .int .i64 n := hV 1 _ rfl
       replace hZ := Nat.le_trans hZ hK.size
       replace hB := hK.below0 hB
       clear hF hK hV hL hX s4 s5 s6 s9 s16 s21 s22 s23 s24 s25 s26 s20 s27 s28 s10 s29 b3 b4 b5 b20
       refine th_n ?_
       refine wp_ret ?_
       refine ib_r (th_r (th_r (ib_r (th_r ?_))))
       refine bodyPost_ret (v := .int .i64 n) (by simp [results, Tryz.results28, go_sem, Array.getD_eq_getD_getElem?, s8]) hdf ?_
       exact ⟨by rw [show largD r p s most = n from by unfold largD; rw [not_f q8, if_pos rfl, hg]; exact largG_yes (f := fun n => (admDrift r p s n n).isSome) (by have := dec_t q17; omega) q23], hB⟩
     · skip
       refine wp_cond_false (ev (vb s29 q23)) ?_
       refine wp_skip ?_
       refine ib_n (th_n ?_)
       refine wp_regJ (by kernel_rfl) [18, 19, 9] [some (.int .i64 n), some (.int .i64 (n - 1)), some (.int .i64 (n - 1))] ((List.range 3).map List.range) [18, 19, 9] [0, 1, 2] [] (fun L aa ww => (L 2 = false → aa.tmps[9]?.getD undef = .int .i64 n)) (by kernel_rfl) (by rw [hz]; decide) ?_ (.cons ?_ (.cons ?_ (.cons ?_ .nil))) ?_
       · exact fun _ h => (fun _ => s9)
       · intro Lk ak ww hL hdd haa hF hK hV hX Nk Qk hN
         have x0 := hX
         refine wnt rfl ?_
         exact wp_move rfl (ev (x0 (haa 2 rfl))) (hN _ _ hK rfl (fun h => (put_ne' (by decide) _).trans (x0 h)))
       · intro Lk ak ww hL hdd haa hF hK hV hX Nk Qk hN; refine wnt rfl ?_
         exact wp_sub rfl (ev (hV 0 _ rfl (hdd 0 rfl))) rfl (by omega) (hN _ _ hK rfl (fun h => (put_ne' (by decide) _).trans (hX h)))
       · intro Lk ak ww hL hdd haa hF hK hV hX Nk Qk hN
         have x0 := hX
         refine wnt rfl ?_
         exact wp_assign rfl (ev (hV 1 _ rfl (hdd 1 rfl))) (hN _ _ hK rfl (fun h => by cases h))
       intro L a26 w27 hL hF hK hV hX
       have x0 := hX
       replace hz := hF.size.trans hz
       replace hdf := hF.defers.trans hdf
       replace s4 := hF.g rfl s4
       replace s5 := hF.g rfl s5
       replace s6 := hF.g rfl s6
       replace s16 := hF.g rfl s16
       replace s21 := hF.g rfl s21
       replace s22 := hF.g rfl s22
       replace s23 := hF.g rfl s23
       replace s24 := hF.g rfl s24
       replace s25 := hF.g rfl s25
       replace s26 := hF.g rfl s26
       replace s20 := hF.g rfl s20
       replace s27 := hF.g rfl s27
       replace s28 := hF.g rfl s28
       replace s10 := hF.g rfl s10
       have s18 : a26.tmps[18]?.getD undef = .int .i64 n := hV 0 _ rfl
       have s19 : a26.tmps[19]?.getD undef = .int .i64 (n - 1) := hV 1 _ rfl
       have s9 : a26.tmps[9]?.getD undef = .int .i64 (n - 1) := hV 2 _ rfl
       replace b3 := b3.kp hK (by simp)
       replace b4 := b4.kp hK (by simp)
       replace b5 := b5.kp hK (by simp)
       replace b20 := b20.kp hK (by simp)
       replace hZ := Nat.le_trans hZ hK.size
       replace hB := hK.below0 hB
       clear hF hK hV hL x0 s29
       refine th_n ?_
       refine ⟨?_, ?_⟩
       · exact ⟨hz, hdf, (n - 1), (by have := dec_t q17; omega), (hg.trans (largG_no (f := fun n => (admDrift r p s n n).isSome) (by have := dec_t q17; omega) q23)), s4, s5, s6, s9, b3, b4, b5, hB, (by omega)⟩
       · show (intOf (a26.tmps[9]?.getD undef) + 1).toNat < _
         rw [s9, hmu]; simp only [intOf]; have := dec_t q17; omega
   · skip
     refine wp_cond_false (ev (vb s17 q17)) ?_
     refine wp_exit ?_
     refine th_e (th_e (ib_x (th_n ?_)))
     refine wp_seq ?_
     refine wp_regJ (by kernel_rfl) [8] [some (.int .i64 (-1))] ((List.range 1).map List.range) [8] [0] [] (fun _ _ _ => True) (by kernel_rfl) (by rw [hz]; decide) ?_ (.cons ?_ .nil) ?_
     · exact fun _ _ => trivial
     · intro Lk ak ww hL hdd haa hF hK hV hX Nk Qk hN; refine wnt rfl ?_
       exact wp_assign rfl rfl (hN _ _ hK rfl trivial)
     intro L a28 w29 hL hF hK hV hX
     replace hz := hF.size.trans hz
     replace hdf := hF.defers.trans hdf
     have s8 : a28.tmps[8]?.getD undef = .int .i64 (-1) := hV 0 _ rfl
     replace hZ := Nat.le_trans hZ hK.size
     replace hB := hK.below0 hB
     clear hF hK hV hL hX s4 s5 s6 s9 s16 s17 b3 b4 b5
     refine th_n ?_
     refine wp_ret ?_
     refine bodyPost_ret (v := .int .i64 (-1)) (by simp [results, Tryz.results28, go_sem, Array.getD_eq_getD_getElem?, s8]) hdf ?_
     exact ⟨by rw [show largD r p s most = -1 from by unfold largD; rw [not_f q8, if_pos rfl, hg]; rw [show (n + 1).toNat = 0 by have := dec_f q17; omega]; rfl], hB⟩
end Go.Proofs.YtdncnhcffbgjhaaGreat
