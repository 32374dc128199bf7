/-
  The next spot of a room and the step of the loop: of the program and of the reference.
  Conditions: the slices hold at most 2^20 elements.
-/
import Derived.Test.YtdncnhcffbgjhaaGreatNextM
section
namespace Go.Proofs.YtdncnhcffbgjhaaGreat
open Go.RowKit

theorem wp_quo {P : Program} {o : Oper} {a : Act} {w : World} {N : Act → World → Prop} {Q : Exit → Act → World → Prop} {T T' : TypeId} {x y : Operand} {m n : Int} (h : o.op = .binOp .quo T x y T') (ex : a.eval x = .int .i64 m) (ey : a.eval y = .int .i64 n) (h0 : n ≠ 0) (hw : -9223372036854775808 ≤ m.tdiv n ∧ m.tdiv n ≤ 9223372036854775807) (hn : N (a.put o.dst (.int .i64 (m.tdiv n))) w) : o.wp P a w N Q := by
  refine wp_bin (v := .int .i64 (m.tdiv n)) h ex ey rfl ?_ hn
  show Op.intDiv .quo .i64 m n = _
  simp [Op.intDiv, h0, wrp hw]
theorem iMapped_c (r : Room) (s : Spot) (ra : RoomA) (w : World) (hr : roomOk r = true) (hs : spotOk s = true) (hd : s.d ≤ 100000) (hsl : RoomSl w r ra) :
    Calls Tryz.prog 166 #[spotV s, .slice ra.map.A r.map.length ra.map.c, .int .i64 r.div] w fun x w' => x = .returned (.tuple #[.int .i64 (mapX r s), .int .i64 (mapY r s), .int .i64 (mapD r s)]) ∧ Below w.heap.size w w' := by
  have B := roomB hr
  have M := mapB B hs hd
  exact mapped_c r.map r.div ra.map.A ra.map.c s w B.len M.x0 M.x1 M.y0 M.y1 M.d hsl.map
theorem rok_bd2 {r : Ratio} (h : ratioOk r = true) : (-1000000000000000000 ≤ r.n ∧ r.n ≤ 1000000000000000000) ∧ 1 ≤ r.d ∧ r.d ≤ 1000000000000000 := by
  obtain ⟨⟨a, b⟩, ⟨c, d⟩, _⟩ := ratioOk_iff.1 h
  exact ⟨⟨by omega, by omega⟩, by omega, by omega⟩
theorem fac_bd {X g x B : Int} (hg : 0 < g) (h : X = g * x) (hB : -B ≤ X ∧ X ≤ B) : -B ≤ x ∧ x ≤ B := by
  have k : ∀ y : Int, 0 ≤ y → y ≤ g * y := fun y hy => by
    have := Int.mul_le_mul_of_nonneg_right (show 1 ≤ g by omega) hy
    omega
  rcases Int.le_total 0 x with h0 | h0
  · have := k x h0; omega
  · have := k (-x) (by omega)
    rw [Int.mul_neg] at this; omega
set_option maxRecDepth 100000 in
set_option maxHeartbeats 3000000 in
theorem isDriven_c (u : Ratio) (w : World) (hu : u.In) :
    Calls Tryz.prog 215 #[ratioV u] w fun x w' => x = .returned (.bool (drivenOk u)) ∧ Below w.heap.size w w' := by
 refine calls_v Tryz.func215 rfl (n := 16) Tryz.ntmps215 (by simp) ?_
 intro a0 hz hdf ha
 have s0 : a0.tmps[0]?.getD undef = ratioV u := ha 0 _ rfl
 clear ha
 have hB := Below.refl w.heap.size w
 have hZ := Nat.le_refl w.heap.size
 refine wp_seq ?_
 refine wp_entry [1, 2] [.pointer (some ⟨w.heap.size, 0, none⟩), .bool false] [some (.cells [.int .i64 u.n, .int .i64 u.d].toArray 52), none] [0, 1] [1, 2] [0, 1] (by kernel_rfl) (by rw [hz]; decide) (ec ?_ (ec ?_ .nil)) ?_
 · intro a w' hF hs N Q hN; simp [go_sem, hF.g rfl s0]; rw [hs]; exact hN
 · intro a w' hF hs N Q hN; simp [go_sem]; exact hN
 intro a1 w2 hF hV hb hO
 replace hz := hF.size.trans hz
 replace hdf := hF.defers.trans hdf
 have s1 : a1.tmps[1]?.getD undef = .pointer (some ⟨w.heap.size, 0, none⟩) := hV 0 (by decide)
 have b3 : HasT w2 w.heap.size 52 [.int .i64 u.n, .int .i64 u.d] := hO 0 _ rfl
 have hG := b3.lt
 replace hB := below_tr hB hb
 have zw2 := Nat.le_trans hZ hb.size
 replace hZ := Nat.le_refl w2.heap.size
 clear hF hV hb hO s0
 refine th_n ?_
 refine wp_seq ?_
 refine wp_regJ (by kernel_rfl) [3, 4, 5, 6, 7, 8, 9, 10, 11, 12, 13, 14, 15, 2] [some (ratioV u), some (.bool (ratioOk u)), some (.bool (ratioOk u)), some ((bif ratioOk u then (.pointer (some ⟨w.heap.size, 0, none⟩) : Value) else undef)), some ((bif ratioOk u then (.int .i64 u.n : Value) else undef)), some ((bif ratioOk u then (.pointer (some ⟨w.heap.size, 1, none⟩) : Value) else undef)), some ((bif ratioOk u then (.int .i64 u.d : Value) else undef)), some ((bif ratioOk u then (.int .i64 ((-1000) * u.d) : Value) else undef)), some ((bif ratioOk u then (.pointer (some ⟨w.heap.size, 1, none⟩) : Value) else undef)), some ((bif ratioOk u then (.int .i64 u.d : Value) else undef)), some ((bif ratioOk u then (.int .i64 (1000 * u.d) : Value) else undef)), some ((bif ratioOk u then (.bool (inR u.n ((-1000) * u.d) (1000 * u.d)) : Value) else undef)), some (.bool (ratioOk u && inR u.n ((-1000) * u.d) (1000 * u.d))), some (.bool (ratioOk u && inR u.n ((-1000) * u.d) (1000 * u.d)))] ((List.range 14).map List.range) [3, 4, 5, 6, 7, 8, 9, 10, 11, 12, 13, 14, 15, 2] [0, 1, 2, 3, 4, 5, 6, 7, 8, 9, 10, 11, 12, 13] [] (fun _ _ _ => True) (by kernel_rfl) (by rw [hz]; decide) ?_ (ec ?_ (ec ?_ (ec ?_ (ec ?_ (ec ?_ (ec ?_ (ec ?_ (ec ?_ (ec ?_ (ec ?_ (ec ?_ (ec ?_ (ec ?_ (ec ?_ .nil)))))))))))))) ?_
 · exact fun _ _ => trivial
 · intro Lk ak ww hL hdd haa hF hK hV hX Nk Qk hN; refine wnt rfl ?_
   simp [go_sem, hF.g rfl s1, (b3.kp hK (by simp)).cell]
   exact (hN _ _ hK rfl trivial)
 · intro Lk ak ww hL hdd haa hF hK hV hX Nk Qk hN; refine wnt rfl ?_
   simp [go_sem, (show ak.tmps[3]?.getD undef = _ from hV 0 _ rfl (hdd 0 rfl))]
   refine (iRatioOk_c u ww hu).mono ?_
   rintro x wx ⟨rfl, hb⟩
   exact (hN _ _ (hK.call hb) rfl trivial)
 · exact fun Lk ak ww hL hdd haa hF hK hV hX Nk Qk hN => wnt rfl (wp_move rfl (ev (hV 1 _ rfl (hdd 1 rfl))) (hN _ _ hK rfl trivial))
 · intro Lk ak ww hL hdd haa hF hK hV hX Nk Qk hN
   refine wgt rfl rfl rfl (hV 2 _ rfl (hdd 2 rfl)) (fun qg => hN _ _ hK (bif_f qg).symm trivial) fun qg => ?_
   simp [go_sem, hF.g rfl s1]
   exact (hN _ _ hK (bif_t qg).symm trivial)
 · intro Lk ak ww hL hdd haa hF hK hV hX Nk Qk hN
   refine wgt rfl rfl rfl (hV 2 _ rfl (hdd 2 rfl)) (fun qg => hN _ _ hK (bif_f qg).symm trivial) fun qg => ?_
   simp [go_sem, (show ak.tmps[6]?.getD undef = _ from (hV 3 _ rfl (hdd 3 rfl)).trans (bif_t qg)), (b3.kp hK (by simp)).cell]
   exact (hN _ _ hK (bif_t qg).symm trivial)
 · intro Lk ak ww hL hdd haa hF hK hV hX Nk Qk hN
   refine wgt rfl rfl rfl (hV 2 _ rfl (hdd 2 rfl)) (fun qg => hN _ _ hK (bif_f qg).symm trivial) fun qg => ?_
   simp [go_sem, hF.g rfl s1]
   exact (hN _ _ hK (bif_t qg).symm trivial)
 · intro Lk ak ww hL hdd haa hF hK hV hX Nk Qk hN
   refine wgt rfl rfl rfl (hV 2 _ rfl (hdd 2 rfl)) (fun qg => hN _ _ hK (bif_f qg).symm trivial) fun qg => ?_
   simp [go_sem, (show ak.tmps[8]?.getD undef = _ from (hV 5 _ rfl (hdd 5 rfl)).trans (bif_t qg)), (b3.kp hK (by simp)).cell]
   exact (hN _ _ hK (bif_t qg).symm trivial)
 · intro Lk ak ww hL hdd haa hF hK hV hX Nk Qk hN
   refine wgt rfl rfl rfl (hV 2 _ rfl (hdd 2 rfl)) (fun qg => hN _ _ hK (bif_f qg).symm trivial) fun qg => ?_
   exact wp_mul rfl rfl (ev ((hV 6 _ rfl (hdd 6 rfl)).trans (bif_t qg))) (by have k := rok_bd2 qg; omega) (hN _ _ hK (bif_t qg).symm trivial)
 · intro Lk ak ww hL hdd haa hF hK hV hX Nk Qk hN
   refine wgt rfl rfl rfl (hV 2 _ rfl (hdd 2 rfl)) (fun qg => hN _ _ hK (bif_f qg).symm trivial) fun qg => ?_
   simp [go_sem, hF.g rfl s1]
   exact (hN _ _ hK (bif_t qg).symm trivial)
 · intro Lk ak ww hL hdd haa hF hK hV hX Nk Qk hN
   refine wgt rfl rfl rfl (hV 2 _ rfl (hdd 2 rfl)) (fun qg => hN _ _ hK (bif_f qg).symm trivial) fun qg => ?_
   simp [go_sem, (show ak.tmps[11]?.getD undef = _ from (hV 8 _ rfl (hdd 8 rfl)).trans (bif_t qg)), (b3.kp hK (by simp)).cell]
   exact (hN _ _ hK (bif_t qg).symm trivial)
 · intro Lk ak ww hL hdd haa hF hK hV hX Nk Qk hN
   refine wgt rfl rfl rfl (hV 2 _ rfl (hdd 2 rfl)) (fun qg => hN _ _ hK (bif_f qg).symm trivial) fun qg => ?_
   exact wp_mul rfl rfl (ev ((hV 9 _ rfl (hdd 9 rfl)).trans (bif_t qg))) (by have k := rok_bd2 qg; omega) (hN _ _ hK (bif_t qg).symm trivial)
 · intro Lk ak ww hL hdd haa hF hK hV hX Nk Qk hN
   refine wgt rfl rfl rfl (hV 2 _ rfl (hdd 2 rfl)) (fun qg => hN _ _ hK (bif_f qg).symm trivial) fun qg => ?_
   simp [go_sem, (show ak.tmps[7]?.getD undef = _ from (hV 4 _ rfl (hdd 4 rfl)).trans (bif_t qg)), (show ak.tmps[10]?.getD undef = _ from (hV 7 _ rfl (hdd 7 rfl)).trans (bif_t qg)), (show ak.tmps[13]?.getD undef = _ from (hV 10 _ rfl (hdd 10 rfl)).trans (bif_t qg))]
   refine (inRange_c u.n ((-1000) * u.d) (1000 * u.d) ww).mono ?_
   rintro x wx ⟨rfl, rfl⟩
   exact (hN _ _ hK (bif_t qg).symm trivial)
 · exact fun Lk ak ww hL hdd haa hF hK hV hX Nk Qk hN => wnt rfl (wp_pick rfl (ev (hV 2 _ rfl (hdd 2 rfl))) (fun h => (ev ((hV 11 _ rfl (hdd 11 rfl)).trans (bif_t h))).trans (vand_t h)) (fun h => vand_f h) (hN _ _ hK rfl trivial))
 · exact fun Lk ak ww hL hdd haa hF hK hV hX Nk Qk hN => wnt rfl (wp_assign rfl (ev (hV 12 _ rfl (hdd 12 rfl))) (hN _ _ hK rfl trivial))
 intro L a4 w5 hL hF hK hV hX
 replace hz := hF.size.trans hz
 replace hdf := hF.defers.trans hdf
 have s2 : a4.tmps[2]?.getD undef = .bool (ratioOk u && inR u.n ((-1000) * u.d) (1000 * u.d)) := hV 13 _ rfl
 replace hZ := Nat.le_trans hZ hK.size
 replace hB := hK.below0 hB
 clear hF hK hV hL hX s1 b3
 refine th_n ?_
 refine wp_ret ?_
 refine bodyPost_ret (v := .bool (ratioOk u && inR u.n ((-1000) * u.d) (1000 * u.d))) (by simp [results, Tryz.results215, go_sem, s2]) hdf ?_
 exact ⟨rfl, hB⟩
set_option maxRecDepth 100000 in
set_option maxHeartbeats 3000000 in
theorem iNext_c (r : Room) (s : Spot) (u : Ratio) (v : Spot) (ra : RoomA) (w : World) (hr : roomOk r = true) (hsl : RoomSl w r ra) (hsi : s.In) (hui : u.In) (hvi : v.In) :
    Calls Tryz.prog 182 #[roomV r ra, spotV s, ratioV u, spotV v] w fun x w' => x = .returned (optSpotV (nxtO r s u v)) ∧ Below w.heap.size w w' := by
 refine calls_v Tryz.func182 rfl (n := 105) Tryz.ntmps182 (by simp) ?_
 intro a0 hz hdf ha
 have s0 : a0.tmps[0]?.getD undef = roomV r ra := ha 0 _ rfl
 have s1 : a0.tmps[1]?.getD undef = spotV s := ha 1 _ rfl
 have s2 : a0.tmps[2]?.getD undef = ratioV u := ha 2 _ rfl
 have s3 : a0.tmps[3]?.getD undef = spotV v := ha 3 _ rfl
 clear ha
 have hB := Below.refl w.heap.size w
 have hZ := Nat.le_refl w.heap.size
 refine wp_seq ?_
 refine wp_entry [4, 5, 6, 7, 8, 9] [.pointer (some ⟨w.heap.size, 0, none⟩), .pointer (some ⟨(w.heap.size + 1), 0, none⟩), .pointer (some ⟨(w.heap.size + 2), 0, none⟩), .pointer (some ⟨(w.heap.size + 3), 0, none⟩), .pointer (some ⟨(w.heap.size + 4), 0, none⟩), .bool false] [some (.cells (roomC r ra).toArray 39), some (.cells [.int .i64 s.x, .int .i64 s.y, .int .i64 s.d].toArray 57), some (.cells [.int .i64 u.n, .int .i64 u.d].toArray 52), some (.cells [.int .i64 v.x, .int .i64 v.y, .int .i64 v.d].toArray 57), some (.cells [.int .i64 0, .int .i64 0, .int .i64 0].toArray 57), none] [0, 1, 2, 3, 4, 5] [4, 5, 6, 7, 8, 9] [0, 1, 2, 3, 4, 5] (by kernel_rfl) (by rw [hz]; decide) (ec ?_ (ec ?_ (ec ?_ (ec ?_ (ec ?_ (ec ?_ .nil)))))) ?_
 · intro a w' hF hs N Q hN; simp [go_sem, hF.g rfl s0]; rw [hs]; exact hN
 · intro a w' hF hs N Q hN; simp [go_sem, hF.g rfl s1]; rw [hs]; exact hN
 · intro a w' hF hs N Q hN; simp [go_sem, hF.g rfl s2]; rw [hs]; exact hN
 · intro a w' hF hs N Q hN; simp [go_sem, hF.g rfl s3]; rw [hs]; exact hN
 · intro a w' hF hs N Q hN; simp [go_sem]; rw [hs]; exact hN
 · intro a w' hF hs N Q hN; simp [go_sem]; exact hN
 intro a1 w2 hF hV hb hO
 replace hz := hF.size.trans hz
 replace hdf := hF.defers.trans hdf
 have s4 : a1.tmps[4]?.getD undef = .pointer (some ⟨w.heap.size, 0, none⟩) := hV 0 (by decide)
 have s5 : a1.tmps[5]?.getD undef = .pointer (some ⟨(w.heap.size + 1), 0, none⟩) := hV 1 (by decide)
 have s6 : a1.tmps[6]?.getD undef = .pointer (some ⟨(w.heap.size + 2), 0, none⟩) := hV 2 (by decide)
 have s7 : a1.tmps[7]?.getD undef = .pointer (some ⟨(w.heap.size + 3), 0, none⟩) := hV 3 (by decide)
 have s8 : a1.tmps[8]?.getD undef = .pointer (some ⟨(w.heap.size + 4), 0, none⟩) := hV 4 (by decide)
 have b3 : HasT w2 w.heap.size 39 (roomC r ra) := hO 0 _ rfl
 have b4 : HasT w2 (w.heap.size + 1) 57 [.int .i64 s.x, .int .i64 s.y, .int .i64 s.d] := hO 1 _ rfl
 have b5 : HasT w2 (w.heap.size + 2) 52 [.int .i64 u.n, .int .i64 u.d] := hO 2 _ rfl
 have b6 : HasT w2 (w.heap.size + 3) 57 [.int .i64 v.x, .int .i64 v.y, .int .i64 v.d] := hO 3 _ rfl
 have b7 : HasT w2 (w.heap.size + 4) 57 [.int .i64 0, .int .i64 0, .int .i64 0] := hO 4 _ rfl
 have hG := b7.lt
 replace hB := below_tr hB hb
 have zw2 := Nat.le_trans hZ hb.size
 replace hZ := Nat.le_refl w2.heap.size
 clear hF hV hb hO s0 s1 s2 s3
 refine th_n ?_
 refine wp_seq ?_
 refine wp_seq ?_
 refine wp_regJ (by kernel_rfl) [13, 14, 15, 16, 17, 18, 19, 20, 21, 22, 23, 24, 25, 26, 27, 28, 29, 30, 31, 32, 33, 34, 35, 36, 37, 38, 39, 40] [some (spotV s), some (.bool (spotOk s)), some (.bool (!(spotOk s))), some (.bool (!(spotOk s))), some ((bif !(spotOk s) then undef else (spotV v : Value))), some ((bif !(spotOk s) then undef else (.bool (spotOk v) : Value))), some ((bif !(spotOk s) then undef else (.bool (!(spotOk v)) : Value))), some (.bool (!(spotOk s) || !(spotOk v))), some (.bool (!(spotOk s) || !(spotOk v))), some ((bif (!(spotOk s) || !(spotOk v)) then undef else (.pointer (some ⟨(w.heap.size + 1), 2, none⟩) : Value))), some ((bif (!(spotOk s) || !(spotOk v)) then undef else (.int .i64 s.d : Value))), some ((bif (!(spotOk s) || !(spotOk v)) then undef else (.bool (decide (s.d > 100000)) : Value))), some (.bool ((!(spotOk s) || !(spotOk v)) || decide (s.d > 100000))), some (.bool ((!(spotOk s) || !(spotOk v)) || decide (s.d > 100000))), some ((bif ((!(spotOk s) || !(spotOk v)) || decide (s.d > 100000)) then undef else (.pointer (some ⟨(w.heap.size + 3), 2, none⟩) : Value))), some ((bif ((!(spotOk s) || !(spotOk v)) || decide (s.d > 100000)) then undef else (.int .i64 v.d : Value))), some ((bif ((!(spotOk s) || !(spotOk v)) || decide (s.d > 100000)) then undef else (.bool (decide (v.d > 1000)) : Value))), some (.bool (((!(spotOk s) || !(spotOk v)) || decide (s.d > 100000)) || decide (v.d > 1000))), some (.bool (((!(spotOk s) || !(spotOk v)) || decide (s.d > 100000)) || decide (v.d > 1000))), some ((bif (((!(spotOk s) || !(spotOk v)) || decide (s.d > 100000)) || decide (v.d > 1000)) then undef else (.pointer (some ⟨(w.heap.size + 2), 1, none⟩) : Value))), some ((bif (((!(spotOk s) || !(spotOk v)) || decide (s.d > 100000)) || decide (v.d > 1000)) then undef else (.int .i64 u.d : Value))), some ((bif (((!(spotOk s) || !(spotOk v)) || decide (s.d > 100000)) || decide (v.d > 1000)) then undef else (.bool (decide (u.d > 1000)) : Value))), some (.bool ((((!(spotOk s) || !(spotOk v)) || decide (s.d > 100000)) || decide (v.d > 1000)) || decide (u.d > 1000))), some (.bool ((((!(spotOk s) || !(spotOk v)) || decide (s.d > 100000)) || decide (v.d > 1000)) || decide (u.d > 1000))), some ((bif ((((!(spotOk s) || !(spotOk v)) || decide (s.d > 100000)) || decide (v.d > 1000)) || decide (u.d > 1000)) then undef else (ratioV u : Value))), some ((bif ((((!(spotOk s) || !(spotOk v)) || decide (s.d > 100000)) || decide (v.d > 1000)) || decide (u.d > 1000)) then undef else (.bool (drivenOk u) : Value))), some ((bif ((((!(spotOk s) || !(spotOk v)) || decide (s.d > 100000)) || decide (v.d > 1000)) || decide (u.d > 1000)) then undef else (.bool (!(drivenOk u)) : Value))), some (.bool (((((!(spotOk s) || !(spotOk v)) || decide (s.d > 100000)) || decide (v.d > 1000)) || decide (u.d > 1000)) || !(drivenOk u)))] ((List.range 28).map List.range) [13, 14, 15, 16, 17, 18, 19, 20, 21, 22, 23, 24, 25, 26, 27, 28, 29, 30, 31, 32, 33, 34, 35, 36, 37, 38, 39, 40] [0, 1, 2, 3, 4, 5, 6, 7, 8, 9, 10, 11, 12, 13, 14, 15, 16, 17, 18, 19, 20, 21, 22, 23, 24, 25, 26, 27] [] (fun _ _ _ => True) (by kernel_rfl) (by rw [hz]; decide) ?_ (ec ?_ (ec ?_ (ec ?_ (ec ?_ (ec ?_ (ec ?_ (ec ?_ (ec ?_ (ec ?_ (ec ?_ (ec ?_ (ec ?_ (ec ?_ (ec ?_ (ec ?_ (ec ?_ (ec ?_ (ec ?_ (ec ?_ (ec ?_ (ec ?_ (ec ?_ (ec ?_ (ec ?_ (ec ?_ (ec ?_ (ec ?_ (ec ?_ .nil)))))))))))))))))))))))))))) ?_
 · exact fun _ _ => trivial
 · intro Lk ak ww hL hdd haa hF hK hV hX Nk Qk hN; refine wnt rfl ?_
   simp [go_sem, hF.g rfl s5, (b4.kp hK (by simp)).cell]
   exact (hN _ _ hK rfl trivial)
 · intro Lk ak ww hL hdd haa hF hK hV hX Nk Qk hN; refine wnt rfl ?_
   simp [go_sem, (show ak.tmps[13]?.getD undef = _ from hV 0 _ rfl (hdd 0 rfl))]
   refine (iSpotOk_c s ww hsi).mono ?_
   rintro x wx ⟨rfl, hb⟩
   exact (hN _ _ (hK.call hb) rfl trivial)
 · exact fun Lk ak ww hL hdd haa hF hK hV hX Nk Qk hN => wnt rfl (wp_not rfl (ev (hV 1 _ rfl (hdd 1 rfl))) (hN _ _ hK rfl trivial))
 · exact fun Lk ak ww hL hdd haa hF hK hV hX Nk Qk hN => wnt rfl (wp_move rfl (ev (hV 2 _ rfl (hdd 2 rfl))) (hN _ _ hK rfl trivial))
 · intro Lk ak ww hL hdd haa hF hK hV hX Nk Qk hN
   refine wgf rfl rfl rfl (hV 3 _ rfl (hdd 3 rfl)) (fun qg => hN _ _ hK (bif_t qg).symm trivial) fun qg => ?_
   simp [go_sem, hF.g rfl s7, (b6.kp hK (by simp)).cell]
   exact (hN _ _ hK (bif_f qg).symm trivial)
 · intro Lk ak ww hL hdd haa hF hK hV hX Nk Qk hN
   refine wgf rfl rfl rfl (hV 3 _ rfl (hdd 3 rfl)) (fun qg => hN _ _ hK (bif_t qg).symm trivial) fun qg => ?_
   simp [go_sem, (show ak.tmps[17]?.getD undef = _ from (hV 4 _ rfl (hdd 4 rfl)).trans (bif_f qg))]
   refine (iSpotOk_c v ww hvi).mono ?_
   rintro x wx ⟨rfl, hb⟩
   exact (hN _ _ (hK.call hb) (bif_f qg).symm trivial)
 · intro Lk ak ww hL hdd haa hF hK hV hX Nk Qk hN
   refine wgf rfl rfl rfl (hV 3 _ rfl (hdd 3 rfl)) (fun qg => hN _ _ hK (bif_t qg).symm trivial) fun qg => ?_
   exact wp_not rfl (ev ((hV 5 _ rfl (hdd 5 rfl)).trans (bif_f qg))) (hN _ _ hK (bif_f qg).symm trivial)
 · exact fun Lk ak ww hL hdd haa hF hK hV hX Nk Qk hN => wnt rfl (wp_pick rfl (ev (hV 3 _ rfl (hdd 3 rfl))) (fun h => vor_t h) (fun h => (ev ((hV 6 _ rfl (hdd 6 rfl)).trans (bif_f h))).trans (vor_f h)) (hN _ _ hK rfl trivial))
 · exact fun Lk ak ww hL hdd haa hF hK hV hX Nk Qk hN => wnt rfl (wp_move rfl (ev (hV 7 _ rfl (hdd 7 rfl))) (hN _ _ hK rfl trivial))
 · intro Lk ak ww hL hdd haa hF hK hV hX Nk Qk hN
   refine wgf rfl rfl rfl (hV 8 _ rfl (hdd 8 rfl)) (fun qg => hN _ _ hK (bif_t qg).symm trivial) fun qg => ?_
   simp [go_sem, hF.g rfl s5]
   exact (hN _ _ hK (bif_f qg).symm trivial)
 · intro Lk ak ww hL hdd haa hF hK hV hX Nk Qk hN
   refine wgf rfl rfl rfl (hV 8 _ rfl (hdd 8 rfl)) (fun qg => hN _ _ hK (bif_t qg).symm trivial) fun qg => ?_
   simp [go_sem, (show ak.tmps[22]?.getD undef = _ from (hV 9 _ rfl (hdd 9 rfl)).trans (bif_f qg)), (b4.kp hK (by simp)).cell]
   exact (hN _ _ hK (bif_f qg).symm trivial)
 · intro Lk ak ww hL hdd haa hF hK hV hX Nk Qk hN
   refine wgf rfl rfl rfl (hV 8 _ rfl (hdd 8 rfl)) (fun qg => hN _ _ hK (bif_t qg).symm trivial) fun qg => ?_
   exact wp_bin rfl (ev ((hV 10 _ rfl (hdd 10 rfl)).trans (bif_f qg))) rfl rfl rfl (hN _ _ hK (bif_f qg).symm trivial)
 · exact fun Lk ak ww hL hdd haa hF hK hV hX Nk Qk hN => wnt rfl (wp_pick rfl (ev (hV 8 _ rfl (hdd 8 rfl))) (fun h => vor_t h) (fun h => (ev ((hV 11 _ rfl (hdd 11 rfl)).trans (bif_f h))).trans (vor_f h)) (hN _ _ hK rfl trivial))
 · exact fun Lk ak ww hL hdd haa hF hK hV hX Nk Qk hN => wnt rfl (wp_move rfl (ev (hV 12 _ rfl (hdd 12 rfl))) (hN _ _ hK rfl trivial))
 · intro Lk ak ww hL hdd haa hF hK hV hX Nk Qk hN
   refine wgf rfl rfl rfl (hV 13 _ rfl (hdd 13 rfl)) (fun qg => hN _ _ hK (bif_t qg).symm trivial) fun qg => ?_
   simp [go_sem, hF.g rfl s7]
   exact (hN _ _ hK (bif_f qg).symm trivial)
 · intro Lk ak ww hL hdd haa hF hK hV hX Nk Qk hN
   refine wgf rfl rfl rfl (hV 13 _ rfl (hdd 13 rfl)) (fun qg => hN _ _ hK (bif_t qg).symm trivial) fun qg => ?_
   simp [go_sem, (show ak.tmps[27]?.getD undef = _ from (hV 14 _ rfl (hdd 14 rfl)).trans (bif_f qg)), (b6.kp hK (by simp)).cell]
   exact (hN _ _ hK (bif_f qg).symm trivial)
 · intro Lk ak ww hL hdd haa hF hK hV hX Nk Qk hN
   refine wgf rfl rfl rfl (hV 13 _ rfl (hdd 13 rfl)) (fun qg => hN _ _ hK (bif_t qg).symm trivial) fun qg => ?_
   exact wp_bin rfl (ev ((hV 15 _ rfl (hdd 15 rfl)).trans (bif_f qg))) rfl rfl rfl (hN _ _ hK (bif_f qg).symm trivial)
 · exact fun Lk ak ww hL hdd haa hF hK hV hX Nk Qk hN => wnt rfl (wp_pick rfl (ev (hV 13 _ rfl (hdd 13 rfl))) (fun h => vor_t h) (fun h => (ev ((hV 16 _ rfl (hdd 16 rfl)).trans (bif_f h))).trans (vor_f h)) (hN _ _ hK rfl trivial))
 · exact fun Lk ak ww hL hdd haa hF hK hV hX Nk Qk hN => wnt rfl (wp_move rfl (ev (hV 17 _ rfl (hdd 17 rfl))) (hN _ _ hK rfl trivial))
 · intro Lk ak ww hL hdd haa hF hK hV hX Nk Qk hN
   refine wgf rfl rfl rfl (hV 18 _ rfl (hdd 18 rfl)) (fun qg => hN _ _ hK (bif_t qg).symm trivial) fun qg => ?_
   simp [go_sem, hF.g rfl s6]
   exact (hN _ _ hK (bif_f qg).symm trivial)
 · intro Lk ak ww hL hdd haa hF hK hV hX Nk Qk hN
   refine wgf rfl rfl rfl (hV 18 _ rfl (hdd 18 rfl)) (fun qg => hN _ _ hK (bif_t qg).symm trivial) fun qg => ?_
   simp [go_sem, (show ak.tmps[32]?.getD undef = _ from (hV 19 _ rfl (hdd 19 rfl)).trans (bif_f qg)), (b5.kp hK (by simp)).cell]
   exact (hN _ _ hK (bif_f qg).symm trivial)
 · intro Lk ak ww hL hdd haa hF hK hV hX Nk Qk hN
   refine wgf rfl rfl rfl (hV 18 _ rfl (hdd 18 rfl)) (fun qg => hN _ _ hK (bif_t qg).symm trivial) fun qg => ?_
   exact wp_bin rfl (ev ((hV 20 _ rfl (hdd 20 rfl)).trans (bif_f qg))) rfl rfl rfl (hN _ _ hK (bif_f qg).symm trivial)
 · exact fun Lk ak ww hL hdd haa hF hK hV hX Nk Qk hN => wnt rfl (wp_pick rfl (ev (hV 18 _ rfl (hdd 18 rfl))) (fun h => vor_t h) (fun h => (ev ((hV 21 _ rfl (hdd 21 rfl)).trans (bif_f h))).trans (vor_f h)) (hN _ _ hK rfl trivial))
 · exact fun Lk ak ww hL hdd haa hF hK hV hX Nk Qk hN => wnt rfl (wp_move rfl (ev (hV 22 _ rfl (hdd 22 rfl))) (hN _ _ hK rfl trivial))
 · intro Lk ak ww hL hdd haa hF hK hV hX Nk Qk hN
   refine wgf rfl rfl rfl (hV 23 _ rfl (hdd 23 rfl)) (fun qg => hN _ _ hK (bif_t qg).symm trivial) fun qg => ?_
   simp [go_sem, hF.g rfl s6, (b5.kp hK (by simp)).cell]
   exact (hN _ _ hK (bif_f qg).symm trivial)
 · intro Lk ak ww hL hdd haa hF hK hV hX Nk Qk hN
   refine wgf rfl rfl rfl (hV 23 _ rfl (hdd 23 rfl)) (fun qg => hN _ _ hK (bif_t qg).symm trivial) fun qg => ?_
   simp [go_sem, (show ak.tmps[37]?.getD undef = _ from (hV 24 _ rfl (hdd 24 rfl)).trans (bif_f qg))]
   refine (isDriven_c u ww hui).mono ?_
   rintro x wx ⟨rfl, hb⟩
   exact (hN _ _ (hK.call hb) (bif_f qg).symm trivial)
 · intro Lk ak ww hL hdd haa hF hK hV hX Nk Qk hN
   refine wgf rfl rfl rfl (hV 23 _ rfl (hdd 23 rfl)) (fun qg => hN _ _ hK (bif_t qg).symm trivial) fun qg => ?_
   exact wp_not rfl (ev ((hV 25 _ rfl (hdd 25 rfl)).trans (bif_f qg))) (hN _ _ hK (bif_f qg).symm trivial)
 · exact fun Lk ak ww hL hdd haa hF hK hV hX Nk Qk hN => wnt rfl (wp_pick rfl (ev (hV 23 _ rfl (hdd 23 rfl))) (fun h => vor_t h) (fun h => (ev ((hV 26 _ rfl (hdd 26 rfl)).trans (bif_f h))).trans (vor_f h)) (hN _ _ hK rfl trivial))
 intro L a8 w9 hL hF hK hV hX
 replace hz := hF.size.trans hz
 replace hdf := hF.defers.trans hdf
 replace s4 := hF.g rfl s4
 replace s5 := hF.g rfl s5
 replace s6 := hF.g rfl s6
 replace s7 := hF.g rfl s7
 replace s8 := hF.g rfl s8
 have s40 : a8.tmps[40]?.getD undef = .bool (((((!(spotOk s) || !(spotOk v)) || decide (s.d > 100000)) || decide (v.d > 1000)) || decide (u.d > 1000)) || !(drivenOk u)) := hV 27 _ rfl
 replace b3 := b3.kp hK (by simp)
 replace b4 := b4.kp hK (by simp)
 replace b5 := b5.kp hK (by simp)
 replace b6 := b6.kp hK (by simp)
 replace b7 := b7.kp hK (by simp)
 replace hZ := Nat.le_trans hZ hK.size
 replace hB := hK.below0 hB
 clear hF hK hV hL hX
 refine th_n ?_
 rcases Bool.eq_false_or_eq_true (((((!(spotOk s) || !(spotOk v)) || decide (s.d > 100000)) || decide (v.d > 1000)) || decide (u.d > 1000)) || !(drivenOk u)) with q10 | q10
 · skip
   refine wp_cond_true (ev (vb s40 q10)) ?_
   refine wp_seq ?_
   refine wp_regJ (by kernel_rfl) [41, 0, 9] [some (.agg #[.int .i64 0, .int .i64 0, .int .i64 0]), none, some (.bool false)] ((List.range 3).map List.range) [41, 9] [0, 1, 2] [(w.heap.size + 4)] (fun L aa ww => PreX ww (w.heap.size + 4) 57 [.int .i64 0, .int .i64 0, .int .i64 0] (L 1) (fun _ vs => vs = [.int .i64 0, .int .i64 0, .int .i64 0])) (by kernel_rfl) (by rw [hz]; decide) ?_ (ec ?_ (ec ?_ (ec ?_ .nil))) ?_
   · exact fun _ h => (⟨fun _ => b7.kp h (by simp), (fun h => by cases h)⟩)
   · intro Lk ak ww hL hdd haa hF hK hV hX Nk Qk hN; refine wnt rfl ?_
     simp [go_sem]
     exact (hN _ _ hK rfl (hX.bel (Below.refl _ _) (fun _ h => h)))
   · intro Lk ak ww hL hdd haa hF hK hV hX Nk Qk hN
     have x0 := hX
     refine wnt rfl ?_
     have HT := x0.1 hL
     simp [go_sem, (show ak.tmps[41]?.getD undef = _ from hV 0 _ rfl (hdd 0 rfl)), hF.g rfl s8, HT.cell, HT.frz]
     exact hN undef _ (hK.store (.inr (by simp)) [.int .i64 0, .int .i64 0, .int .i64 0] 0) trivial (PreX.set HT (us := [.int .i64 0, .int .i64 0, .int .i64 0]) rfl rfl)
   · exact fun Lk ak ww hL hdd haa hF hK hV hX Nk Qk hN => wnt rfl (wp_assign rfl rfl (hN _ _ hK rfl (hX.bel (Below.refl _ _) (fun _ h => h))))
   intro L a11 w12 hL hF hK hV hX
   have x0 := hX
   replace hz := hF.size.trans hz
   replace hdf := hF.defers.trans hdf
   replace s8 := hF.g rfl s8
   have s9 : a11.tmps[9]?.getD undef = .bool false := hV 2 _ rfl
   clear b7
   obtain ⟨_, b7, rfl⟩ := x0.2 (hL 1 (by decide))
   replace hZ := Nat.le_trans hZ hK.size
   replace hB := hK.below hB hB.size (by simp <;> omega)
   clear hF hK hV hL x0 s4 s5 s6 s7 s40 b3 b4 b5 b6
   refine th_n ?_
   refine wp_ret ?_
   refine th_r ?_
   refine bodyPost_ret (v := .tuple #[.agg #[.int .i64 0, .int .i64 0, .int .i64 0], .bool false]) (by simp [results, Tryz.results182, go_sem, s8, b7.cell, s9]) hdf ?_
   exact ⟨by rw [nxt_no ((nxtBad_i hr).trans q10)]; rfl, hB⟩
 · skip
   have hbad : nxtBad r s u v = false := (nxtBad_i hr).trans q10
   have K := nxt_in hbad
   have B := roomB hr
   have M := mapB B K.sok K.sd
   have hv0 := (spotOk_iff.1 K.vok).1
   obtain ⟨_, hvx, hvy, _⟩ := spotOk_iff.1 K.vok
   have hMX : -4000000000 ≤ mapX r s ∧ mapX r s ≤ 4000000000 := by have := M.x0; have := M.x1; unfold mapX; omega
   have hMY : -4000000000 ≤ mapY r s ∧ mapY r s ≤ 4000000000 := by have := M.y0; have := M.y1; unfold mapY; omega
   have hvd := K.vd
   obtain ⟨n1, n2, n3, n4, n5, n6, n7⟩ := nxt_bd hMX M.d B.bx K.ud K.un ⟨hv0.1, hvd⟩ hvx
   obtain ⟨m1, m2, m3, _, m5, m6, _⟩ := nxt_bd hMY M.d B.by_ K.ud K.un ⟨hv0.1, hvd⟩ hvy
   have hMD := M.d
   refine wp_cond_false (ev (vb s40 q10)) ?_
   refine wp_skip ?_
   refine th_n ?_
   refine wp_seq ?_
   refine wp_regJ (by kernel_rfl) [43, 44, 45, 46, 47, 48, 42, 49, 50, 51, 10, 11, 12] [some (spotV s), some (.pointer (some ⟨w.heap.size, 0, none⟩)), some (.slice ra.map.A r.map.length ra.map.c), some (.pointer (some ⟨w.heap.size, 1, none⟩)), some (.int .i64 r.div), some (.tuple #[.int .i64 (mapX r s), .int .i64 (mapY r s), .int .i64 (mapD r s)]), some (.tuple #[.int .i64 (mapX r s), .int .i64 (mapY r s), .int .i64 (mapD r s)]), some (.int .i64 (mapX r s)), some (.int .i64 (mapY r s)), some (.int .i64 (mapD r s)), some (.int .i64 (mapX r s)), some (.int .i64 (mapY r s)), some (.int .i64 (mapD r s))] ((List.range 13).map List.range) [43, 44, 45, 46, 47, 48, 42, 49, 50, 51, 10, 11, 12] [0, 1, 2, 3, 4, 5, 6, 7, 8, 9, 10, 11, 12] [] (fun _ _ _ => True) (by kernel_rfl) (by rw [hz]; decide) ?_ (ec ?_ (ec ?_ (ec ?_ (ec ?_ (ec ?_ (ec ?_ (ec ?_ (ec ?_ (ec ?_ (ec ?_ (ec ?_ (ec ?_ (ec ?_ .nil))))))))))))) ?_
   · exact fun _ _ => trivial
   · intro Lk ak ww hL hdd haa hF hK hV hX Nk Qk hN; refine wnt rfl ?_
     simp [go_sem, hF.g rfl s5, (b4.kp hK (by simp)).cell]
     exact (hN _ _ hK rfl trivial)
   · intro Lk ak ww hL hdd haa hF hK hV hX Nk Qk hN; refine wnt rfl ?_
     simp [go_sem, hF.g rfl s4]
     exact (hN _ _ hK rfl trivial)
   · intro Lk ak ww hL hdd haa hF hK hV hX Nk Qk hN; refine wnt rfl ?_
     simp [go_sem, (show ak.tmps[44]?.getD undef = _ from hV 1 _ rfl (hdd 1 rfl)), (b3.kp hK (by simp)).cell]
     exact (hN _ _ hK rfl trivial)
   · intro Lk ak ww hL hdd haa hF hK hV hX Nk Qk hN; refine wnt rfl ?_
     simp [go_sem, hF.g rfl s4]
     exact (hN _ _ hK rfl trivial)
   · intro Lk ak ww hL hdd haa hF hK hV hX Nk Qk hN; refine wnt rfl ?_
     simp [go_sem, (show ak.tmps[46]?.getD undef = _ from hV 3 _ rfl (hdd 3 rfl)), (b3.kp hK (by simp)).cell]
     exact (hN _ _ hK rfl trivial)
   · intro Lk ak ww hL hdd haa hF hK hV hX Nk Qk hN; refine wnt rfl ?_
     simp [go_sem, (show ak.tmps[43]?.getD undef = _ from hV 0 _ rfl (hdd 0 rfl)), (show ak.tmps[45]?.getD undef = _ from hV 2 _ rfl (hdd 2 rfl)), (show ak.tmps[47]?.getD undef = _ from hV 4 _ rfl (hdd 4 rfl))]
     have hBi := hK.below0 hB
     refine (iMapped_c r s ra ww hr K.sok K.sd (hsl.below hBi)).mono ?_
     rintro x wx ⟨rfl, hb⟩
     exact (hN _ _ (hK.call hb) rfl trivial)
   · exact fun Lk ak ww hL hdd haa hF hK hV hX Nk Qk hN => wnt rfl (wp_move rfl (ev (hV 5 _ rfl (hdd 5 rfl))) (hN _ _ hK rfl trivial))
   · exact fun Lk ak ww hL hdd haa hF hK hV hX Nk Qk hN => wnt rfl (wp_extract rfl (ev (hV 6 _ rfl (hdd 6 rfl))) rfl (hN _ _ hK rfl trivial))
   · exact fun Lk ak ww hL hdd haa hF hK hV hX Nk Qk hN => wnt rfl (wp_extract rfl (ev (hV 6 _ rfl (hdd 6 rfl))) rfl (hN _ _ hK rfl trivial))
   · exact fun Lk ak ww hL hdd haa hF hK hV hX Nk Qk hN => wnt rfl (wp_extract rfl (ev (hV 6 _ rfl (hdd 6 rfl))) rfl (hN _ _ hK rfl trivial))
   · exact fun Lk ak ww hL hdd haa hF hK hV hX Nk Qk hN => wnt rfl (wp_assign rfl (ev (hV 7 _ rfl (hdd 7 rfl))) (hN _ _ hK rfl trivial))
   · exact fun Lk ak ww hL hdd haa hF hK hV hX Nk Qk hN => wnt rfl (wp_assign rfl (ev (hV 8 _ rfl (hdd 8 rfl))) (hN _ _ hK rfl trivial))
   · exact fun Lk ak ww hL hdd haa hF hK hV hX Nk Qk hN => wnt rfl (wp_assign rfl (ev (hV 9 _ rfl (hdd 9 rfl))) (hN _ _ hK rfl trivial))
   intro L a13 w14 hL hF hK hV hX
   replace hz := hF.size.trans hz
   replace hdf := hF.defers.trans hdf
   replace s4 := hF.g rfl s4
   replace s6 := hF.g rfl s6
   replace s7 := hF.g rfl s7
   replace s8 := hF.g rfl s8
   have s10 : a13.tmps[10]?.getD undef = .int .i64 (mapX r s) := hV 10 _ rfl
   have s11 : a13.tmps[11]?.getD undef = .int .i64 (mapY r s) := hV 11 _ rfl
   have s12 : a13.tmps[12]?.getD undef = .int .i64 (mapD r s) := hV 12 _ rfl
   replace b3 := b3.kp hK (by simp)
   replace b5 := b5.kp hK (by simp)
   replace b6 := b6.kp hK (by simp)
   replace b7 := b7.kp hK (by simp)
   replace hZ := Nat.le_trans hZ hK.size
   replace hB := hK.below0 hB
   clear hF hK hV hL hX s5 s40 b4
   refine th_n ?_
   refine wp_seq ?_
   refine wp_regJ (by kernel_rfl) [52, 53, 54, 55, 56, 57, 58, 59, 60, 61, 62, 63, 10] [some (.int .i64 (mapX r s)), some (.pointer (some ⟨(w.heap.size + 2), 1, none⟩)), some (.int .i64 u.d), some (.int .i64 ((mapX r s) * u.d)), some (.pointer (some ⟨w.heap.size, 2, none⟩)), some (.int .i64 r.bx), some (.pointer (some ⟨(w.heap.size + 2), 0, none⟩)), some (.int .i64 u.n), some (.int .i64 (r.bx * u.n)), some (.int .i64 (mapD r s)), some (.int .i64 ((r.bx * u.n) * (mapD r s))), some (.int .i64 (((mapX r s) * u.d) + ((r.bx * u.n) * (mapD r s)))), some (.int .i64 (((mapX r s) * u.d) + ((r.bx * u.n) * (mapD r s))))] ((List.range 13).map List.range) [52, 53, 54, 55, 56, 57, 58, 59, 60, 61, 62, 63, 10] [0, 1, 2, 3, 4, 5, 6, 7, 8, 9, 10, 11, 12] [] (fun L aa ww => (L 12 = false → aa.tmps[10]?.getD undef = .int .i64 (mapX r s))) (by kernel_rfl) (by rw [hz]; decide) ?_ (ec ?_ (ec ?_ (ec ?_ (ec ?_ (ec ?_ (ec ?_ (ec ?_ (ec ?_ (ec ?_ (ec ?_ (ec ?_ (ec ?_ (ec ?_ .nil))))))))))))) ?_
   · exact fun _ h => (fun _ => s10)
   · intro Lk ak ww hL hdd haa hF hK hV hX Nk Qk hN
     have x0 := hX
     refine wnt rfl ?_
     exact wp_move rfl (ev (x0 (haa 12 rfl))) (hN _ _ hK rfl (fun h => (put_ne' (by decide) _).trans (x0 h)))
   · intro Lk ak ww hL hdd haa hF hK hV hX Nk Qk hN; refine wnt rfl ?_
     simp [go_sem, hF.g rfl s6]
     exact (hN _ _ hK rfl (fun h => (put_ne' (by decide) _).trans (hX h)))
   · intro Lk ak ww hL hdd haa hF hK hV hX Nk Qk hN; refine wnt rfl ?_
     simp [go_sem, (show ak.tmps[53]?.getD undef = _ from hV 1 _ rfl (hdd 1 rfl)), (b5.kp hK (by simp)).cell]
     exact (hN _ _ hK rfl (fun h => (put_ne' (by decide) _).trans (hX h)))
   · exact fun Lk ak ww hL hdd haa hF hK hV hX Nk Qk hN => wnt rfl (wp_mul rfl (ev (hV 0 _ rfl (hdd 0 rfl))) (ev (hV 2 _ rfl (hdd 2 rfl))) (by omega) (hN _ _ hK rfl (fun h => (put_ne' (by decide) _).trans (hX h))))
   · intro Lk ak ww hL hdd haa hF hK hV hX Nk Qk hN; refine wnt rfl ?_
     simp [go_sem, hF.g rfl s4]
     exact (hN _ _ hK rfl (fun h => (put_ne' (by decide) _).trans (hX h)))
   · intro Lk ak ww hL hdd haa hF hK hV hX Nk Qk hN; refine wnt rfl ?_
     simp [go_sem, (show ak.tmps[56]?.getD undef = _ from hV 4 _ rfl (hdd 4 rfl)), (b3.kp hK (by simp)).cell]
     exact (hN _ _ hK rfl (fun h => (put_ne' (by decide) _).trans (hX h)))
   · intro Lk ak ww hL hdd haa hF hK hV hX Nk Qk hN; refine wnt rfl ?_
     simp [go_sem, hF.g rfl s6]
     exact (hN _ _ hK rfl (fun h => (put_ne' (by decide) _).trans (hX h)))
   · intro Lk ak ww hL hdd haa hF hK hV hX Nk Qk hN; refine wnt rfl ?_
     simp [go_sem, (show ak.tmps[58]?.getD undef = _ from hV 6 _ rfl (hdd 6 rfl)), (b5.kp hK (by simp)).cell]
     exact (hN _ _ hK rfl (fun h => (put_ne' (by decide) _).trans (hX h)))
   · exact fun Lk ak ww hL hdd haa hF hK hV hX Nk Qk hN => wnt rfl (wp_mul rfl (ev (hV 5 _ rfl (hdd 5 rfl))) (ev (hV 7 _ rfl (hdd 7 rfl))) (by omega) (hN _ _ hK rfl (fun h => (put_ne' (by decide) _).trans (hX h))))
   · exact fun Lk ak ww hL hdd haa hF hK hV hX Nk Qk hN => wnt rfl (wp_move rfl (ev (hF.g rfl s12)) (hN _ _ hK rfl (fun h => (put_ne' (by decide) _).trans (hX h))))
   · exact fun Lk ak ww hL hdd haa hF hK hV hX Nk Qk hN => wnt rfl (wp_mul rfl (ev (hV 8 _ rfl (hdd 8 rfl))) (ev (hV 9 _ rfl (hdd 9 rfl))) (by omega) (hN _ _ hK rfl (fun h => (put_ne' (by decide) _).trans (hX h))))
   · exact fun Lk ak ww hL hdd haa hF hK hV hX Nk Qk hN => wnt rfl (wp_add rfl (ev (hV 3 _ rfl (hdd 3 rfl))) (ev (hV 10 _ rfl (hdd 10 rfl))) (by omega) (hN _ _ hK rfl (fun h => (put_ne' (by decide) _).trans (hX h))))
   · intro Lk ak ww hL hdd haa hF hK hV hX Nk Qk hN
     have x0 := hX
     refine wnt rfl ?_
     exact wp_assign rfl (ev (hV 11 _ rfl (hdd 11 rfl))) (hN _ _ hK rfl (fun h => by simp [upd] at h))
   intro L a15 w16 hL hF hK hV hX
   have x0 := hX
   replace hz := hF.size.trans hz
   replace hdf := hF.defers.trans hdf
   replace s4 := hF.g rfl s4
   replace s6 := hF.g rfl s6
   replace s7 := hF.g rfl s7
   replace s8 := hF.g rfl s8
   replace s11 := hF.g rfl s11
   replace s12 := hF.g rfl s12
   have s10 : a15.tmps[10]?.getD undef = .int .i64 (((mapX r s) * u.d) + ((r.bx * u.n) * (mapD r s))) := hV 12 _ rfl
   replace b3 := b3.kp hK (by simp)
   replace b5 := b5.kp hK (by simp)
   replace b6 := b6.kp hK (by simp)
   replace b7 := b7.kp hK (by simp)
   replace hZ := Nat.le_trans hZ hK.size
   replace hB := hK.below0 hB
   clear hF hK hV hL x0
   refine th_n ?_
   refine wp_seq ?_
   refine wp_regJ (by kernel_rfl) [64, 65, 66, 67, 68, 69, 70, 71, 72, 73, 74, 75, 11] [some (.int .i64 (mapY r s)), some (.pointer (some ⟨(w.heap.size + 2), 1, none⟩)), some (.int .i64 u.d), some (.int .i64 ((mapY r s) * u.d)), some (.pointer (some ⟨w.heap.size, 3, none⟩)), some (.int .i64 r.by_), some (.pointer (some ⟨(w.heap.size + 2), 0, none⟩)), some (.int .i64 u.n), some (.int .i64 (r.by_ * u.n)), some (.int .i64 (mapD r s)), some (.int .i64 ((r.by_ * u.n) * (mapD r s))), some (.int .i64 (((mapY r s) * u.d) + ((r.by_ * u.n) * (mapD r s)))), some (.int .i64 (((mapY r s) * u.d) + ((r.by_ * u.n) * (mapD r s))))] ((List.range 13).map List.range) [64, 65, 66, 67, 68, 69, 70, 71, 72, 73, 74, 75, 11] [0, 1, 2, 3, 4, 5, 6, 7, 8, 9, 10, 11, 12] [] (fun L aa ww => (L 12 = false → aa.tmps[11]?.getD undef = .int .i64 (mapY r s))) (by kernel_rfl) (by rw [hz]; decide) ?_ (ec ?_ (ec ?_ (ec ?_ (ec ?_ (ec ?_ (ec ?_ (ec ?_ (ec ?_ (ec ?_ (ec ?_ (ec ?_ (ec ?_ (ec ?_ .nil))))))))))))) ?_
   · exact fun _ h => (fun _ => s11)
   · intro Lk ak ww hL hdd haa hF hK hV hX Nk Qk hN
     have x0 := hX
     refine wnt rfl ?_
     exact wp_move rfl (ev (x0 (haa 12 rfl))) (hN _ _ hK rfl (fun h => (put_ne' (by decide) _).trans (x0 h)))
   · intro Lk ak ww hL hdd haa hF hK hV hX Nk Qk hN; refine wnt rfl ?_
     simp [go_sem, hF.g rfl s6]
     exact (hN _ _ hK rfl (fun h => (put_ne' (by decide) _).trans (hX h)))
   · intro Lk ak ww hL hdd haa hF hK hV hX Nk Qk hN; refine wnt rfl ?_
     simp [go_sem, (show ak.tmps[65]?.getD undef = _ from hV 1 _ rfl (hdd 1 rfl)), (b5.kp hK (by simp)).cell]
     exact (hN _ _ hK rfl (fun h => (put_ne' (by decide) _).trans (hX h)))
   · exact fun Lk ak ww hL hdd haa hF hK hV hX Nk Qk hN => wnt rfl (wp_mul rfl (ev (hV 0 _ rfl (hdd 0 rfl))) (ev (hV 2 _ rfl (hdd 2 rfl))) (by omega) (hN _ _ hK rfl (fun h => (put_ne' (by decide) _).trans (hX h))))
   · intro Lk ak ww hL hdd haa hF hK hV hX Nk Qk hN; refine wnt rfl ?_
     simp [go_sem, hF.g rfl s4]
     exact (hN _ _ hK rfl (fun h => (put_ne' (by decide) _).trans (hX h)))
   · intro Lk ak ww hL hdd haa hF hK hV hX Nk Qk hN; refine wnt rfl ?_
     simp [go_sem, (show ak.tmps[68]?.getD undef = _ from hV 4 _ rfl (hdd 4 rfl)), (b3.kp hK (by simp)).cell]
     exact (hN _ _ hK rfl (fun h => (put_ne' (by decide) _).trans (hX h)))
   · intro Lk ak ww hL hdd haa hF hK hV hX Nk Qk hN; refine wnt rfl ?_
     simp [go_sem, hF.g rfl s6]
     exact (hN _ _ hK rfl (fun h => (put_ne' (by decide) _).trans (hX h)))
   · intro Lk ak ww hL hdd haa hF hK hV hX Nk Qk hN; refine wnt rfl ?_
     simp [go_sem, (show ak.tmps[70]?.getD undef = _ from hV 6 _ rfl (hdd 6 rfl)), (b5.kp hK (by simp)).cell]
     exact (hN _ _ hK rfl (fun h => (put_ne' (by decide) _).trans (hX h)))
   · exact fun Lk ak ww hL hdd haa hF hK hV hX Nk Qk hN => wnt rfl (wp_mul rfl (ev (hV 5 _ rfl (hdd 5 rfl))) (ev (hV 7 _ rfl (hdd 7 rfl))) (by omega) (hN _ _ hK rfl (fun h => (put_ne' (by decide) _).trans (hX h))))
   · exact fun Lk ak ww hL hdd haa hF hK hV hX Nk Qk hN => wnt rfl (wp_move rfl (ev (hF.g rfl s12)) (hN _ _ hK rfl (fun h => (put_ne' (by decide) _).trans (hX h))))
   · exact fun Lk ak ww hL hdd haa hF hK hV hX Nk Qk hN => wnt rfl (wp_mul rfl (ev (hV 8 _ rfl (hdd 8 rfl))) (ev (hV 9 _ rfl (hdd 9 rfl))) (by omega) (hN _ _ hK rfl (fun h => (put_ne' (by decide) _).trans (hX h))))
   · exact fun Lk ak ww hL hdd haa hF hK hV hX Nk Qk hN => wnt rfl (wp_add rfl (ev (hV 3 _ rfl (hdd 3 rfl))) (ev (hV 10 _ rfl (hdd 10 rfl))) (by omega) (hN _ _ hK rfl (fun h => (put_ne' (by decide) _).trans (hX h))))
   · intro Lk ak ww hL hdd haa hF hK hV hX Nk Qk hN
     have x0 := hX
     refine wnt rfl ?_
     exact wp_assign rfl (ev (hV 11 _ rfl (hdd 11 rfl))) (hN _ _ hK rfl (fun h => by simp [upd] at h))
   intro L a17 w18 hL hF hK hV hX
   have x0 := hX
   replace hz := hF.size.trans hz
   replace hdf := hF.defers.trans hdf
   replace s6 := hF.g rfl s6
   replace s7 := hF.g rfl s7
   replace s8 := hF.g rfl s8
   replace s12 := hF.g rfl s12
   replace s10 := hF.g rfl s10
   have s11 : a17.tmps[11]?.getD undef = .int .i64 (((mapY r s) * u.d) + ((r.by_ * u.n) * (mapD r s))) := hV 12 _ rfl
   replace b5 := b5.kp hK (by simp)
   replace b6 := b6.kp hK (by simp)
   replace b7 := b7.kp hK (by simp)
   replace hZ := Nat.le_trans hZ hK.size
   replace hB := hK.below0 hB
   clear hF hK hV hL x0 s4 b3
   refine th_n ?_
   refine wp_seq ?_
   refine wp_regJ (by kernel_rfl) [76, 77, 78, 79, 12] [some (.int .i64 (mapD r s)), some (.pointer (some ⟨(w.heap.size + 2), 1, none⟩)), some (.int .i64 u.d), some (.int .i64 ((mapD r s) * u.d)), some (.int .i64 ((mapD r s) * u.d))] ((List.range 5).map List.range) [76, 77, 78, 79, 12] [0, 1, 2, 3, 4] [] (fun L aa ww => (L 4 = false → aa.tmps[12]?.getD undef = .int .i64 (mapD r s))) (by kernel_rfl) (by rw [hz]; decide) ?_ (ec ?_ (ec ?_ (ec ?_ (ec ?_ (ec ?_ .nil))))) ?_
   · exact fun _ h => (fun _ => s12)
   · intro Lk ak ww hL hdd haa hF hK hV hX Nk Qk hN
     have x0 := hX
     refine wnt rfl ?_
     exact wp_move rfl (ev (x0 (haa 4 rfl))) (hN _ _ hK rfl (fun h => (put_ne' (by decide) _).trans (x0 h)))
   · intro Lk ak ww hL hdd haa hF hK hV hX Nk Qk hN; refine wnt rfl ?_
     simp [go_sem, hF.g rfl s6]
     exact (hN _ _ hK rfl (fun h => (put_ne' (by decide) _).trans (hX h)))
   · intro Lk ak ww hL hdd haa hF hK hV hX Nk Qk hN; refine wnt rfl ?_
     simp [go_sem, (show ak.tmps[77]?.getD undef = _ from hV 1 _ rfl (hdd 1 rfl)), (b5.kp hK (by simp)).cell]
     exact (hN _ _ hK rfl (fun h => (put_ne' (by decide) _).trans (hX h)))
   · exact fun Lk ak ww hL hdd haa hF hK hV hX Nk Qk hN => wnt rfl (wp_mul rfl (ev (hV 0 _ rfl (hdd 0 rfl))) (ev (hV 2 _ rfl (hdd 2 rfl))) (by omega) (hN _ _ hK rfl (fun h => (put_ne' (by decide) _).trans (hX h))))
   · intro Lk ak ww hL hdd haa hF hK hV hX Nk Qk hN
     have x0 := hX
     refine wnt rfl ?_
     exact wp_assign rfl (ev (hV 3 _ rfl (hdd 3 rfl))) (hN _ _ hK rfl (fun h => by simp [upd] at h))
   intro L a19 w20 hL hF hK hV hX
   have x0 := hX
   replace hz := hF.size.trans hz
   replace hdf := hF.defers.trans hdf
   replace s7 := hF.g rfl s7
   replace s8 := hF.g rfl s8
   replace s10 := hF.g rfl s10
   replace s11 := hF.g rfl s11
   have s12 : a19.tmps[12]?.getD undef = .int .i64 ((mapD r s) * u.d) := hV 4 _ rfl
   replace b6 := b6.kp hK (by simp)
   replace b7 := b7.kp hK (by simp)
   replace hZ := Nat.le_trans hZ hK.size
   replace hB := hK.below0 hB
   clear hF hK hV hL x0 s6 b5
   refine th_n ?_
   refine wp_seq ?_
   refine wp_regJ (by kernel_rfl) [80, 81, 82, 83, 84, 85, 86, 87, 88, 89, 90, 91, 92, 93, 94, 95, 96, 97, 98, 99, 100, 101, 102, 103, 104, 0, 9] [some (.int .i64 (((mapX r s) * u.d) + ((r.bx * u.n) * (mapD r s)))), some (.pointer (some ⟨(w.heap.size + 3), 2, none⟩)), some (.int .i64 v.d), some (.int .i64 ((((mapX r s) * u.d) + ((r.bx * u.n) * (mapD r s))) * v.d)), some (.pointer (some ⟨(w.heap.size + 3), 0, none⟩)), some (.int .i64 v.x), some (.int .i64 ((mapD r s) * u.d)), some (.int .i64 (v.x * ((mapD r s) * u.d))), some (.int .i64 (((((mapX r s) * u.d) + ((r.bx * u.n) * (mapD r s))) * v.d) + (v.x * ((mapD r s) * u.d)))), some (.int .i64 (((mapY r s) * u.d) + ((r.by_ * u.n) * (mapD r s)))), some (.pointer (some ⟨(w.heap.size + 3), 2, none⟩)), some (.int .i64 v.d), some (.int .i64 ((((mapY r s) * u.d) + ((r.by_ * u.n) * (mapD r s))) * v.d)), some (.pointer (some ⟨(w.heap.size + 3), 1, none⟩)), some (.int .i64 v.y), some (.int .i64 ((mapD r s) * u.d)), some (.int .i64 (v.y * ((mapD r s) * u.d))), some (.int .i64 (((((mapY r s) * u.d) + ((r.by_ * u.n) * (mapD r s))) * v.d) + (v.y * ((mapD r s) * u.d)))), some (.int .i64 ((mapD r s) * u.d)), some (.pointer (some ⟨(w.heap.size + 3), 2, none⟩)), some (.int .i64 v.d), some (.int .i64 (((mapD r s) * u.d) * v.d)), some (.tuple #[spotV ((nxtS r s u v).getD sp0), .bool ((nxtS r s u v).isSome)]), some (spotV ((nxtS r s u v).getD sp0)), some (.bool ((nxtS r s u v).isSome)), none, some (.bool ((nxtS r s u v).isSome))] ((List.range 27).map List.range) [80, 81, 82, 83, 84, 85, 86, 87, 88, 89, 90, 91, 92, 93, 94, 95, 96, 97, 98, 99, 100, 101, 102, 103, 104, 9] [0, 1, 2, 3, 4, 5, 6, 7, 8, 9, 10, 11, 12, 13, 14, 15, 16, 17, 18, 19, 20, 21, 22, 23, 24, 25, 26] [(w.heap.size + 4)] (fun L aa ww => PreX ww (w.heap.size + 4) 57 [.int .i64 0, .int .i64 0, .int .i64 0] (L 25) (fun _ vs => vs = [.int .i64 (((nxtS r s u v).getD sp0).x), .int .i64 (((nxtS r s u v).getD sp0).y), .int .i64 (((nxtS r s u v).getD sp0).d)])) (by kernel_rfl) (by rw [hz]; decide) ?_ (ec ?_ (ec ?_ (ec ?_ (ec ?_ (ec ?_ (ec ?_ (ec ?_ (ec ?_ (ec ?_ (ec ?_ (ec ?_ (ec ?_ (ec ?_ (ec ?_ (ec ?_ (ec ?_ (ec ?_ (ec ?_ (ec ?_ (ec ?_ (ec ?_ (ec ?_ (ec ?_ (ec ?_ (ec ?_ (ec ?_ (ec ?_ .nil))))))))))))))))))))))))))) ?_
   · exact fun _ h => (⟨fun _ => b7.kp h (by simp), (fun h => by cases h)⟩)
   · exact fun Lk ak ww hL hdd haa hF hK hV hX Nk Qk hN => wnt rfl (wp_move rfl (ev (hF.g rfl s10)) (hN _ _ hK rfl (hX.bel (Below.refl _ _) (fun _ h => h))))
   · intro Lk ak ww hL hdd haa hF hK hV hX Nk Qk hN; refine wnt rfl ?_
     simp [go_sem, hF.g rfl s7]
     exact (hN _ _ hK rfl (hX.bel (Below.refl _ _) (fun _ h => h)))
   · intro Lk ak ww hL hdd haa hF hK hV hX Nk Qk hN; refine wnt rfl ?_
     simp [go_sem, (show ak.tmps[81]?.getD undef = _ from hV 1 _ rfl (hdd 1 rfl)), (b6.kp hK (by simp <;> omega)).cell]
     exact (hN _ _ hK rfl (hX.bel (Below.refl _ _) (fun _ h => h)))
   · exact fun Lk ak ww hL hdd haa hF hK hV hX Nk Qk hN => wnt rfl (wp_mul rfl (ev (hV 0 _ rfl (hdd 0 rfl))) (ev (hV 2 _ rfl (hdd 2 rfl))) (by omega) (hN _ _ hK rfl (hX.bel (Below.refl _ _) (fun _ h => h))))
   · intro Lk ak ww hL hdd haa hF hK hV hX Nk Qk hN; refine wnt rfl ?_
     simp [go_sem, hF.g rfl s7]
     exact (hN _ _ hK rfl (hX.bel (Below.refl _ _) (fun _ h => h)))
   · intro Lk ak ww hL hdd haa hF hK hV hX Nk Qk hN; refine wnt rfl ?_
     simp [go_sem, (show ak.tmps[84]?.getD undef = _ from hV 4 _ rfl (hdd 4 rfl)), (b6.kp hK (by simp <;> omega)).cell]
     exact (hN _ _ hK rfl (hX.bel (Below.refl _ _) (fun _ h => h)))
   · exact fun Lk ak ww hL hdd haa hF hK hV hX Nk Qk hN => wnt rfl (wp_move rfl (ev (hF.g rfl s12)) (hN _ _ hK rfl (hX.bel (Below.refl _ _) (fun _ h => h))))
   · exact fun Lk ak ww hL hdd haa hF hK hV hX Nk Qk hN => wnt rfl (wp_mul rfl (ev (hV 5 _ rfl (hdd 5 rfl))) (ev (hV 6 _ rfl (hdd 6 rfl))) (by omega) (hN _ _ hK rfl (hX.bel (Below.refl _ _) (fun _ h => h))))
   · exact fun Lk ak ww hL hdd haa hF hK hV hX Nk Qk hN => wnt rfl (wp_add rfl (ev (hV 3 _ rfl (hdd 3 rfl))) (ev (hV 7 _ rfl (hdd 7 rfl))) (by omega) (hN _ _ hK rfl (hX.bel (Below.refl _ _) (fun _ h => h))))
   · exact fun Lk ak ww hL hdd haa hF hK hV hX Nk Qk hN => wnt rfl (wp_move rfl (ev (hF.g rfl s11)) (hN _ _ hK rfl (hX.bel (Below.refl _ _) (fun _ h => h))))
   · intro Lk ak ww hL hdd haa hF hK hV hX Nk Qk hN; refine wnt rfl ?_
     simp [go_sem, hF.g rfl s7]
     exact (hN _ _ hK rfl (hX.bel (Below.refl _ _) (fun _ h => h)))
   · intro Lk ak ww hL hdd haa hF hK hV hX Nk Qk hN; refine wnt rfl ?_
     simp [go_sem, (show ak.tmps[90]?.getD undef = _ from hV 10 _ rfl (hdd 10 rfl)), (b6.kp hK (by simp <;> omega)).cell]
     exact (hN _ _ hK rfl (hX.bel (Below.refl _ _) (fun _ h => h)))
   · exact fun Lk ak ww hL hdd haa hF hK hV hX Nk Qk hN => wnt rfl (wp_mul rfl (ev (hV 9 _ rfl (hdd 9 rfl))) (ev (hV 11 _ rfl (hdd 11 rfl))) (by omega) (hN _ _ hK rfl (hX.bel (Below.refl _ _) (fun _ h => h))))
   · intro Lk ak ww hL hdd haa hF hK hV hX Nk Qk hN; refine wnt rfl ?_
     simp [go_sem, hF.g rfl s7]
     exact (hN _ _ hK rfl (hX.bel (Below.refl _ _) (fun _ h => h)))
   · intro Lk ak ww hL hdd haa hF hK hV hX Nk Qk hN; refine wnt rfl ?_
     simp [go_sem, (show ak.tmps[93]?.getD undef = _ from hV 13 _ rfl (hdd 13 rfl)), (b6.kp hK (by simp <;> omega)).cell]
     exact (hN _ _ hK rfl (hX.bel (Below.refl _ _) (fun _ h => h)))
   · exact fun Lk ak ww hL hdd haa hF hK hV hX Nk Qk hN => wnt rfl (wp_move rfl (ev (hF.g rfl s12)) (hN _ _ hK rfl (hX.bel (Below.refl _ _) (fun _ h => h))))
   · exact fun Lk ak ww hL hdd haa hF hK hV hX Nk Qk hN => wnt rfl (wp_mul rfl (ev (hV 14 _ rfl (hdd 14 rfl))) (ev (hV 15 _ rfl (hdd 15 rfl))) (by omega) (hN _ _ hK rfl (hX.bel (Below.refl _ _) (fun _ h => h))))
   · exact fun Lk ak ww hL hdd haa hF hK hV hX Nk Qk hN => wnt rfl (wp_add rfl (ev (hV 12 _ rfl (hdd 12 rfl))) (ev (hV 16 _ rfl (hdd 16 rfl))) (by omega) (hN _ _ hK rfl (hX.bel (Below.refl _ _) (fun _ h => h))))
   · exact fun Lk ak ww hL hdd haa hF hK hV hX Nk Qk hN => wnt rfl (wp_move rfl (ev (hF.g rfl s12)) (hN _ _ hK rfl (hX.bel (Below.refl _ _) (fun _ h => h))))
   · intro Lk ak ww hL hdd haa hF hK hV hX Nk Qk hN; refine wnt rfl ?_
     simp [go_sem, hF.g rfl s7]
     exact (hN _ _ hK rfl (hX.bel (Below.refl _ _) (fun _ h => h)))
   · intro Lk ak ww hL hdd haa hF hK hV hX Nk Qk hN; refine wnt rfl ?_
     simp [go_sem, (show ak.tmps[99]?.getD undef = _ from hV 19 _ rfl (hdd 19 rfl)), (b6.kp hK (by simp <;> omega)).cell]
     exact (hN _ _ hK rfl (hX.bel (Below.refl _ _) (fun _ h => h)))
   · exact fun Lk ak ww hL hdd haa hF hK hV hX Nk Qk hN => wnt rfl (wp_mul rfl (ev (hV 18 _ rfl (hdd 18 rfl))) (ev (hV 20 _ rfl (hdd 20 rfl))) (by omega) (hN _ _ hK rfl (hX.bel (Below.refl _ _) (fun _ h => h))))
   · intro Lk ak ww hL hdd haa hF hK hV hX Nk Qk hN; refine wnt rfl ?_
     simp [go_sem, (show ak.tmps[88]?.getD undef = _ from hV 8 _ rfl (hdd 8 rfl)), (show ak.tmps[97]?.getD undef = _ from hV 17 _ rfl (hdd 17 rfl)), (show ak.tmps[101]?.getD undef = _ from hV 21 _ rfl (hdd 21 rfl))]
     refine (show Calls Tryz.prog 107 #[.int .i64 (nxtX r s u v), .int .i64 (nxtY r s u v), .int .i64 (nxtD r s u v)] ww (fun e w' => e = .returned (optSpotV (nxtS r s u v)) ∧ Below ww.heap.size ww w') from iSpotOf_c _ _ _ ww (by unfold nxtX; exact ⟨by omega, by omega⟩) (by unfold nxtY; exact ⟨by omega, by omega⟩) (by unfold nxtD; exact ⟨by omega, by omega⟩)).mono ?_
     rintro x wx ⟨rfl, hb⟩
     exact (hN _ _ (hK.call hb) (optSpot_eq _) (hX.bel hb (fun _ h => h)))
   · exact fun Lk ak ww hL hdd haa hF hK hV hX Nk Qk hN => wnt rfl (wp_extract rfl (ev (hV 22 _ rfl (hdd 22 rfl))) rfl (hN _ _ hK rfl (hX.bel (Below.refl _ _) (fun _ h => h))))
   · exact fun Lk ak ww hL hdd haa hF hK hV hX Nk Qk hN => wnt rfl (wp_extract rfl (ev (hV 22 _ rfl (hdd 22 rfl))) rfl (hN _ _ hK rfl (hX.bel (Below.refl _ _) (fun _ h => h))))
   · intro Lk ak ww hL hdd haa hF hK hV hX Nk Qk hN
     have x0 := hX
     refine wnt rfl ?_
     have HT := x0.1 hL
     simp [go_sem, (show ak.tmps[103]?.getD undef = _ from hV 23 _ rfl (hdd 23 rfl)), hF.g rfl s8, HT.cell, HT.frz]
     exact hN undef _ (hK.store (.inr (by simp)) [.int .i64 (((nxtS r s u v).getD sp0).x), .int .i64 (((nxtS r s u v).getD sp0).y), .int .i64 (((nxtS r s u v).getD sp0).d)] 0) trivial (PreX.set HT (us := [.int .i64 (((nxtS r s u v).getD sp0).x), .int .i64 (((nxtS r s u v).getD sp0).y), .int .i64 (((nxtS r s u v).getD sp0).d)]) rfl rfl)
   · exact fun Lk ak ww hL hdd haa hF hK hV hX Nk Qk hN => wnt rfl (wp_assign rfl (ev (hV 24 _ rfl (hdd 24 rfl))) (hN _ _ hK rfl (hX.bel (Below.refl _ _) (fun _ h => h))))
   intro L a21 w22 hL hF hK hV hX
   have x0 := hX
   replace hz := hF.size.trans hz
   replace hdf := hF.defers.trans hdf
   replace s8 := hF.g rfl s8
   have s9 : a21.tmps[9]?.getD undef = .bool ((nxtS r s u v).isSome) := hV 26 _ rfl
   clear b7
   obtain ⟨_, b7, rfl⟩ := x0.2 (hL 25 (by decide))
   replace hZ := Nat.le_trans hZ hK.size
   replace hB := hK.below hB hB.size (by simp <;> omega)
   clear hF hK hV hL x0 s7 s10 s11 s12 b6
   refine th_n ?_
   refine wp_ret ?_
   refine bodyPost_ret (v := .tuple #[spotV ((nxtS r s u v).getD sp0), .bool ((nxtS r s u v).isSome)]) (by simp [results, Tryz.results182, go_sem, s8, b7.cell, s9]) hdf ?_
   exact ⟨by rw [nxt_yes hbad, optSpot_eq], hB⟩
set_option maxRecDepth 100000 in
set_option maxHeartbeats 3000000 in
theorem sNext_c (r : Room) (s : Spot) (u : Ratio) (v : Spot) (ra : RoomA) (w : World) (hn : roomLen r ≤ 1048576) (hin : RoomIn r) (hsl : RoomSl w r ra) (hnl : RoomNil ra) (hsi : s.In) (hui : u.In) (hvi : v.In) :
    Calls Tryz.prog 112 #[roomV r ra, spotV s, ratioV u, spotV v] w fun x w' => x = .returned (optSpotV (nxtO r s u v)) ∧ Below w.heap.size w w' := by
 refine calls_v Tryz.func112 rfl (n := 160) Tryz.ntmps112 (by simp) ?_
 intro a0 hz hdf ha
 have s0 : a0.tmps[0]?.getD undef = roomV r ra := ha 0 _ rfl
 have s1 : a0.tmps[1]?.getD undef = spotV s := ha 1 _ rfl
 have s2 : a0.tmps[2]?.getD undef = ratioV u := ha 2 _ rfl
 have s3 : a0.tmps[3]?.getD undef = spotV v := ha 3 _ rfl
 clear ha
 have hB := Below.refl w.heap.size w
 have hZ := Nat.le_refl w.heap.size
 refine wp_seq ?_
 refine wp_entry [4, 5, 6, 7, 8, 9] [.pointer (some ⟨w.heap.size, 0, none⟩), .pointer (some ⟨(w.heap.size + 1), 0, none⟩), .pointer (some ⟨(w.heap.size + 2), 0, none⟩), .pointer (some ⟨(w.heap.size + 3), 0, none⟩), .pointer (some ⟨(w.heap.size + 4), 0, none⟩), .bool false] [some (.cells (roomC r ra).toArray 39), some (.cells [.int .i64 s.x, .int .i64 s.y, .int .i64 s.d].toArray 57), some (.cells [.int .i64 u.n, .int .i64 u.d].toArray 52), some (.cells [.int .i64 v.x, .int .i64 v.y, .int .i64 v.d].toArray 57), some (.cells [.int .i64 0, .int .i64 0, .int .i64 0].toArray 57), none] [0, 1, 2, 3, 4, 5] [4, 5, 6, 7, 8, 9] [0, 1, 2, 3, 4, 5] (by kernel_rfl) (by rw [hz]; decide) (ec ?_ (ec ?_ (ec ?_ (ec ?_ (ec ?_ (ec ?_ .nil)))))) ?_
 · intro a w' hF hs N Q hN; simp [go_sem, hF.g rfl s0]; rw [hs]; exact hN
 · intro a w' hF hs N Q hN; simp [go_sem, hF.g rfl s1]; rw [hs]; exact hN
 · intro a w' hF hs N Q hN; simp [go_sem, hF.g rfl s2]; rw [hs]; exact hN
 · intro a w' hF hs N Q hN; simp [go_sem, hF.g rfl s3]; rw [hs]; exact hN
 · intro a w' hF hs N Q hN; simp [go_sem]; rw [hs]; exact hN
 · intro a w' hF hs N Q hN; simp [go_sem]; exact hN
 intro a1 w2 hF hV hb hO
 replace hz := hF.size.trans hz
 replace hdf := hF.defers.trans hdf
 have s4 : a1.tmps[4]?.getD undef = .pointer (some ⟨w.heap.size, 0, none⟩) := hV 0 (by decide)
 have s5 : a1.tmps[5]?.getD undef = .pointer (some ⟨(w.heap.size + 1), 0, none⟩) := hV 1 (by decide)
 have s6 : a1.tmps[6]?.getD undef = .pointer (some ⟨(w.heap.size + 2), 0, none⟩) := hV 2 (by decide)
 have s7 : a1.tmps[7]?.getD undef = .pointer (some ⟨(w.heap.size + 3), 0, none⟩) := hV 3 (by decide)
 have s8 : a1.tmps[8]?.getD undef = .pointer (some ⟨(w.heap.size + 4), 0, none⟩) := hV 4 (by decide)
 have b3 : HasT w2 w.heap.size 39 (roomC r ra) := hO 0 _ rfl
 have b4 : HasT w2 (w.heap.size + 1) 57 [.int .i64 s.x, .int .i64 s.y, .int .i64 s.d] := hO 1 _ rfl
 have b5 : HasT w2 (w.heap.size + 2) 52 [.int .i64 u.n, .int .i64 u.d] := hO 2 _ rfl
 have b6 : HasT w2 (w.heap.size + 3) 57 [.int .i64 v.x, .int .i64 v.y, .int .i64 v.d] := hO 3 _ rfl
 have b7 : HasT w2 (w.heap.size + 4) 57 [.int .i64 0, .int .i64 0, .int .i64 0] := hO 4 _ rfl
 have hG := b7.lt
 replace hB := below_tr hB hb
 have zw2 := Nat.le_trans hZ hb.size
 replace hZ := Nat.le_refl w2.heap.size
 clear hF hV hb hO s0 s1 s2 s3
 refine th_n ?_
 refine wp_seq ?_
 refine wp_seq ?_
 refine wp_regJ (by kernel_rfl) [14, 15, 16, 17, 18, 19, 20, 21, 22, 23, 24, 25, 26, 27, 28, 29, 30, 31, 32, 33, 34, 35, 36, 37, 38, 39, 40, 41, 42, 43, 44, 45, 46, 47, 48, 49, 50, 51, 52, 53, 54, 55, 56, 57, 58] [some (roomV r ra), some (.bool (roomOk r)), some (.bool (!(roomOk r))), some (.bool (!(roomOk r))), some ((bif !(roomOk r) then undef else (spotV s : Value))), some ((bif !(roomOk r) then undef else (.bool (spotOk s) : Value))), some ((bif !(roomOk r) then undef else (.bool (!(spotOk s)) : Value))), some (.bool (!(roomOk r) || !(spotOk s))), some (.bool (!(roomOk r) || !(spotOk s))), some ((bif (!(roomOk r) || !(spotOk s)) then undef else (ratioV u : Value))), some ((bif (!(roomOk r) || !(spotOk s)) then undef else (.bool (ratioOk u) : Value))), some ((bif (!(roomOk r) || !(spotOk s)) then undef else (.bool (!(ratioOk u)) : Value))), some (.bool ((!(roomOk r) || !(spotOk s)) || !(ratioOk u))), some (.bool ((!(roomOk r) || !(spotOk s)) || !(ratioOk u))), some ((bif ((!(roomOk r) || !(spotOk s)) || !(ratioOk u)) then undef else (spotV v : Value))), some ((bif ((!(roomOk r) || !(spotOk s)) || !(ratioOk u)) then undef else (.bool (spotOk v) : Value))), some ((bif ((!(roomOk r) || !(spotOk s)) || !(ratioOk u)) then undef else (.bool (!(spotOk v)) : Value))), some (.bool (((!(roomOk r) || !(spotOk s)) || !(ratioOk u)) || !(spotOk v))), some (.bool (((!(roomOk r) || !(spotOk s)) || !(ratioOk u)) || !(spotOk v))), some ((bif (((!(roomOk r) || !(spotOk s)) || !(ratioOk u)) || !(spotOk v)) then undef else (.pointer (some ⟨(w.heap.size + 1), 2, none⟩) : Value))), some ((bif (((!(roomOk r) || !(spotOk s)) || !(ratioOk u)) || !(spotOk v)) then undef else (.int .i64 s.d : Value))), some ((bif (((!(roomOk r) || !(spotOk s)) || !(ratioOk u)) || !(spotOk v)) then undef else (.bool (decide (s.d > 100000)) : Value))), some (.bool ((((!(roomOk r) || !(spotOk s)) || !(ratioOk u)) || !(spotOk v)) || decide (s.d > 100000))), some (.bool ((((!(roomOk r) || !(spotOk s)) || !(ratioOk u)) || !(spotOk v)) || decide (s.d > 100000))), some ((bif ((((!(roomOk r) || !(spotOk s)) || !(ratioOk u)) || !(spotOk v)) || decide (s.d > 100000)) then undef else (.pointer (some ⟨(w.heap.size + 3), 2, none⟩) : Value))), some ((bif ((((!(roomOk r) || !(spotOk s)) || !(ratioOk u)) || !(spotOk v)) || decide (s.d > 100000)) then undef else (.int .i64 v.d : Value))), some ((bif ((((!(roomOk r) || !(spotOk s)) || !(ratioOk u)) || !(spotOk v)) || decide (s.d > 100000)) then undef else (.bool (decide (v.d > 1000)) : Value))), some (.bool (((((!(roomOk r) || !(spotOk s)) || !(ratioOk u)) || !(spotOk v)) || decide (s.d > 100000)) || decide (v.d > 1000))), some (.bool (((((!(roomOk r) || !(spotOk s)) || !(ratioOk u)) || !(spotOk v)) || decide (s.d > 100000)) || decide (v.d > 1000))), some ((bif (((((!(roomOk r) || !(spotOk s)) || !(ratioOk u)) || !(spotOk v)) || decide (s.d > 100000)) || decide (v.d > 1000)) then undef else (.pointer (some ⟨(w.heap.size + 2), 1, none⟩) : Value))), some ((bif (((((!(roomOk r) || !(spotOk s)) || !(ratioOk u)) || !(spotOk v)) || decide (s.d > 100000)) || decide (v.d > 1000)) then undef else (.int .i64 u.d : Value))), some ((bif (((((!(roomOk r) || !(spotOk s)) || !(ratioOk u)) || !(spotOk v)) || decide (s.d > 100000)) || decide (v.d > 1000)) then undef else (.bool (decide (u.d > 1000)) : Value))), some (.bool ((((((!(roomOk r) || !(spotOk s)) || !(ratioOk u)) || !(spotOk v)) || decide (s.d > 100000)) || decide (v.d > 1000)) || decide (u.d > 1000))), some (.bool ((((((!(roomOk r) || !(spotOk s)) || !(ratioOk u)) || !(spotOk v)) || decide (s.d > 100000)) || decide (v.d > 1000)) || decide (u.d > 1000))), some ((bif ((((((!(roomOk r) || !(spotOk s)) || !(ratioOk u)) || !(spotOk v)) || decide (s.d > 100000)) || decide (v.d > 1000)) || decide (u.d > 1000)) then undef else (.pointer (some ⟨(w.heap.size + 2), 0, none⟩) : Value))), some ((bif ((((((!(roomOk r) || !(spotOk s)) || !(ratioOk u)) || !(spotOk v)) || decide (s.d > 100000)) || decide (v.d > 1000)) || decide (u.d > 1000)) then undef else (.int .i64 u.n : Value))), some ((bif ((((((!(roomOk r) || !(spotOk s)) || !(ratioOk u)) || !(spotOk v)) || decide (s.d > 100000)) || decide (v.d > 1000)) || decide (u.d > 1000)) then undef else (.pointer (some ⟨(w.heap.size + 2), 1, none⟩) : Value))), some ((bif ((((((!(roomOk r) || !(spotOk s)) || !(ratioOk u)) || !(spotOk v)) || decide (s.d > 100000)) || decide (v.d > 1000)) || decide (u.d > 1000)) then undef else (.int .i64 u.d : Value))), some ((bif ((((((!(roomOk r) || !(spotOk s)) || !(ratioOk u)) || !(spotOk v)) || decide (s.d > 100000)) || decide (v.d > 1000)) || decide (u.d > 1000)) then undef else (.int .i64 ((-1000) * u.d) : Value))), some ((bif ((((((!(roomOk r) || !(spotOk s)) || !(ratioOk u)) || !(spotOk v)) || decide (s.d > 100000)) || decide (v.d > 1000)) || decide (u.d > 1000)) then undef else (.pointer (some ⟨(w.heap.size + 2), 1, none⟩) : Value))), some ((bif ((((((!(roomOk r) || !(spotOk s)) || !(ratioOk u)) || !(spotOk v)) || decide (s.d > 100000)) || decide (v.d > 1000)) || decide (u.d > 1000)) then undef else (.int .i64 u.d : Value))), some ((bif ((((((!(roomOk r) || !(spotOk s)) || !(ratioOk u)) || !(spotOk v)) || decide (s.d > 100000)) || decide (v.d > 1000)) || decide (u.d > 1000)) then undef else (.int .i64 (1000 * u.d) : Value))), some ((bif ((((((!(roomOk r) || !(spotOk s)) || !(ratioOk u)) || !(spotOk v)) || decide (s.d > 100000)) || decide (v.d > 1000)) || decide (u.d > 1000)) then undef else (.bool (inR u.n ((-1000) * u.d) (1000 * u.d)) : Value))), some ((bif ((((((!(roomOk r) || !(spotOk s)) || !(ratioOk u)) || !(spotOk v)) || decide (s.d > 100000)) || decide (v.d > 1000)) || decide (u.d > 1000)) then undef else (.bool (!(inR u.n ((-1000) * u.d) (1000 * u.d))) : Value))), some (.bool (((((((!(roomOk r) || !(spotOk s)) || !(ratioOk u)) || !(spotOk v)) || decide (s.d > 100000)) || decide (v.d > 1000)) || decide (u.d > 1000)) || !(inR u.n ((-1000) * u.d) (1000 * u.d))))] ((List.range 45).map List.range) [14, 15, 16, 17, 18, 19, 20, 21, 22, 23, 24, 25, 26, 27, 28, 29, 30, 31, 32, 33, 34, 35, 36, 37, 38, 39, 40, 41, 42, 43, 44, 45, 46, 47, 48, 49, 50, 51, 52, 53, 54, 55, 56, 57, 58] [0, 1, 2, 3, 4, 5, 6, 7, 8, 9, 10, 11, 12, 13, 14, 15, 16, 17, 18, 19, 20, 21, 22, 23, 24, 25, 26, 27, 28, 29, 30, 31, 32, 33, 34, 35, 36, 37, 38, 39, 40, 41, 42, 43, 44] [] (fun _ _ _ => True) (by kernel_rfl) (by rw [hz]; decide) ?_ (ec ?_ (ec ?_ (ec ?_ (ec ?_ (ec ?_ (ec ?_ (ec ?_ (ec ?_ (ec ?_ (ec ?_ (ec ?_ (ec ?_ (ec ?_ (ec ?_ (ec ?_ (ec ?_ (ec ?_ (ec ?_ (ec ?_ (ec ?_ (ec ?_ (ec ?_ (ec ?_ (ec ?_ (ec ?_ (ec ?_ (ec ?_ (ec ?_ (ec ?_ (ec ?_ (ec ?_ (ec ?_ (ec ?_ (ec ?_ (ec ?_ (ec ?_ (ec ?_ (ec ?_ (ec ?_ (ec ?_ (ec ?_ (ec ?_ (ec ?_ (ec ?_ (ec ?_ .nil))))))))))))))))))))))))))))))))))))))))))))) ?_
 · exact fun _ _ => trivial
 · intro Lk ak ww hL hdd haa hF hK hV hX Nk Qk hN; refine wnt rfl ?_
   simp [go_sem, hF.g rfl s4, (b3.kp hK (by simp)).cell]
   exact (hN _ _ hK rfl trivial)
 · intro Lk ak ww hL hdd haa hF hK hV hX Nk Qk hN; refine wnt rfl ?_
   simp [go_sem, (show ak.tmps[14]?.getD undef = _ from hV 0 _ rfl (hdd 0 rfl))]
   have hBi := hK.below0 hB
   refine (sRoomOk_c r ra ww hn hin (hsl.below hBi) hnl).mono ?_
   rintro x wx ⟨rfl, hb⟩
   exact (hN _ _ (hK.call hb) rfl trivial)
 · exact fun Lk ak ww hL hdd haa hF hK hV hX Nk Qk hN => wnt rfl (wp_not rfl (ev (hV 1 _ rfl (hdd 1 rfl))) (hN _ _ hK rfl trivial))
 · exact fun Lk ak ww hL hdd haa hF hK hV hX Nk Qk hN => wnt rfl (wp_move rfl (ev (hV 2 _ rfl (hdd 2 rfl))) (hN _ _ hK rfl trivial))
 · intro Lk ak ww hL hdd haa hF hK hV hX Nk Qk hN
   refine wgf rfl rfl rfl (hV 3 _ rfl (hdd 3 rfl)) (fun qg => hN _ _ hK (bif_t qg).symm trivial) fun qg => ?_
   simp [go_sem, hF.g rfl s5, (b4.kp hK (by simp)).cell]
   exact (hN _ _ hK (bif_f qg).symm trivial)
 · intro Lk ak ww hL hdd haa hF hK hV hX Nk Qk hN
   refine wgf rfl rfl rfl (hV 3 _ rfl (hdd 3 rfl)) (fun qg => hN _ _ hK (bif_t qg).symm trivial) fun qg => ?_
   simp [go_sem, (show ak.tmps[18]?.getD undef = _ from (hV 4 _ rfl (hdd 4 rfl)).trans (bif_f qg))]
   refine (sSpotOk_c s ww hsi).mono ?_
   rintro x wx ⟨rfl, hb⟩
   exact (hN _ _ (hK.call hb) (bif_f qg).symm trivial)
 · intro Lk ak ww hL hdd haa hF hK hV hX Nk Qk hN
   refine wgf rfl rfl rfl (hV 3 _ rfl (hdd 3 rfl)) (fun qg => hN _ _ hK (bif_t qg).symm trivial) fun qg => ?_
   exact wp_not rfl (ev ((hV 5 _ rfl (hdd 5 rfl)).trans (bif_f qg))) (hN _ _ hK (bif_f qg).symm trivial)
 · exact fun Lk ak ww hL hdd haa hF hK hV hX Nk Qk hN => wnt rfl (wp_pick rfl (ev (hV 3 _ rfl (hdd 3 rfl))) (fun h => vor_t h) (fun h => (ev ((hV 6 _ rfl (hdd 6 rfl)).trans (bif_f h))).trans (vor_f h)) (hN _ _ hK rfl trivial))
 · exact fun Lk ak ww hL hdd haa hF hK hV hX Nk Qk hN => wnt rfl (wp_move rfl (ev (hV 7 _ rfl (hdd 7 rfl))) (hN _ _ hK rfl trivial))
 · intro Lk ak ww hL hdd haa hF hK hV hX Nk Qk hN
   refine wgf rfl rfl rfl (hV 8 _ rfl (hdd 8 rfl)) (fun qg => hN _ _ hK (bif_t qg).symm trivial) fun qg => ?_
   simp [go_sem, hF.g rfl s6, (b5.kp hK (by simp)).cell]
   exact (hN _ _ hK (bif_f qg).symm trivial)
 · intro Lk ak ww hL hdd haa hF hK hV hX Nk Qk hN
   refine wgf rfl rfl rfl (hV 8 _ rfl (hdd 8 rfl)) (fun qg => hN _ _ hK (bif_t qg).symm trivial) fun qg => ?_
   simp [go_sem, (show ak.tmps[23]?.getD undef = _ from (hV 9 _ rfl (hdd 9 rfl)).trans (bif_f qg))]
   refine (sRatioOk_c u ww hui).mono ?_
   rintro x wx ⟨rfl, hb⟩
   exact (hN _ _ (hK.call hb) (bif_f qg).symm trivial)
 · intro Lk ak ww hL hdd haa hF hK hV hX Nk Qk hN
   refine wgf rfl rfl rfl (hV 8 _ rfl (hdd 8 rfl)) (fun qg => hN _ _ hK (bif_t qg).symm trivial) fun qg => ?_
   exact wp_not rfl (ev ((hV 10 _ rfl (hdd 10 rfl)).trans (bif_f qg))) (hN _ _ hK (bif_f qg).symm trivial)
 · exact fun Lk ak ww hL hdd haa hF hK hV hX Nk Qk hN => wnt rfl (wp_pick rfl (ev (hV 8 _ rfl (hdd 8 rfl))) (fun h => vor_t h) (fun h => (ev ((hV 11 _ rfl (hdd 11 rfl)).trans (bif_f h))).trans (vor_f h)) (hN _ _ hK rfl trivial))
 · exact fun Lk ak ww hL hdd haa hF hK hV hX Nk Qk hN => wnt rfl (wp_move rfl (ev (hV 12 _ rfl (hdd 12 rfl))) (hN _ _ hK rfl trivial))
 · intro Lk ak ww hL hdd haa hF hK hV hX Nk Qk hN
   refine wgf rfl rfl rfl (hV 13 _ rfl (hdd 13 rfl)) (fun qg => hN _ _ hK (bif_t qg).symm trivial) fun qg => ?_
   simp [go_sem, hF.g rfl s7, (b6.kp hK (by simp)).cell]
   exact (hN _ _ hK (bif_f qg).symm trivial)
 · intro Lk ak ww hL hdd haa hF hK hV hX Nk Qk hN
   refine wgf rfl rfl rfl (hV 13 _ rfl (hdd 13 rfl)) (fun qg => hN _ _ hK (bif_t qg).symm trivial) fun qg => ?_
   simp [go_sem, (show ak.tmps[28]?.getD undef = _ from (hV 14 _ rfl (hdd 14 rfl)).trans (bif_f qg))]
   refine (sSpotOk_c v ww hvi).mono ?_
   rintro x wx ⟨rfl, hb⟩
   exact (hN _ _ (hK.call hb) (bif_f qg).symm trivial)
 · intro Lk ak ww hL hdd haa hF hK hV hX Nk Qk hN
   refine wgf rfl rfl rfl (hV 13 _ rfl (hdd 13 rfl)) (fun qg => hN _ _ hK (bif_t qg).symm trivial) fun qg => ?_
   exact wp_not rfl (ev ((hV 15 _ rfl (hdd 15 rfl)).trans (bif_f qg))) (hN _ _ hK (bif_f qg).symm trivial)
 · exact fun Lk ak ww hL hdd haa hF hK hV hX Nk Qk hN => wnt rfl (wp_pick rfl (ev (hV 13 _ rfl (hdd 13 rfl))) (fun h => vor_t h) (fun h => (ev ((hV 16 _ rfl (hdd 16 rfl)).trans (bif_f h))).trans (vor_f h)) (hN _ _ hK rfl trivial))
 · exact fun Lk ak ww hL hdd haa hF hK hV hX Nk Qk hN => wnt rfl (wp_move rfl (ev (hV 17 _ rfl (hdd 17 rfl))) (hN _ _ hK rfl trivial))
 · intro Lk ak ww hL hdd haa hF hK hV hX Nk Qk hN
   refine wgf rfl rfl rfl (hV 18 _ rfl (hdd 18 rfl)) (fun qg => hN _ _ hK (bif_t qg).symm trivial) fun qg => ?_
   simp [go_sem, hF.g rfl s5]
   exact (hN _ _ hK (bif_f qg).symm trivial)
 · intro Lk ak ww hL hdd haa hF hK hV hX Nk Qk hN
   refine wgf rfl rfl rfl (hV 18 _ rfl (hdd 18 rfl)) (fun qg => hN _ _ hK (bif_t qg).symm trivial) fun qg => ?_
   simp [go_sem, (show ak.tmps[33]?.getD undef = _ from (hV 19 _ rfl (hdd 19 rfl)).trans (bif_f qg)), (b4.kp hK (by simp)).cell]
   exact (hN _ _ hK (bif_f qg).symm trivial)
 · intro Lk ak ww hL hdd haa hF hK hV hX Nk Qk hN
   refine wgf rfl rfl rfl (hV 18 _ rfl (hdd 18 rfl)) (fun qg => hN _ _ hK (bif_t qg).symm trivial) fun qg => ?_
   exact wp_bin rfl (ev ((hV 20 _ rfl (hdd 20 rfl)).trans (bif_f qg))) rfl rfl rfl (hN _ _ hK (bif_f qg).symm trivial)
 · exact fun Lk ak ww hL hdd haa hF hK hV hX Nk Qk hN => wnt rfl (wp_pick rfl (ev (hV 18 _ rfl (hdd 18 rfl))) (fun h => vor_t h) (fun h => (ev ((hV 21 _ rfl (hdd 21 rfl)).trans (bif_f h))).trans (vor_f h)) (hN _ _ hK rfl trivial))
 · exact fun Lk ak ww hL hdd haa hF hK hV hX Nk Qk hN => wnt rfl (wp_move rfl (ev (hV 22 _ rfl (hdd 22 rfl))) (hN _ _ hK rfl trivial))
 · intro Lk ak ww hL hdd haa hF hK hV hX Nk Qk hN
   refine wgf rfl rfl rfl (hV 23 _ rfl (hdd 23 rfl)) (fun qg => hN _ _ hK (bif_t qg).symm trivial) fun qg => ?_
   simp [go_sem, hF.g rfl s7]
   exact (hN _ _ hK (bif_f qg).symm trivial)
 · intro Lk ak ww hL hdd haa hF hK hV hX Nk Qk hN
   refine wgf rfl rfl rfl (hV 23 _ rfl (hdd 23 rfl)) (fun qg => hN _ _ hK (bif_t qg).symm trivial) fun qg => ?_
   simp [go_sem, (show ak.tmps[38]?.getD undef = _ from (hV 24 _ rfl (hdd 24 rfl)).trans (bif_f qg)), (b6.kp hK (by simp)).cell]
   exact (hN _ _ hK (bif_f qg).symm trivial)
 · intro Lk ak ww hL hdd haa hF hK hV hX Nk Qk hN
   refine wgf rfl rfl rfl (hV 23 _ rfl (hdd 23 rfl)) (fun qg => hN _ _ hK (bif_t qg).symm trivial) fun qg => ?_
   exact wp_bin rfl (ev ((hV 25 _ rfl (hdd 25 rfl)).trans (bif_f qg))) rfl rfl rfl (hN _ _ hK (bif_f qg).symm trivial)
 · exact fun Lk ak ww hL hdd haa hF hK hV hX Nk Qk hN => wnt rfl (wp_pick rfl (ev (hV 23 _ rfl (hdd 23 rfl))) (fun h => vor_t h) (fun h => (ev ((hV 26 _ rfl (hdd 26 rfl)).trans (bif_f h))).trans (vor_f h)) (hN _ _ hK rfl trivial))
 · exact fun Lk ak ww hL hdd haa hF hK hV hX Nk Qk hN => wnt rfl (wp_move rfl (ev (hV 27 _ rfl (hdd 27 rfl))) (hN _ _ hK rfl trivial))
 · intro Lk ak ww hL hdd haa hF hK hV hX Nk Qk hN
   refine wgf rfl rfl rfl (hV 28 _ rfl (hdd 28 rfl)) (fun qg => hN _ _ hK (bif_t qg).symm trivial) fun qg => ?_
   simp [go_sem, hF.g rfl s6]
   exact (hN _ _ hK (bif_f qg).symm trivial)
 · intro Lk ak ww hL hdd haa hF hK hV hX Nk Qk hN
   refine wgf rfl rfl rfl (hV 28 _ rfl (hdd 28 rfl)) (fun qg => hN _ _ hK (bif_t qg).symm trivial) fun qg => ?_
   simp [go_sem, (show ak.tmps[43]?.getD undef = _ from (hV 29 _ rfl (hdd 29 rfl)).trans (bif_f qg)), (b5.kp hK (by simp)).cell]
   exact (hN _ _ hK (bif_f qg).symm trivial)
 · intro Lk ak ww hL hdd haa hF hK hV hX Nk Qk hN
   refine wgf rfl rfl rfl (hV 28 _ rfl (hdd 28 rfl)) (fun qg => hN _ _ hK (bif_t qg).symm trivial) fun qg => ?_
   exact wp_bin rfl (ev ((hV 30 _ rfl (hdd 30 rfl)).trans (bif_f qg))) rfl rfl rfl (hN _ _ hK (bif_f qg).symm trivial)
 · exact fun Lk ak ww hL hdd haa hF hK hV hX Nk Qk hN => wnt rfl (wp_pick rfl (ev (hV 28 _ rfl (hdd 28 rfl))) (fun h => vor_t h) (fun h => (ev ((hV 31 _ rfl (hdd 31 rfl)).trans (bif_f h))).trans (vor_f h)) (hN _ _ hK rfl trivial))
 · exact fun Lk ak ww hL hdd haa hF hK hV hX Nk Qk hN => wnt rfl (wp_move rfl (ev (hV 32 _ rfl (hdd 32 rfl))) (hN _ _ hK rfl trivial))
 · intro Lk ak ww hL hdd haa hF hK hV hX Nk Qk hN
   refine wgf rfl rfl rfl (hV 33 _ rfl (hdd 33 rfl)) (fun qg => hN _ _ hK (bif_t qg).symm trivial) fun qg => ?_
   simp [go_sem, hF.g rfl s6]
   exact (hN _ _ hK (bif_f qg).symm trivial)
 · intro Lk ak ww hL hdd haa hF hK hV hX Nk Qk hN
   refine wgf rfl rfl rfl (hV 33 _ rfl (hdd 33 rfl)) (fun qg => hN _ _ hK (bif_t qg).symm trivial) fun qg => ?_
   simp [go_sem, (show ak.tmps[48]?.getD undef = _ from (hV 34 _ rfl (hdd 34 rfl)).trans (bif_f qg)), (b5.kp hK (by simp)).cell]
   exact (hN _ _ hK (bif_f qg).symm trivial)
 · intro Lk ak ww hL hdd haa hF hK hV hX Nk Qk hN
   refine wgf rfl rfl rfl (hV 33 _ rfl (hdd 33 rfl)) (fun qg => hN _ _ hK (bif_t qg).symm trivial) fun qg => ?_
   simp [go_sem, hF.g rfl s6]
   exact (hN _ _ hK (bif_f qg).symm trivial)
 · intro Lk ak ww hL hdd haa hF hK hV hX Nk Qk hN
   refine wgf rfl rfl rfl (hV 33 _ rfl (hdd 33 rfl)) (fun qg => hN _ _ hK (bif_t qg).symm trivial) fun qg => ?_
   simp [go_sem, (show ak.tmps[50]?.getD undef = _ from (hV 36 _ rfl (hdd 36 rfl)).trans (bif_f qg)), (b5.kp hK (by simp)).cell]
   exact (hN _ _ hK (bif_f qg).symm trivial)
 · intro Lk ak ww hL hdd haa hF hK hV hX Nk Qk hN
   refine wgf rfl rfl rfl (hV 33 _ rfl (hdd 33 rfl)) (fun qg => hN _ _ hK (bif_t qg).symm trivial) fun qg => ?_
   exact wp_mul rfl rfl (ev ((hV 37 _ rfl (hdd 37 rfl)).trans (bif_f qg))) (by have k := rok_bd2 (not_f (or_f2 (or_f1 (or_f1 (or_f1 (or_f1 qg)))))); omega) (hN _ _ hK (bif_f qg).symm trivial)
 · intro Lk ak ww hL hdd haa hF hK hV hX Nk Qk hN
   refine wgf rfl rfl rfl (hV 33 _ rfl (hdd 33 rfl)) (fun qg => hN _ _ hK (bif_t qg).symm trivial) fun qg => ?_
   simp [go_sem, hF.g rfl s6]
   exact (hN _ _ hK (bif_f qg).symm trivial)
 · intro Lk ak ww hL hdd haa hF hK hV hX Nk Qk hN
   refine wgf rfl rfl rfl (hV 33 _ rfl (hdd 33 rfl)) (fun qg => hN _ _ hK (bif_t qg).symm trivial) fun qg => ?_
   simp [go_sem, (show ak.tmps[53]?.getD undef = _ from (hV 39 _ rfl (hdd 39 rfl)).trans (bif_f qg)), (b5.kp hK (by simp)).cell]
   exact (hN _ _ hK (bif_f qg).symm trivial)
 · intro Lk ak ww hL hdd haa hF hK hV hX Nk Qk hN
   refine wgf rfl rfl rfl (hV 33 _ rfl (hdd 33 rfl)) (fun qg => hN _ _ hK (bif_t qg).symm trivial) fun qg => ?_
   exact wp_mul rfl rfl (ev ((hV 40 _ rfl (hdd 40 rfl)).trans (bif_f qg))) (by have k := rok_bd2 (not_f (or_f2 (or_f1 (or_f1 (or_f1 (or_f1 qg)))))); omega) (hN _ _ hK (bif_f qg).symm trivial)
 · intro Lk ak ww hL hdd haa hF hK hV hX Nk Qk hN
   refine wgf rfl rfl rfl (hV 33 _ rfl (hdd 33 rfl)) (fun qg => hN _ _ hK (bif_t qg).symm trivial) fun qg => ?_
   simp [go_sem, (show ak.tmps[49]?.getD undef = _ from (hV 35 _ rfl (hdd 35 rfl)).trans (bif_f qg)), (show ak.tmps[52]?.getD undef = _ from (hV 38 _ rfl (hdd 38 rfl)).trans (bif_f qg)), (show ak.tmps[55]?.getD undef = _ from (hV 41 _ rfl (hdd 41 rfl)).trans (bif_f qg))]
   refine (l01In_c u.n ((-1000) * u.d) (1000 * u.d) ww).mono ?_
   rintro x wx ⟨rfl, rfl⟩
   exact (hN _ _ hK (bif_f qg).symm trivial)
 · intro Lk ak ww hL hdd haa hF hK hV hX Nk Qk hN
   refine wgf rfl rfl rfl (hV 33 _ rfl (hdd 33 rfl)) (fun qg => hN _ _ hK (bif_t qg).symm trivial) fun qg => ?_
   exact wp_not rfl (ev ((hV 42 _ rfl (hdd 42 rfl)).trans (bif_f qg))) (hN _ _ hK (bif_f qg).symm trivial)
 · exact fun Lk ak ww hL hdd haa hF hK hV hX Nk Qk hN => wnt rfl (wp_pick rfl (ev (hV 33 _ rfl (hdd 33 rfl))) (fun h => vor_t h) (fun h => (ev ((hV 43 _ rfl (hdd 43 rfl)).trans (bif_f h))).trans (vor_f h)) (hN _ _ hK rfl trivial))
 intro L a8 w9 hL hF hK hV hX
 replace hz := hF.size.trans hz
 replace hdf := hF.defers.trans hdf
 replace s4 := hF.g rfl s4
 replace s5 := hF.g rfl s5
 replace s6 := hF.g rfl s6
 replace s7 := hF.g rfl s7
 replace s8 := hF.g rfl s8
 have s58 : a8.tmps[58]?.getD undef = .bool (((((((!(roomOk r) || !(spotOk s)) || !(ratioOk u)) || !(spotOk v)) || decide (s.d > 100000)) || decide (v.d > 1000)) || decide (u.d > 1000)) || !(inR u.n ((-1000) * u.d) (1000 * u.d))) := hV 44 _ rfl
 replace b3 := b3.kp hK (by simp)
 replace b4 := b4.kp hK (by simp)
 replace b5 := b5.kp hK (by simp)
 replace b6 := b6.kp hK (by simp)
 replace b7 := b7.kp hK (by simp)
 replace hZ := Nat.le_trans hZ hK.size
 replace hB := hK.below0 hB
 clear hF hK hV hL hX
 refine th_n ?_
 rcases Bool.eq_false_or_eq_true (((((((!(roomOk r) || !(spotOk s)) || !(ratioOk u)) || !(spotOk v)) || decide (s.d > 100000)) || decide (v.d > 1000)) || decide (u.d > 1000)) || !(inR u.n ((-1000) * u.d) (1000 * u.d))) with q10 | q10
 · skip
   refine wp_cond_true (ev (vb s58 q10)) ?_
   refine wp_seq ?_
   refine wp_regJ (by kernel_rfl) [59, 0, 9] [some (.agg #[.int .i64 0, .int .i64 0, .int .i64 0]), none, some (.bool false)] ((List.range 3).map List.range) [59, 9] [0, 1, 2] [(w.heap.size + 4)] (fun L aa ww => PreX ww (w.heap.size + 4) 57 [.int .i64 0, .int .i64 0, .int .i64 0] (L 1) (fun _ vs => vs = [.int .i64 0, .int .i64 0, .int .i64 0])) (by kernel_rfl) (by rw [hz]; decide) ?_ (ec ?_ (ec ?_ (ec ?_ .nil))) ?_
   · exact fun _ h => (⟨fun _ => b7.kp h (by simp), (fun h => by cases h)⟩)
   · intro Lk ak ww hL hdd haa hF hK hV hX Nk Qk hN; refine wnt rfl ?_
     simp [go_sem]
     exact (hN _ _ hK rfl (hX.bel (Below.refl _ _) (fun _ h => h)))
   · intro Lk ak ww hL hdd haa hF hK hV hX Nk Qk hN
     have x0 := hX
     refine wnt rfl ?_
     have HT := x0.1 hL
     simp [go_sem, (show ak.tmps[59]?.getD undef = _ from hV 0 _ rfl (hdd 0 rfl)), hF.g rfl s8, HT.cell, HT.frz]
     exact hN undef _ (hK.store (.inr (by simp)) [.int .i64 0, .int .i64 0, .int .i64 0] 0) trivial (PreX.set HT (us := [.int .i64 0, .int .i64 0, .int .i64 0]) rfl rfl)
   · exact fun Lk ak ww hL hdd haa hF hK hV hX Nk Qk hN => wnt rfl (wp_assign rfl rfl (hN _ _ hK rfl (hX.bel (Below.refl _ _) (fun _ h => h))))
   intro L a11 w12 hL hF hK hV hX
   have x0 := hX
   replace hz := hF.size.trans hz
   replace hdf := hF.defers.trans hdf
   replace s8 := hF.g rfl s8
   have s9 : a11.tmps[9]?.getD undef = .bool false := hV 2 _ rfl
   clear b7
   obtain ⟨_, b7, rfl⟩ := x0.2 (hL 1 (by decide))
   replace hZ := Nat.le_trans hZ hK.size
   replace hB := hK.below hB hB.size (by simp <;> omega)
   clear hF hK hV hL x0 s4 s5 s6 s7 s58 b3 b4 b5 b6
   refine th_n ?_
   refine wp_ret ?_
   refine th_r ?_
   refine bodyPost_ret (v := .tuple #[.agg #[.int .i64 0, .int .i64 0, .int .i64 0], .bool false]) (by simp [results, Tryz.results112, go_sem, s8, b7.cell, s9]) hdf ?_
   exact ⟨by rw [nxt_no q10]; rfl, hB⟩
 · skip
   have hbad : nxtBad r s u v = false := q10
   have K := nxt_in hbad
   have B := roomB K.room
   have M := mapB B K.sok K.sd
   have hv0 := (spotOk_iff.1 K.vok).1
   obtain ⟨_, hvx, hvy, _⟩ := spotOk_iff.1 K.vok
   have hx0 := M.x0
   have hx1 := M.x1
   have hy0 := M.y0
   have hy1 := M.y1
   have hMX : -4000000000 ≤ r.map.getD 0 0 * s.x + r.map.getD 1 0 * s.y ∧ r.map.getD 0 0 * s.x + r.map.getD 1 0 * s.y ≤ 4000000000 := by omega
   have hMY : -4000000000 ≤ r.map.getD 2 0 * s.x + r.map.getD 3 0 * s.y ∧ r.map.getD 2 0 * s.x + r.map.getD 3 0 * s.y ≤ 4000000000 := by omega
   have hMD : 1 ≤ r.div * s.d ∧ r.div * s.d ≤ 2000000 := M.d
   have hvd := K.vd
   have hve : 1 ≤ v.d ∧ v.d ≤ 1000 := ⟨hv0.1, hvd⟩
   obtain ⟨n1, n2, n3⟩ := nxt_bd2 hMX hMD hve hvx
   obtain ⟨m1, m2, m3⟩ := nxt_bd2 hMY hMD hve hvy
   have hml : r.map.length = 4 := B.len
   obtain ⟨bm, om, em, fm⟩ := ElS.open_ (hsl.below hB).map (by rw [hml]; omega)
   refine wp_cond_false (ev (vb s58 q10)) ?_
   refine wp_skip ?_
   refine th_n ?_
   refine wp_seq ?_
   refine wp_regJ (by kernel_rfl) [60, 61, 62, 63, 64, 10] [some (.pointer (some ⟨w.heap.size, 1, none⟩)), some (.int .i64 r.div), some (.pointer (some ⟨(w.heap.size + 1), 2, none⟩)), some (.int .i64 s.d), some (.int .i64 (r.div * s.d)), some (.int .i64 (r.div * s.d))] ((List.range 6).map List.range) [60, 61, 62, 63, 64, 10] [0, 1, 2, 3, 4, 5] [] (fun _ _ _ => True) (by kernel_rfl) (by rw [hz]; decide) ?_ (ec ?_ (ec ?_ (ec ?_ (ec ?_ (ec ?_ (ec ?_ .nil)))))) ?_
   · exact fun _ _ => trivial
   · intro Lk ak ww hL hdd haa hF hK hV hX Nk Qk hN; refine wnt rfl ?_
     simp [go_sem, hF.g rfl s4]
     exact (hN _ _ hK rfl trivial)
   · intro Lk ak ww hL hdd haa hF hK hV hX Nk Qk hN; refine wnt rfl ?_
     simp [go_sem, (show ak.tmps[60]?.getD undef = _ from hV 0 _ rfl (hdd 0 rfl)), (b3.kp hK (by simp)).cell]
     exact (hN _ _ hK rfl trivial)
   · intro Lk ak ww hL hdd haa hF hK hV hX Nk Qk hN; refine wnt rfl ?_
     simp [go_sem, hF.g rfl s5]
     exact (hN _ _ hK rfl trivial)
   · intro Lk ak ww hL hdd haa hF hK hV hX Nk Qk hN; refine wnt rfl ?_
     simp [go_sem, (show ak.tmps[62]?.getD undef = _ from hV 2 _ rfl (hdd 2 rfl)), (b4.kp hK (by simp)).cell]
     exact (hN _ _ hK rfl trivial)
   · exact fun Lk ak ww hL hdd haa hF hK hV hX Nk Qk hN => wnt rfl (wp_mul rfl (ev (hV 1 _ rfl (hdd 1 rfl))) (ev (hV 3 _ rfl (hdd 3 rfl))) (by omega) (hN _ _ hK rfl trivial))
   · exact fun Lk ak ww hL hdd haa hF hK hV hX Nk Qk hN => wnt rfl (wp_assign rfl (ev (hV 4 _ rfl (hdd 4 rfl))) (hN _ _ hK rfl trivial))
   intro L a13 w14 hL hF hK hV hX
   replace hz := hF.size.trans hz
   replace hdf := hF.defers.trans hdf
   replace s4 := hF.g rfl s4
   replace s5 := hF.g rfl s5
   replace s6 := hF.g rfl s6
   replace s7 := hF.g rfl s7
   replace s8 := hF.g rfl s8
   have s10 : a13.tmps[10]?.getD undef = .int .i64 (r.div * s.d) := hV 5 _ rfl
   replace b3 := b3.kp hK (by simp)
   replace b4 := b4.kp hK (by simp)
   replace b5 := b5.kp hK (by simp)
   replace b6 := b6.kp hK (by simp)
   replace b7 := b7.kp hK (by simp)
   replace fm := fm.kp hK (by simp)
   replace hZ := Nat.le_trans hZ hK.size
   replace hB := hK.below0 hB
   clear hF hK hV hL hX s58
   refine th_n ?_
   refine wp_seq ?_
   refine wp_regJ (by kernel_rfl) [65, 66, 67, 68, 69, 70, 71, 72, 73, 74, 75, 76, 77, 78, 79, 80, 81, 82, 83, 84, 85, 86, 87, 11] [some (.pointer (some ⟨w.heap.size, 0, none⟩)), some (.slice ra.map.A r.map.length ra.map.c), some (.pointer (some ⟨bm, om, none⟩)), some (.int .i64 (r.map.getD 0 0)), some (.pointer (some ⟨(w.heap.size + 1), 0, none⟩)), some (.int .i64 s.x), some (.int .i64 ((r.map.getD 0 0) * s.x)), some (.pointer (some ⟨w.heap.size, 0, none⟩)), some (.slice ra.map.A r.map.length ra.map.c), some (.pointer (some ⟨bm, om + 1, none⟩)), some (.int .i64 (r.map.getD 1 0)), some (.pointer (some ⟨(w.heap.size + 1), 1, none⟩)), some (.int .i64 s.y), some (.int .i64 ((r.map.getD 1 0) * s.y)), some (.int .i64 (((r.map.getD 0 0) * s.x) + ((r.map.getD 1 0) * s.y))), some (.pointer (some ⟨(w.heap.size + 3), 2, none⟩)), some (.int .i64 v.d), some (.int .i64 ((((r.map.getD 0 0) * s.x) + ((r.map.getD 1 0) * s.y)) * v.d)), some (.pointer (some ⟨(w.heap.size + 3), 0, none⟩)), some (.int .i64 v.x), some (.int .i64 (r.div * s.d)), some (.int .i64 (v.x * (r.div * s.d))), some (.int .i64 (((((r.map.getD 0 0) * s.x) + ((r.map.getD 1 0) * s.y)) * v.d) + (v.x * (r.div * s.d)))), some (.int .i64 (((((r.map.getD 0 0) * s.x) + ((r.map.getD 1 0) * s.y)) * v.d) + (v.x * (r.div * s.d))))] ([[], [0], [0, 1], [0, 1, 2], [], [4], [0, 1, 2, 3, 4, 5], [], [7], [7, 8], [7, 8, 9], [], [11], [7, 8, 9, 10, 11, 12], [0, 1, 2, 3, 4, 5, 6, 7, 8, 9, 10, 11, 12, 13], [], [15], [0, 1, 2, 3, 4, 5, 6, 7, 8, 9, 10, 11, 12, 13, 14, 15, 16], [], [18], [], [18, 19, 20], [0, 1, 2, 3, 4, 5, 6, 7, 8, 9, 10, 11, 12, 13, 14, 15, 16, 17, 18, 19, 20, 21], [0, 1, 2, 3, 4, 5, 6, 7, 8, 9, 10, 11, 12, 13, 14, 15, 16, 17, 18, 19, 20, 21, 22]]) [65, 66, 67, 68, 69, 70, 71, 72, 73, 74, 75, 76, 77, 78, 79, 80, 81, 82, 83, 84, 85, 86, 87, 11] [0, 1, 2, 3, 4, 5, 6, 7, 8, 9, 10, 11, 12, 13, 14, 15, 16, 17, 18, 19, 20, 21, 22, 23] [] (fun _ _ _ => True) (by kernel_rfl) (by rw [hz]; decide) ?_ (ec ?_ (ec ?_ (ec ?_ (ec ?_ (ec ?_ (ec ?_ (ec ?_ (ec ?_ (ec ?_ (ec ?_ (ec ?_ (ec ?_ (ec ?_ (ec ?_ (ec ?_ (ec ?_ (ec ?_ (ec ?_ (ec ?_ (ec ?_ (ec ?_ (ec ?_ (ec ?_ (ec ?_ .nil)))))))))))))))))))))))) ?_
   · exact fun _ _ => trivial
   · intro Lk ak ww hL hdd haa hF hK hV hX Nk Qk hN; refine wnt rfl ?_
     simp [go_sem, hF.g rfl s4]
     exact (hN _ _ hK rfl trivial)
   · intro Lk ak ww hL hdd haa hF hK hV hX Nk Qk hN; refine wnt rfl ?_
     simp [go_sem, (show ak.tmps[65]?.getD undef = _ from hV 0 _ rfl (hdd 0 rfl)), (b3.kp hK (by simp)).cell]
     exact (hN _ _ hK rfl trivial)
   · intro Lk ak ww hL hdd haa hF hK hV hX Nk Qk hN; refine wnt rfl ?_
     simp [go_sem, (show ak.tmps[66]?.getD undef = _ from hV 1 _ rfl (hdd 1 rfl)), hml, em]
     exact (hN _ _ hK rfl trivial)
   · intro Lk ak ww hL hdd haa hF hK hV hX Nk Qk hN; refine wnt rfl ?_
     have hE := fm.kp hK (by simp)
     simp [go_sem, (show ak.tmps[67]?.getD undef = _ from hV 2 _ rfl (hdd 2 rfl)), (hE.at_ 0 (i := 0) (by omega) 0 (p := om) (by omega) rfl)]
     exact (hN _ _ hK rfl trivial)
   · intro Lk ak ww hL hdd haa hF hK hV hX Nk Qk hN; refine wnt rfl ?_
     simp [go_sem, hF.g rfl s5]
     exact (hN _ _ hK rfl trivial)
   · intro Lk ak ww hL hdd haa hF hK hV hX Nk Qk hN; refine wnt rfl ?_
     simp [go_sem, (show ak.tmps[69]?.getD undef = _ from hV 4 _ rfl (hdd 4 rfl)), (b4.kp hK (by simp)).cell]
     exact (hN _ _ hK rfl trivial)
   · exact fun Lk ak ww hL hdd haa hF hK hV hX Nk Qk hN => wnt rfl (wp_mul rfl (ev (hV 3 _ rfl (hdd 3 rfl))) (ev (hV 5 _ rfl (hdd 5 rfl))) (by omega) (hN _ _ hK rfl trivial))
   · intro Lk ak ww hL hdd haa hF hK hV hX Nk Qk hN; refine wnt rfl ?_
     simp [go_sem, hF.g rfl s4]
     exact (hN _ _ hK rfl trivial)
   · intro Lk ak ww hL hdd haa hF hK hV hX Nk Qk hN; refine wnt rfl ?_
     simp [go_sem, (show ak.tmps[72]?.getD undef = _ from hV 7 _ rfl (hdd 7 rfl)), (b3.kp hK (by simp)).cell]
     exact (hN _ _ hK rfl trivial)
   · intro Lk ak ww hL hdd haa hF hK hV hX Nk Qk hN; refine wnt rfl ?_
     simp [go_sem, (show ak.tmps[73]?.getD undef = _ from hV 8 _ rfl (hdd 8 rfl)), hml, em]
     exact (hN _ _ hK rfl trivial)
   · intro Lk ak ww hL hdd haa hF hK hV hX Nk Qk hN; refine wnt rfl ?_
     have hE := fm.kp hK (by simp)
     simp [go_sem, (show ak.tmps[74]?.getD undef = _ from hV 9 _ rfl (hdd 9 rfl)), (hE.at_ 0 (i := 1) (by omega) 0 (p := om + 1) (by omega) rfl)]
     exact (hN _ _ hK rfl trivial)
   · intro Lk ak ww hL hdd haa hF hK hV hX Nk Qk hN; refine wnt rfl ?_
     simp [go_sem, hF.g rfl s5]
     exact (hN _ _ hK rfl trivial)
   · intro Lk ak ww hL hdd haa hF hK hV hX Nk Qk hN; refine wnt rfl ?_
     simp [go_sem, (show ak.tmps[76]?.getD undef = _ from hV 11 _ rfl (hdd 11 rfl)), (b4.kp hK (by simp)).cell]
     exact (hN _ _ hK rfl trivial)
   · exact fun Lk ak ww hL hdd haa hF hK hV hX Nk Qk hN => wnt rfl (wp_mul rfl (ev (hV 10 _ rfl (hdd 10 rfl))) (ev (hV 12 _ rfl (hdd 12 rfl))) (by omega) (hN _ _ hK rfl trivial))
   · exact fun Lk ak ww hL hdd haa hF hK hV hX Nk Qk hN => wnt rfl (wp_add rfl (ev (hV 6 _ rfl (hdd 6 rfl))) (ev (hV 13 _ rfl (hdd 13 rfl))) (by omega) (hN _ _ hK rfl trivial))
   · intro Lk ak ww hL hdd haa hF hK hV hX Nk Qk hN; refine wnt rfl ?_
     simp [go_sem, hF.g rfl s7]
     exact (hN _ _ hK rfl trivial)
   · intro Lk ak ww hL hdd haa hF hK hV hX Nk Qk hN; refine wnt rfl ?_
     simp [go_sem, (show ak.tmps[80]?.getD undef = _ from hV 15 _ rfl (hdd 15 rfl)), (b6.kp hK (by simp)).cell]
     exact (hN _ _ hK rfl trivial)
   · exact fun Lk ak ww hL hdd haa hF hK hV hX Nk Qk hN => wnt rfl (wp_mul rfl (ev (hV 14 _ rfl (hdd 14 rfl))) (ev (hV 16 _ rfl (hdd 16 rfl))) (by omega) (hN _ _ hK rfl trivial))
   · intro Lk ak ww hL hdd haa hF hK hV hX Nk Qk hN; refine wnt rfl ?_
     simp [go_sem, hF.g rfl s7]
     exact (hN _ _ hK rfl trivial)
   · intro Lk ak ww hL hdd haa hF hK hV hX Nk Qk hN; refine wnt rfl ?_
     simp [go_sem, (show ak.tmps[83]?.getD undef = _ from hV 18 _ rfl (hdd 18 rfl)), (b6.kp hK (by simp)).cell]
     exact (hN _ _ hK rfl trivial)
   · exact fun Lk ak ww hL hdd haa hF hK hV hX Nk Qk hN => wnt rfl (wp_move rfl (ev (hF.g rfl s10)) (hN _ _ hK rfl trivial))
   · exact fun Lk ak ww hL hdd haa hF hK hV hX Nk Qk hN => wnt rfl (wp_mul rfl (ev (hV 19 _ rfl (hdd 19 rfl))) (ev (hV 20 _ rfl (hdd 20 rfl))) (by omega) (hN _ _ hK rfl trivial))
   · exact fun Lk ak ww hL hdd haa hF hK hV hX Nk Qk hN => wnt rfl (wp_add rfl (ev (hV 17 _ rfl (hdd 17 rfl))) (ev (hV 21 _ rfl (hdd 21 rfl))) (by omega) (hN _ _ hK rfl trivial))
   · exact fun Lk ak ww hL hdd haa hF hK hV hX Nk Qk hN => wnt rfl (wp_assign rfl (ev (hV 22 _ rfl (hdd 22 rfl))) (hN _ _ hK rfl trivial))
   intro L a15 w16 hL hF hK hV hX
   replace hz := hF.size.trans hz
   replace hdf := hF.defers.trans hdf
   replace s4 := hF.g rfl s4
   replace s5 := hF.g rfl s5
   replace s6 := hF.g rfl s6
   replace s7 := hF.g rfl s7
   replace s8 := hF.g rfl s8
   replace s10 := hF.g rfl s10
   have s11 : a15.tmps[11]?.getD undef = .int .i64 (((((r.map.getD 0 0) * s.x) + ((r.map.getD 1 0) * s.y)) * v.d) + (v.x * (r.div * s.d))) := hV 23 _ rfl
   replace b3 := b3.kp hK (by simp)
   replace b4 := b4.kp hK (by simp)
   replace b5 := b5.kp hK (by simp)
   replace b6 := b6.kp hK (by simp)
   replace b7 := b7.kp hK (by simp)
   replace fm := fm.kp hK (by simp)
   replace hZ := Nat.le_trans hZ hK.size
   replace hB := hK.below0 hB
   clear hF hK hV hL hX
   obtain ⟨X0, eX0⟩ : ∃ z : Int, z = ((((r.map.getD 0 0) * s.x) + ((r.map.getD 1 0) * s.y)) * v.d) + (v.x * (r.div * s.d)) := ⟨_, rfl⟩
   rw [← eX0] at s11
   refine th_n ?_
   refine wp_seq ?_
   refine wp_regJ (by kernel_rfl) [88, 89, 90, 91, 92, 93, 94, 95, 96, 97, 98, 99, 100, 101, 102, 103, 104, 105, 106, 107, 108, 109, 110, 12] [some (.pointer (some ⟨w.heap.size, 0, none⟩)), some (.slice ra.map.A r.map.length ra.map.c), some (.pointer (some ⟨bm, om + 2, none⟩)), some (.int .i64 (r.map.getD 2 0)), some (.pointer (some ⟨(w.heap.size + 1), 0, none⟩)), some (.int .i64 s.x), some (.int .i64 ((r.map.getD 2 0) * s.x)), some (.pointer (some ⟨w.heap.size, 0, none⟩)), some (.slice ra.map.A r.map.length ra.map.c), some (.pointer (some ⟨bm, om + 3, none⟩)), some (.int .i64 (r.map.getD 3 0)), some (.pointer (some ⟨(w.heap.size + 1), 1, none⟩)), some (.int .i64 s.y), some (.int .i64 ((r.map.getD 3 0) * s.y)), some (.int .i64 (((r.map.getD 2 0) * s.x) + ((r.map.getD 3 0) * s.y))), some (.pointer (some ⟨(w.heap.size + 3), 2, none⟩)), some (.int .i64 v.d), some (.int .i64 ((((r.map.getD 2 0) * s.x) + ((r.map.getD 3 0) * s.y)) * v.d)), some (.pointer (some ⟨(w.heap.size + 3), 1, none⟩)), some (.int .i64 v.y), some (.int .i64 (r.div * s.d)), some (.int .i64 (v.y * (r.div * s.d))), some (.int .i64 (((((r.map.getD 2 0) * s.x) + ((r.map.getD 3 0) * s.y)) * v.d) + (v.y * (r.div * s.d)))), some (.int .i64 (((((r.map.getD 2 0) * s.x) + ((r.map.getD 3 0) * s.y)) * v.d) + (v.y * (r.div * s.d))))] ([[], [0], [0, 1], [0, 1, 2], [], [4], [0, 1, 2, 3, 4, 5], [], [7], [7, 8], [7, 8, 9], [], [11], [7, 8, 9, 10, 11, 12], [0, 1, 2, 3, 4, 5, 6, 7, 8, 9, 10, 11, 12, 13], [], [15], [0, 1, 2, 3, 4, 5, 6, 7, 8, 9, 10, 11, 12, 13, 14, 15, 16], [], [18], [], [18, 19, 20], [0, 1, 2, 3, 4, 5, 6, 7, 8, 9, 10, 11, 12, 13, 14, 15, 16, 17, 18, 19, 20, 21], [0, 1, 2, 3, 4, 5, 6, 7, 8, 9, 10, 11, 12, 13, 14, 15, 16, 17, 18, 19, 20, 21, 22]]) [88, 89, 90, 91, 92, 93, 94, 95, 96, 97, 98, 99, 100, 101, 102, 103, 104, 105, 106, 107, 108, 109, 110, 12] [0, 1, 2, 3, 4, 5, 6, 7, 8, 9, 10, 11, 12, 13, 14, 15, 16, 17, 18, 19, 20, 21, 22, 23] [] (fun _ _ _ => True) (by kernel_rfl) (by rw [hz]; decide) ?_ (ec ?_ (ec ?_ (ec ?_ (ec ?_ (ec ?_ (ec ?_ (ec ?_ (ec ?_ (ec ?_ (ec ?_ (ec ?_ (ec ?_ (ec ?_ (ec ?_ (ec ?_ (ec ?_ (ec ?_ (ec ?_ (ec ?_ (ec ?_ (ec ?_ (ec ?_ (ec ?_ (ec ?_ .nil)))))))))))))))))))))))) ?_
   · exact fun _ _ => trivial
   · intro Lk ak ww hL hdd haa hF hK hV hX Nk Qk hN; refine wnt rfl ?_
     simp [go_sem, hF.g rfl s4]
     exact (hN _ _ hK rfl trivial)
   · intro Lk ak ww hL hdd haa hF hK hV hX Nk Qk hN; refine wnt rfl ?_
     simp [go_sem, (show ak.tmps[88]?.getD undef = _ from hV 0 _ rfl (hdd 0 rfl)), (b3.kp hK (by simp)).cell]
     exact (hN _ _ hK rfl trivial)
   · intro Lk ak ww hL hdd haa hF hK hV hX Nk Qk hN; refine wnt rfl ?_
     simp [go_sem, (show ak.tmps[89]?.getD undef = _ from hV 1 _ rfl (hdd 1 rfl)), hml, em]
     exact (hN _ _ hK rfl trivial)
   · intro Lk ak ww hL hdd haa hF hK hV hX Nk Qk hN; refine wnt rfl ?_
     have hE := fm.kp hK (by simp)
     simp [go_sem, (show ak.tmps[90]?.getD undef = _ from hV 2 _ rfl (hdd 2 rfl)), (hE.at_ 0 (i := 2) (by omega) 0 (p := om + 2) (by omega) rfl)]
     exact (hN _ _ hK rfl trivial)
   · intro Lk ak ww hL hdd haa hF hK hV hX Nk Qk hN; refine wnt rfl ?_
     simp [go_sem, hF.g rfl s5]
     exact (hN _ _ hK rfl trivial)
   · intro Lk ak ww hL hdd haa hF hK hV hX Nk Qk hN; refine wnt rfl ?_
     simp [go_sem, (show ak.tmps[92]?.getD undef = _ from hV 4 _ rfl (hdd 4 rfl)), (b4.kp hK (by simp)).cell]
     exact (hN _ _ hK rfl trivial)
   · exact fun Lk ak ww hL hdd haa hF hK hV hX Nk Qk hN => wnt rfl (wp_mul rfl (ev (hV 3 _ rfl (hdd 3 rfl))) (ev (hV 5 _ rfl (hdd 5 rfl))) (by omega) (hN _ _ hK rfl trivial))
   · intro Lk ak ww hL hdd haa hF hK hV hX Nk Qk hN; refine wnt rfl ?_
     simp [go_sem, hF.g rfl s4]
     exact (hN _ _ hK rfl trivial)
   · intro Lk ak ww hL hdd haa hF hK hV hX Nk Qk hN; refine wnt rfl ?_
     simp [go_sem, (show ak.tmps[95]?.getD undef = _ from hV 7 _ rfl (hdd 7 rfl)), (b3.kp hK (by simp)).cell]
     exact (hN _ _ hK rfl trivial)
   · intro Lk ak ww hL hdd haa hF hK hV hX Nk Qk hN; refine wnt rfl ?_
     simp [go_sem, (show ak.tmps[96]?.getD undef = _ from hV 8 _ rfl (hdd 8 rfl)), hml, em]
     exact (hN _ _ hK rfl trivial)
   · intro Lk ak ww hL hdd haa hF hK hV hX Nk Qk hN; refine wnt rfl ?_
     have hE := fm.kp hK (by simp)
     simp [go_sem, (show ak.tmps[97]?.getD undef = _ from hV 9 _ rfl (hdd 9 rfl)), (hE.at_ 0 (i := 3) (by omega) 0 (p := om + 3) (by omega) rfl)]
     exact (hN _ _ hK rfl trivial)
   · intro Lk ak ww hL hdd haa hF hK hV hX Nk Qk hN; refine wnt rfl ?_
     simp [go_sem, hF.g rfl s5]
     exact (hN _ _ hK rfl trivial)
   · intro Lk ak ww hL hdd haa hF hK hV hX Nk Qk hN; refine wnt rfl ?_
     simp [go_sem, (show ak.tmps[99]?.getD undef = _ from hV 11 _ rfl (hdd 11 rfl)), (b4.kp hK (by simp)).cell]
     exact (hN _ _ hK rfl trivial)
   · exact fun Lk ak ww hL hdd haa hF hK hV hX Nk Qk hN => wnt rfl (wp_mul rfl (ev (hV 10 _ rfl (hdd 10 rfl))) (ev (hV 12 _ rfl (hdd 12 rfl))) (by omega) (hN _ _ hK rfl trivial))
   · exact fun Lk ak ww hL hdd haa hF hK hV hX Nk Qk hN => wnt rfl (wp_add rfl (ev (hV 6 _ rfl (hdd 6 rfl))) (ev (hV 13 _ rfl (hdd 13 rfl))) (by omega) (hN _ _ hK rfl trivial))
   · intro Lk ak ww hL hdd haa hF hK hV hX Nk Qk hN; refine wnt rfl ?_
     simp [go_sem, hF.g rfl s7]
     exact (hN _ _ hK rfl trivial)
   · intro Lk ak ww hL hdd haa hF hK hV hX Nk Qk hN; refine wnt rfl ?_
     simp [go_sem, (show ak.tmps[103]?.getD undef = _ from hV 15 _ rfl (hdd 15 rfl)), (b6.kp hK (by simp)).cell]
     exact (hN _ _ hK rfl trivial)
   · exact fun Lk ak ww hL hdd haa hF hK hV hX Nk Qk hN => wnt rfl (wp_mul rfl (ev (hV 14 _ rfl (hdd 14 rfl))) (ev (hV 16 _ rfl (hdd 16 rfl))) (by omega) (hN _ _ hK rfl trivial))
   · intro Lk ak ww hL hdd haa hF hK hV hX Nk Qk hN; refine wnt rfl ?_
     simp [go_sem, hF.g rfl s7]
     exact (hN _ _ hK rfl trivial)
   · intro Lk ak ww hL hdd haa hF hK hV hX Nk Qk hN; refine wnt rfl ?_
     simp [go_sem, (show ak.tmps[106]?.getD undef = _ from hV 18 _ rfl (hdd 18 rfl)), (b6.kp hK (by simp)).cell]
     exact (hN _ _ hK rfl trivial)
   · exact fun Lk ak ww hL hdd haa hF hK hV hX Nk Qk hN => wnt rfl (wp_move rfl (ev (hF.g rfl s10)) (hN _ _ hK rfl trivial))
   · exact fun Lk ak ww hL hdd haa hF hK hV hX Nk Qk hN => wnt rfl (wp_mul rfl (ev (hV 19 _ rfl (hdd 19 rfl))) (ev (hV 20 _ rfl (hdd 20 rfl))) (by omega) (hN _ _ hK rfl trivial))
   · exact fun Lk ak ww hL hdd haa hF hK hV hX Nk Qk hN => wnt rfl (wp_add rfl (ev (hV 17 _ rfl (hdd 17 rfl))) (ev (hV 21 _ rfl (hdd 21 rfl))) (by omega) (hN _ _ hK rfl trivial))
   · exact fun Lk ak ww hL hdd haa hF hK hV hX Nk Qk hN => wnt rfl (wp_assign rfl (ev (hV 22 _ rfl (hdd 22 rfl))) (hN _ _ hK rfl trivial))
   intro L a17 w18 hL hF hK hV hX
   replace hz := hF.size.trans hz
   replace hdf := hF.defers.trans hdf
   replace s4 := hF.g rfl s4
   replace s6 := hF.g rfl s6
   replace s7 := hF.g rfl s7
   replace s8 := hF.g rfl s8
   replace s10 := hF.g rfl s10
   replace s11 := hF.g rfl s11
   have s12 : a17.tmps[12]?.getD undef = .int .i64 (((((r.map.getD 2 0) * s.x) + ((r.map.getD 3 0) * s.y)) * v.d) + (v.y * (r.div * s.d))) := hV 23 _ rfl
   replace b3 := b3.kp hK (by simp)
   replace b5 := b5.kp hK (by simp)
   replace b6 := b6.kp hK (by simp)
   replace b7 := b7.kp hK (by simp)
   replace fm := fm.kp hK (by simp)
   replace hZ := Nat.le_trans hZ hK.size
   replace hB := hK.below0 hB
   clear hF hK hV hL hX s5 b4
   obtain ⟨Y0, eY0⟩ : ∃ z : Int, z = ((((r.map.getD 2 0) * s.x) + ((r.map.getD 3 0) * s.y)) * v.d) + (v.y * (r.div * s.d)) := ⟨_, rfl⟩
   rw [← eY0] at s12
   clear fm
   refine th_n ?_
   refine wp_seq ?_
   refine wp_regJ (by kernel_rfl) [111, 112, 113, 114, 10] [some (.int .i64 (r.div * s.d)), some (.pointer (some ⟨(w.heap.size + 3), 2, none⟩)), some (.int .i64 v.d), some (.int .i64 ((r.div * s.d) * v.d)), some (.int .i64 ((r.div * s.d) * v.d))] ((List.range 5).map List.range) [111, 112, 113, 114, 10] [0, 1, 2, 3, 4] [] (fun L aa ww => (L 4 = false → aa.tmps[10]?.getD undef = .int .i64 (r.div * s.d))) (by kernel_rfl) (by rw [hz]; decide) ?_ (ec ?_ (ec ?_ (ec ?_ (ec ?_ (ec ?_ .nil))))) ?_
   · exact fun _ h => (fun _ => s10)
   · intro Lk ak ww hL hdd haa hF hK hV hX Nk Qk hN
     have x0 := hX
     refine wnt rfl ?_
     exact wp_move rfl (ev (x0 (haa 4 rfl))) (hN _ _ hK rfl (fun h => (put_ne' (by decide) _).trans (x0 h)))
   · intro Lk ak ww hL hdd haa hF hK hV hX Nk Qk hN; refine wnt rfl ?_
     simp [go_sem, hF.g rfl s7]
     exact (hN _ _ hK rfl (fun h => (put_ne' (by decide) _).trans (hX h)))
   · intro Lk ak ww hL hdd haa hF hK hV hX Nk Qk hN; refine wnt rfl ?_
     simp [go_sem, (show ak.tmps[112]?.getD undef = _ from hV 1 _ rfl (hdd 1 rfl)), (b6.kp hK (by simp)).cell]
     exact (hN _ _ hK rfl (fun h => (put_ne' (by decide) _).trans (hX h)))
   · exact fun Lk ak ww hL hdd haa hF hK hV hX Nk Qk hN => wnt rfl (wp_mul rfl (ev (hV 0 _ rfl (hdd 0 rfl))) (ev (hV 2 _ rfl (hdd 2 rfl))) (by omega) (hN _ _ hK rfl (fun h => (put_ne' (by decide) _).trans (hX h))))
   · intro Lk ak ww hL hdd haa hF hK hV hX Nk Qk hN
     have x0 := hX
     refine wnt rfl ?_
     exact wp_assign rfl (ev (hV 3 _ rfl (hdd 3 rfl))) (hN _ _ hK rfl (fun h => by simp [upd] at h))
   intro L a19 w20 hL hF hK hV hX
   have x0 := hX
   replace hz := hF.size.trans hz
   replace hdf := hF.defers.trans hdf
   replace s4 := hF.g rfl s4
   replace s6 := hF.g rfl s6
   replace s8 := hF.g rfl s8
   replace s11 := hF.g rfl s11
   replace s12 := hF.g rfl s12
   have s10 : a19.tmps[10]?.getD undef = .int .i64 ((r.div * s.d) * v.d) := hV 4 _ rfl
   replace b3 := b3.kp hK (by simp)
   replace b5 := b5.kp hK (by simp)
   replace b7 := b7.kp hK (by simp)
   replace hZ := Nat.le_trans hZ hK.size
   replace hB := hK.below0 hB
   clear hF hK hV hL x0 s7 b6
   obtain ⟨D0, eD0⟩ : ∃ z : Int, z = (r.div * s.d) * v.d := ⟨_, rfl⟩
   rw [← eD0] at s10
   have hX0 : -6000000000000 ≤ X0 ∧ X0 ≤ 6000000000000 := by rw [eX0]; omega
   have hY0 : -6000000000000 ≤ Y0 ∧ Y0 ≤ 6000000000000 := by rw [eY0]; omega
   have hD0 : 1 ≤ D0 ∧ D0 ≤ 2000000000 := by rw [eD0]; omega
   obtain ⟨g, X1, Y1, D1, hg, hg0, hgD, fX, fY, fD, tX, tY, tD⟩ := gcd3_div (X := X0) (Y := Y0) (D := D0) (by omega) (by omega) (by omega)
   have hX1 := fac_bd hg0 fX hX0
   have hY1 := fac_bd hg0 fY hY0
   have hD1 : 1 ≤ D1 ∧ D1 ≤ 2000000000 := ⟨by have := gmp (a := g) (b := D1) (by omega) hg0; omega, (fac_bd hg0 fD (B := 2000000000) (by omega)).2⟩
   have bX : -6000000000000 ≤ X0.tdiv g ∧ X0.tdiv g ≤ 6000000000000 := by rw [tX]; exact hX1
   have bY : -6000000000000 ≤ Y0.tdiv g ∧ Y0.tdiv g ≤ 6000000000000 := by rw [tY]; exact hY1
   have bD : 1 ≤ D0.tdiv g ∧ D0.tdiv g ≤ 2000000000 := by rw [tD]; exact hD1
   obtain ⟨c1, c2, c3, c4⟩ := nxt_bd3 hX1 hD1 B.bx K.ud K.un
   obtain ⟨d1, d2, d3, _⟩ := nxt_bd3 hY1 hD1 B.by_ K.ud K.un
   have hsame : nxtS r s u v = spotOf (X1 * u.d + r.bx * u.n * D1) (Y1 * u.d + r.by_ * u.n * D1) (D1 * u.d) := nxt_same (M := mapX r s) (N := mapY r s) (D := mapD r s) hMX hMY hMD B.bx B.by_ K.ud K.un hve hvx hvy hg0 (eX0.symm.trans fX) (eY0.symm.trans fY) (eD0.symm.trans fD) hX1 hY1 hD1
   refine th_n ?_
   refine wp_seq ?_
   refine wp_regJ (by kernel_rfl) [115, 116, 117, 118, 119, 13] [some (.int .i64 X0), some (.int .i64 Y0), some (.int .i64 (gcdOf X0 Y0)), some (.int .i64 D0), some (.int .i64 (gcdOf (gcdOf X0 Y0) D0)), some (.int .i64 (gcdOf (gcdOf X0 Y0) D0))] ((List.range 6).map List.range) [115, 116, 117, 118, 119, 13] [0, 1, 2, 3, 4, 5] [] (fun _ _ _ => True) (by kernel_rfl) (by rw [hz]; decide) ?_ (ec ?_ (ec ?_ (ec ?_ (ec ?_ (ec ?_ (ec ?_ .nil)))))) ?_
   · exact fun _ _ => trivial
   · exact fun Lk ak ww hL hdd haa hF hK hV hX Nk Qk hN => wnt rfl (wp_move rfl (ev (hF.g rfl s11)) (hN _ _ hK rfl trivial))
   · exact fun Lk ak ww hL hdd haa hF hK hV hX Nk Qk hN => wnt rfl (wp_move rfl (ev (hF.g rfl s12)) (hN _ _ hK rfl trivial))
   · intro Lk ak ww hL hdd haa hF hK hV hX Nk Qk hN; refine wnt rfl ?_
     simp [go_sem, (show ak.tmps[115]?.getD undef = _ from hV 0 _ rfl (hdd 0 rfl)), (show ak.tmps[116]?.getD undef = _ from hV 1 _ rfl (hdd 1 rfl))]
     refine (sGcdOf_q X0 Y0 ww (⟨by omega, by omega⟩) (⟨by omega, by omega⟩)).mono ?_
     rintro x wx ⟨rfl, n, rfl⟩
     have hb : Below ww.heap.size ww (ww.drewN n) := below_drewN (Below.refl _ _) n
     exact (hN _ _ (hK.call hb) rfl trivial)
   · exact fun Lk ak ww hL hdd haa hF hK hV hX Nk Qk hN => wnt rfl (wp_move rfl (ev (hF.g rfl s10)) (hN _ _ hK rfl trivial))
   · intro Lk ak ww hL hdd haa hF hK hV hX Nk Qk hN; refine wnt rfl ?_
     simp [go_sem, (show ak.tmps[117]?.getD undef = _ from hV 2 _ rfl (hdd 2 rfl)), (show ak.tmps[118]?.getD undef = _ from hV 3 _ rfl (hdd 3 rfl))]
     refine (sGcdOf_q (gcdOf X0 Y0) D0 ww (gcdOf_In64 ⟨by omega, by omega⟩ ⟨by omega, by omega⟩) (⟨by omega, by omega⟩)).mono ?_
     rintro x wx ⟨rfl, n, rfl⟩
     have hb : Below ww.heap.size ww (ww.drewN n) := below_drewN (Below.refl _ _) n
     exact (hN _ _ (hK.call hb) rfl trivial)
   · exact fun Lk ak ww hL hdd haa hF hK hV hX Nk Qk hN => wnt rfl (wp_assign rfl (ev (hV 4 _ rfl (hdd 4 rfl))) (hN _ _ hK rfl trivial))
   intro L a21 w22 hL hF hK hV hX
   replace hz := hF.size.trans hz
   replace hdf := hF.defers.trans hdf
   replace s4 := hF.g rfl s4
   replace s6 := hF.g rfl s6
   replace s8 := hF.g rfl s8
   replace s11 := hF.g rfl s11
   replace s12 := hF.g rfl s12
   replace s10 := hF.g rfl s10
   have s13 : a21.tmps[13]?.getD undef = .int .i64 (gcdOf (gcdOf X0 Y0) D0) := hV 5 _ rfl
   replace b3 := b3.kp hK (by simp)
   replace b5 := b5.kp hK (by simp)
   replace b7 := b7.kp hK (by simp)
   replace hZ := Nat.le_trans hZ hK.size
   replace hB := hK.below0 hB
   clear hF hK hV hL hX
   rw [hg] at s13
   refine th_n ?_
   refine wp_seq ?_
   refine wp_regJ (by kernel_rfl) [120, 121, 122, 11] [some (.int .i64 X0), some (.int .i64 g), some (.int .i64 (X0.tdiv g)), some (.int .i64 (X0.tdiv g))] ((List.range 4).map List.range) [120, 121, 122, 11] [0, 1, 2, 3] [] (fun L aa ww => (L 3 = false → aa.tmps[11]?.getD undef = .int .i64 X0)) (by kernel_rfl) (by rw [hz]; decide) ?_ (ec ?_ (ec ?_ (ec ?_ (ec ?_ .nil)))) ?_
   · exact fun _ h => (fun _ => s11)
   · intro Lk ak ww hL hdd haa hF hK hV hX Nk Qk hN
     have x0 := hX
     refine wnt rfl ?_
     exact wp_move rfl (ev (x0 (haa 3 rfl))) (hN _ _ hK rfl (fun h => (put_ne' (by decide) _).trans (x0 h)))
   · exact fun Lk ak ww hL hdd haa hF hK hV hX Nk Qk hN => wnt rfl (wp_move rfl (ev (hF.g rfl s13)) (hN _ _ hK rfl (fun h => (put_ne' (by decide) _).trans (hX h))))
   · exact fun Lk ak ww hL hdd haa hF hK hV hX Nk Qk hN => wnt rfl (wp_quo rfl (ev (hV 0 _ rfl (hdd 0 rfl))) (ev (hV 1 _ rfl (hdd 1 rfl))) (by omega) (by omega) (hN _ _ hK rfl (fun h => (put_ne' (by decide) _).trans (hX h))))
   · intro Lk ak ww hL hdd haa hF hK hV hX Nk Qk hN
     have x0 := hX
     refine wnt rfl ?_
     exact wp_assign rfl (ev (hV 2 _ rfl (hdd 2 rfl))) (hN _ _ hK rfl (fun h => by simp [upd] at h))
   intro L a23 w24 hL hF hK hV hX
   have x0 := hX
   replace hz := hF.size.trans hz
   replace hdf := hF.defers.trans hdf
   replace s4 := hF.g rfl s4
   replace s6 := hF.g rfl s6
   replace s8 := hF.g rfl s8
   replace s12 := hF.g rfl s12
   replace s10 := hF.g rfl s10
   replace s13 := hF.g rfl s13
   have s11 : a23.tmps[11]?.getD undef = .int .i64 (X0.tdiv g) := hV 3 _ rfl
   replace b3 := b3.kp hK (by simp)
   replace b5 := b5.kp hK (by simp)
   replace b7 := b7.kp hK (by simp)
   replace hZ := Nat.le_trans hZ hK.size
   replace hB := hK.below0 hB
   clear hF hK hV hL x0
   rw [tX] at s11
   refine th_n ?_
   refine wp_seq ?_
   refine wp_regJ (by kernel_rfl) [123, 124, 125, 12] [some (.int .i64 Y0), some (.int .i64 g), some (.int .i64 (Y0.tdiv g)), some (.int .i64 (Y0.tdiv g))] ((List.range 4).map List.range) [123, 124, 125, 12] [0, 1, 2, 3] [] (fun L aa ww => (L 3 = false → aa.tmps[12]?.getD undef = .int .i64 Y0)) (by kernel_rfl) (by rw [hz]; decide) ?_ (ec ?_ (ec ?_ (ec ?_ (ec ?_ .nil)))) ?_
   · exact fun _ h => (fun _ => s12)
   · intro Lk ak ww hL hdd haa hF hK hV hX Nk Qk hN
     have x0 := hX
     refine wnt rfl ?_
     exact wp_move rfl (ev (x0 (haa 3 rfl))) (hN _ _ hK rfl (fun h => (put_ne' (by decide) _).trans (x0 h)))
   · exact fun Lk ak ww hL hdd haa hF hK hV hX Nk Qk hN => wnt rfl (wp_move rfl (ev (hF.g rfl s13)) (hN _ _ hK rfl (fun h => (put_ne' (by decide) _).trans (hX h))))
   · exact fun Lk ak ww hL hdd haa hF hK hV hX Nk Qk hN => wnt rfl (wp_quo rfl (ev (hV 0 _ rfl (hdd 0 rfl))) (ev (hV 1 _ rfl (hdd 1 rfl))) (by omega) (by omega) (hN _ _ hK rfl (fun h => (put_ne' (by decide) _).trans (hX h))))
   · intro Lk ak ww hL hdd haa hF hK hV hX Nk Qk hN
     have x0 := hX
     refine wnt rfl ?_
     exact wp_assign rfl (ev (hV 2 _ rfl (hdd 2 rfl))) (hN _ _ hK rfl (fun h => by simp [upd] at h))
   intro L a25 w26 hL hF hK hV hX
   have x0 := hX
   replace hz := hF.size.trans hz
   replace hdf := hF.defers.trans hdf
   replace s4 := hF.g rfl s4
   replace s6 := hF.g rfl s6
   replace s8 := hF.g rfl s8
   replace s10 := hF.g rfl s10
   replace s13 := hF.g rfl s13
   replace s11 := hF.g rfl s11
   have s12 : a25.tmps[12]?.getD undef = .int .i64 (Y0.tdiv g) := hV 3 _ rfl
   replace b3 := b3.kp hK (by simp)
   replace b5 := b5.kp hK (by simp)
   replace b7 := b7.kp hK (by simp)
   replace hZ := Nat.le_trans hZ hK.size
   replace hB := hK.below0 hB
   clear hF hK hV hL x0
   rw [tY] at s12
   refine th_n ?_
   refine wp_seq ?_
   refine wp_regJ (by kernel_rfl) [126, 127, 128, 10] [some (.int .i64 D0), some (.int .i64 g), some (.int .i64 (D0.tdiv g)), some (.int .i64 (D0.tdiv g))] ((List.range 4).map List.range) [126, 127, 128, 10] [0, 1, 2, 3] [] (fun L aa ww => (L 3 = false → aa.tmps[10]?.getD undef = .int .i64 D0)) (by kernel_rfl) (by rw [hz]; decide) ?_ (ec ?_ (ec ?_ (ec ?_ (ec ?_ .nil)))) ?_
   · exact fun _ h => (fun _ => s10)
   · intro Lk ak ww hL hdd haa hF hK hV hX Nk Qk hN
     have x0 := hX
     refine wnt rfl ?_
     exact wp_move rfl (ev (x0 (haa 3 rfl))) (hN _ _ hK rfl (fun h => (put_ne' (by decide) _).trans (x0 h)))
   · exact fun Lk ak ww hL hdd haa hF hK hV hX Nk Qk hN => wnt rfl (wp_move rfl (ev (hF.g rfl s13)) (hN _ _ hK rfl (fun h => (put_ne' (by decide) _).trans (hX h))))
   · exact fun Lk ak ww hL hdd haa hF hK hV hX Nk Qk hN => wnt rfl (wp_quo rfl (ev (hV 0 _ rfl (hdd 0 rfl))) (ev (hV 1 _ rfl (hdd 1 rfl))) (by omega) (by omega) (hN _ _ hK rfl (fun h => (put_ne' (by decide) _).trans (hX h))))
   · intro Lk ak ww hL hdd haa hF hK hV hX Nk Qk hN
     have x0 := hX
     refine wnt rfl ?_
     exact wp_assign rfl (ev (hV 2 _ rfl (hdd 2 rfl))) (hN _ _ hK rfl (fun h => by simp [upd] at h))
   intro L a27 w28 hL hF hK hV hX
   have x0 := hX
   replace hz := hF.size.trans hz
   replace hdf := hF.defers.trans hdf
   replace s4 := hF.g rfl s4
   replace s6 := hF.g rfl s6
   replace s8 := hF.g rfl s8
   replace s11 := hF.g rfl s11
   replace s12 := hF.g rfl s12
   have s10 : a27.tmps[10]?.getD undef = .int .i64 (D0.tdiv g) := hV 3 _ rfl
   replace b3 := b3.kp hK (by simp)
   replace b5 := b5.kp hK (by simp)
   replace b7 := b7.kp hK (by simp)
   replace hZ := Nat.le_trans hZ hK.size
   replace hB := hK.below0 hB
   clear hF hK hV hL x0 s13
   rw [tD] at s10
   refine th_n ?_
   refine wp_seq ?_
   refine wp_regJ (by kernel_rfl) [129, 130, 131, 132, 133, 134, 135, 136, 137, 138, 139, 140, 141, 142, 143, 144, 145, 146, 147, 148, 149, 150, 151, 152, 153, 154, 155, 156, 157, 158, 159, 0, 9] [some (.int .i64 X1), some (.pointer (some ⟨(w.heap.size + 2), 1, none⟩)), some (.int .i64 u.d), some (.int .i64 (X1 * u.d)), some (.pointer (some ⟨w.heap.size, 2, none⟩)), some (.int .i64 r.bx), some (.pointer (some ⟨(w.heap.size + 2), 0, none⟩)), some (.int .i64 u.n), some (.int .i64 (r.bx * u.n)), some (.int .i64 D1), some (.int .i64 ((r.bx * u.n) * D1)), some (.int .i64 ((X1 * u.d) + ((r.bx * u.n) * D1))), some (.int .i64 Y1), some (.pointer (some ⟨(w.heap.size + 2), 1, none⟩)), some (.int .i64 u.d), some (.int .i64 (Y1 * u.d)), some (.pointer (some ⟨w.heap.size, 3, none⟩)), some (.int .i64 r.by_), some (.pointer (some ⟨(w.heap.size + 2), 0, none⟩)), some (.int .i64 u.n), some (.int .i64 (r.by_ * u.n)), some (.int .i64 D1), some (.int .i64 ((r.by_ * u.n) * D1)), some (.int .i64 ((Y1 * u.d) + ((r.by_ * u.n) * D1))), some (.int .i64 D1), some (.pointer (some ⟨(w.heap.size + 2), 1, none⟩)), some (.int .i64 u.d), some (.int .i64 (D1 * u.d)), some (.tuple #[spotV ((nxtS r s u v).getD sp0), .bool ((nxtS r s u v).isSome)]), some (spotV ((nxtS r s u v).getD sp0)), some (.bool ((nxtS r s u v).isSome)), none, some (.bool ((nxtS r s u v).isSome))] ((List.range 33).map List.range) [129, 130, 131, 132, 133, 134, 135, 136, 137, 138, 139, 140, 141, 142, 143, 144, 145, 146, 147, 148, 149, 150, 151, 152, 153, 154, 155, 156, 157, 158, 159, 9] [0, 1, 2, 3, 4, 5, 6, 7, 8, 9, 10, 11, 12, 13, 14, 15, 16, 17, 18, 19, 20, 21, 22, 23, 24, 25, 26, 27, 28, 29, 30, 31, 32] [(w.heap.size + 4)] (fun L aa ww => PreX ww (w.heap.size + 4) 57 [.int .i64 0, .int .i64 0, .int .i64 0] (L 31) (fun _ vs => vs = [.int .i64 (((nxtS r s u v).getD sp0).x), .int .i64 (((nxtS r s u v).getD sp0).y), .int .i64 (((nxtS r s u v).getD sp0).d)])) (by kernel_rfl) (by rw [hz]; decide) ?_ (ec ?_ (ec ?_ (ec ?_ (ec ?_ (ec ?_ (ec ?_ (ec ?_ (ec ?_ (ec ?_ (ec ?_ (ec ?_ (ec ?_ (ec ?_ (ec ?_ (ec ?_ (ec ?_ (ec ?_ (ec ?_ (ec ?_ (ec ?_ (ec ?_ (ec ?_ (ec ?_ (ec ?_ (ec ?_ (ec ?_ (ec ?_ (ec ?_ (ec ?_ (ec ?_ (ec ?_ (ec ?_ (ec ?_ .nil))))))))))))))))))))))))))))))))) ?_
   · exact fun _ h => (⟨fun _ => b7.kp h (by simp), (fun h => by cases h)⟩)
   · exact fun Lk ak ww hL hdd haa hF hK hV hX Nk Qk hN => wnt rfl (wp_move rfl (ev (hF.g rfl s11)) (hN _ _ hK rfl (hX.bel (Below.refl _ _) (fun _ h => h))))
   · intro Lk ak ww hL hdd haa hF hK hV hX Nk Qk hN; refine wnt rfl ?_
     simp [go_sem, hF.g rfl s6]
     exact (hN _ _ hK rfl (hX.bel (Below.refl _ _) (fun _ h => h)))
   · intro Lk ak ww hL hdd haa hF hK hV hX Nk Qk hN; refine wnt rfl ?_
     simp [go_sem, (show ak.tmps[130]?.getD undef = _ from hV 1 _ rfl (hdd 1 rfl)), (b5.kp hK (by simp <;> omega)).cell]
     exact (hN _ _ hK rfl (hX.bel (Below.refl _ _) (fun _ h => h)))
   · exact fun Lk ak ww hL hdd haa hF hK hV hX Nk Qk hN => wnt rfl (wp_mul rfl (ev (hV 0 _ rfl (hdd 0 rfl))) (ev (hV 2 _ rfl (hdd 2 rfl))) (by omega) (hN _ _ hK rfl (hX.bel (Below.refl _ _) (fun _ h => h))))
   · intro Lk ak ww hL hdd haa hF hK hV hX Nk Qk hN; refine wnt rfl ?_
     simp [go_sem, hF.g rfl s4]
     exact (hN _ _ hK rfl (hX.bel (Below.refl _ _) (fun _ h => h)))
   · intro Lk ak ww hL hdd haa hF hK hV hX Nk Qk hN; refine wnt rfl ?_
     simp [go_sem, (show ak.tmps[133]?.getD undef = _ from hV 4 _ rfl (hdd 4 rfl)), (b3.kp hK (by simp <;> omega)).cell]
     exact (hN _ _ hK rfl (hX.bel (Below.refl _ _) (fun _ h => h)))
   · intro Lk ak ww hL hdd haa hF hK hV hX Nk Qk hN; refine wnt rfl ?_
     simp [go_sem, hF.g rfl s6]
     exact (hN _ _ hK rfl (hX.bel (Below.refl _ _) (fun _ h => h)))
   · intro Lk ak ww hL hdd haa hF hK hV hX Nk Qk hN; refine wnt rfl ?_
     simp [go_sem, (show ak.tmps[135]?.getD undef = _ from hV 6 _ rfl (hdd 6 rfl)), (b5.kp hK (by simp <;> omega)).cell]
     exact (hN _ _ hK rfl (hX.bel (Below.refl _ _) (fun _ h => h)))
   · exact fun Lk ak ww hL hdd haa hF hK hV hX Nk Qk hN => wnt rfl (wp_mul rfl (ev (hV 5 _ rfl (hdd 5 rfl))) (ev (hV 7 _ rfl (hdd 7 rfl))) (by omega) (hN _ _ hK rfl (hX.bel (Below.refl _ _) (fun _ h => h))))
   · exact fun Lk ak ww hL hdd haa hF hK hV hX Nk Qk hN => wnt rfl (wp_move rfl (ev (hF.g rfl s10)) (hN _ _ hK rfl (hX.bel (Below.refl _ _) (fun _ h => h))))
   · exact fun Lk ak ww hL hdd haa hF hK hV hX Nk Qk hN => wnt rfl (wp_mul rfl (ev (hV 8 _ rfl (hdd 8 rfl))) (ev (hV 9 _ rfl (hdd 9 rfl))) (by omega) (hN _ _ hK rfl (hX.bel (Below.refl _ _) (fun _ h => h))))
   · exact fun Lk ak ww hL hdd haa hF hK hV hX Nk Qk hN => wnt rfl (wp_add rfl (ev (hV 3 _ rfl (hdd 3 rfl))) (ev (hV 10 _ rfl (hdd 10 rfl))) (by omega) (hN _ _ hK rfl (hX.bel (Below.refl _ _) (fun _ h => h))))
   · exact fun Lk ak ww hL hdd haa hF hK hV hX Nk Qk hN => wnt rfl (wp_move rfl (ev (hF.g rfl s12)) (hN _ _ hK rfl (hX.bel (Below.refl _ _) (fun _ h => h))))
   · intro Lk ak ww hL hdd haa hF hK hV hX Nk Qk hN; refine wnt rfl ?_
     simp [go_sem, hF.g rfl s6]
     exact (hN _ _ hK rfl (hX.bel (Below.refl _ _) (fun _ h => h)))
   · intro Lk ak ww hL hdd haa hF hK hV hX Nk Qk hN; refine wnt rfl ?_
     simp [go_sem, (show ak.tmps[142]?.getD undef = _ from hV 13 _ rfl (hdd 13 rfl)), (b5.kp hK (by simp <;> omega)).cell]
     exact (hN _ _ hK rfl (hX.bel (Below.refl _ _) (fun _ h => h)))
   · exact fun Lk ak ww hL hdd haa hF hK hV hX Nk Qk hN => wnt rfl (wp_mul rfl (ev (hV 12 _ rfl (hdd 12 rfl))) (ev (hV 14 _ rfl (hdd 14 rfl))) (by omega) (hN _ _ hK rfl (hX.bel (Below.refl _ _) (fun _ h => h))))
   · intro Lk ak ww hL hdd haa hF hK hV hX Nk Qk hN; refine wnt rfl ?_
     simp [go_sem, hF.g rfl s4]
     exact (hN _ _ hK rfl (hX.bel (Below.refl _ _) (fun _ h => h)))
   · intro Lk ak ww hL hdd haa hF hK hV hX Nk Qk hN; refine wnt rfl ?_
     simp [go_sem, (show ak.tmps[145]?.getD undef = _ from hV 16 _ rfl (hdd 16 rfl)), (b3.kp hK (by simp <;> omega)).cell]
     exact (hN _ _ hK rfl (hX.bel (Below.refl _ _) (fun _ h => h)))
   · intro Lk ak ww hL hdd haa hF hK hV hX Nk Qk hN; refine wnt rfl ?_
     simp [go_sem, hF.g rfl s6]
     exact (hN _ _ hK rfl (hX.bel (Below.refl _ _) (fun _ h => h)))
   · intro Lk ak ww hL hdd haa hF hK hV hX Nk Qk hN; refine wnt rfl ?_
     simp [go_sem, (show ak.tmps[147]?.getD undef = _ from hV 18 _ rfl (hdd 18 rfl)), (b5.kp hK (by simp <;> omega)).cell]
     exact (hN _ _ hK rfl (hX.bel (Below.refl _ _) (fun _ h => h)))
   · exact fun Lk ak ww hL hdd haa hF hK hV hX Nk Qk hN => wnt rfl (wp_mul rfl (ev (hV 17 _ rfl (hdd 17 rfl))) (ev (hV 19 _ rfl (hdd 19 rfl))) (by omega) (hN _ _ hK rfl (hX.bel (Below.refl _ _) (fun _ h => h))))
   · exact fun Lk ak ww hL hdd haa hF hK hV hX Nk Qk hN => wnt rfl (wp_move rfl (ev (hF.g rfl s10)) (hN _ _ hK rfl (hX.bel (Below.refl _ _) (fun _ h => h))))
   · exact fun Lk ak ww hL hdd haa hF hK hV hX Nk Qk hN => wnt rfl (wp_mul rfl (ev (hV 20 _ rfl (hdd 20 rfl))) (ev (hV 21 _ rfl (hdd 21 rfl))) (by omega) (hN _ _ hK rfl (hX.bel (Below.refl _ _) (fun _ h => h))))
   · exact fun Lk ak ww hL hdd haa hF hK hV hX Nk Qk hN => wnt rfl (wp_add rfl (ev (hV 15 _ rfl (hdd 15 rfl))) (ev (hV 22 _ rfl (hdd 22 rfl))) (by omega) (hN _ _ hK rfl (hX.bel (Below.refl _ _) (fun _ h => h))))
   · exact fun Lk ak ww hL hdd haa hF hK hV hX Nk Qk hN => wnt rfl (wp_move rfl (ev (hF.g rfl s10)) (hN _ _ hK rfl (hX.bel (Below.refl _ _) (fun _ h => h))))
   · intro Lk ak ww hL hdd haa hF hK hV hX Nk Qk hN; refine wnt rfl ?_
     simp [go_sem, hF.g rfl s6]
     exact (hN _ _ hK rfl (hX.bel (Below.refl _ _) (fun _ h => h)))
   · intro Lk ak ww hL hdd haa hF hK hV hX Nk Qk hN; refine wnt rfl ?_
     simp [go_sem, (show ak.tmps[154]?.getD undef = _ from hV 25 _ rfl (hdd 25 rfl)), (b5.kp hK (by simp <;> omega)).cell]
     exact (hN _ _ hK rfl (hX.bel (Below.refl _ _) (fun _ h => h)))
   · exact fun Lk ak ww hL hdd haa hF hK hV hX Nk Qk hN => wnt rfl (wp_mul rfl (ev (hV 24 _ rfl (hdd 24 rfl))) (ev (hV 26 _ rfl (hdd 26 rfl))) (by omega) (hN _ _ hK rfl (hX.bel (Below.refl _ _) (fun _ h => h))))
   · intro Lk ak ww hL hdd haa hF hK hV hX Nk Qk hN; refine wnt rfl ?_
     simp [go_sem, (show ak.tmps[140]?.getD undef = _ from hV 11 _ rfl (hdd 11 rfl)), (show ak.tmps[152]?.getD undef = _ from hV 23 _ rfl (hdd 23 rfl)), (show ak.tmps[156]?.getD undef = _ from hV 27 _ rfl (hdd 27 rfl))]
     refine (show Calls Tryz.prog 180 #[.int .i64 (X1 * u.d + r.bx * u.n * D1), .int .i64 (Y1 * u.d + r.by_ * u.n * D1), .int .i64 (D1 * u.d)] ww (fun e w' => e = .returned (optSpotV (nxtS r s u v)) ∧ Below ww.heap.size ww w') from hsame ▸ sSpotOf_c _ _ _ ww ⟨by omega, by omega⟩ ⟨by omega, by omega⟩ ⟨by omega, by omega⟩).mono ?_
     rintro x wx ⟨rfl, hb⟩
     exact (hN _ _ (hK.call hb) (optSpot_eq _) (hX.bel hb (fun _ h => h)))
   · exact fun Lk ak ww hL hdd haa hF hK hV hX Nk Qk hN => wnt rfl (wp_extract rfl (ev (hV 28 _ rfl (hdd 28 rfl))) rfl (hN _ _ hK rfl (hX.bel (Below.refl _ _) (fun _ h => h))))
   · exact fun Lk ak ww hL hdd haa hF hK hV hX Nk Qk hN => wnt rfl (wp_extract rfl (ev (hV 28 _ rfl (hdd 28 rfl))) rfl (hN _ _ hK rfl (hX.bel (Below.refl _ _) (fun _ h => h))))
   · intro Lk ak ww hL hdd haa hF hK hV hX Nk Qk hN
     have x0 := hX
     refine wnt rfl ?_
     have HT := x0.1 hL
     simp [go_sem, (show ak.tmps[158]?.getD undef = _ from hV 29 _ rfl (hdd 29 rfl)), hF.g rfl s8, HT.cell, HT.frz]
     exact hN undef _ (hK.store (.inr (by simp)) [.int .i64 (((nxtS r s u v).getD sp0).x), .int .i64 (((nxtS r s u v).getD sp0).y), .int .i64 (((nxtS r s u v).getD sp0).d)] 0) trivial (PreX.set HT (us := [.int .i64 (((nxtS r s u v).getD sp0).x), .int .i64 (((nxtS r s u v).getD sp0).y), .int .i64 (((nxtS r s u v).getD sp0).d)]) rfl rfl)
   · exact fun Lk ak ww hL hdd haa hF hK hV hX Nk Qk hN => wnt rfl (wp_assign rfl (ev (hV 30 _ rfl (hdd 30 rfl))) (hN _ _ hK rfl (hX.bel (Below.refl _ _) (fun _ h => h))))
   intro L a29 w30 hL hF hK hV hX
   have x0 := hX
   replace hz := hF.size.trans hz
   replace hdf := hF.defers.trans hdf
   replace s8 := hF.g rfl s8
   have s9 : a29.tmps[9]?.getD undef = .bool ((nxtS r s u v).isSome) := hV 32 _ rfl
   clear b7
   obtain ⟨_, b7, rfl⟩ := x0.2 (hL 31 (by decide))
   replace hZ := Nat.le_trans hZ hK.size
   replace hB := hK.below hB hB.size (by simp <;> omega)
   clear hF hK hV hL x0 s4 s6 s11 s12 s10 b3 b5
   refine th_n ?_
   refine wp_ret ?_
   refine bodyPost_ret (v := .tuple #[spotV ((nxtS r s u v).getD sp0), .bool ((nxtS r s u v).isSome)]) (by simp [results, Tryz.results112, go_sem, s8, b7.cell, s9]) hdf ?_
   exact ⟨by rw [nxt_yes hbad, optSpot_eq], hB⟩
end Go.Proofs.YtdncnhcffbgjhaaGreat
end
section
namespace Go.Proofs.YtdncnhcffbgjhaaGreat
open Go.RowKit

def admS (r : Room) (e : List Half) (s : Spot) : Option Span := if spotOk s = true then admit r e s else none
theorem admS_no {r : Room} {e : List Half} {s : Spot} (h : spotOk s = false) : (admS r e s).isSome = false := by unfold admS; rw [if_neg (by rw [h]; simp)]; rfl
theorem admS_yes {r : Room} {e : List Half} {s : Spot} (h : spotOk s = true) : admS r e s = admit r e s := if_pos h
theorem admS_ok {r : Room} {e : List Half} {s : Spot} {v : Span} (h : admit r e s = some v) : spanOk v = true := admit_spanOk h
theorem stepL_no {r : Room} {p : List Half} {s : Spot} {wish : Int} {v : Spot} (h : robOk r p = false) : stepL r p s wish v = none :=
  stepG_no (by unfold admAt; rw [h, if_neg (by simp)]; rfl)
theorem stepL_yes {r : Room} {p R : List Half} {s : Spot} {wish : Int} {v : Spot} (h : robOk r p = true) (hR : robOk r p = true → R = rpR r p) : stepL r p s wish v = stepG (admS r R s) r s wish v := by
  unfold stepL admAt admS
  rw [hR h]
  rcases Bool.eq_false_or_eq_true (spotOk s) with h1 | h1
  · rw [h, h1, if_pos ⟨rfl, rfl⟩, if_pos rfl]
  · rw [h, h1, if_neg (by simp), if_neg (by simp)]
set_option maxRecDepth 100000 in
set_option maxHeartbeats 3000000 in
theorem iStepIn_c (r : Room) (e : List Half) (s : Spot) (wish : Int) (v : Spot) (ra : RoomA) (b : SlA) (w : World) (hr : roomOk r = true) (hs : RoomSl w r ra) (he : regionOk e = true) (hsp : Sl 3 halfC w b.A e) (hsi : s.In) (hvi : v.In) :
    Calls Tryz.prog 113 #[roomV r ra, .agg #[.slice b.A e.length b.c], spotV s, .int .i64 wish, spotV v] w fun x w' => x = .returned (optStepV (stepG (admS r e s) r s wish v)) ∧ Below w.heap.size w w' := by
 refine calls_v Tryz.func113 rfl (n := 50) Tryz.ntmps113 (by simp) ?_
 intro a0 hz hdf ha
 have s0 : a0.tmps[0]?.getD undef = roomV r ra := ha 0 _ rfl
 have s1 : a0.tmps[1]?.getD undef = .agg #[.slice b.A e.length b.c] := ha 1 _ rfl
 have s2 : a0.tmps[2]?.getD undef = spotV s := ha 2 _ rfl
 have s3 : a0.tmps[3]?.getD undef = .int .i64 wish := ha 3 _ rfl
 have s4 : a0.tmps[4]?.getD undef = spotV v := ha 4 _ rfl
 clear ha
 have hB := Below.refl w.heap.size w
 have hZ := Nat.le_refl w.heap.size
 refine wp_seq ?_
 refine wp_entry [5, 6, 7, 9, 10, 11, 12] [.pointer (some ⟨w.heap.size, 0, none⟩), .pointer (some ⟨(w.heap.size + 1), 0, none⟩), .pointer (some ⟨(w.heap.size + 2), 0, none⟩), .pointer (some ⟨(w.heap.size + 3), 0, none⟩), .pointer (some ⟨(w.heap.size + 4), 0, none⟩), .pointer (some ⟨(w.heap.size + 5), 0, none⟩), .bool false] [some (.cells (roomC r ra).toArray 39), some (.cells [.slice b.A e.length b.c].toArray 37), some (.cells [.int .i64 s.x, .int .i64 s.y, .int .i64 s.d].toArray 57), some (.cells [.int .i64 v.x, .int .i64 v.y, .int .i64 v.d].toArray 57), some (.cells [.int .i64 0, .int .i64 0, .int .i64 0].toArray 57), some (.cells [.int .i64 0, .int .i64 0].toArray 52), none] [0, 1, 2, 3, 4, 5, 6] [5, 6, 7, 9, 10, 11, 12] [0, 1, 2, 3, 4, 5, 6] (by kernel_rfl) (by rw [hz]; decide) (ec ?_ (ec ?_ (ec ?_ (ec ?_ (ec ?_ (ec ?_ (ec ?_ .nil))))))) ?_
 · intro a w' hF hs N Q hN; simp [go_sem, hF.g rfl s0]; rw [hs]; exact hN
 · intro a w' hF hs N Q hN; simp [go_sem, hF.g rfl s1]; rw [hs]; exact hN
 · intro a w' hF hs N Q hN; simp [go_sem, hF.g rfl s2]; rw [hs]; exact hN
 · intro a w' hF hs N Q hN; simp [go_sem, hF.g rfl s4]; rw [hs]; exact hN
 · intro a w' hF hs N Q hN; simp [go_sem]; rw [hs]; exact hN
 · intro a w' hF hs N Q hN; simp [go_sem]; rw [hs]; exact hN
 · intro a w' hF hs N Q hN; simp [go_sem]; exact hN
 intro a1 w2 hF hV hb hO
 replace hz := hF.size.trans hz
 replace hdf := hF.defers.trans hdf
 replace s3 := hF.g rfl s3
 have s5 : a1.tmps[5]?.getD undef = .pointer (some ⟨w.heap.size, 0, none⟩) := hV 0 (by decide)
 have s6 : a1.tmps[6]?.getD undef = .pointer (some ⟨(w.heap.size + 1), 0, none⟩) := hV 1 (by decide)
 have s7 : a1.tmps[7]?.getD undef = .pointer (some ⟨(w.heap.size + 2), 0, none⟩) := hV 2 (by decide)
 have s9 : a1.tmps[9]?.getD undef = .pointer (some ⟨(w.heap.size + 3), 0, none⟩) := hV 3 (by decide)
 have s10 : a1.tmps[10]?.getD undef = .pointer (some ⟨(w.heap.size + 4), 0, none⟩) := hV 4 (by decide)
 have s11 : a1.tmps[11]?.getD undef = .pointer (some ⟨(w.heap.size + 5), 0, none⟩) := hV 5 (by decide)
 have b3 : HasT w2 w.heap.size 39 (roomC r ra) := hO 0 _ rfl
 have b4 : HasT w2 (w.heap.size + 1) 37 [.slice b.A e.length b.c] := hO 1 _ rfl
 have b5 : HasT w2 (w.heap.size + 2) 57 [.int .i64 s.x, .int .i64 s.y, .int .i64 s.d] := hO 2 _ rfl
 have b6 : HasT w2 (w.heap.size + 3) 57 [.int .i64 v.x, .int .i64 v.y, .int .i64 v.d] := hO 3 _ rfl
 have b7 : HasT w2 (w.heap.size + 4) 57 [.int .i64 0, .int .i64 0, .int .i64 0] := hO 4 _ rfl
 have b8 : HasT w2 (w.heap.size + 5) 52 [.int .i64 0, .int .i64 0] := hO 5 _ rfl
 have hG := b8.lt
 replace hB := below_tr hB hb
 have zw2 := Nat.le_trans hZ hb.size
 replace hZ := Nat.le_refl w2.heap.size
 clear hF hV hb hO s0 s1 s2 s4
 refine th_n ?_
 refine wp_seq ?_
 refine wp_seq ?_
 refine wp_regJ (by kernel_rfl) [17, 18, 19] [some (spotV s), some (.bool (spotOk s)), some (.bool (!(spotOk s)))] ((List.range 3).map List.range) [17, 18, 19] [0, 1, 2] [] (fun _ _ _ => True) (by kernel_rfl) (by rw [hz]; decide) ?_ (ec ?_ (ec ?_ (ec ?_ .nil))) ?_
 · exact fun _ _ => trivial
 · intro Lk ak ww hL hdd haa hF hK hV hX Nk Qk hN; refine wnt rfl ?_
   simp [go_sem, hF.g rfl s7, (b5.kp hK (by simp)).cell]
   exact (hN _ _ hK rfl trivial)
 · intro Lk ak ww hL hdd haa hF hK hV hX Nk Qk hN; refine wnt rfl ?_
   simp [go_sem, (show ak.tmps[17]?.getD undef = _ from hV 0 _ rfl (hdd 0 rfl))]
   refine (iSpotOk_c s ww hsi).mono ?_
   rintro x wx ⟨rfl, hb⟩
   exact (hN _ _ (hK.call hb) rfl trivial)
 · exact fun Lk ak ww hL hdd haa hF hK hV hX Nk Qk hN => wnt rfl (wp_not rfl (ev (hV 1 _ rfl (hdd 1 rfl))) (hN _ _ hK rfl trivial))
 intro L a9 w10 hL hF hK hV hX
 replace hz := hF.size.trans hz
 replace hdf := hF.defers.trans hdf
 replace s3 := hF.g rfl s3
 replace s5 := hF.g rfl s5
 replace s6 := hF.g rfl s6
 replace s7 := hF.g rfl s7
 replace s9 := hF.g rfl s9
 replace s10 := hF.g rfl s10
 replace s11 := hF.g rfl s11
 have s19 : a9.tmps[19]?.getD undef = .bool (!(spotOk s)) := hV 2 _ rfl
 replace b3 := b3.kp hK (by simp)
 replace b4 := b4.kp hK (by simp)
 replace b5 := b5.kp hK (by simp)
 replace b6 := b6.kp hK (by simp)
 replace b7 := b7.kp hK (by simp)
 replace b8 := b8.kp hK (by simp)
 replace hZ := Nat.le_trans hZ hK.size
 replace hB := hK.below0 hB
 clear hF hK hV hL hX
 refine th_n ?_
 rcases Bool.eq_false_or_eq_true (!(spotOk s)) with q11 | q11
 · skip
   refine wp_cond_true (ev (vb s19 q11)) ?_
   refine wp_seq ?_
   refine wp_regJ (by kernel_rfl) [20, 21, 0, 0, 12] [some (.agg #[.int .i64 0, .int .i64 0, .int .i64 0]), some (.agg #[.int .i64 0, .int .i64 0]), none, none, some (.bool false)] ((List.range 5).map List.range) [20, 21, 12] [0, 1, 2, 3, 4] [(w.heap.size + 4), (w.heap.size + 5)] (fun L aa ww => PreX ww (w.heap.size + 4) 57 [.int .i64 0, .int .i64 0, .int .i64 0] (L 2) (fun _ vs => vs = [.int .i64 0, .int .i64 0, .int .i64 0]) ∧ PreX ww (w.heap.size + 5) 52 [.int .i64 0, .int .i64 0] (L 3) (fun _ vs => vs = [.int .i64 0, .int .i64 0])) (by kernel_rfl) (by rw [hz]; decide) ?_ (ec ?_ (ec ?_ (ec ?_ (ec ?_ (ec ?_ .nil))))) ?_
   · exact fun _ h => ⟨(⟨fun _ => b7.kp h (by simp), (fun h => by cases h)⟩), (⟨fun _ => b8.kp h (by simp), (fun h => by cases h)⟩)⟩
   · intro Lk ak ww hL hdd haa hF hK hV hX Nk Qk hN; refine wnt rfl ?_
     simp [go_sem]
     exact (hN _ _ hK rfl ⟨(hX.1.bel (Below.refl _ _) (fun _ h => h)), (hX.2.bel (Below.refl _ _) (fun _ h => h))⟩)
   · intro Lk ak ww hL hdd haa hF hK hV hX Nk Qk hN; refine wnt rfl ?_
     simp [go_sem]
     exact (hN _ _ hK rfl ⟨(hX.1.bel (Below.refl _ _) (fun _ h => h)), (hX.2.bel (Below.refl _ _) (fun _ h => h))⟩)
   · intro Lk ak ww hL hdd haa hF hK hV hX Nk Qk hN
     obtain ⟨x0, x1⟩ := hX
     refine wnt rfl ?_
     have HT := x0.1 hL
     simp [go_sem, (show ak.tmps[20]?.getD undef = _ from hV 0 _ rfl (hdd 0 rfl)), hF.g rfl s10, HT.cell, HT.frz]
     exact hN undef _ (hK.store (.inr (by simp)) [.int .i64 0, .int .i64 0, .int .i64 0] 0) trivial ⟨(PreX.set HT (us := [.int .i64 0, .int .i64 0, .int .i64 0]) rfl rfl), (x1.oth (by omega) [.int .i64 0, .int .i64 0, .int .i64 0] 0 (fun _ h => h))⟩
   · intro Lk ak ww hL hdd haa hF hK hV hX Nk Qk hN
     obtain ⟨x0, x1⟩ := hX
     refine wnt rfl ?_
     have HT := x1.1 hL
     simp [go_sem, (show ak.tmps[21]?.getD undef = _ from hV 1 _ rfl (hdd 1 rfl)), hF.g rfl s11, HT.cell, HT.frz]
     exact hN undef _ (hK.store (.inr (by simp)) [.int .i64 0, .int .i64 0] 0) trivial ⟨(x0.oth (by omega) [.int .i64 0, .int .i64 0] 0 (fun _ h => h)), (PreX.set HT (us := [.int .i64 0, .int .i64 0]) rfl rfl)⟩
   · exact fun Lk ak ww hL hdd haa hF hK hV hX Nk Qk hN => wnt rfl (wp_assign rfl rfl (hN _ _ hK rfl ⟨(hX.1.bel (Below.refl _ _) (fun _ h => h)), (hX.2.bel (Below.refl _ _) (fun _ h => h))⟩))
   intro L a12 w13 hL hF hK hV hX
   obtain ⟨x0, x1⟩ := hX
   replace hz := hF.size.trans hz
   replace hdf := hF.defers.trans hdf
   replace s10 := hF.g rfl s10
   replace s11 := hF.g rfl s11
   have s12 : a12.tmps[12]?.getD undef = .bool false := hV 4 _ rfl
   clear b7
   obtain ⟨_, b7, rfl⟩ := x0.2 (hL 2 (by decide))
   clear b8
   obtain ⟨_, b8, rfl⟩ := x1.2 (hL 3 (by decide))
   replace hZ := Nat.le_trans hZ hK.size
   replace hB := hK.below hB hB.size (by simp <;> omega)
   clear hF hK hV hL x0 x1 s3 s5 s6 s7 s9 s19 b3 b4 b5 b6
   refine th_n ?_
   refine wp_ret ?_
   refine th_r ?_
   refine bodyPost_ret (v := .tuple #[.agg #[.int .i64 0, .int .i64 0, .int .i64 0], .agg #[.int .i64 0, .int .i64 0], .bool false]) (by simp [results, Tryz.results113, go_sem, s10, b7.cell, s11, b8.cell, s12]) hdf ?_
   exact ⟨by rw [stepG_no (admS_no (not_t q11))]; rfl, hB⟩
 · skip
   refine wp_cond_false (ev (vb s19 q11)) ?_
   refine wp_skip ?_
   refine th_n ?_
   refine wp_seq ?_
   refine wp_regJ (by kernel_rfl) [23, 24, 25, 26, 22, 27, 28, 13, 0, 14] [some (roomV r ra), some (.agg #[.slice b.A e.length b.c]), some (spotV s), some (.tuple #[spanV ((admit r e s).getD span0), .bool ((admit r e s).isSome)]), some (.tuple #[spanV ((admit r e s).getD span0), .bool ((admit r e s).isSome)]), some (spanV ((admit r e s).getD span0)), some (.bool ((admit r e s).isSome)), none, none, some (.bool ((admit r e s).isSome))] ((List.range 10).map List.range) [23, 24, 25, 26, 22, 27, 28, 13, 14] [0, 1, 2, 3, 4, 5, 6, 7, 8, 9] [] (fun L aa ww => (L 7 = true → BoxX w10 aa ww 13 54 [.int .i64 0, .int .i64 0, .int .i64 0, .int .i64 0] (L 8) (fun _ vs => vs = [.int .i64 (((admit r e s).getD span0).low.n), .int .i64 (((admit r e s).getD span0).low.d), .int .i64 (((admit r e s).getD span0).high.n), .int .i64 (((admit r e s).getD span0).high.d)]))) (by kernel_rfl) (by rw [hz]; decide) ?_ (ec ?_ (ec ?_ (ec ?_ (ec ?_ (ec ?_ (ec ?_ (ec ?_ (ec ?_ (ec ?_ (ec ?_ .nil)))))))))) ?_
   · exact fun _ h => (fun h => by cases h)
   · intro Lk ak ww hL hdd haa hF hK hV hX Nk Qk hN; refine wnt rfl ?_
     simp [go_sem, hF.g rfl s5, (b3.kp hK (by simp)).cell]
     exact (hN _ _ hK rfl (fun h => ((hX h).bel (Below.refl _ _) (fun _ h => h)).put (by decide) _))
   · intro Lk ak ww hL hdd haa hF hK hV hX Nk Qk hN; refine wnt rfl ?_
     simp [go_sem, hF.g rfl s6, (b4.kp hK (by simp)).cell]
     exact (hN _ _ hK rfl (fun h => ((hX h).bel (Below.refl _ _) (fun _ h => h)).put (by decide) _))
   · intro Lk ak ww hL hdd haa hF hK hV hX Nk Qk hN; refine wnt rfl ?_
     simp [go_sem, hF.g rfl s7, (b5.kp hK (by simp)).cell]
     exact (hN _ _ hK rfl (fun h => ((hX h).bel (Below.refl _ _) (fun _ h => h)).put (by decide) _))
   · intro Lk ak ww hL hdd haa hF hK hV hX Nk Qk hN; refine wnt rfl ?_
     simp [go_sem, (show ak.tmps[23]?.getD undef = _ from hV 0 _ rfl (hdd 0 rfl)), (show ak.tmps[24]?.getD undef = _ from hV 1 _ rfl (hdd 1 rfl)), (show ak.tmps[25]?.getD undef = _ from hV 2 _ rfl (hdd 2 rfl))]
     have hBi := hK.below0 hB
     refine (iAdmit_c r e s ra b ww hr (reg_ok (he)) (reg_len (he)) (not_f q11) (hs.below hBi) (hsp.below hBi)).mono ?_
     rintro x wx ⟨rfl, hb⟩
     exact (hN _ _ (hK.call hb) (optSpan_eq _) (fun h => ((hX h).bel hb (fun _ h => h)).put (by decide) _))
   · exact fun Lk ak ww hL hdd haa hF hK hV hX Nk Qk hN => wnt rfl (wp_move rfl (ev (hV 3 _ rfl (hdd 3 rfl))) (hN _ _ hK rfl (fun h => ((hX h).bel (Below.refl _ _) (fun _ h => h)).put (by decide) _)))
   · exact fun Lk ak ww hL hdd haa hF hK hV hX Nk Qk hN => wnt rfl (wp_extract rfl (ev (hV 4 _ rfl (hdd 4 rfl))) rfl (hN _ _ hK rfl (fun h => ((hX h).bel (Below.refl _ _) (fun _ h => h)).put (by decide) _)))
   · exact fun Lk ak ww hL hdd haa hF hK hV hX Nk Qk hN => wnt rfl (wp_extract rfl (ev (hV 4 _ rfl (hdd 4 rfl))) rfl (hN _ _ hK rfl (fun h => ((hX h).bel (Below.refl _ _) (fun _ h => h)).put (by decide) _)))
   · intro Lk ak ww hL hdd haa hF hK hV hX Nk Qk hN
     have x0 := hX
     refine wnt rfl ?_
     simp [go_sem]
     exact hN _ _ (hK.alloc _) trivial (fun _ => by rw [show upd Lk 7 8 = false from haa 8 rfl]; exact BoxX.new (s := 13) (hF.lt (by rw [hz]; decide)) hK.size [.int .i64 0, .int .i64 0, .int .i64 0, .int .i64 0])
   · intro Lk ak ww hL hdd haa hF hK hV hX Nk Qk hN
     have x0 := hX
     refine wnt rfl ?_
     obtain ⟨g, eg, hg, y, _⟩ := x0 (hdd 7 rfl)
     have HT := y hL
     simp [go_sem, (show ak.tmps[27]?.getD undef = _ from hV 5 _ rfl (hdd 5 rfl)), eg, HT.cell, HT.frz]
     exact hN undef _ (hK.store (.inl hg) [.int .i64 (((admit r e s).getD span0).low.n), .int .i64 (((admit r e s).getD span0).low.d), .int .i64 (((admit r e s).getD span0).high.n), .int .i64 (((admit r e s).getD span0).high.d)] 0) trivial (fun _ => BoxX.set eg hg HT (us := [.int .i64 (((admit r e s).getD span0).low.n), .int .i64 (((admit r e s).getD span0).low.d), .int .i64 (((admit r e s).getD span0).high.n), .int .i64 (((admit r e s).getD span0).high.d)]) rfl rfl)
   · exact fun Lk ak ww hL hdd haa hF hK hV hX Nk Qk hN => wnt rfl (wp_assign rfl (ev (hV 6 _ rfl (hdd 6 rfl))) (hN _ _ hK rfl (fun h => ((hX h).bel (Below.refl _ _) (fun _ h => h)).put (by decide) _)))
   intro L a14 w15 hL hF hK hV hX
   have x0 := hX
   replace hz := hF.size.trans hz
   replace hdf := hF.defers.trans hdf
   replace s3 := hF.g rfl s3
   replace s5 := hF.g rfl s5
   replace s7 := hF.g rfl s7
   replace s9 := hF.g rfl s9
   replace s10 := hF.g rfl s10
   replace s11 := hF.g rfl s11
   have s14 : a14.tmps[14]?.getD undef = .bool ((admit r e s).isSome) := hV 9 _ rfl
   replace b3 := b3.kp hK (by simp)
   replace b5 := b5.kp hK (by simp)
   replace b6 := b6.kp hK (by simp)
   replace b7 := b7.kp hK (by simp)
   replace b8 := b8.kp hK (by simp)
   obtain ⟨g16, s13, lg16, -, b16⟩ := x0 (hL 7 (by decide))
   obtain ⟨_, b16, rfl⟩ := b16 (hL 8 (by decide))
   have ug16 := b16.lt
   have zw10 := hZ
   have zw15 := hK.size
   replace hZ := Nat.le_refl w15.heap.size
   replace hB := hK.below0 hB
   clear hF hK hV hL x0 s6 s19 b4
   refine th_n ?_
   refine wp_seq ?_
   refine wp_seq ?_
   refine wp_regJ (by kernel_rfl) [29, 30] [some (.bool ((admit r e s).isSome)), some (.bool (!((admit r e s).isSome)))] ((List.range 2).map List.range) [29, 30] [0, 1] [] (fun _ _ _ => True) (by kernel_rfl) (by rw [hz]; decide) ?_ (ec ?_ (ec ?_ .nil)) ?_
   · exact fun _ _ => trivial
   · exact fun Lk ak ww hL hdd haa hF hK hV hX Nk Qk hN => wnt rfl (wp_move rfl (ev (hF.g rfl s14)) (hN _ _ hK rfl trivial))
   · exact fun Lk ak ww hL hdd haa hF hK hV hX Nk Qk hN => wnt rfl (wp_not rfl (ev (hV 0 _ rfl (hdd 0 rfl))) (hN _ _ hK rfl trivial))
   intro L a17 w18 hL hF hK hV hX
   replace hz := hF.size.trans hz
   replace hdf := hF.defers.trans hdf
   replace s3 := hF.g rfl s3
   replace s5 := hF.g rfl s5
   replace s7 := hF.g rfl s7
   replace s9 := hF.g rfl s9
   replace s10 := hF.g rfl s10
   replace s11 := hF.g rfl s11
   replace s13 := hF.g rfl s13
   have s30 : a17.tmps[30]?.getD undef = .bool (!((admit r e s).isSome)) := hV 1 _ rfl
   replace b3 := b3.kp hK (by simp)
   replace b5 := b5.kp hK (by simp)
   replace b6 := b6.kp hK (by simp)
   replace b7 := b7.kp hK (by simp)
   replace b8 := b8.kp hK (by simp)
   replace b16 := b16.kp hK (by simp)
   replace hZ := Nat.le_trans hZ hK.size
   replace hB := hK.below0 hB
   clear hF hK hV hL hX s14
   refine th_n ?_
   rcases Bool.eq_false_or_eq_true (!((admit r e s).isSome)) with q19 | q19
   · skip
     refine wp_cond_true (ev (vb s30 q19)) ?_
     refine wp_seq ?_
     refine wp_regJ (by kernel_rfl) [31, 32, 0, 0, 12] [some (.agg #[.int .i64 0, .int .i64 0, .int .i64 0]), some (.agg #[.int .i64 0, .int .i64 0]), none, none, some (.bool false)] ((List.range 5).map List.range) [31, 32, 12] [0, 1, 2, 3, 4] [(w.heap.size + 4), (w.heap.size + 5)] (fun L aa ww => PreX ww (w.heap.size + 4) 57 [.int .i64 0, .int .i64 0, .int .i64 0] (L 2) (fun _ vs => vs = [.int .i64 0, .int .i64 0, .int .i64 0]) ∧ PreX ww (w.heap.size + 5) 52 [.int .i64 0, .int .i64 0] (L 3) (fun _ vs => vs = [.int .i64 0, .int .i64 0])) (by kernel_rfl) (by rw [hz]; decide) ?_ (ec ?_ (ec ?_ (ec ?_ (ec ?_ (ec ?_ .nil))))) ?_
     · exact fun _ h => ⟨(⟨fun _ => b7.kp h (by simp), (fun h => by cases h)⟩), (⟨fun _ => b8.kp h (by simp), (fun h => by cases h)⟩)⟩
     · intro Lk ak ww hL hdd haa hF hK hV hX Nk Qk hN; refine wnt rfl ?_
       simp [go_sem]
       exact (hN _ _ hK rfl ⟨(hX.1.bel (Below.refl _ _) (fun _ h => h)), (hX.2.bel (Below.refl _ _) (fun _ h => h))⟩)
     · intro Lk ak ww hL hdd haa hF hK hV hX Nk Qk hN; refine wnt rfl ?_
       simp [go_sem]
       exact (hN _ _ hK rfl ⟨(hX.1.bel (Below.refl _ _) (fun _ h => h)), (hX.2.bel (Below.refl _ _) (fun _ h => h))⟩)
     · intro Lk ak ww hL hdd haa hF hK hV hX Nk Qk hN
       obtain ⟨x0, x1⟩ := hX
       refine wnt rfl ?_
       have HT := x0.1 hL
       simp [go_sem, (show ak.tmps[31]?.getD undef = _ from hV 0 _ rfl (hdd 0 rfl)), hF.g rfl s10, HT.cell, HT.frz]
       exact hN undef _ (hK.store (.inr (by simp)) [.int .i64 0, .int .i64 0, .int .i64 0] 0) trivial ⟨(PreX.set HT (us := [.int .i64 0, .int .i64 0, .int .i64 0]) rfl rfl), (x1.oth (by omega) [.int .i64 0, .int .i64 0, .int .i64 0] 0 (fun _ h => h))⟩
     · intro Lk ak ww hL hdd haa hF hK hV hX Nk Qk hN
       obtain ⟨x0, x1⟩ := hX
       refine wnt rfl ?_
       have HT := x1.1 hL
       simp [go_sem, (show ak.tmps[32]?.getD undef = _ from hV 1 _ rfl (hdd 1 rfl)), hF.g rfl s11, HT.cell, HT.frz]
       exact hN undef _ (hK.store (.inr (by simp)) [.int .i64 0, .int .i64 0] 0) trivial ⟨(x0.oth (by omega) [.int .i64 0, .int .i64 0] 0 (fun _ h => h)), (PreX.set HT (us := [.int .i64 0, .int .i64 0]) rfl rfl)⟩
     · exact fun Lk ak ww hL hdd haa hF hK hV hX Nk Qk hN => wnt rfl (wp_assign rfl rfl (hN _ _ hK rfl ⟨(hX.1.bel (Below.refl _ _) (fun _ h => h)), (hX.2.bel (Below.refl _ _) (fun _ h => h))⟩))
     intro L a20 w21 hL hF hK hV hX
     obtain ⟨x0, x1⟩ := hX
     replace hz := hF.size.trans hz
     replace hdf := hF.defers.trans hdf
     replace s10 := hF.g rfl s10
     replace s11 := hF.g rfl s11
     have s12 : a20.tmps[12]?.getD undef = .bool false := hV 4 _ rfl
     clear b7
     obtain ⟨_, b7, rfl⟩ := x0.2 (hL 2 (by decide))
     clear b8
     obtain ⟨_, b8, rfl⟩ := x1.2 (hL 3 (by decide))
     replace hZ := Nat.le_trans hZ hK.size
     replace hB := hK.below hB hB.size (by simp <;> omega)
     clear hF hK hV hL x0 x1 s3 s5 s7 s9 s13 s30 b3 b5 b6 b16
     refine th_n ?_
     refine wp_ret ?_
     refine th_r ?_
     refine bodyPost_ret (v := .tuple #[.agg #[.int .i64 0, .int .i64 0, .int .i64 0], .agg #[.int .i64 0, .int .i64 0], .bool false]) (by simp [results, Tryz.results113, go_sem, s10, b7.cell, s11, b8.cell, s12]) hdf ?_
     exact ⟨by rw [admS_yes (not_f q11), stepG_no (not_t q19)]; rfl, hB⟩
   · skip
     refine wp_cond_false (ev (vb s30 q19)) ?_
     refine wp_skip ?_
     refine th_n ?_
     refine wp_seq ?_
     refine wp_regJ (by kernel_rfl) [33, 34, 35, 15, 0] [some (spanV ((admit r e s).getD span0)), some (.int .i64 wish), some (ratioV (pick ((admit r e s).getD span0) wish)), none, none] ((List.range 5).map List.range) [33, 34, 35, 15] [0, 1, 2, 3, 4] [] (fun L aa ww => (L 3 = true → BoxX w18 aa ww 15 52 [.int .i64 0, .int .i64 0] (L 4) (fun _ vs => vs = [.int .i64 ((pick ((admit r e s).getD span0) wish).n), .int .i64 ((pick ((admit r e s).getD span0) wish).d)]))) (by kernel_rfl) (by rw [hz]; decide) ?_ (ec ?_ (ec ?_ (ec ?_ (ec ?_ (ec ?_ .nil))))) ?_
     · exact fun _ h => (fun h => by cases h)
     · intro Lk ak ww hL hdd haa hF hK hV hX Nk Qk hN; refine wnt rfl ?_
       simp [go_sem, hF.g rfl s13, (b16.kp hK (by simp)).cell]
       exact (hN _ _ hK rfl (fun h => ((hX h).bel (Below.refl _ _) (fun _ h => h)).put (by decide) _))
     · exact fun Lk ak ww hL hdd haa hF hK hV hX Nk Qk hN => wnt rfl (wp_move rfl (ev (hF.g rfl s3)) (hN _ _ hK rfl (fun h => ((hX h).bel (Below.refl _ _) (fun _ h => h)).put (by decide) _)))
     · intro Lk ak ww hL hdd haa hF hK hV hX Nk Qk hN; refine wnt rfl ?_
       simp [go_sem, (show ak.tmps[33]?.getD undef = _ from hV 0 _ rfl (hdd 0 rfl)), (show ak.tmps[34]?.getD undef = _ from hV 1 _ rfl (hdd 1 rfl))]
       refine (iPick_c ((admit r e s).getD span0) wish ww (optIn (fun _ hv => admS_ok hv))).mono ?_
       rintro x wx ⟨rfl, hb⟩
       exact (hN _ _ (hK.call hb) rfl (fun h => ((hX h).bel hb (fun _ h => h)).put (by decide) _))
     · intro Lk ak ww hL hdd haa hF hK hV hX Nk Qk hN
       have x0 := hX
       refine wnt rfl ?_
       simp [go_sem]
       exact hN _ _ (hK.alloc _) trivial (fun _ => by rw [show upd Lk 3 4 = false from haa 4 rfl]; exact BoxX.new (s := 15) (hF.lt (by rw [hz]; decide)) hK.size [.int .i64 0, .int .i64 0])
     · intro Lk ak ww hL hdd haa hF hK hV hX Nk Qk hN
       have x0 := hX
       refine wnt rfl ?_
       obtain ⟨g, eg, hg, y, _⟩ := x0 (hdd 3 rfl)
       have HT := y hL
       simp [go_sem, (show ak.tmps[35]?.getD undef = _ from hV 2 _ rfl (hdd 2 rfl)), eg, HT.cell, HT.frz]
       exact hN undef _ (hK.store (.inl hg) [.int .i64 ((pick ((admit r e s).getD span0) wish).n), .int .i64 ((pick ((admit r e s).getD span0) wish).d)] 0) trivial (fun _ => BoxX.set eg hg HT (us := [.int .i64 ((pick ((admit r e s).getD span0) wish).n), .int .i64 ((pick ((admit r e s).getD span0) wish).d)]) rfl rfl)
     intro L a22 w23 hL hF hK hV hX
     have x0 := hX
     replace hz := hF.size.trans hz
     replace hdf := hF.defers.trans hdf
     replace s5 := hF.g rfl s5
     replace s7 := hF.g rfl s7
     replace s9 := hF.g rfl s9
     replace s10 := hF.g rfl s10
     replace s11 := hF.g rfl s11
     replace b3 := b3.kp hK (by simp)
     replace b5 := b5.kp hK (by simp)
     replace b6 := b6.kp hK (by simp)
     replace b7 := b7.kp hK (by simp)
     replace b8 := b8.kp hK (by simp)
     obtain ⟨g24, s15, lg24, -, b24⟩ := x0 (hL 3 (by decide))
     obtain ⟨_, b24, rfl⟩ := b24 (hL 4 (by decide))
     have ug24 := b24.lt
     have zw18 := hZ
     have zw23 := hK.size
     replace hZ := Nat.le_refl w23.heap.size
     replace hB := hK.below0 hB
     clear hF hK hV hL x0 s3 s13 s30 b16
     refine th_n ?_
     refine wp_seq ?_
     refine wp_regJ (by kernel_rfl) [37, 38, 39, 40, 41, 36, 42, 43, 16, 0, 14] [some (roomV r ra), some (spotV s), some (ratioV (pick ((admit r e s).getD span0) wish)), some (spotV v), some (.tuple #[spotV ((nxtO r s (pick ((admit r e s).getD span0) wish) v).getD sp0), .bool ((nxtO r s (pick ((admit r e s).getD span0) wish) v).isSome)]), some (.tuple #[spotV ((nxtO r s (pick ((admit r e s).getD span0) wish) v).getD sp0), .bool ((nxtO r s (pick ((admit r e s).getD span0) wish) v).isSome)]), some (spotV ((nxtO r s (pick ((admit r e s).getD span0) wish) v).getD sp0)), some (.bool ((nxtO r s (pick ((admit r e s).getD span0) wish) v).isSome)), none, none, some (.bool ((nxtO r s (pick ((admit r e s).getD span0) wish) v).isSome))] ((List.range 11).map List.range) [37, 38, 39, 40, 41, 36, 42, 43, 16, 14] [0, 1, 2, 3, 4, 5, 6, 7, 8, 9, 10] [] (fun L aa ww => (L 8 = true → BoxX w23 aa ww 16 57 [.int .i64 0, .int .i64 0, .int .i64 0] (L 9) (fun _ vs => vs = [.int .i64 (((nxtO r s (pick ((admit r e s).getD span0) wish) v).getD sp0).x), .int .i64 (((nxtO r s (pick ((admit r e s).getD span0) wish) v).getD sp0).y), .int .i64 (((nxtO r s (pick ((admit r e s).getD span0) wish) v).getD sp0).d)]))) (by kernel_rfl) (by rw [hz]; decide) ?_ (ec ?_ (ec ?_ (ec ?_ (ec ?_ (ec ?_ (ec ?_ (ec ?_ (ec ?_ (ec ?_ (ec ?_ (ec ?_ .nil))))))))))) ?_
     · exact fun _ h => (fun h => by cases h)
     · intro Lk ak ww hL hdd haa hF hK hV hX Nk Qk hN; refine wnt rfl ?_
       simp [go_sem, hF.g rfl s5, (b3.kp hK (by simp)).cell]
       exact (hN _ _ hK rfl (fun h => ((hX h).bel (Below.refl _ _) (fun _ h => h)).put (by decide) _))
     · intro Lk ak ww hL hdd haa hF hK hV hX Nk Qk hN; refine wnt rfl ?_
       simp [go_sem, hF.g rfl s7, (b5.kp hK (by simp)).cell]
       exact (hN _ _ hK rfl (fun h => ((hX h).bel (Below.refl _ _) (fun _ h => h)).put (by decide) _))
     · intro Lk ak ww hL hdd haa hF hK hV hX Nk Qk hN; refine wnt rfl ?_
       simp [go_sem, hF.g rfl s15, (b24.kp hK (by simp)).cell]
       exact (hN _ _ hK rfl (fun h => ((hX h).bel (Below.refl _ _) (fun _ h => h)).put (by decide) _))
     · intro Lk ak ww hL hdd haa hF hK hV hX Nk Qk hN; refine wnt rfl ?_
       simp [go_sem, hF.g rfl s9, (b6.kp hK (by simp)).cell]
       exact (hN _ _ hK rfl (fun h => ((hX h).bel (Below.refl _ _) (fun _ h => h)).put (by decide) _))
     · intro Lk ak ww hL hdd haa hF hK hV hX Nk Qk hN; refine wnt rfl ?_
       simp [go_sem, (show ak.tmps[37]?.getD undef = _ from hV 0 _ rfl (hdd 0 rfl)), (show ak.tmps[38]?.getD undef = _ from hV 1 _ rfl (hdd 1 rfl)), (show ak.tmps[39]?.getD undef = _ from hV 2 _ rfl (hdd 2 rfl)), (show ak.tmps[40]?.getD undef = _ from hV 3 _ rfl (hdd 3 rfl))]
       have hBi := hK.below0 hB
       refine (iNext_c r s (pick ((admit r e s).getD span0) wish) v ra ww hr (hs.below hBi) hsi (pick_In (optIn (fun _ hv => admS_ok hv))) hvi).mono ?_
       rintro x wx ⟨rfl, hb⟩
       exact (hN _ _ (hK.call hb) (optSpot_eq _) (fun h => ((hX h).bel hb (fun _ h => h)).put (by decide) _))
     · exact fun Lk ak ww hL hdd haa hF hK hV hX Nk Qk hN => wnt rfl (wp_move rfl (ev (hV 4 _ rfl (hdd 4 rfl))) (hN _ _ hK rfl (fun h => ((hX h).bel (Below.refl _ _) (fun _ h => h)).put (by decide) _)))
     · exact fun Lk ak ww hL hdd haa hF hK hV hX Nk Qk hN => wnt rfl (wp_extract rfl (ev (hV 5 _ rfl (hdd 5 rfl))) rfl (hN _ _ hK rfl (fun h => ((hX h).bel (Below.refl _ _) (fun _ h => h)).put (by decide) _)))
     · exact fun Lk ak ww hL hdd haa hF hK hV hX Nk Qk hN => wnt rfl (wp_extract rfl (ev (hV 5 _ rfl (hdd 5 rfl))) rfl (hN _ _ hK rfl (fun h => ((hX h).bel (Below.refl _ _) (fun _ h => h)).put (by decide) _)))
     · intro Lk ak ww hL hdd haa hF hK hV hX Nk Qk hN
       have x0 := hX
       refine wnt rfl ?_
       simp [go_sem]
       exact hN _ _ (hK.alloc _) trivial (fun _ => by rw [show upd Lk 8 9 = false from haa 9 rfl]; exact BoxX.new (s := 16) (hF.lt (by rw [hz]; decide)) hK.size [.int .i64 0, .int .i64 0, .int .i64 0])
     · intro Lk ak ww hL hdd haa hF hK hV hX Nk Qk hN
       have x0 := hX
       refine wnt rfl ?_
       obtain ⟨g, eg, hg, y, _⟩ := x0 (hdd 8 rfl)
       have HT := y hL
       simp [go_sem, (show ak.tmps[42]?.getD undef = _ from hV 6 _ rfl (hdd 6 rfl)), eg, HT.cell, HT.frz]
       exact hN undef _ (hK.store (.inl hg) [.int .i64 (((nxtO r s (pick ((admit r e s).getD span0) wish) v).getD sp0).x), .int .i64 (((nxtO r s (pick ((admit r e s).getD span0) wish) v).getD sp0).y), .int .i64 (((nxtO r s (pick ((admit r e s).getD span0) wish) v).getD sp0).d)] 0) trivial (fun _ => BoxX.set eg hg HT (us := [.int .i64 (((nxtO r s (pick ((admit r e s).getD span0) wish) v).getD sp0).x), .int .i64 (((nxtO r s (pick ((admit r e s).getD span0) wish) v).getD sp0).y), .int .i64 (((nxtO r s (pick ((admit r e s).getD span0) wish) v).getD sp0).d)]) rfl rfl)
     · exact fun Lk ak ww hL hdd haa hF hK hV hX Nk Qk hN => wnt rfl (wp_assign rfl (ev (hV 7 _ rfl (hdd 7 rfl))) (hN _ _ hK rfl (fun h => ((hX h).bel (Below.refl _ _) (fun _ h => h)).put (by decide) _)))
     intro L a25 w26 hL hF hK hV hX
     have x0 := hX
     replace hz := hF.size.trans hz
     replace hdf := hF.defers.trans hdf
     replace s10 := hF.g rfl s10
     replace s11 := hF.g rfl s11
     replace s15 := hF.g rfl s15
     have s14 : a25.tmps[14]?.getD undef = .bool ((nxtO r s (pick ((admit r e s).getD span0) wish) v).isSome) := hV 10 _ rfl
     replace b7 := b7.kp hK (by simp)
     replace b8 := b8.kp hK (by simp)
     replace b24 := b24.kp hK (by simp)
     obtain ⟨g27, s16, lg27, -, b27⟩ := x0 (hL 8 (by decide))
     obtain ⟨_, b27, rfl⟩ := b27 (hL 9 (by decide))
     have ug27 := b27.lt
     have zw26 := hK.size
     replace hZ := Nat.le_refl w26.heap.size
     replace hB := hK.below0 hB
     clear hF hK hV hL x0 s5 s7 s9 b3 b5 b6
     refine th_n ?_
     refine wp_seq ?_
     refine wp_seq ?_
     refine wp_regJ (by kernel_rfl) [44, 45] [some (.bool ((nxtO r s (pick ((admit r e s).getD span0) wish) v).isSome)), some (.bool (!((nxtO r s (pick ((admit r e s).getD span0) wish) v).isSome)))] ((List.range 2).map List.range) [44, 45] [0, 1] [] (fun _ _ _ => True) (by kernel_rfl) (by rw [hz]; decide) ?_ (ec ?_ (ec ?_ .nil)) ?_
     · exact fun _ _ => trivial
     · exact fun Lk ak ww hL hdd haa hF hK hV hX Nk Qk hN => wnt rfl (wp_move rfl (ev (hF.g rfl s14)) (hN _ _ hK rfl trivial))
     · exact fun Lk ak ww hL hdd haa hF hK hV hX Nk Qk hN => wnt rfl (wp_not rfl (ev (hV 0 _ rfl (hdd 0 rfl))) (hN _ _ hK rfl trivial))
     intro L a28 w29 hL hF hK hV hX
     replace hz := hF.size.trans hz
     replace hdf := hF.defers.trans hdf
     replace s10 := hF.g rfl s10
     replace s11 := hF.g rfl s11
     replace s15 := hF.g rfl s15
     replace s16 := hF.g rfl s16
     have s45 : a28.tmps[45]?.getD undef = .bool (!((nxtO r s (pick ((admit r e s).getD span0) wish) v).isSome)) := hV 1 _ rfl
     replace b7 := b7.kp hK (by simp)
     replace b8 := b8.kp hK (by simp)
     replace b24 := b24.kp hK (by simp)
     replace b27 := b27.kp hK (by simp)
     replace hZ := Nat.le_trans hZ hK.size
     replace hB := hK.below0 hB
     clear hF hK hV hL hX s14
     refine th_n ?_
     rcases Bool.eq_false_or_eq_true (!((nxtO r s (pick ((admit r e s).getD span0) wish) v).isSome)) with q30 | q30
     · skip
       refine wp_cond_true (ev (vb s45 q30)) ?_
       refine wp_seq ?_
       refine wp_regJ (by kernel_rfl) [46, 47, 0, 0, 12] [some (.agg #[.int .i64 0, .int .i64 0, .int .i64 0]), some (.agg #[.int .i64 0, .int .i64 0]), none, none, some (.bool false)] ((List.range 5).map List.range) [46, 47, 12] [0, 1, 2, 3, 4] [(w.heap.size + 4), (w.heap.size + 5)] (fun L aa ww => PreX ww (w.heap.size + 4) 57 [.int .i64 0, .int .i64 0, .int .i64 0] (L 2) (fun _ vs => vs = [.int .i64 0, .int .i64 0, .int .i64 0]) ∧ PreX ww (w.heap.size + 5) 52 [.int .i64 0, .int .i64 0] (L 3) (fun _ vs => vs = [.int .i64 0, .int .i64 0])) (by kernel_rfl) (by rw [hz]; decide) ?_ (ec ?_ (ec ?_ (ec ?_ (ec ?_ (ec ?_ .nil))))) ?_
       · exact fun _ h => ⟨(⟨fun _ => b7.kp h (by simp), (fun h => by cases h)⟩), (⟨fun _ => b8.kp h (by simp), (fun h => by cases h)⟩)⟩
       · intro Lk ak ww hL hdd haa hF hK hV hX Nk Qk hN; refine wnt rfl ?_
         simp [go_sem]
         exact (hN _ _ hK rfl ⟨(hX.1.bel (Below.refl _ _) (fun _ h => h)), (hX.2.bel (Below.refl _ _) (fun _ h => h))⟩)
       · intro Lk ak ww hL hdd haa hF hK hV hX Nk Qk hN; refine wnt rfl ?_
         simp [go_sem]
         exact (hN _ _ hK rfl ⟨(hX.1.bel (Below.refl _ _) (fun _ h => h)), (hX.2.bel (Below.refl _ _) (fun _ h => h))⟩)
       · intro Lk ak ww hL hdd haa hF hK hV hX Nk Qk hN
         obtain ⟨x0, x1⟩ := hX
         refine wnt rfl ?_
         have HT := x0.1 hL
         simp [go_sem, (show ak.tmps[46]?.getD undef = _ from hV 0 _ rfl (hdd 0 rfl)), hF.g rfl s10, HT.cell, HT.frz]
         exact hN undef _ (hK.store (.inr (by simp)) [.int .i64 0, .int .i64 0, .int .i64 0] 0) trivial ⟨(PreX.set HT (us := [.int .i64 0, .int .i64 0, .int .i64 0]) rfl rfl), (x1.oth (by omega) [.int .i64 0, .int .i64 0, .int .i64 0] 0 (fun _ h => h))⟩
       · intro Lk ak ww hL hdd haa hF hK hV hX Nk Qk hN
         obtain ⟨x0, x1⟩ := hX
         refine wnt rfl ?_
         have HT := x1.1 hL
         simp [go_sem, (show ak.tmps[47]?.getD undef = _ from hV 1 _ rfl (hdd 1 rfl)), hF.g rfl s11, HT.cell, HT.frz]
         exact hN undef _ (hK.store (.inr (by simp)) [.int .i64 0, .int .i64 0] 0) trivial ⟨(x0.oth (by omega) [.int .i64 0, .int .i64 0] 0 (fun _ h => h)), (PreX.set HT (us := [.int .i64 0, .int .i64 0]) rfl rfl)⟩
       · exact fun Lk ak ww hL hdd haa hF hK hV hX Nk Qk hN => wnt rfl (wp_assign rfl rfl (hN _ _ hK rfl ⟨(hX.1.bel (Below.refl _ _) (fun _ h => h)), (hX.2.bel (Below.refl _ _) (fun _ h => h))⟩))
       intro L a31 w32 hL hF hK hV hX
       obtain ⟨x0, x1⟩ := hX
       replace hz := hF.size.trans hz
       replace hdf := hF.defers.trans hdf
       replace s10 := hF.g rfl s10
       replace s11 := hF.g rfl s11
       have s12 : a31.tmps[12]?.getD undef = .bool false := hV 4 _ rfl
       clear b7
       obtain ⟨_, b7, rfl⟩ := x0.2 (hL 2 (by decide))
       clear b8
       obtain ⟨_, b8, rfl⟩ := x1.2 (hL 3 (by decide))
       replace hZ := Nat.le_trans hZ hK.size
       replace hB := hK.below hB hB.size (by simp <;> omega)
       clear hF hK hV hL x0 x1 s15 s16 s45 b24 b27
       refine th_n ?_
       refine wp_ret ?_
       refine th_r ?_
       refine bodyPost_ret (v := .tuple #[.agg #[.int .i64 0, .int .i64 0, .int .i64 0], .agg #[.int .i64 0, .int .i64 0], .bool false]) (by simp [results, Tryz.results113, go_sem, s10, b7.cell, s11, b8.cell, s12]) hdf ?_
       exact ⟨by rw [admS_yes (not_f q11), stepG_no2 (not_f q19) (not_t q30)]; rfl, hB⟩
     · skip
       refine wp_cond_false (ev (vb s45 q30)) ?_
       refine wp_skip ?_
       refine th_n ?_
       refine wp_seq ?_
       refine wp_regJ (by kernel_rfl) [48, 49, 0, 0, 12] [some (spotV ((nxtO r s (pick ((admit r e s).getD span0) wish) v).getD sp0)), some (ratioV (pick ((admit r e s).getD span0) wish)), none, none, some (.bool true)] ([[], [], [0], [0, 1, 2], [0, 1, 2, 3]]) [48, 49, 12] [0, 1, 2, 3, 4] [(w.heap.size + 4), (w.heap.size + 5)] (fun L aa ww => PreX ww (w.heap.size + 4) 57 [.int .i64 0, .int .i64 0, .int .i64 0] (L 2) (fun _ vs => vs = [.int .i64 (((nxtO r s (pick ((admit r e s).getD span0) wish) v).getD sp0).x), .int .i64 (((nxtO r s (pick ((admit r e s).getD span0) wish) v).getD sp0).y), .int .i64 (((nxtO r s (pick ((admit r e s).getD span0) wish) v).getD sp0).d)]) ∧ PreX ww (w.heap.size + 5) 52 [.int .i64 0, .int .i64 0] (L 3) (fun _ vs => vs = [.int .i64 ((pick ((admit r e s).getD span0) wish).n), .int .i64 ((pick ((admit r e s).getD span0) wish).d)])) (by kernel_rfl) (by rw [hz]; decide) ?_ (ec ?_ (ec ?_ (ec ?_ (ec ?_ (ec ?_ .nil))))) ?_
       · exact fun _ h => ⟨(⟨fun _ => b7.kp h (by simp), (fun h => by cases h)⟩), (⟨fun _ => b8.kp h (by simp), (fun h => by cases h)⟩)⟩
       · intro Lk ak ww hL hdd haa hF hK hV hX Nk Qk hN; refine wnt rfl ?_
         simp [go_sem, hF.g rfl s16, (b27.kp hK (by simp <;> omega)).cell]
         exact (hN _ _ hK rfl ⟨(hX.1.bel (Below.refl _ _) (fun _ h => h)), (hX.2.bel (Below.refl _ _) (fun _ h => h))⟩)
       · intro Lk ak ww hL hdd haa hF hK hV hX Nk Qk hN; refine wnt rfl ?_
         simp [go_sem, hF.g rfl s15, (b24.kp hK (by simp <;> omega)).cell]
         exact (hN _ _ hK rfl ⟨(hX.1.bel (Below.refl _ _) (fun _ h => h)), (hX.2.bel (Below.refl _ _) (fun _ h => h))⟩)
       · intro Lk ak ww hL hdd haa hF hK hV hX Nk Qk hN
         obtain ⟨x0, x1⟩ := hX
         refine wnt rfl ?_
         have HT := x0.1 hL
         simp [go_sem, (show ak.tmps[48]?.getD undef = _ from hV 0 _ rfl (hdd 0 rfl)), hF.g rfl s10, HT.cell, HT.frz]
         exact hN undef _ (hK.store (.inr (by simp)) [.int .i64 (((nxtO r s (pick ((admit r e s).getD span0) wish) v).getD sp0).x), .int .i64 (((nxtO r s (pick ((admit r e s).getD span0) wish) v).getD sp0).y), .int .i64 (((nxtO r s (pick ((admit r e s).getD span0) wish) v).getD sp0).d)] 0) trivial ⟨(PreX.set HT (us := [.int .i64 (((nxtO r s (pick ((admit r e s).getD span0) wish) v).getD sp0).x), .int .i64 (((nxtO r s (pick ((admit r e s).getD span0) wish) v).getD sp0).y), .int .i64 (((nxtO r s (pick ((admit r e s).getD span0) wish) v).getD sp0).d)]) rfl rfl), (x1.oth (by omega) [.int .i64 (((nxtO r s (pick ((admit r e s).getD span0) wish) v).getD sp0).x), .int .i64 (((nxtO r s (pick ((admit r e s).getD span0) wish) v).getD sp0).y), .int .i64 (((nxtO r s (pick ((admit r e s).getD span0) wish) v).getD sp0).d)] 0 (fun _ h => h))⟩
       · intro Lk ak ww hL hdd haa hF hK hV hX Nk Qk hN
         obtain ⟨x0, x1⟩ := hX
         refine wnt rfl ?_
         have HT := x1.1 hL
         simp [go_sem, (show ak.tmps[49]?.getD undef = _ from hV 1 _ rfl (hdd 1 rfl)), hF.g rfl s11, HT.cell, HT.frz]
         exact hN undef _ (hK.store (.inr (by simp)) [.int .i64 ((pick ((admit r e s).getD span0) wish).n), .int .i64 ((pick ((admit r e s).getD span0) wish).d)] 0) trivial ⟨(x0.oth (by omega) [.int .i64 ((pick ((admit r e s).getD span0) wish).n), .int .i64 ((pick ((admit r e s).getD span0) wish).d)] 0 (fun _ h => h)), (PreX.set HT (us := [.int .i64 ((pick ((admit r e s).getD span0) wish).n), .int .i64 ((pick ((admit r e s).getD span0) wish).d)]) rfl rfl)⟩
       · exact fun Lk ak ww hL hdd haa hF hK hV hX Nk Qk hN => wnt rfl (wp_assign rfl rfl (hN _ _ hK rfl ⟨(hX.1.bel (Below.refl _ _) (fun _ h => h)), (hX.2.bel (Below.refl _ _) (fun _ h => h))⟩))
       intro L a33 w34 hL hF hK hV hX
       obtain ⟨x0, x1⟩ := hX
       replace hz := hF.size.trans hz
       replace hdf := hF.defers.trans hdf
       replace s10 := hF.g rfl s10
       replace s11 := hF.g rfl s11
       have s12 : a33.tmps[12]?.getD undef = .bool true := hV 4 _ rfl
       clear b7
       obtain ⟨_, b7, rfl⟩ := x0.2 (hL 2 (by decide))
       clear b8
       obtain ⟨_, b8, rfl⟩ := x1.2 (hL 3 (by decide))
       replace hZ := Nat.le_trans hZ hK.size
       replace hB := hK.below hB hB.size (by simp <;> omega)
       clear hF hK hV hL x0 x1 s15 s16 s45 b24 b27
       refine th_n ?_
       refine wp_ret ?_
       refine bodyPost_ret (v := .tuple #[spotV ((nxtO r s (pick ((admit r e s).getD span0) wish) v).getD sp0), ratioV (pick ((admit r e s).getD span0) wish), .bool true]) (by simp [results, Tryz.results113, go_sem, s10, b7.cell, s11, b8.cell, s12]) hdf ?_
       exact ⟨by rw [admS_yes (not_f q11), stepG_yes (not_f q19) (not_f q30)]; rfl, hB⟩
set_option maxRecDepth 100000 in
set_option maxHeartbeats 3000000 in
theorem iStep_c (r : Room) (p : List Half) (s : Spot) (wish : Int) (v : Spot) (ra : RoomA) (b : SlA) (w : World) (hn : roomLen r ≤ 1048576) (hin : RoomIn r) (hs : RoomSl w r ra) (hnl : RoomNil ra) (hlp : p.length ≤ 1048576) (hpi : ∀ h ∈ p, h.In) (hsp : Sl 3 halfC w b.A p) (hnb : b.A = none → b.c = 0) (hsi : s.In) (hvi : v.In) :
    Calls Tryz.prog 49 #[roomV r ra, .agg #[.slice b.A p.length b.c], spotV s, .int .i64 wish, spotV v] w fun x w' => x = .returned (optStepV (stepL r p s wish v)) ∧ Below w.heap.size w w' := by
 refine calls_v Tryz.func49 rfl (n := 34) Tryz.ntmps49 (by simp) ?_
 intro a0 hz hdf ha
 have s0 : a0.tmps[0]?.getD undef = roomV r ra := ha 0 _ rfl
 have s1 : a0.tmps[1]?.getD undef = .agg #[.slice b.A p.length b.c] := ha 1 _ rfl
 have s2 : a0.tmps[2]?.getD undef = spotV s := ha 2 _ rfl
 have s3 : a0.tmps[3]?.getD undef = .int .i64 wish := ha 3 _ rfl
 have s4 : a0.tmps[4]?.getD undef = spotV v := ha 4 _ rfl
 clear ha
 have hB := Below.refl w.heap.size w
 have hZ := Nat.le_refl w.heap.size
 refine wp_seq ?_
 refine wp_entry [5, 6, 7, 9, 10, 11, 12] [.pointer (some ⟨w.heap.size, 0, none⟩), .pointer (some ⟨(w.heap.size + 1), 0, none⟩), .pointer (some ⟨(w.heap.size + 2), 0, none⟩), .pointer (some ⟨(w.heap.size + 3), 0, none⟩), .pointer (some ⟨(w.heap.size + 4), 0, none⟩), .pointer (some ⟨(w.heap.size + 5), 0, none⟩), .bool false] [some (.cells (roomC r ra).toArray 39), some (.cells [.slice b.A p.length b.c].toArray 37), some (.cells [.int .i64 s.x, .int .i64 s.y, .int .i64 s.d].toArray 57), some (.cells [.int .i64 v.x, .int .i64 v.y, .int .i64 v.d].toArray 57), some (.cells [.int .i64 0, .int .i64 0, .int .i64 0].toArray 57), some (.cells [.int .i64 0, .int .i64 0].toArray 52), none] [0, 1, 2, 3, 4, 5, 6] [5, 6, 7, 9, 10, 11, 12] [0, 1, 2, 3, 4, 5, 6] (by kernel_rfl) (by rw [hz]; decide) (ec ?_ (ec ?_ (ec ?_ (ec ?_ (ec ?_ (ec ?_ (ec ?_ .nil))))))) ?_
 · intro a w' hF hs N Q hN; simp [go_sem, hF.g rfl s0]; rw [hs]; exact hN
 · intro a w' hF hs N Q hN; simp [go_sem, hF.g rfl s1]; rw [hs]; exact hN
 · intro a w' hF hs N Q hN; simp [go_sem, hF.g rfl s2]; rw [hs]; exact hN
 · intro a w' hF hs N Q hN; simp [go_sem, hF.g rfl s4]; rw [hs]; exact hN
 · intro a w' hF hs N Q hN; simp [go_sem]; rw [hs]; exact hN
 · intro a w' hF hs N Q hN; simp [go_sem]; rw [hs]; exact hN
 · intro a w' hF hs N Q hN; simp [go_sem]; exact hN
 intro a1 w2 hF hV hb hO
 replace hz := hF.size.trans hz
 replace hdf := hF.defers.trans hdf
 replace s3 := hF.g rfl s3
 have s5 : a1.tmps[5]?.getD undef = .pointer (some ⟨w.heap.size, 0, none⟩) := hV 0 (by decide)
 have s6 : a1.tmps[6]?.getD undef = .pointer (some ⟨(w.heap.size + 1), 0, none⟩) := hV 1 (by decide)
 have s7 : a1.tmps[7]?.getD undef = .pointer (some ⟨(w.heap.size + 2), 0, none⟩) := hV 2 (by decide)
 have s9 : a1.tmps[9]?.getD undef = .pointer (some ⟨(w.heap.size + 3), 0, none⟩) := hV 3 (by decide)
 have s10 : a1.tmps[10]?.getD undef = .pointer (some ⟨(w.heap.size + 4), 0, none⟩) := hV 4 (by decide)
 have s11 : a1.tmps[11]?.getD undef = .pointer (some ⟨(w.heap.size + 5), 0, none⟩) := hV 5 (by decide)
 have b3 : HasT w2 w.heap.size 39 (roomC r ra) := hO 0 _ rfl
 have b4 : HasT w2 (w.heap.size + 1) 37 [.slice b.A p.length b.c] := hO 1 _ rfl
 have b5 : HasT w2 (w.heap.size + 2) 57 [.int .i64 s.x, .int .i64 s.y, .int .i64 s.d] := hO 2 _ rfl
 have b6 : HasT w2 (w.heap.size + 3) 57 [.int .i64 v.x, .int .i64 v.y, .int .i64 v.d] := hO 3 _ rfl
 have b7 : HasT w2 (w.heap.size + 4) 57 [.int .i64 0, .int .i64 0, .int .i64 0] := hO 4 _ rfl
 have b8 : HasT w2 (w.heap.size + 5) 52 [.int .i64 0, .int .i64 0] := hO 5 _ rfl
 have hG := b8.lt
 replace hB := below_tr hB hb
 have zw2 := Nat.le_trans hZ hb.size
 replace hZ := Nat.le_refl w2.heap.size
 clear hF hV hb hO s0 s1 s2 s4
 refine th_n ?_
 refine wp_seq ?_
 have hXb : ∀ (L : Nat → Bool) (aa : Act) (ww w' : World) (k : Option Nat) (v : Value), (∀ s ∈ [13, 15, 18, 19], k ≠ some s) → Below ww.heap.size ww w' → (L 2 = true → (fun ww v => ∃ A1 c1 R1, v = .tuple #[.agg #[.slice A1 R1.length c1], .bool (robOk r p)] ∧ (robOk r p = true → R1 = rpR r p) ∧ R1.length ≤ 40 ∧ New 111 3 halfC ww w2.heap.size (.slice A1 R1.length c1) R1) ww (aa.tmps[18]?.getD undef)) ∧ (L 3 = true → (fun ww v => ∃ A1 c1 R1, v = .tuple #[.agg #[.slice A1 R1.length c1], .bool (robOk r p)] ∧ (robOk r p = true → R1 = rpR r p) ∧ R1.length ≤ 40 ∧ New 111 3 halfC ww w2.heap.size (.slice A1 R1.length c1) R1) ww (aa.tmps[15]?.getD undef)) ∧ (L 4 = true → (fun ww v => ∃ A1 c1 R1, v = .agg #[.slice A1 R1.length c1] ∧ (robOk r p = true → R1 = rpR r p) ∧ R1.length ≤ 40 ∧ New 111 3 halfC ww w2.heap.size (.slice A1 R1.length c1) R1) ww (aa.tmps[19]?.getD undef)) ∧ (L 6 = true → BoxX w2 aa ww 13 37 [.slice none 0 0] (L 7) (fun ww vs => ∃ A1 c1 R1, vs = [.slice A1 R1.length c1] ∧ (robOk r p = true → R1 = rpR r p) ∧ R1.length ≤ 40 ∧ New 111 3 halfC ww w2.heap.size (.slice A1 R1.length c1) R1)) → (L 2 = true → (fun ww v => ∃ A1 c1 R1, v = .tuple #[.agg #[.slice A1 R1.length c1], .bool (robOk r p)] ∧ (robOk r p = true → R1 = rpR r p) ∧ R1.length ≤ 40 ∧ New 111 3 halfC ww w2.heap.size (.slice A1 R1.length c1) R1) w' ((aa.put k v).tmps[18]?.getD undef)) ∧ (L 3 = true → (fun ww v => ∃ A1 c1 R1, v = .tuple #[.agg #[.slice A1 R1.length c1], .bool (robOk r p)] ∧ (robOk r p = true → R1 = rpR r p) ∧ R1.length ≤ 40 ∧ New 111 3 halfC ww w2.heap.size (.slice A1 R1.length c1) R1) w' ((aa.put k v).tmps[15]?.getD undef)) ∧ (L 4 = true → (fun ww v => ∃ A1 c1 R1, v = .agg #[.slice A1 R1.length c1] ∧ (robOk r p = true → R1 = rpR r p) ∧ R1.length ≤ 40 ∧ New 111 3 halfC ww w2.heap.size (.slice A1 R1.length c1) R1) w' ((aa.put k v).tmps[19]?.getD undef)) ∧ (L 6 = true → BoxX w2 (aa.put k v) w' 13 37 [.slice none 0 0] (L 7) (fun ww vs => ∃ A1 c1 R1, vs = [.slice A1 R1.length c1] ∧ (robOk r p = true → R1 = rpR r p) ∧ R1.length ≤ 40 ∧ New 111 3 halfC ww w2.heap.size (.slice A1 R1.length c1) R1)) := by
  intro L aa ww w' k v hk hb hX
  obtain ⟨x0, x1, x2, x3⟩ := hX
  exact ⟨(fun h => by rw [put_ne' (hk 18 (by simp))]; obtain ⟨A1', c1', R1', e, f1'⟩ := x0 h; exact ⟨A1', c1', R1', e, And.intro f1'.1 (And.intro f1'.2.1 (f1'.2.2.below hb (Nat.le_refl _)))⟩), (fun h => by rw [put_ne' (hk 15 (by simp))]; obtain ⟨A1', c1', R1', e, f1'⟩ := x1 h; exact ⟨A1', c1', R1', e, And.intro f1'.1 (And.intro f1'.2.1 (f1'.2.2.below hb (Nat.le_refl _)))⟩), (fun h => by rw [put_ne' (hk 19 (by simp))]; obtain ⟨A1', c1', R1', e, f1'⟩ := x2 h; exact ⟨A1', c1', R1', e, And.intro f1'.1 (And.intro f1'.2.1 (f1'.2.2.below hb (Nat.le_refl _)))⟩), (fun h => ((x3 h).bel hb (fun _ ⟨A1', c1', R1', e, f1'⟩ => ⟨A1', c1', R1', e, And.intro f1'.1 (And.intro f1'.2.1 (f1'.2.2.below hb (Nat.le_refl _)))⟩)).put (hk 13 (by simp)) _)⟩
 refine wp_regJ (by kernel_rfl) [16, 17, 18, 15, 19, 20, 13, 0, 14] [some (roomV r ra), some (.agg #[.slice b.A p.length b.c]), none, none, none, some (.bool (robOk r p)), none, none, some (.bool (robOk r p))] ((List.range 9).map List.range) [16, 17, 18, 15, 19, 20, 13, 14] [0, 1, 2, 3, 4, 5, 6, 7, 8] [] (fun L aa ww => (L 2 = true → (fun ww v => ∃ A1 c1 R1, v = .tuple #[.agg #[.slice A1 R1.length c1], .bool (robOk r p)] ∧ (robOk r p = true → R1 = rpR r p) ∧ R1.length ≤ 40 ∧ New 111 3 halfC ww w2.heap.size (.slice A1 R1.length c1) R1) ww (aa.tmps[18]?.getD undef)) ∧ (L 3 = true → (fun ww v => ∃ A1 c1 R1, v = .tuple #[.agg #[.slice A1 R1.length c1], .bool (robOk r p)] ∧ (robOk r p = true → R1 = rpR r p) ∧ R1.length ≤ 40 ∧ New 111 3 halfC ww w2.heap.size (.slice A1 R1.length c1) R1) ww (aa.tmps[15]?.getD undef)) ∧ (L 4 = true → (fun ww v => ∃ A1 c1 R1, v = .agg #[.slice A1 R1.length c1] ∧ (robOk r p = true → R1 = rpR r p) ∧ R1.length ≤ 40 ∧ New 111 3 halfC ww w2.heap.size (.slice A1 R1.length c1) R1) ww (aa.tmps[19]?.getD undef)) ∧ (L 6 = true → BoxX w2 aa ww 13 37 [.slice none 0 0] (L 7) (fun ww vs => ∃ A1 c1 R1, vs = [.slice A1 R1.length c1] ∧ (robOk r p = true → R1 = rpR r p) ∧ R1.length ≤ 40 ∧ New 111 3 halfC ww w2.heap.size (.slice A1 R1.length c1) R1))) (by kernel_rfl) (by rw [hz]; decide) ?_ (ec ?_ (ec ?_ (ec ?_ (ec ?_ (ec ?_ (ec ?_ (ec ?_ (ec ?_ (ec ?_ .nil))))))))) ?_
 · exact fun _ h => ⟨(fun h => by cases h), (fun h => by cases h), (fun h => by cases h), (fun h => by cases h)⟩
 · intro Lk ak ww hL hdd haa hF hK hV hX Nk Qk hN; refine wnt rfl ?_
   simp [go_sem, hF.g rfl s5, (b3.kp hK (by simp)).cell]
   exact (hN _ _ hK rfl (hXb Lk ak ww _ (some 16) _ (by simp) (Below.refl _ _) hX))
 · intro Lk ak ww hL hdd haa hF hK hV hX Nk Qk hN; refine wnt rfl ?_
   simp [go_sem, hF.g rfl s6, (b4.kp hK (by simp)).cell]
   exact (hN _ _ hK rfl (hXb Lk ak ww _ (some 17) _ (by simp) (Below.refl _ _) hX))
 · intro Lk ak ww hL hdd haa hF hK hV hX Nk Qk hN
   obtain ⟨x0, x1, x2, x3⟩ := hX
   refine wnt rfl ?_
   simp [go_sem, (show ak.tmps[16]?.getD undef = _ from hV 0 _ rfl (hdd 0 rfl)), (show ak.tmps[17]?.getD undef = _ from hV 1 _ rfl (hdd 1 rfl))]
   have hBi := hK.below0 hB
   refine (iRobustOf_c r p ra b ww hn hin (hs.below hBi) hnl hlp hpi (hsp.below hBi) hnb).mono ?_
   rintro x wx ⟨_, R1, rfl, f8, f9, ⟨A1, c1, rfl, f0⟩, hb⟩
   have f1 : (robOk r p = true → R1 = rpR r p) ∧ R1.length ≤ 40 ∧ New 111 3 halfC wx _ (.slice A1 R1.length c1) R1 := ⟨f8, f9, New.mono (show New 111 3 halfC wx ww.heap.size (.slice A1 R1.length c1) R1 from ⟨_, _, rfl, f0⟩) hK.size⟩
   exact (hN _ _ (hK.call hb) trivial ⟨(fun _ => by rw [put_get_self (hF.lt (by rw [hz]; decide))]; exact ⟨A1, c1, R1, rfl, f1⟩), (fun h => by rw [put_ne' (by decide)]; obtain ⟨A1', c1', R1', e, f1'⟩ := x1 h; exact ⟨A1', c1', R1', e, And.intro f1'.1 (And.intro f1'.2.1 (f1'.2.2.below hb (Nat.le_refl _)))⟩), (fun h => by rw [put_ne' (by decide)]; obtain ⟨A1', c1', R1', e, f1'⟩ := x2 h; exact ⟨A1', c1', R1', e, And.intro f1'.1 (And.intro f1'.2.1 (f1'.2.2.below hb (Nat.le_refl _)))⟩), (fun h => ((x3 h).bel hb (fun _ ⟨A1', c1', R1', e, f1'⟩ => ⟨A1', c1', R1', e, And.intro f1'.1 (And.intro f1'.2.1 (f1'.2.2.below hb (Nat.le_refl _)))⟩)).put (by decide) _)⟩)
 · intro Lk ak ww hL hdd haa hF hK hV hX Nk Qk hN
   obtain ⟨x0, x1, x2, x3⟩ := hX
   refine wnt rfl ?_
   obtain ⟨A1, c1, R1, ee2, f1⟩ := x0 (hdd 2 rfl)
   exact wp_move rfl (ev ee2) (hN _ _ hK trivial ⟨(fun h => by rw [put_ne' (by decide)]; obtain ⟨A1', c1', R1', e, f1'⟩ := x0 h; exact ⟨A1', c1', R1', e, And.intro f1'.1 (And.intro f1'.2.1 (f1'.2.2.below (Below.refl _ _) (Nat.le_refl _)))⟩), (fun _ => by rw [put_get_self (hF.lt (by rw [hz]; decide))]; exact ⟨A1, c1, R1, rfl, f1⟩), (fun h => by rw [put_ne' (by decide)]; obtain ⟨A1', c1', R1', e, f1'⟩ := x2 h; exact ⟨A1', c1', R1', e, And.intro f1'.1 (And.intro f1'.2.1 (f1'.2.2.below (Below.refl _ _) (Nat.le_refl _)))⟩), (fun h => ((x3 h).bel (Below.refl _ _) (fun _ ⟨A1', c1', R1', e, f1'⟩ => ⟨A1', c1', R1', e, And.intro f1'.1 (And.intro f1'.2.1 (f1'.2.2.below (Below.refl _ _) (Nat.le_refl _)))⟩)).put (by decide) _)⟩)
 · intro Lk ak ww hL hdd haa hF hK hV hX Nk Qk hN
   obtain ⟨x0, x1, x2, x3⟩ := hX
   refine wnt rfl ?_
   obtain ⟨A1, c1, R1, ee3, f1⟩ := x1 (hdd 3 rfl)
   exact wp_extract rfl (ev ee3) rfl (hN _ _ hK trivial ⟨(fun h => by rw [put_ne' (by decide)]; obtain ⟨A1', c1', R1', e, f1'⟩ := x0 h; exact ⟨A1', c1', R1', e, And.intro f1'.1 (And.intro f1'.2.1 (f1'.2.2.below (Below.refl _ _) (Nat.le_refl _)))⟩), (fun h => by rw [put_ne' (by decide)]; obtain ⟨A1', c1', R1', e, f1'⟩ := x1 h; exact ⟨A1', c1', R1', e, And.intro f1'.1 (And.intro f1'.2.1 (f1'.2.2.below (Below.refl _ _) (Nat.le_refl _)))⟩), (fun _ => by rw [put_get_self (hF.lt (by rw [hz]; decide))]; exact ⟨A1, c1, R1, rfl, f1⟩), (fun h => ((x3 h).bel (Below.refl _ _) (fun _ ⟨A1', c1', R1', e, f1'⟩ => ⟨A1', c1', R1', e, And.intro f1'.1 (And.intro f1'.2.1 (f1'.2.2.below (Below.refl _ _) (Nat.le_refl _)))⟩)).put (by decide) _)⟩)
 · intro Lk ak ww hL hdd haa hF hK hV hX Nk Qk hN
   obtain ⟨x0, x1, x2, x3⟩ := hX
   refine wnt rfl ?_
   obtain ⟨A1, c1, R1, ee3, f1⟩ := x1 (hdd 3 rfl)
   exact wp_extract rfl (ev ee3) rfl (hN _ _ hK rfl (hXb Lk ak ww _ (some 20) _ (by simp) (Below.refl _ _) ⟨x0, x1, x2, x3⟩))
 · intro Lk ak ww hL hdd haa hF hK hV hX Nk Qk hN
   obtain ⟨x0, x1, x2, x3⟩ := hX
   refine wnt rfl ?_
   simp [go_sem]
   exact hN _ _ (hK.alloc _) trivial ⟨(fun h => by rw [put_ne' (by decide)]; obtain ⟨A1', c1', R1', e, f1'⟩ := x0 h; exact ⟨A1', c1', R1', e, And.intro f1'.1 (And.intro f1'.2.1 (f1'.2.2.below (below_al (Below.refl _ _) _) (Nat.le_refl _)))⟩), (fun h => by rw [put_ne' (by decide)]; obtain ⟨A1', c1', R1', e, f1'⟩ := x1 h; exact ⟨A1', c1', R1', e, And.intro f1'.1 (And.intro f1'.2.1 (f1'.2.2.below (below_al (Below.refl _ _) _) (Nat.le_refl _)))⟩), (fun h => by rw [put_ne' (by decide)]; obtain ⟨A1', c1', R1', e, f1'⟩ := x2 h; exact ⟨A1', c1', R1', e, And.intro f1'.1 (And.intro f1'.2.1 (f1'.2.2.below (below_al (Below.refl _ _) _) (Nat.le_refl _)))⟩), (fun _ => by rw [show upd Lk 6 7 = false from haa 7 rfl]; exact BoxX.new (s := 13) (hF.lt (by rw [hz]; decide)) hK.size [.slice none 0 0])⟩
 · intro Lk ak ww hL hdd haa hF hK hV hX Nk Qk hN
   obtain ⟨x0, x1, x2, x3⟩ := hX
   refine wnt rfl ?_
   obtain ⟨A1, c1, R1, ee4, f1⟩ := x2 (hdd 4 rfl)
   obtain ⟨g, eg, hg, y, _⟩ := x3 (hdd 6 rfl)
   have HT := y hL
   simp [go_sem, ee4, eg, HT.cell, HT.frz]
   have f1 := And.intro f1.1 (And.intro f1.2.1 (f1.2.2.otherC (f1.2.2.typ HT (by decide)) [.slice A1 R1.length c1] 0))
   exact hN undef _ (hK.store (.inl hg) [.slice A1 R1.length c1] 0) trivial ⟨(fun h => by obtain ⟨A1', c1', R1', e, f1'⟩ := x0 h; exact ⟨A1', c1', R1', e, And.intro f1'.1 (And.intro f1'.2.1 (f1'.2.2.otherC (f1'.2.2.typ HT (by decide)) [.slice A1 R1.length c1] 0))⟩), (fun h => by obtain ⟨A1', c1', R1', e, f1'⟩ := x1 h; exact ⟨A1', c1', R1', e, And.intro f1'.1 (And.intro f1'.2.1 (f1'.2.2.otherC (f1'.2.2.typ HT (by decide)) [.slice A1 R1.length c1] 0))⟩), (fun h => by obtain ⟨A1', c1', R1', e, f1'⟩ := x2 h; exact ⟨A1', c1', R1', e, And.intro f1'.1 (And.intro f1'.2.1 (f1'.2.2.otherC (f1'.2.2.typ HT (by decide)) [.slice A1 R1.length c1] 0))⟩), (fun _ => BoxX.set eg hg HT (us := [.slice A1 R1.length c1]) rfl ⟨A1, c1, R1, rfl, f1⟩)⟩
 · exact fun Lk ak ww hL hdd haa hF hK hV hX Nk Qk hN => wnt rfl (wp_assign rfl (ev (hV 5 _ rfl (hdd 5 rfl))) (hN _ _ hK rfl (hXb Lk ak ww _ (some 14) _ (by simp) (Below.refl _ _) hX)))
 intro L a9 w10 hL hF hK hV hX
 obtain ⟨x0, x1, x2, x3⟩ := hX
 replace hz := hF.size.trans hz
 replace hdf := hF.defers.trans hdf
 replace s3 := hF.g rfl s3
 replace s5 := hF.g rfl s5
 replace s7 := hF.g rfl s7
 replace s9 := hF.g rfl s9
 replace s10 := hF.g rfl s10
 replace s11 := hF.g rfl s11
 have s14 : a9.tmps[14]?.getD undef = .bool (robOk r p) := hV 8 _ rfl
 replace b3 := b3.kp hK (by simp)
 replace b5 := b5.kp hK (by simp)
 replace b6 := b6.kp hK (by simp)
 replace b7 := b7.kp hK (by simp)
 replace b8 := b8.kp hK (by simp)
 obtain ⟨g11, s13, lg11, -, b11⟩ := x3 (hL 6 (by decide))
 obtain ⟨_, b11, A1, c1, R1, rfl, N1⟩ := b11 (hL 7 (by decide))
 obtain ⟨E1r, E1l, N1⟩ := N1
 have i1 : ∀ p, A1 = some p → p.block < w10.heap.size := fun p hp => (N1.blk p hp).2
 have ug11 := b11.lt
 have zw10 := hK.size
 replace hZ := Nat.le_refl w10.heap.size
 replace hB := hK.below0 hB
 clear hF hK hV hL x0 x1 x2 x3 hXb s6 b4
 refine th_n ?_
 refine wp_seq ?_
 refine wp_seq ?_
 refine wp_regJ (by kernel_rfl) [21, 22] [some (.bool (robOk r p)), some (.bool (!(robOk r p)))] ((List.range 2).map List.range) [21, 22] [0, 1] [] (fun _ _ _ => True) (by kernel_rfl) (by rw [hz]; decide) ?_ (ec ?_ (ec ?_ .nil)) ?_
 · exact fun _ _ => trivial
 · exact fun Lk ak ww hL hdd haa hF hK hV hX Nk Qk hN => wnt rfl (wp_move rfl (ev (hF.g rfl s14)) (hN _ _ hK rfl trivial))
 · exact fun Lk ak ww hL hdd haa hF hK hV hX Nk Qk hN => wnt rfl (wp_not rfl (ev (hV 0 _ rfl (hdd 0 rfl))) (hN _ _ hK rfl trivial))
 intro L a12 w13 hL hF hK hV hX
 replace hz := hF.size.trans hz
 replace hdf := hF.defers.trans hdf
 replace s3 := hF.g rfl s3
 replace s5 := hF.g rfl s5
 replace s7 := hF.g rfl s7
 replace s9 := hF.g rfl s9
 replace s10 := hF.g rfl s10
 replace s11 := hF.g rfl s11
 replace s13 := hF.g rfl s13
 have s22 : a12.tmps[22]?.getD undef = .bool (!(robOk r p)) := hV 1 _ rfl
 replace b3 := b3.kp hK (by simp)
 replace b5 := b5.kp hK (by simp)
 replace b6 := b6.kp hK (by simp)
 replace b7 := b7.kp hK (by simp)
 replace b8 := b8.kp hK (by simp)
 replace b11 := b11.kp hK (by simp)
 replace N1 := N1.below hK.toBelow (Nat.le_refl _)
 replace hZ := Nat.le_trans hZ hK.size
 replace hB := hK.below0 hB
 clear hF hK hV hL hX s14
 refine th_n ?_
 rcases Bool.eq_false_or_eq_true (!(robOk r p)) with q14 | q14
 · skip
   refine wp_cond_true (ev (vb s22 q14)) ?_
   refine wp_seq ?_
   refine wp_regJ (by kernel_rfl) [23, 24, 0, 0, 12] [some (.agg #[.int .i64 0, .int .i64 0, .int .i64 0]), some (.agg #[.int .i64 0, .int .i64 0]), none, none, some (.bool false)] ((List.range 5).map List.range) [23, 24, 12] [0, 1, 2, 3, 4] [(w.heap.size + 4), (w.heap.size + 5)] (fun L aa ww => PreX ww (w.heap.size + 4) 57 [.int .i64 0, .int .i64 0, .int .i64 0] (L 2) (fun _ vs => vs = [.int .i64 0, .int .i64 0, .int .i64 0]) ∧ PreX ww (w.heap.size + 5) 52 [.int .i64 0, .int .i64 0] (L 3) (fun _ vs => vs = [.int .i64 0, .int .i64 0])) (by kernel_rfl) (by rw [hz]; decide) ?_ (ec ?_ (ec ?_ (ec ?_ (ec ?_ (ec ?_ .nil))))) ?_
   · exact fun _ h => ⟨(⟨fun _ => b7.kp h (by simp), (fun h => by cases h)⟩), (⟨fun _ => b8.kp h (by simp), (fun h => by cases h)⟩)⟩
   · intro Lk ak ww hL hdd haa hF hK hV hX Nk Qk hN; refine wnt rfl ?_
     simp [go_sem]
     exact (hN _ _ hK rfl ⟨(hX.1.bel (Below.refl _ _) (fun _ h => h)), (hX.2.bel (Below.refl _ _) (fun _ h => h))⟩)
   · intro Lk ak ww hL hdd haa hF hK hV hX Nk Qk hN; refine wnt rfl ?_
     simp [go_sem]
     exact (hN _ _ hK rfl ⟨(hX.1.bel (Below.refl _ _) (fun _ h => h)), (hX.2.bel (Below.refl _ _) (fun _ h => h))⟩)
   · intro Lk ak ww hL hdd haa hF hK hV hX Nk Qk hN
     obtain ⟨x0, x1⟩ := hX
     refine wnt rfl ?_
     have HT := x0.1 hL
     simp [go_sem, (show ak.tmps[23]?.getD undef = _ from hV 0 _ rfl (hdd 0 rfl)), hF.g rfl s10, HT.cell, HT.frz]
     exact hN undef _ (hK.store (.inr (by simp)) [.int .i64 0, .int .i64 0, .int .i64 0] 0) trivial ⟨(PreX.set HT (us := [.int .i64 0, .int .i64 0, .int .i64 0]) rfl rfl), (x1.oth (by omega) [.int .i64 0, .int .i64 0, .int .i64 0] 0 (fun _ h => h))⟩
   · intro Lk ak ww hL hdd haa hF hK hV hX Nk Qk hN
     obtain ⟨x0, x1⟩ := hX
     refine wnt rfl ?_
     have HT := x1.1 hL
     simp [go_sem, (show ak.tmps[24]?.getD undef = _ from hV 1 _ rfl (hdd 1 rfl)), hF.g rfl s11, HT.cell, HT.frz]
     exact hN undef _ (hK.store (.inr (by simp)) [.int .i64 0, .int .i64 0] 0) trivial ⟨(x0.oth (by omega) [.int .i64 0, .int .i64 0] 0 (fun _ h => h)), (PreX.set HT (us := [.int .i64 0, .int .i64 0]) rfl rfl)⟩
   · exact fun Lk ak ww hL hdd haa hF hK hV hX Nk Qk hN => wnt rfl (wp_assign rfl rfl (hN _ _ hK rfl ⟨(hX.1.bel (Below.refl _ _) (fun _ h => h)), (hX.2.bel (Below.refl _ _) (fun _ h => h))⟩))
   intro L a15 w16 hL hF hK hV hX
   obtain ⟨x0, x1⟩ := hX
   replace hz := hF.size.trans hz
   replace hdf := hF.defers.trans hdf
   replace s10 := hF.g rfl s10
   replace s11 := hF.g rfl s11
   have s12 : a15.tmps[12]?.getD undef = .bool false := hV 4 _ rfl
   clear b7
   obtain ⟨_, b7, rfl⟩ := x0.2 (hL 2 (by decide))
   clear b8
   obtain ⟨_, b8, rfl⟩ := x1.2 (hL 3 (by decide))
   replace hZ := Nat.le_trans hZ hK.size
   replace hB := hK.below hB hB.size (by simp <;> omega)
   clear hF hK hV hL x0 x1 s3 s5 s7 s9 s13 s22 b3 b5 b6 b11 N1 i1
   refine th_n ?_
   refine wp_ret ?_
   refine th_r ?_
   refine bodyPost_ret (v := .tuple #[.agg #[.int .i64 0, .int .i64 0, .int .i64 0], .agg #[.int .i64 0, .int .i64 0], .bool false]) (by simp [results, Tryz.results49, go_sem, s10, b7.cell, s11, b8.cell, s12]) hdf ?_
   exact ⟨by rw [stepL_no (not_t q14)]; rfl, hB⟩
 · skip
   refine wp_cond_false (ev (vb s22 q14)) ?_
   refine wp_skip ?_
   refine th_n ?_
   refine wp_seq ?_
   refine wp_regJ (by kernel_rfl) [25, 26, 27, 28, 29, 30, 31, 32, 33, 0, 0, 12] [some (roomV r ra), some (.agg #[.slice A1 R1.length c1]), some (spotV s), some (.int .i64 wish), some (spotV v), some (.tuple #[spotV (((stepG (admS r R1 s) r s wish v).getD step0).1), ratioV (((stepG (admS r R1 s) r s wish v).getD step0).2), .bool ((stepG (admS r R1 s) r s wish v).isSome)]), some (spotV (((stepG (admS r R1 s) r s wish v).getD step0).1)), some (ratioV (((stepG (admS r R1 s) r s wish v).getD step0).2)), some (.bool ((stepG (admS r R1 s) r s wish v).isSome)), none, none, some (.bool ((stepG (admS r R1 s) r s wish v).isSome))] ((List.range 12).map List.range) [25, 26, 27, 28, 29, 30, 31, 32, 33, 12] [0, 1, 2, 3, 4, 5, 6, 7, 8, 9, 10, 11] [(w.heap.size + 4), (w.heap.size + 5)] (fun L aa ww => PreX ww (w.heap.size + 4) 57 [.int .i64 0, .int .i64 0, .int .i64 0] (L 9) (fun _ vs => vs = [.int .i64 (((stepG (admS r R1 s) r s wish v).getD step0).1.x), .int .i64 (((stepG (admS r R1 s) r s wish v).getD step0).1.y), .int .i64 (((stepG (admS r R1 s) r s wish v).getD step0).1.d)]) ∧ PreX ww (w.heap.size + 5) 52 [.int .i64 0, .int .i64 0] (L 10) (fun _ vs => vs = [.int .i64 (((stepG (admS r R1 s) r s wish v).getD step0).2.n), .int .i64 (((stepG (admS r R1 s) r s wish v).getD step0).2.d)])) (by kernel_rfl) (by rw [hz]; decide) ?_ (ec ?_ (ec ?_ (ec ?_ (ec ?_ (ec ?_ (ec ?_ (ec ?_ (ec ?_ (ec ?_ (ec ?_ (ec ?_ (ec ?_ .nil)))))))))))) ?_
   · exact fun _ h => ⟨(⟨fun _ => b7.kp h (by simp), (fun h => by cases h)⟩), (⟨fun _ => b8.kp h (by simp), (fun h => by cases h)⟩)⟩
   · intro Lk ak ww hL hdd haa hF hK hV hX Nk Qk hN; refine wnt rfl ?_
     simp [go_sem, hF.g rfl s5, (b3.kp hK (by simp <;> omega)).cell]
     exact (hN _ _ hK rfl ⟨(hX.1.bel (Below.refl _ _) (fun _ h => h)), (hX.2.bel (Below.refl _ _) (fun _ h => h))⟩)
   · intro Lk ak ww hL hdd haa hF hK hV hX Nk Qk hN; refine wnt rfl ?_
     simp [go_sem, hF.g rfl s13, (b11.kp hK (by simp <;> omega)).cell]
     exact (hN _ _ hK rfl ⟨(hX.1.bel (Below.refl _ _) (fun _ h => h)), (hX.2.bel (Below.refl _ _) (fun _ h => h))⟩)
   · intro Lk ak ww hL hdd haa hF hK hV hX Nk Qk hN; refine wnt rfl ?_
     simp [go_sem, hF.g rfl s7, (b5.kp hK (by simp <;> omega)).cell]
     exact (hN _ _ hK rfl ⟨(hX.1.bel (Below.refl _ _) (fun _ h => h)), (hX.2.bel (Below.refl _ _) (fun _ h => h))⟩)
   · exact fun Lk ak ww hL hdd haa hF hK hV hX Nk Qk hN => wnt rfl (wp_move rfl (ev (hF.g rfl s3)) (hN _ _ hK rfl ⟨(hX.1.bel (Below.refl _ _) (fun _ h => h)), (hX.2.bel (Below.refl _ _) (fun _ h => h))⟩))
   · intro Lk ak ww hL hdd haa hF hK hV hX Nk Qk hN; refine wnt rfl ?_
     simp [go_sem, hF.g rfl s9, (b6.kp hK (by simp <;> omega)).cell]
     exact (hN _ _ hK rfl ⟨(hX.1.bel (Below.refl _ _) (fun _ h => h)), (hX.2.bel (Below.refl _ _) (fun _ h => h))⟩)
   · intro Lk ak ww hL hdd haa hF hK hV hX Nk Qk hN; refine wnt rfl ?_
     simp [go_sem, (show ak.tmps[25]?.getD undef = _ from hV 0 _ rfl (hdd 0 rfl)), (show ak.tmps[26]?.getD undef = _ from hV 1 _ rfl (hdd 1 rfl)), (show ak.tmps[27]?.getD undef = _ from hV 2 _ rfl (hdd 2 rfl)), (show ak.tmps[28]?.getD undef = _ from hV 3 _ rfl (hdd 3 rfl)), (show ak.tmps[29]?.getD undef = _ from hV 4 _ rfl (hdd 4 rfl))]
     have hBi := hK.below hB hB.size (by simp <;> omega)
     refine (iStepIn_c r R1 s wish v ra ⟨A1, c1⟩ ww (robOk_room (not_f q14)) (hs.below hBi) (by rw [E1r (not_f q14)]; exact rpR_ok _ _) ((N1.kp hK i1 (by omega) (by simp <;> omega)).out halfC_len) hsi hvi).mono ?_
     rintro x wx ⟨rfl, hb⟩
     exact (hN _ _ (hK.call hb) rfl ⟨(hX.1.bel hb (fun _ h => h)), (hX.2.bel hb (fun _ h => h))⟩)
   · exact fun Lk ak ww hL hdd haa hF hK hV hX Nk Qk hN => wnt rfl (wp_extract rfl (ev (hV 5 _ rfl (hdd 5 rfl))) rfl (hN _ _ hK rfl ⟨(hX.1.bel (Below.refl _ _) (fun _ h => h)), (hX.2.bel (Below.refl _ _) (fun _ h => h))⟩))
   · exact fun Lk ak ww hL hdd haa hF hK hV hX Nk Qk hN => wnt rfl (wp_extract rfl (ev (hV 5 _ rfl (hdd 5 rfl))) rfl (hN _ _ hK rfl ⟨(hX.1.bel (Below.refl _ _) (fun _ h => h)), (hX.2.bel (Below.refl _ _) (fun _ h => h))⟩))
   · exact fun Lk ak ww hL hdd haa hF hK hV hX Nk Qk hN => wnt rfl (wp_extract rfl (ev (hV 5 _ rfl (hdd 5 rfl))) rfl (hN _ _ hK rfl ⟨(hX.1.bel (Below.refl _ _) (fun _ h => h)), (hX.2.bel (Below.refl _ _) (fun _ h => h))⟩))
   · intro Lk ak ww hL hdd haa hF hK hV hX Nk Qk hN
     obtain ⟨x0, x1⟩ := hX
     refine wnt rfl ?_
     have HT := x0.1 hL
     simp [go_sem, (show ak.tmps[31]?.getD undef = _ from hV 6 _ rfl (hdd 6 rfl)), hF.g rfl s10, HT.cell, HT.frz]
     exact hN undef _ (hK.store (.inr (by simp)) [.int .i64 (((stepG (admS r R1 s) r s wish v).getD step0).1.x), .int .i64 (((stepG (admS r R1 s) r s wish v).getD step0).1.y), .int .i64 (((stepG (admS r R1 s) r s wish v).getD step0).1.d)] 0) trivial ⟨(PreX.set HT (us := [.int .i64 (((stepG (admS r R1 s) r s wish v).getD step0).1.x), .int .i64 (((stepG (admS r R1 s) r s wish v).getD step0).1.y), .int .i64 (((stepG (admS r R1 s) r s wish v).getD step0).1.d)]) rfl rfl), (x1.oth (by omega) [.int .i64 (((stepG (admS r R1 s) r s wish v).getD step0).1.x), .int .i64 (((stepG (admS r R1 s) r s wish v).getD step0).1.y), .int .i64 (((stepG (admS r R1 s) r s wish v).getD step0).1.d)] 0 (fun _ h => h))⟩
   · intro Lk ak ww hL hdd haa hF hK hV hX Nk Qk hN
     obtain ⟨x0, x1⟩ := hX
     refine wnt rfl ?_
     have HT := x1.1 hL
     simp [go_sem, (show ak.tmps[32]?.getD undef = _ from hV 7 _ rfl (hdd 7 rfl)), hF.g rfl s11, HT.cell, HT.frz]
     exact hN undef _ (hK.store (.inr (by simp)) [.int .i64 (((stepG (admS r R1 s) r s wish v).getD step0).2.n), .int .i64 (((stepG (admS r R1 s) r s wish v).getD step0).2.d)] 0) trivial ⟨(x0.oth (by omega) [.int .i64 (((stepG (admS r R1 s) r s wish v).getD step0).2.n), .int .i64 (((stepG (admS r R1 s) r s wish v).getD step0).2.d)] 0 (fun _ h => h)), (PreX.set HT (us := [.int .i64 (((stepG (admS r R1 s) r s wish v).getD step0).2.n), .int .i64 (((stepG (admS r R1 s) r s wish v).getD step0).2.d)]) rfl rfl)⟩
   · exact fun Lk ak ww hL hdd haa hF hK hV hX Nk Qk hN => wnt rfl (wp_assign rfl (ev (hV 8 _ rfl (hdd 8 rfl))) (hN _ _ hK rfl ⟨(hX.1.bel (Below.refl _ _) (fun _ h => h)), (hX.2.bel (Below.refl _ _) (fun _ h => h))⟩))
   intro L a17 w18 hL hF hK hV hX
   obtain ⟨x0, x1⟩ := hX
   replace hz := hF.size.trans hz
   replace hdf := hF.defers.trans hdf
   replace s10 := hF.g rfl s10
   replace s11 := hF.g rfl s11
   have s12 : a17.tmps[12]?.getD undef = .bool ((stepG (admS r R1 s) r s wish v).isSome) := hV 11 _ rfl
   clear b7
   obtain ⟨_, b7, rfl⟩ := x0.2 (hL 9 (by decide))
   clear b8
   obtain ⟨_, b8, rfl⟩ := x1.2 (hL 10 (by decide))
   replace N1 := N1.kp hK i1 (by omega) (by simp <;> omega)
   replace hZ := Nat.le_trans hZ hK.size
   replace hB := hK.below hB hB.size (by simp <;> omega)
   clear hF hK hV hL x0 x1 s3 s5 s7 s9 s13 s22 b3 b5 b6 b11
   refine th_n ?_
   refine wp_ret ?_
   refine bodyPost_ret (v := .tuple #[spotV (((stepG (admS r R1 s) r s wish v).getD step0).1), ratioV (((stepG (admS r R1 s) r s wish v).getD step0).2), .bool ((stepG (admS r R1 s) r s wish v).isSome)]) (by simp [results, Tryz.results49, go_sem, s10, b7.cell, s11, b8.cell, s12]) hdf ?_
   exact ⟨by rw [stepL_yes (not_f q14) E1r]; rfl, hB⟩
set_option maxRecDepth 100000 in
set_option maxHeartbeats 3000000 in
theorem sStep_c (r : Room) (p : List Half) (s : Spot) (wish : Int) (v : Spot) (ra : RoomA) (b : SlA) (w : World) (hn : roomLen r ≤ 1048576) (hin : RoomIn r) (hs : RoomSl w r ra) (hnl : RoomNil ra) (hlp : p.length ≤ 1048576) (hpi : ∀ h ∈ p, h.In) (hsp : Sl 3 halfC w b.A p) (hnb : b.A = none → b.c = 0) (hsi : s.In) (hvi : v.In) :
    Calls Tryz.prog 48 #[roomV r ra, .agg #[.slice b.A p.length b.c], spotV s, .int .i64 wish, spotV v] w fun x w' => x = .returned (optStepV (stepL r p s wish v)) ∧ Below w.heap.size w w' := by
 refine calls_v Tryz.func48 rfl (n := 46) Tryz.ntmps48 (by simp) ?_
 intro a0 hz hdf ha
 have s0 : a0.tmps[0]?.getD undef = roomV r ra := ha 0 _ rfl
 have s1 : a0.tmps[1]?.getD undef = .agg #[.slice b.A p.length b.c] := ha 1 _ rfl
 have s2 : a0.tmps[2]?.getD undef = spotV s := ha 2 _ rfl
 have s3 : a0.tmps[3]?.getD undef = .int .i64 wish := ha 3 _ rfl
 have s4 : a0.tmps[4]?.getD undef = spotV v := ha 4 _ rfl
 clear ha
 have hB := Below.refl w.heap.size w
 have hZ := Nat.le_refl w.heap.size
 refine wp_seq ?_
 refine wp_entry [5, 6, 7, 9, 10, 11, 12] [.pointer (some ⟨w.heap.size, 0, none⟩), .pointer (some ⟨(w.heap.size + 1), 0, none⟩), .pointer (some ⟨(w.heap.size + 2), 0, none⟩), .pointer (some ⟨(w.heap.size + 3), 0, none⟩), .pointer (some ⟨(w.heap.size + 4), 0, none⟩), .pointer (some ⟨(w.heap.size + 5), 0, none⟩), .bool false] [some (.cells (roomC r ra).toArray 39), some (.cells [.slice b.A p.length b.c].toArray 37), some (.cells [.int .i64 s.x, .int .i64 s.y, .int .i64 s.d].toArray 57), some (.cells [.int .i64 v.x, .int .i64 v.y, .int .i64 v.d].toArray 57), some (.cells [.int .i64 0, .int .i64 0, .int .i64 0].toArray 57), some (.cells [.int .i64 0, .int .i64 0].toArray 52), none] [0, 1, 2, 3, 4, 5, 6] [5, 6, 7, 9, 10, 11, 12] [0, 1, 2, 3, 4, 5, 6] (by kernel_rfl) (by rw [hz]; decide) (ec ?_ (ec ?_ (ec ?_ (ec ?_ (ec ?_ (ec ?_ (ec ?_ .nil))))))) ?_
 · intro a w' hF hs N Q hN; simp [go_sem, hF.g rfl s0]; rw [hs]; exact hN
 · intro a w' hF hs N Q hN; simp [go_sem, hF.g rfl s1]; rw [hs]; exact hN
 · intro a w' hF hs N Q hN; simp [go_sem, hF.g rfl s2]; rw [hs]; exact hN
 · intro a w' hF hs N Q hN; simp [go_sem, hF.g rfl s4]; rw [hs]; exact hN
 · intro a w' hF hs N Q hN; simp [go_sem]; rw [hs]; exact hN
 · intro a w' hF hs N Q hN; simp [go_sem]; rw [hs]; exact hN
 · intro a w' hF hs N Q hN; simp [go_sem]; exact hN
 intro a1 w2 hF hV hb hO
 replace hz := hF.size.trans hz
 replace hdf := hF.defers.trans hdf
 replace s3 := hF.g rfl s3
 have s5 : a1.tmps[5]?.getD undef = .pointer (some ⟨w.heap.size, 0, none⟩) := hV 0 (by decide)
 have s6 : a1.tmps[6]?.getD undef = .pointer (some ⟨(w.heap.size + 1), 0, none⟩) := hV 1 (by decide)
 have s7 : a1.tmps[7]?.getD undef = .pointer (some ⟨(w.heap.size + 2), 0, none⟩) := hV 2 (by decide)
 have s9 : a1.tmps[9]?.getD undef = .pointer (some ⟨(w.heap.size + 3), 0, none⟩) := hV 3 (by decide)
 have s10 : a1.tmps[10]?.getD undef = .pointer (some ⟨(w.heap.size + 4), 0, none⟩) := hV 4 (by decide)
 have s11 : a1.tmps[11]?.getD undef = .pointer (some ⟨(w.heap.size + 5), 0, none⟩) := hV 5 (by decide)
 have b3 : HasT w2 w.heap.size 39 (roomC r ra) := hO 0 _ rfl
 have b4 : HasT w2 (w.heap.size + 1) 37 [.slice b.A p.length b.c] := hO 1 _ rfl
 have b5 : HasT w2 (w.heap.size + 2) 57 [.int .i64 s.x, .int .i64 s.y, .int .i64 s.d] := hO 2 _ rfl
 have b6 : HasT w2 (w.heap.size + 3) 57 [.int .i64 v.x, .int .i64 v.y, .int .i64 v.d] := hO 3 _ rfl
 have b7 : HasT w2 (w.heap.size + 4) 57 [.int .i64 0, .int .i64 0, .int .i64 0] := hO 4 _ rfl
 have b8 : HasT w2 (w.heap.size + 5) 52 [.int .i64 0, .int .i64 0] := hO 5 _ rfl
 have hG := b8.lt
 replace hB := below_tr hB hb
 have zw2 := Nat.le_trans hZ hb.size
 replace hZ := Nat.le_refl w2.heap.size
 clear hF hV hb hO s0 s1 s2 s4
 refine th_n ?_
 refine wp_seq ?_
 refine wp_regJ (by kernel_rfl) [19, 20, 21, 22, 18, 23, 24, 13, 0, 14] [some (roomV r ra), some (.agg #[.slice b.A p.length b.c]), some (spotV s), some (.tuple #[spanV ((admAt r p s).getD span0), .bool ((admAt r p s).isSome)]), some (.tuple #[spanV ((admAt r p s).getD span0), .bool ((admAt r p s).isSome)]), some (spanV ((admAt r p s).getD span0)), some (.bool ((admAt r p s).isSome)), none, none, some (.bool ((admAt r p s).isSome))] ((List.range 10).map List.range) [19, 20, 21, 22, 18, 23, 24, 13, 14] [0, 1, 2, 3, 4, 5, 6, 7, 8, 9] [] (fun L aa ww => (L 7 = true → BoxX w2 aa ww 13 54 [.int .i64 0, .int .i64 0, .int .i64 0, .int .i64 0] (L 8) (fun _ vs => vs = [.int .i64 (((admAt r p s).getD span0).low.n), .int .i64 (((admAt r p s).getD span0).low.d), .int .i64 (((admAt r p s).getD span0).high.n), .int .i64 (((admAt r p s).getD span0).high.d)]))) (by kernel_rfl) (by rw [hz]; decide) ?_ (ec ?_ (ec ?_ (ec ?_ (ec ?_ (ec ?_ (ec ?_ (ec ?_ (ec ?_ (ec ?_ (ec ?_ .nil)))))))))) ?_
 · exact fun _ h => (fun h => by cases h)
 · intro Lk ak ww hL hdd haa hF hK hV hX Nk Qk hN; refine wnt rfl ?_
   simp [go_sem, hF.g rfl s5, (b3.kp hK (by simp)).cell]
   exact (hN _ _ hK rfl (fun h => ((hX h).bel (Below.refl _ _) (fun _ h => h)).put (by decide) _))
 · intro Lk ak ww hL hdd haa hF hK hV hX Nk Qk hN; refine wnt rfl ?_
   simp [go_sem, hF.g rfl s6, (b4.kp hK (by simp)).cell]
   exact (hN _ _ hK rfl (fun h => ((hX h).bel (Below.refl _ _) (fun _ h => h)).put (by decide) _))
 · intro Lk ak ww hL hdd haa hF hK hV hX Nk Qk hN; refine wnt rfl ?_
   simp [go_sem, hF.g rfl s7, (b5.kp hK (by simp)).cell]
   exact (hN _ _ hK rfl (fun h => ((hX h).bel (Below.refl _ _) (fun _ h => h)).put (by decide) _))
 · intro Lk ak ww hL hdd haa hF hK hV hX Nk Qk hN; refine wnt rfl ?_
   simp [go_sem, (show ak.tmps[19]?.getD undef = _ from hV 0 _ rfl (hdd 0 rfl)), (show ak.tmps[20]?.getD undef = _ from hV 1 _ rfl (hdd 1 rfl)), (show ak.tmps[21]?.getD undef = _ from hV 2 _ rfl (hdd 2 rfl))]
   have hBi := hK.below0 hB
   refine (sAdmAt_c r p s ra b ww hn hin (hs.below hBi) hnl hlp hpi (hsp.below hBi) hnb hsi).mono ?_
   rintro x wx ⟨rfl, hb⟩
   exact (hN _ _ (hK.call hb) (optSpan_eq _) (fun h => ((hX h).bel hb (fun _ h => h)).put (by decide) _))
 · exact fun Lk ak ww hL hdd haa hF hK hV hX Nk Qk hN => wnt rfl (wp_move rfl (ev (hV 3 _ rfl (hdd 3 rfl))) (hN _ _ hK rfl (fun h => ((hX h).bel (Below.refl _ _) (fun _ h => h)).put (by decide) _)))
 · exact fun Lk ak ww hL hdd haa hF hK hV hX Nk Qk hN => wnt rfl (wp_extract rfl (ev (hV 4 _ rfl (hdd 4 rfl))) rfl (hN _ _ hK rfl (fun h => ((hX h).bel (Below.refl _ _) (fun _ h => h)).put (by decide) _)))
 · exact fun Lk ak ww hL hdd haa hF hK hV hX Nk Qk hN => wnt rfl (wp_extract rfl (ev (hV 4 _ rfl (hdd 4 rfl))) rfl (hN _ _ hK rfl (fun h => ((hX h).bel (Below.refl _ _) (fun _ h => h)).put (by decide) _)))
 · intro Lk ak ww hL hdd haa hF hK hV hX Nk Qk hN
   have x0 := hX
   refine wnt rfl ?_
   simp [go_sem]
   exact hN _ _ (hK.alloc _) trivial (fun _ => by rw [show upd Lk 7 8 = false from haa 8 rfl]; exact BoxX.new (s := 13) (hF.lt (by rw [hz]; decide)) hK.size [.int .i64 0, .int .i64 0, .int .i64 0, .int .i64 0])
 · intro Lk ak ww hL hdd haa hF hK hV hX Nk Qk hN
   have x0 := hX
   refine wnt rfl ?_
   obtain ⟨g, eg, hg, y, _⟩ := x0 (hdd 7 rfl)
   have HT := y hL
   simp [go_sem, (show ak.tmps[23]?.getD undef = _ from hV 5 _ rfl (hdd 5 rfl)), eg, HT.cell, HT.frz]
   exact hN undef _ (hK.store (.inl hg) [.int .i64 (((admAt r p s).getD span0).low.n), .int .i64 (((admAt r p s).getD span0).low.d), .int .i64 (((admAt r p s).getD span0).high.n), .int .i64 (((admAt r p s).getD span0).high.d)] 0) trivial (fun _ => BoxX.set eg hg HT (us := [.int .i64 (((admAt r p s).getD span0).low.n), .int .i64 (((admAt r p s).getD span0).low.d), .int .i64 (((admAt r p s).getD span0).high.n), .int .i64 (((admAt r p s).getD span0).high.d)]) rfl rfl)
 · exact fun Lk ak ww hL hdd haa hF hK hV hX Nk Qk hN => wnt rfl (wp_assign rfl (ev (hV 6 _ rfl (hdd 6 rfl))) (hN _ _ hK rfl (fun h => ((hX h).bel (Below.refl _ _) (fun _ h => h)).put (by decide) _)))
 intro L a9 w10 hL hF hK hV hX
 have x0 := hX
 replace hz := hF.size.trans hz
 replace hdf := hF.defers.trans hdf
 replace s3 := hF.g rfl s3
 replace s5 := hF.g rfl s5
 replace s7 := hF.g rfl s7
 replace s9 := hF.g rfl s9
 replace s10 := hF.g rfl s10
 replace s11 := hF.g rfl s11
 have s14 : a9.tmps[14]?.getD undef = .bool ((admAt r p s).isSome) := hV 9 _ rfl
 replace b3 := b3.kp hK (by simp)
 replace b5 := b5.kp hK (by simp)
 replace b6 := b6.kp hK (by simp)
 replace b7 := b7.kp hK (by simp)
 replace b8 := b8.kp hK (by simp)
 obtain ⟨g11, s13, lg11, -, b11⟩ := x0 (hL 7 (by decide))
 obtain ⟨_, b11, rfl⟩ := b11 (hL 8 (by decide))
 have ug11 := b11.lt
 have zw10 := hK.size
 replace hZ := Nat.le_refl w10.heap.size
 replace hB := hK.below0 hB
 clear hF hK hV hL x0 s6 b4
 refine th_n ?_
 refine wp_seq ?_
 refine wp_seq ?_
 refine wp_regJ (by kernel_rfl) [25, 26] [some (.bool ((admAt r p s).isSome)), some (.bool (!((admAt r p s).isSome)))] ((List.range 2).map List.range) [25, 26] [0, 1] [] (fun _ _ _ => True) (by kernel_rfl) (by rw [hz]; decide) ?_ (ec ?_ (ec ?_ .nil)) ?_
 · exact fun _ _ => trivial
 · exact fun Lk ak ww hL hdd haa hF hK hV hX Nk Qk hN => wnt rfl (wp_move rfl (ev (hF.g rfl s14)) (hN _ _ hK rfl trivial))
 · exact fun Lk ak ww hL hdd haa hF hK hV hX Nk Qk hN => wnt rfl (wp_not rfl (ev (hV 0 _ rfl (hdd 0 rfl))) (hN _ _ hK rfl trivial))
 intro L a12 w13 hL hF hK hV hX
 replace hz := hF.size.trans hz
 replace hdf := hF.defers.trans hdf
 replace s3 := hF.g rfl s3
 replace s5 := hF.g rfl s5
 replace s7 := hF.g rfl s7
 replace s9 := hF.g rfl s9
 replace s10 := hF.g rfl s10
 replace s11 := hF.g rfl s11
 replace s13 := hF.g rfl s13
 have s26 : a12.tmps[26]?.getD undef = .bool (!((admAt r p s).isSome)) := hV 1 _ rfl
 replace b3 := b3.kp hK (by simp)
 replace b5 := b5.kp hK (by simp)
 replace b6 := b6.kp hK (by simp)
 replace b7 := b7.kp hK (by simp)
 replace b8 := b8.kp hK (by simp)
 replace b11 := b11.kp hK (by simp)
 replace hZ := Nat.le_trans hZ hK.size
 replace hB := hK.below0 hB
 clear hF hK hV hL hX s14
 refine th_n ?_
 rcases Bool.eq_false_or_eq_true (!((admAt r p s).isSome)) with q14 | q14
 · skip
   refine wp_cond_true (ev (vb s26 q14)) ?_
   refine wp_seq ?_
   refine wp_regJ (by kernel_rfl) [27, 28, 0, 0, 12] [some (.agg #[.int .i64 0, .int .i64 0, .int .i64 0]), some (.agg #[.int .i64 0, .int .i64 0]), none, none, some (.bool false)] ((List.range 5).map List.range) [27, 28, 12] [0, 1, 2, 3, 4] [(w.heap.size + 4), (w.heap.size + 5)] (fun L aa ww => PreX ww (w.heap.size + 4) 57 [.int .i64 0, .int .i64 0, .int .i64 0] (L 2) (fun _ vs => vs = [.int .i64 0, .int .i64 0, .int .i64 0]) ∧ PreX ww (w.heap.size + 5) 52 [.int .i64 0, .int .i64 0] (L 3) (fun _ vs => vs = [.int .i64 0, .int .i64 0])) (by kernel_rfl) (by rw [hz]; decide) ?_ (ec ?_ (ec ?_ (ec ?_ (ec ?_ (ec ?_ .nil))))) ?_
   · exact fun _ h => ⟨(⟨fun _ => b7.kp h (by simp), (fun h => by cases h)⟩), (⟨fun _ => b8.kp h (by simp), (fun h => by cases h)⟩)⟩
   · intro Lk ak ww hL hdd haa hF hK hV hX Nk Qk hN; refine wnt rfl ?_
     simp [go_sem]
     exact (hN _ _ hK rfl ⟨(hX.1.bel (Below.refl _ _) (fun _ h => h)), (hX.2.bel (Below.refl _ _) (fun _ h => h))⟩)
   · intro Lk ak ww hL hdd haa hF hK hV hX Nk Qk hN; refine wnt rfl ?_
     simp [go_sem]
     exact (hN _ _ hK rfl ⟨(hX.1.bel (Below.refl _ _) (fun _ h => h)), (hX.2.bel (Below.refl _ _) (fun _ h => h))⟩)
   · intro Lk ak ww hL hdd haa hF hK hV hX Nk Qk hN
     obtain ⟨x0, x1⟩ := hX
     refine wnt rfl ?_
     have HT := x0.1 hL
     simp [go_sem, (show ak.tmps[27]?.getD undef = _ from hV 0 _ rfl (hdd 0 rfl)), hF.g rfl s10, HT.cell, HT.frz]
     exact hN undef _ (hK.store (.inr (by simp)) [.int .i64 0, .int .i64 0, .int .i64 0] 0) trivial ⟨(PreX.set HT (us := [.int .i64 0, .int .i64 0, .int .i64 0]) rfl rfl), (x1.oth (by omega) [.int .i64 0, .int .i64 0, .int .i64 0] 0 (fun _ h => h))⟩
   · intro Lk ak ww hL hdd haa hF hK hV hX Nk Qk hN
     obtain ⟨x0, x1⟩ := hX
     refine wnt rfl ?_
     have HT := x1.1 hL
     simp [go_sem, (show ak.tmps[28]?.getD undef = _ from hV 1 _ rfl (hdd 1 rfl)), hF.g rfl s11, HT.cell, HT.frz]
     exact hN undef _ (hK.store (.inr (by simp)) [.int .i64 0, .int .i64 0] 0) trivial ⟨(x0.oth (by omega) [.int .i64 0, .int .i64 0] 0 (fun _ h => h)), (PreX.set HT (us := [.int .i64 0, .int .i64 0]) rfl rfl)⟩
   · exact fun Lk ak ww hL hdd haa hF hK hV hX Nk Qk hN => wnt rfl (wp_assign rfl rfl (hN _ _ hK rfl ⟨(hX.1.bel (Below.refl _ _) (fun _ h => h)), (hX.2.bel (Below.refl _ _) (fun _ h => h))⟩))
   intro L a15 w16 hL hF hK hV hX
   obtain ⟨x0, x1⟩ := hX
   replace hz := hF.size.trans hz
   replace hdf := hF.defers.trans hdf
   replace s10 := hF.g rfl s10
   replace s11 := hF.g rfl s11
   have s12 : a15.tmps[12]?.getD undef = .bool false := hV 4 _ rfl
   clear b7
   obtain ⟨_, b7, rfl⟩ := x0.2 (hL 2 (by decide))
   clear b8
   obtain ⟨_, b8, rfl⟩ := x1.2 (hL 3 (by decide))
   replace hZ := Nat.le_trans hZ hK.size
   replace hB := hK.below hB hB.size (by simp <;> omega)
   clear hF hK hV hL x0 x1 s3 s5 s7 s9 s13 s26 b3 b5 b6 b11
   refine th_n ?_
   refine wp_ret ?_
   refine th_r ?_
   refine bodyPost_ret (v := .tuple #[.agg #[.int .i64 0, .int .i64 0, .int .i64 0], .agg #[.int .i64 0, .int .i64 0], .bool false]) (by simp [results, Tryz.results48, go_sem, s10, b7.cell, s11, b8.cell, s12]) hdf ?_
   exact ⟨by unfold stepL; rw [stepG_no (not_t q14)]; rfl, hB⟩
 · skip
   refine wp_cond_false (ev (vb s26 q14)) ?_
   refine wp_skip ?_
   refine th_n ?_
   refine wp_seq ?_
   refine wp_regJ (by kernel_rfl) [29, 30, 31, 15, 0] [some (spanV ((admAt r p s).getD span0)), some (.int .i64 wish), some (ratioV (pick ((admAt r p s).getD span0) wish)), none, none] ((List.range 5).map List.range) [29, 30, 31, 15] [0, 1, 2, 3, 4] [] (fun L aa ww => (L 3 = true → BoxX w13 aa ww 15 52 [.int .i64 0, .int .i64 0] (L 4) (fun _ vs => vs = [.int .i64 ((pick ((admAt r p s).getD span0) wish).n), .int .i64 ((pick ((admAt r p s).getD span0) wish).d)]))) (by kernel_rfl) (by rw [hz]; decide) ?_ (ec ?_ (ec ?_ (ec ?_ (ec ?_ (ec ?_ .nil))))) ?_
   · exact fun _ h => (fun h => by cases h)
   · intro Lk ak ww hL hdd haa hF hK hV hX Nk Qk hN; refine wnt rfl ?_
     simp [go_sem, hF.g rfl s13, (b11.kp hK (by simp)).cell]
     exact (hN _ _ hK rfl (fun h => ((hX h).bel (Below.refl _ _) (fun _ h => h)).put (by decide) _))
   · exact fun Lk ak ww hL hdd haa hF hK hV hX Nk Qk hN => wnt rfl (wp_move rfl (ev (hF.g rfl s3)) (hN _ _ hK rfl (fun h => ((hX h).bel (Below.refl _ _) (fun _ h => h)).put (by decide) _)))
   · intro Lk ak ww hL hdd haa hF hK hV hX Nk Qk hN; refine wnt rfl ?_
     simp [go_sem, (show ak.tmps[29]?.getD undef = _ from hV 0 _ rfl (hdd 0 rfl)), (show ak.tmps[30]?.getD undef = _ from hV 1 _ rfl (hdd 1 rfl))]
     refine (sPick_c ((admAt r p s).getD span0) wish ww (optIn (fun _ hv => admAt_ok hv))).mono ?_
     rintro x wx ⟨rfl, hb⟩
     exact (hN _ _ (hK.call hb) rfl (fun h => ((hX h).bel hb (fun _ h => h)).put (by decide) _))
   · intro Lk ak ww hL hdd haa hF hK hV hX Nk Qk hN
     have x0 := hX
     refine wnt rfl ?_
     simp [go_sem]
     exact hN _ _ (hK.alloc _) trivial (fun _ => by rw [show upd Lk 3 4 = false from haa 4 rfl]; exact BoxX.new (s := 15) (hF.lt (by rw [hz]; decide)) hK.size [.int .i64 0, .int .i64 0])
   · intro Lk ak ww hL hdd haa hF hK hV hX Nk Qk hN
     have x0 := hX
     refine wnt rfl ?_
     obtain ⟨g, eg, hg, y, _⟩ := x0 (hdd 3 rfl)
     have HT := y hL
     simp [go_sem, (show ak.tmps[31]?.getD undef = _ from hV 2 _ rfl (hdd 2 rfl)), eg, HT.cell, HT.frz]
     exact hN undef _ (hK.store (.inl hg) [.int .i64 ((pick ((admAt r p s).getD span0) wish).n), .int .i64 ((pick ((admAt r p s).getD span0) wish).d)] 0) trivial (fun _ => BoxX.set eg hg HT (us := [.int .i64 ((pick ((admAt r p s).getD span0) wish).n), .int .i64 ((pick ((admAt r p s).getD span0) wish).d)]) rfl rfl)
   intro L a17 w18 hL hF hK hV hX
   have x0 := hX
   replace hz := hF.size.trans hz
   replace hdf := hF.defers.trans hdf
   replace s5 := hF.g rfl s5
   replace s7 := hF.g rfl s7
   replace s9 := hF.g rfl s9
   replace s10 := hF.g rfl s10
   replace s11 := hF.g rfl s11
   replace b3 := b3.kp hK (by simp)
   replace b5 := b5.kp hK (by simp)
   replace b6 := b6.kp hK (by simp)
   replace b7 := b7.kp hK (by simp)
   replace b8 := b8.kp hK (by simp)
   obtain ⟨g19, s15, lg19, -, b19⟩ := x0 (hL 3 (by decide))
   obtain ⟨_, b19, rfl⟩ := b19 (hL 4 (by decide))
   have ug19 := b19.lt
   have zw13 := hZ
   have zw18 := hK.size
   replace hZ := Nat.le_refl w18.heap.size
   replace hB := hK.below0 hB
   clear hF hK hV hL x0 s3 s13 s26 b11
   refine th_n ?_
   refine wp_seq ?_
   refine wp_regJ (by kernel_rfl) [33, 34, 35, 36, 37, 32, 38, 39, 16, 0, 17] [some (roomV r ra), some (spotV s), some (ratioV (pick ((admAt r p s).getD span0) wish)), some (spotV v), some (.tuple #[spotV ((nxtO r s (pick ((admAt r p s).getD span0) wish) v).getD sp0), .bool ((nxtO r s (pick ((admAt r p s).getD span0) wish) v).isSome)]), some (.tuple #[spotV ((nxtO r s (pick ((admAt r p s).getD span0) wish) v).getD sp0), .bool ((nxtO r s (pick ((admAt r p s).getD span0) wish) v).isSome)]), some (spotV ((nxtO r s (pick ((admAt r p s).getD span0) wish) v).getD sp0)), some (.bool ((nxtO r s (pick ((admAt r p s).getD span0) wish) v).isSome)), none, none, some (.bool ((nxtO r s (pick ((admAt r p s).getD span0) wish) v).isSome))] ((List.range 11).map List.range) [33, 34, 35, 36, 37, 32, 38, 39, 16, 17] [0, 1, 2, 3, 4, 5, 6, 7, 8, 9, 10] [] (fun L aa ww => (L 8 = true → BoxX w18 aa ww 16 57 [.int .i64 0, .int .i64 0, .int .i64 0] (L 9) (fun _ vs => vs = [.int .i64 (((nxtO r s (pick ((admAt r p s).getD span0) wish) v).getD sp0).x), .int .i64 (((nxtO r s (pick ((admAt r p s).getD span0) wish) v).getD sp0).y), .int .i64 (((nxtO r s (pick ((admAt r p s).getD span0) wish) v).getD sp0).d)]))) (by kernel_rfl) (by rw [hz]; decide) ?_ (ec ?_ (ec ?_ (ec ?_ (ec ?_ (ec ?_ (ec ?_ (ec ?_ (ec ?_ (ec ?_ (ec ?_ (ec ?_ .nil))))))))))) ?_
   · exact fun _ h => (fun h => by cases h)
   · intro Lk ak ww hL hdd haa hF hK hV hX Nk Qk hN; refine wnt rfl ?_
     simp [go_sem, hF.g rfl s5, (b3.kp hK (by simp)).cell]
     exact (hN _ _ hK rfl (fun h => ((hX h).bel (Below.refl _ _) (fun _ h => h)).put (by decide) _))
   · intro Lk ak ww hL hdd haa hF hK hV hX Nk Qk hN; refine wnt rfl ?_
     simp [go_sem, hF.g rfl s7, (b5.kp hK (by simp)).cell]
     exact (hN _ _ hK rfl (fun h => ((hX h).bel (Below.refl _ _) (fun _ h => h)).put (by decide) _))
   · intro Lk ak ww hL hdd haa hF hK hV hX Nk Qk hN; refine wnt rfl ?_
     simp [go_sem, hF.g rfl s15, (b19.kp hK (by simp)).cell]
     exact (hN _ _ hK rfl (fun h => ((hX h).bel (Below.refl _ _) (fun _ h => h)).put (by decide) _))
   · intro Lk ak ww hL hdd haa hF hK hV hX Nk Qk hN; refine wnt rfl ?_
     simp [go_sem, hF.g rfl s9, (b6.kp hK (by simp)).cell]
     exact (hN _ _ hK rfl (fun h => ((hX h).bel (Below.refl _ _) (fun _ h => h)).put (by decide) _))
   · intro Lk ak ww hL hdd haa hF hK hV hX Nk Qk hN; refine wnt rfl ?_
     simp [go_sem, (show ak.tmps[33]?.getD undef = _ from hV 0 _ rfl (hdd 0 rfl)), (show ak.tmps[34]?.getD undef = _ from hV 1 _ rfl (hdd 1 rfl)), (show ak.tmps[35]?.getD undef = _ from hV 2 _ rfl (hdd 2 rfl)), (show ak.tmps[36]?.getD undef = _ from hV 3 _ rfl (hdd 3 rfl))]
     have hBi := hK.below0 hB
     refine (sNext_c r s (pick ((admAt r p s).getD span0) wish) v ra ww hn hin (hs.below hBi) hnl hsi (pick_In (optIn (fun _ hv => admAt_ok hv))) hvi).mono ?_
     rintro x wx ⟨rfl, hb⟩
     exact (hN _ _ (hK.call hb) (optSpot_eq _) (fun h => ((hX h).bel hb (fun _ h => h)).put (by decide) _))
   · exact fun Lk ak ww hL hdd haa hF hK hV hX Nk Qk hN => wnt rfl (wp_move rfl (ev (hV 4 _ rfl (hdd 4 rfl))) (hN _ _ hK rfl (fun h => ((hX h).bel (Below.refl _ _) (fun _ h => h)).put (by decide) _)))
   · exact fun Lk ak ww hL hdd haa hF hK hV hX Nk Qk hN => wnt rfl (wp_extract rfl (ev (hV 5 _ rfl (hdd 5 rfl))) rfl (hN _ _ hK rfl (fun h => ((hX h).bel (Below.refl _ _) (fun _ h => h)).put (by decide) _)))
   · exact fun Lk ak ww hL hdd haa hF hK hV hX Nk Qk hN => wnt rfl (wp_extract rfl (ev (hV 5 _ rfl (hdd 5 rfl))) rfl (hN _ _ hK rfl (fun h => ((hX h).bel (Below.refl _ _) (fun _ h => h)).put (by decide) _)))
   · intro Lk ak ww hL hdd haa hF hK hV hX Nk Qk hN
     have x0 := hX
     refine wnt rfl ?_
     simp [go_sem]
     exact hN _ _ (hK.alloc _) trivial (fun _ => by rw [show upd Lk 8 9 = false from haa 9 rfl]; exact BoxX.new (s := 16) (hF.lt (by rw [hz]; decide)) hK.size [.int .i64 0, .int .i64 0, .int .i64 0])
   · intro Lk ak ww hL hdd haa hF hK hV hX Nk Qk hN
     have x0 := hX
     refine wnt rfl ?_
     obtain ⟨g, eg, hg, y, _⟩ := x0 (hdd 8 rfl)
     have HT := y hL
     simp [go_sem, (show ak.tmps[38]?.getD undef = _ from hV 6 _ rfl (hdd 6 rfl)), eg, HT.cell, HT.frz]
     exact hN undef _ (hK.store (.inl hg) [.int .i64 (((nxtO r s (pick ((admAt r p s).getD span0) wish) v).getD sp0).x), .int .i64 (((nxtO r s (pick ((admAt r p s).getD span0) wish) v).getD sp0).y), .int .i64 (((nxtO r s (pick ((admAt r p s).getD span0) wish) v).getD sp0).d)] 0) trivial (fun _ => BoxX.set eg hg HT (us := [.int .i64 (((nxtO r s (pick ((admAt r p s).getD span0) wish) v).getD sp0).x), .int .i64 (((nxtO r s (pick ((admAt r p s).getD span0) wish) v).getD sp0).y), .int .i64 (((nxtO r s (pick ((admAt r p s).getD span0) wish) v).getD sp0).d)]) rfl rfl)
   · exact fun Lk ak ww hL hdd haa hF hK hV hX Nk Qk hN => wnt rfl (wp_assign rfl (ev (hV 7 _ rfl (hdd 7 rfl))) (hN _ _ hK rfl (fun h => ((hX h).bel (Below.refl _ _) (fun _ h => h)).put (by decide) _)))
   intro L a20 w21 hL hF hK hV hX
   have x0 := hX
   replace hz := hF.size.trans hz
   replace hdf := hF.defers.trans hdf
   replace s10 := hF.g rfl s10
   replace s11 := hF.g rfl s11
   replace s15 := hF.g rfl s15
   have s17 : a20.tmps[17]?.getD undef = .bool ((nxtO r s (pick ((admAt r p s).getD span0) wish) v).isSome) := hV 10 _ rfl
   replace b7 := b7.kp hK (by simp)
   replace b8 := b8.kp hK (by simp)
   replace b19 := b19.kp hK (by simp)
   obtain ⟨g22, s16, lg22, -, b22⟩ := x0 (hL 8 (by decide))
   obtain ⟨_, b22, rfl⟩ := b22 (hL 9 (by decide))
   have ug22 := b22.lt
   have zw21 := hK.size
   replace hZ := Nat.le_refl w21.heap.size
   replace hB := hK.below0 hB
   clear hF hK hV hL x0 s5 s7 s9 b3 b5 b6
   refine th_n ?_
   refine wp_seq ?_
   refine wp_seq ?_
   refine wp_regJ (by kernel_rfl) [40, 41] [some (.bool ((nxtO r s (pick ((admAt r p s).getD span0) wish) v).isSome)), some (.bool (!((nxtO r s (pick ((admAt r p s).getD span0) wish) v).isSome)))] ((List.range 2).map List.range) [40, 41] [0, 1] [] (fun _ _ _ => True) (by kernel_rfl) (by rw [hz]; decide) ?_ (ec ?_ (ec ?_ .nil)) ?_
   · exact fun _ _ => trivial
   · exact fun Lk ak ww hL hdd haa hF hK hV hX Nk Qk hN => wnt rfl (wp_move rfl (ev (hF.g rfl s17)) (hN _ _ hK rfl trivial))
   · exact fun Lk ak ww hL hdd haa hF hK hV hX Nk Qk hN => wnt rfl (wp_not rfl (ev (hV 0 _ rfl (hdd 0 rfl))) (hN _ _ hK rfl trivial))
   intro L a23 w24 hL hF hK hV hX
   replace hz := hF.size.trans hz
   replace hdf := hF.defers.trans hdf
   replace s10 := hF.g rfl s10
   replace s11 := hF.g rfl s11
   replace s15 := hF.g rfl s15
   replace s16 := hF.g rfl s16
   have s41 : a23.tmps[41]?.getD undef = .bool (!((nxtO r s (pick ((admAt r p s).getD span0) wish) v).isSome)) := hV 1 _ rfl
   replace b7 := b7.kp hK (by simp)
   replace b8 := b8.kp hK (by simp)
   replace b19 := b19.kp hK (by simp)
   replace b22 := b22.kp hK (by simp)
   replace hZ := Nat.le_trans hZ hK.size
   replace hB := hK.below0 hB
   clear hF hK hV hL hX s17
   refine th_n ?_
   rcases Bool.eq_false_or_eq_true (!((nxtO r s (pick ((admAt r p s).getD span0) wish) v).isSome)) with q25 | q25
   · skip
     refine wp_cond_true (ev (vb s41 q25)) ?_
     refine wp_seq ?_
     refine wp_regJ (by kernel_rfl) [42, 43, 0, 0, 12] [some (.agg #[.int .i64 0, .int .i64 0, .int .i64 0]), some (.agg #[.int .i64 0, .int .i64 0]), none, none, some (.bool false)] ((List.range 5).map List.range) [42, 43, 12] [0, 1, 2, 3, 4] [(w.heap.size + 4), (w.heap.size + 5)] (fun L aa ww => PreX ww (w.heap.size + 4) 57 [.int .i64 0, .int .i64 0, .int .i64 0] (L 2) (fun _ vs => vs = [.int .i64 0, .int .i64 0, .int .i64 0]) ∧ PreX ww (w.heap.size + 5) 52 [.int .i64 0, .int .i64 0] (L 3) (fun _ vs => vs = [.int .i64 0, .int .i64 0])) (by kernel_rfl) (by rw [hz]; decide) ?_ (ec ?_ (ec ?_ (ec ?_ (ec ?_ (ec ?_ .nil))))) ?_
     · exact fun _ h => ⟨(⟨fun _ => b7.kp h (by simp), (fun h => by cases h)⟩), (⟨fun _ => b8.kp h (by simp), (fun h => by cases h)⟩)⟩
     · intro Lk ak ww hL hdd haa hF hK hV hX Nk Qk hN; refine wnt rfl ?_
       simp [go_sem]
       exact (hN _ _ hK rfl ⟨(hX.1.bel (Below.refl _ _) (fun _ h => h)), (hX.2.bel (Below.refl _ _) (fun _ h => h))⟩)
     · intro Lk ak ww hL hdd haa hF hK hV hX Nk Qk hN; refine wnt rfl ?_
       simp [go_sem]
       exact (hN _ _ hK rfl ⟨(hX.1.bel (Below.refl _ _) (fun _ h => h)), (hX.2.bel (Below.refl _ _) (fun _ h => h))⟩)
     · intro Lk ak ww hL hdd haa hF hK hV hX Nk Qk hN
       obtain ⟨x0, x1⟩ := hX
       refine wnt rfl ?_
       have HT := x0.1 hL
       simp [go_sem, (show ak.tmps[42]?.getD undef = _ from hV 0 _ rfl (hdd 0 rfl)), hF.g rfl s10, HT.cell, HT.frz]
       exact hN undef _ (hK.store (.inr (by simp)) [.int .i64 0, .int .i64 0, .int .i64 0] 0) trivial ⟨(PreX.set HT (us := [.int .i64 0, .int .i64 0, .int .i64 0]) rfl rfl), (x1.oth (by omega) [.int .i64 0, .int .i64 0, .int .i64 0] 0 (fun _ h => h))⟩
     · intro Lk ak ww hL hdd haa hF hK hV hX Nk Qk hN
       obtain ⟨x0, x1⟩ := hX
       refine wnt rfl ?_
       have HT := x1.1 hL
       simp [go_sem, (show ak.tmps[43]?.getD undef = _ from hV 1 _ rfl (hdd 1 rfl)), hF.g rfl s11, HT.cell, HT.frz]
       exact hN undef _ (hK.store (.inr (by simp)) [.int .i64 0, .int .i64 0] 0) trivial ⟨(x0.oth (by omega) [.int .i64 0, .int .i64 0] 0 (fun _ h => h)), (PreX.set HT (us := [.int .i64 0, .int .i64 0]) rfl rfl)⟩
     · exact fun Lk ak ww hL hdd haa hF hK hV hX Nk Qk hN => wnt rfl (wp_assign rfl rfl (hN _ _ hK rfl ⟨(hX.1.bel (Below.refl _ _) (fun _ h => h)), (hX.2.bel (Below.refl _ _) (fun _ h => h))⟩))
     intro L a26 w27 hL hF hK hV hX
     obtain ⟨x0, x1⟩ := hX
     replace hz := hF.size.trans hz
     replace hdf := hF.defers.trans hdf
     replace s10 := hF.g rfl s10
     replace s11 := hF.g rfl s11
     have s12 : a26.tmps[12]?.getD undef = .bool false := hV 4 _ rfl
     clear b7
     obtain ⟨_, b7, rfl⟩ := x0.2 (hL 2 (by decide))
     clear b8
     obtain ⟨_, b8, rfl⟩ := x1.2 (hL 3 (by decide))
     replace hZ := Nat.le_trans hZ hK.size
     replace hB := hK.below hB hB.size (by simp <;> omega)
     clear hF hK hV hL x0 x1 s15 s16 s41 b19 b22
     refine th_n ?_
     refine wp_ret ?_
     refine th_r ?_
     refine bodyPost_ret (v := .tuple #[.agg #[.int .i64 0, .int .i64 0, .int .i64 0], .agg #[.int .i64 0, .int .i64 0], .bool false]) (by simp [results, Tryz.results48, go_sem, s10, b7.cell, s11, b8.cell, s12]) hdf ?_
     exact ⟨by unfold stepL; rw [stepG_no2 (not_f q14) (not_t q25)]; rfl, hB⟩
   · skip
     refine wp_cond_false (ev (vb s41 q25)) ?_
     refine wp_skip ?_
     refine th_n ?_
     refine wp_seq ?_
     refine wp_regJ (by kernel_rfl) [44, 45, 0, 0, 12] [some (spotV ((nxtO r s (pick ((admAt r p s).getD span0) wish) v).getD sp0)), some (ratioV (pick ((admAt r p s).getD span0) wish)), none, none, some (.bool true)] ([[], [], [0], [0, 1, 2], [0, 1, 2, 3]]) [44, 45, 12] [0, 1, 2, 3, 4] [(w.heap.size + 4), (w.heap.size + 5)] (fun L aa ww => PreX ww (w.heap.size + 4) 57 [.int .i64 0, .int .i64 0, .int .i64 0] (L 2) (fun _ vs => vs = [.int .i64 (((nxtO r s (pick ((admAt r p s).getD span0) wish) v).getD sp0).x), .int .i64 (((nxtO r s (pick ((admAt r p s).getD span0) wish) v).getD sp0).y), .int .i64 (((nxtO r s (pick ((admAt r p s).getD span0) wish) v).getD sp0).d)]) ∧ PreX ww (w.heap.size + 5) 52 [.int .i64 0, .int .i64 0] (L 3) (fun _ vs => vs = [.int .i64 ((pick ((admAt r p s).getD span0) wish).n), .int .i64 ((pick ((admAt r p s).getD span0) wish).d)])) (by kernel_rfl) (by rw [hz]; decide) ?_ (ec ?_ (ec ?_ (ec ?_ (ec ?_ (ec ?_ .nil))))) ?_
     · exact fun _ h => ⟨(⟨fun _ => b7.kp h (by simp), (fun h => by cases h)⟩), (⟨fun _ => b8.kp h (by simp), (fun h => by cases h)⟩)⟩
     · intro Lk ak ww hL hdd haa hF hK hV hX Nk Qk hN; refine wnt rfl ?_
       simp [go_sem, hF.g rfl s16, (b22.kp hK (by simp <;> omega)).cell]
       exact (hN _ _ hK rfl ⟨(hX.1.bel (Below.refl _ _) (fun _ h => h)), (hX.2.bel (Below.refl _ _) (fun _ h => h))⟩)
     · intro Lk ak ww hL hdd haa hF hK hV hX Nk Qk hN; refine wnt rfl ?_
       simp [go_sem, hF.g rfl s15, (b19.kp hK (by simp <;> omega)).cell]
       exact (hN _ _ hK rfl ⟨(hX.1.bel (Below.refl _ _) (fun _ h => h)), (hX.2.bel (Below.refl _ _) (fun _ h => h))⟩)
     · intro Lk ak ww hL hdd haa hF hK hV hX Nk Qk hN
       obtain ⟨x0, x1⟩ := hX
       refine wnt rfl ?_
       have HT := x0.1 hL
       simp [go_sem, (show ak.tmps[44]?.getD undef = _ from hV 0 _ rfl (hdd 0 rfl)), hF.g rfl s10, HT.cell, HT.frz]
       exact hN undef _ (hK.store (.inr (by simp)) [.int .i64 (((nxtO r s (pick ((admAt r p s).getD span0) wish) v).getD sp0).x), .int .i64 (((nxtO r s (pick ((admAt r p s).getD span0) wish) v).getD sp0).y), .int .i64 (((nxtO r s (pick ((admAt r p s).getD span0) wish) v).getD sp0).d)] 0) trivial ⟨(PreX.set HT (us := [.int .i64 (((nxtO r s (pick ((admAt r p s).getD span0) wish) v).getD sp0).x), .int .i64 (((nxtO r s (pick ((admAt r p s).getD span0) wish) v).getD sp0).y), .int .i64 (((nxtO r s (pick ((admAt r p s).getD span0) wish) v).getD sp0).d)]) rfl rfl), (x1.oth (by omega) [.int .i64 (((nxtO r s (pick ((admAt r p s).getD span0) wish) v).getD sp0).x), .int .i64 (((nxtO r s (pick ((admAt r p s).getD span0) wish) v).getD sp0).y), .int .i64 (((nxtO r s (pick ((admAt r p s).getD span0) wish) v).getD sp0).d)] 0 (fun _ h => h))⟩
     · intro Lk ak ww hL hdd haa hF hK hV hX Nk Qk hN
       obtain ⟨x0, x1⟩ := hX
       refine wnt rfl ?_
       have HT := x1.1 hL
       simp [go_sem, (show ak.tmps[45]?.getD undef = _ from hV 1 _ rfl (hdd 1 rfl)), hF.g rfl s11, HT.cell, HT.frz]
       exact hN undef _ (hK.store (.inr (by simp)) [.int .i64 ((pick ((admAt r p s).getD span0) wish).n), .int .i64 ((pick ((admAt r p s).getD span0) wish).d)] 0) trivial ⟨(x0.oth (by omega) [.int .i64 ((pick ((admAt r p s).getD span0) wish).n), .int .i64 ((pick ((admAt r p s).getD span0) wish).d)] 0 (fun _ h => h)), (PreX.set HT (us := [.int .i64 ((pick ((admAt r p s).getD span0) wish).n), .int .i64 ((pick ((admAt r p s).getD span0) wish).d)]) rfl rfl)⟩
     · exact fun Lk ak ww hL hdd haa hF hK hV hX Nk Qk hN => wnt rfl (wp_assign rfl rfl (hN _ _ hK rfl ⟨(hX.1.bel (Below.refl _ _) (fun _ h => h)), (hX.2.bel (Below.refl _ _) (fun _ h => h))⟩))
     intro L a28 w29 hL hF hK hV hX
     obtain ⟨x0, x1⟩ := hX
     replace hz := hF.size.trans hz
     replace hdf := hF.defers.trans hdf
     replace s10 := hF.g rfl s10
     replace s11 := hF.g rfl s11
     have s12 : a28.tmps[12]?.getD undef = .bool true := hV 4 _ rfl
     clear b7
     obtain ⟨_, b7, rfl⟩ := x0.2 (hL 2 (by decide))
     clear b8
     obtain ⟨_, b8, rfl⟩ := x1.2 (hL 3 (by decide))
     replace hZ := Nat.le_trans hZ hK.size
     replace hB := hK.below hB hB.size (by simp <;> omega)
     clear hF hK hV hL x0 x1 s15 s16 s41 b19 b22
     refine th_n ?_
     refine wp_ret ?_
     refine bodyPost_ret (v := .tuple #[spotV ((nxtO r s (pick ((admAt r p s).getD span0) wish) v).getD sp0), ratioV (pick ((admAt r p s).getD span0) wish), .bool true]) (by simp [results, Tryz.results48, go_sem, s10, b7.cell, s11, b8.cell, s12]) hdf ?_
     exact ⟨by unfold stepL; rw [stepG_yes (not_f q14) (not_f q25)]; rfl, hB⟩
end Go.Proofs.YtdncnhcffbgjhaaGreat
end
