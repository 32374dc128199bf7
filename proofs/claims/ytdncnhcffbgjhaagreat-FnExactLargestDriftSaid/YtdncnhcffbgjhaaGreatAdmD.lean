/-
  The inputs that are admitted under a drift: of the program and of the reference.
  Conditions: the slices hold at most 2^20 elements.
-/
import Derived.Test.YtdncnhcffbgjhaaGreatV1
import Derived.Test.YtdncnhcffbgjhaaGreatAdm4
namespace Go.Proofs.YtdncnhcffbgjhaaGreat
open Go.RowKit

theorem accS_congr {A B : Spot → Option Span} {l : List Spot} (h : ∀ t ∈ l, A t = B t) : ∀ k, k ≤ l.length → accS A l k = accS B l k
  | 0, _ => rfl
  | k + 1, hk => by
    rw [accS, accS, accS_congr h k (by omega), List.getD_eq_getElem?_getD, List.getElem?_eq_getElem (show k < l.length by omega), Option.getD_some, h _ (List.getElem_mem _)]
theorem admDrift_none {r : Room} {p : List Half} {s : Spot} {dx dy : Int} (h : (possStates s dx dy).isSome = false) : admDrift r p s dx dy = none := by
  unfold admDrift
  cases e : possStates s dx dy with
  | none => rfl
  | some l => rw [e] at h; cases h
theorem admDrift_bad {r : Room} {p : List Half} {s : Spot} {dx dy : Int} (h : robOk r p = false) : admDrift r p s dx dy = none := by
  unfold admDrift
  cases e : possStates s dx dy with
  | none => rfl
  | some l =>
    obtain ⟨e1, _⟩ := poss_ok4 e
    show accS (admAt r p) l l.length = none
    refine accS_no (k := 1) ?_ (by omega)
    show (some span0).bind _ = none
    have : admAt r p (l.getD 0 sp0) = none := by unfold admAt; rw [h, if_neg (by simp)]
    rw [Option.bind_some, this]; rfl
theorem admDrift_no {r : Room} {p : List Half} {s : Spot} {dx dy : Int} (h : (!((possStates s dx dy).isSome) || !(robOk r p)) = true) : admDrift r p s dx dy = none := by
  rcases Bool.eq_false_or_eq_true (possStates s dx dy).isSome with h1 | h1
  · rw [h1] at h; exact admDrift_bad (by simpa using h)
  · exact admDrift_none h1
theorem possG {s : Spot} {dx dy : Int} (h : (possStates s dx dy).isSome = true) : ((possStates s dx dy).getD []).length = 4 ∧ ∀ t ∈ (possStates s dx dy).getD [], spotOk t = true := by
  obtain ⟨l, hl⟩ := Option.isSome_iff_exists.1 h
  rw [hl]; exact poss_ok4 hl
theorem admDrift_yes {r : Room} {p R : List Half} {s : Spot} {dx dy : Int} (h : (!((possStates s dx dy).isSome) || !(robOk r p)) = false) (hR : robOk r p = true → R = rpR r p) : admDrift r p s dx dy = accS (fun t => admit r R t) ((possStates s dx dy).getD []) ((possStates s dx dy).getD []).length := by
  have h1 := not_f (or_f1 h)
  have h2 := not_f (or_f2 h)
  obtain ⟨l, hl⟩ := Option.isSome_iff_exists.1 h1
  have hp := possG h1
  rw [hR h2]
  unfold admDrift
  rw [hl] at hp ⊢
  refine accS_congr (fun t ht => ?_) _ (Nat.le_refl _)
  unfold admAt
  rw [if_pos ⟨h2, hp.2 t ht⟩]
theorem robOk_room {r : Room} {p : List Half} (h : robOk r p = true) : roomOk r = true := by
  simp only [robOk, rpOk, Bool.and_eq_true] at h
  exact h.1.2.1.1
theorem spot_In {s : Spot} (h : spotOk s = true) : s.In := by
  obtain ⟨h1, h2, h3, _⟩ := spotOk_iff.1 h
  exact ⟨⟨by omega, by omega⟩, ⟨by omega, by omega⟩, ⟨by omega, by omega⟩⟩
theorem getD_ok {l : List Spot} (h : ∀ t ∈ l, spotOk t = true) {i : Nat} (hi : i < l.length) : spotOk (l.getD i sp0) = true := by
  rw [List.getD_eq_getElem?_getD, List.getElem?_eq_getElem hi]
  exact h _ (List.getElem_mem _)
theorem isNone_f {α : Type} {x : Option α} (h : x.isSome = false) : x = none := by cases x with | none => rfl | some _ => cases h
theorem span0_In : span0.In := by
  have h : In64 0 := ⟨by decide, by decide⟩
  exact ⟨⟨h, h⟩, ⟨h, h⟩⟩
theorem optIn {x : Option Span} (h : ∀ v, x = some v → spanOk v = true) : (x.getD span0).In := by
  cases x with
  | none => exact span0_In
  | some v => exact span_In (h v rfl)
theorem admAt_ok {r : Room} {p : List Half} {s : Spot} {v : Span} (h : admAt r p s = some v) : spanOk v = true := by
  unfold admAt at h
  split at h
  · exact admit_spanOk h
  · cases h
theorem accS_ok {A : Spot → Option Span} (hA : ∀ t v, A t = some v → spanOk v = true) {l : List Spot} {k : Nat} {v : Span} (h : accS A l (k + 1) = some v) : spanOk v = true := by
  rw [accS] at h
  cases e : accS A l k with
  | none => rw [e] at h; cases h
  | some x =>
    rw [e] at h
    simp only [Option.bind_some] at h
    cases e2 : A (l.getD k sp0) with
    | none => rw [e2] at h; cases h
    | some y =>
      rw [e2] at h
      simp only [Option.bind_some] at h
      split at h
      · cases h; exact hA _ _ e2
      · exact meetSp_ok h
theorem accS_one {A : Spot → Option Span} {l : List Spot} : accS A l (0 + 1) = A (l.getD 0 sp0) := by
  show (some span0).bind _ = _
  rw [Option.bind_some]
  cases A (l.getD 0 sp0) <;> rfl
theorem accS_next {A : Spot → Option Span} {l : List Spot} {k : Nat} {ov : Option Span} (h : accS A l (k + 1) = ov) (h1 : ov.isSome = true) (h2 : (A (l.getD (k + 1) sp0)).isSome = true) : accS A l (k + 1 + 1) = meetSp (ov.getD span0) ((A (l.getD (k + 1) sp0)).getD span0) := by
  rw [accS, h]
  obtain ⟨x, rfl⟩ := Option.isSome_iff_exists.1 h1
  obtain ⟨y, hy⟩ := Option.isSome_iff_exists.1 h2
  rw [hy, Option.bind_some, Option.bind_some, if_neg (by omega)]; rfl
theorem accS_stop {A : Spot → Option Span} {l : List Spot} {k : Nat} {ov : Option Span} (h : accS A l (k + 1) = ov) (hk : k + 1 < l.length) (h1 : (!(ov.isSome) || !((A (l.getD (k + 1) sp0)).isSome)) = true) : accS A l l.length = none := by
  refine accS_no (k := k + 1 + 1) ?_ (by omega)
  rw [accS, h]
  cases ov with
  | none => rfl
  | some x =>
    have h2 : (A (l.getD (k + 1) sp0)).isSome = false := by simpa using h1
    rw [Option.bind_some]
    cases e : A (l.getD (k + 1) sp0) with
    | none => rfl
    | some y => rw [e] at h2; cases h2
theorem admDrift_acc {r : Room} {p : List Half} {s : Spot} {dx dy : Int} (h : (possStates s dx dy).isSome = true) : admDrift r p s dx dy = accS (admAt r p) ((possStates s dx dy).getD []) ((possStates s dx dy).getD []).length := by
  unfold admDrift
  obtain ⟨l, hl⟩ := Option.isSome_iff_exists.1 h
  rw [hl]; rfl
set_option maxRecDepth 100000 in
set_option maxHeartbeats 3000000 in
theorem iAdmDrift_c (r : Room) (p : List Half) (s : Spot) (dx dy : Int) (ra : RoomA) (b : SlA) (w : World) (hn : roomLen r ≤ 1048576) (hin : RoomIn r) (hs : RoomSl w r ra) (hnl : RoomNil ra) (hlp : p.length ≤ 1048576) (hpi : ∀ h ∈ p, h.In) (hsp : Sl 3 halfC w b.A p) (hnb : b.A = none → b.c = 0) (hsi : s.In) :
    Calls Tryz.prog 26 #[roomV r ra, .agg #[.slice b.A p.length b.c], .agg #[.int .i64 s.x, .int .i64 s.y, .int .i64 s.d], .int .i64 dx, .int .i64 dy] w fun x w' => x = .returned (optSpanV (admDrift r p s dx dy)) ∧ Below w.heap.size w w' := by
 refine calls_v Tryz.func26 rfl (n := 42) Tryz.ntmps26 (by simp) ?_
 intro a0 hz hdf ha
 have s0 : a0.tmps[0]?.getD undef = roomV r ra := ha 0 _ rfl
 have s1 : a0.tmps[1]?.getD undef = .agg #[.slice b.A p.length b.c] := ha 1 _ rfl
 have s2 : a0.tmps[2]?.getD undef = .agg #[.int .i64 s.x, .int .i64 s.y, .int .i64 s.d] := ha 2 _ rfl
 have s3 : a0.tmps[3]?.getD undef = .int .i64 dx := ha 3 _ rfl
 have s4 : a0.tmps[4]?.getD undef = .int .i64 dy := ha 4 _ rfl
 clear ha
 have hB := Below.refl w.heap.size w
 have hZ := Nat.le_refl w.heap.size
 refine wp_seq ?_
 refine wp_entry [5, 6, 7, 10, 11] [.pointer (some ⟨w.heap.size, 0, none⟩), .pointer (some ⟨(w.heap.size + 1), 0, none⟩), .pointer (some ⟨(w.heap.size + 2), 0, none⟩), .pointer (some ⟨(w.heap.size + 3), 0, none⟩), .bool false] [some (.cells (roomC r ra).toArray 39), some (.cells [.slice b.A p.length b.c].toArray 37), some (.cells [.int .i64 s.x, .int .i64 s.y, .int .i64 s.d].toArray 57), some (.cells [.int .i64 0, .int .i64 0, .int .i64 0, .int .i64 0].toArray 54), none] [0, 1, 2, 3, 4] [5, 6, 7, 10, 11] [0, 1, 2, 3, 4] (by kernel_rfl) (by rw [hz]; decide) (.cons ?_ (.cons ?_ (.cons ?_ (.cons ?_ (.cons ?_ .nil))))) ?_
 · intro a w' hF hs N Q hN; simp [go_sem, Array.getD_eq_getD_getElem?, hF.g rfl s0]; rw [hs]; exact hN
 · intro a w' hF hs N Q hN; simp [go_sem, Array.getD_eq_getD_getElem?, hF.g rfl s1]; rw [hs]; exact hN
 · intro a w' hF hs N Q hN; simp [go_sem, Array.getD_eq_getD_getElem?, hF.g rfl s2]; rw [hs]; exact hN
 · intro a w' hF hs N Q hN; simp [go_sem]; rw [hs]; exact hN
 · intro a w' hF hs N Q hN; simp [go_sem]; exact hN
 intro a1 w2 hF hV hb hO
 replace hz := hF.size.trans hz
 replace hdf := hF.defers.trans hdf
 replace s3 := hF.g rfl s3
 replace s4 := hF.g rfl s4
 have s5 : a1.tmps[5]?.getD undef = .pointer (some ⟨w.heap.size, 0, none⟩) := hV 0 (by decide)
 have s6 : a1.tmps[6]?.getD undef = .pointer (some ⟨(w.heap.size + 1), 0, none⟩) := hV 1 (by decide)
 have s7 : a1.tmps[7]?.getD undef = .pointer (some ⟨(w.heap.size + 2), 0, none⟩) := hV 2 (by decide)
 have s10 : a1.tmps[10]?.getD undef = .pointer (some ⟨(w.heap.size + 3), 0, none⟩) := hV 3 (by decide)
 have b3 : HasT w2 w.heap.size 39 (roomC r ra) := hO 0 _ rfl
 have b4 : HasT w2 (w.heap.size + 1) 37 [.slice b.A p.length b.c] := hO 1 _ rfl
 have b5 : HasT w2 (w.heap.size + 2) 57 [.int .i64 s.x, .int .i64 s.y, .int .i64 s.d] := hO 2 _ rfl
 have b6 : HasT w2 (w.heap.size + 3) 54 [.int .i64 0, .int .i64 0, .int .i64 0, .int .i64 0] := hO 3 _ rfl
 have hG := b6.lt
 replace hB := below_tr hB hb
 have zw2 := Nat.le_trans hZ hb.size
 replace hZ := Nat.le_refl w2.heap.size
 clear hF hV hb hO s0 s1 s2
 refine th_n ?_
 refine wp_seq ?_
 have hXb : ∀ (L : Nat → Bool) (aa : Act) (ww w' : World) (k : Option Nat) (v : Value), (∀ s ∈ [12, 16, 20, 21], k ≠ some s) → Below ww.heap.size ww w' → (L 3 = true → (fun ww v => ∃ A1 c1, v = .tuple #[.slice A1 (((possStates s dx dy).getD []).length) c1, .bool ((possStates s dx dy).isSome)] ∧ New 57 3 spotC ww w2.heap.size (.slice A1 ((possStates s dx dy).getD []).length c1) ((possStates s dx dy).getD [])) ww (aa.tmps[20]?.getD undef)) ∧ (L 4 = true → (fun ww v => ∃ A1 c1, v = .tuple #[.slice A1 (((possStates s dx dy).getD []).length) c1, .bool ((possStates s dx dy).isSome)] ∧ New 57 3 spotC ww w2.heap.size (.slice A1 ((possStates s dx dy).getD []).length c1) ((possStates s dx dy).getD [])) ww (aa.tmps[16]?.getD undef)) ∧ (L 5 = true → (fun ww v => ∃ A1 c1, v = .slice A1 (((possStates s dx dy).getD []).length) c1 ∧ New 57 3 spotC ww w2.heap.size (.slice A1 ((possStates s dx dy).getD []).length c1) ((possStates s dx dy).getD [])) ww (aa.tmps[21]?.getD undef)) ∧ (L 7 = true → (fun ww v => ∃ A1 c1, v = .slice A1 (((possStates s dx dy).getD []).length) c1 ∧ New 57 3 spotC ww w2.heap.size (.slice A1 ((possStates s dx dy).getD []).length c1) ((possStates s dx dy).getD [])) ww (aa.tmps[12]?.getD undef)) → (L 3 = true → (fun ww v => ∃ A1 c1, v = .tuple #[.slice A1 (((possStates s dx dy).getD []).length) c1, .bool ((possStates s dx dy).isSome)] ∧ New 57 3 spotC ww w2.heap.size (.slice A1 ((possStates s dx dy).getD []).length c1) ((possStates s dx dy).getD [])) w' ((aa.put k v).tmps[20]?.getD undef)) ∧ (L 4 = true → (fun ww v => ∃ A1 c1, v = .tuple #[.slice A1 (((possStates s dx dy).getD []).length) c1, .bool ((possStates s dx dy).isSome)] ∧ New 57 3 spotC ww w2.heap.size (.slice A1 ((possStates s dx dy).getD []).length c1) ((possStates s dx dy).getD [])) w' ((aa.put k v).tmps[16]?.getD undef)) ∧ (L 5 = true → (fun ww v => ∃ A1 c1, v = .slice A1 (((possStates s dx dy).getD []).length) c1 ∧ New 57 3 spotC ww w2.heap.size (.slice A1 ((possStates s dx dy).getD []).length c1) ((possStates s dx dy).getD [])) w' ((aa.put k v).tmps[21]?.getD undef)) ∧ (L 7 = true → (fun ww v => ∃ A1 c1, v = .slice A1 (((possStates s dx dy).getD []).length) c1 ∧ New 57 3 spotC ww w2.heap.size (.slice A1 ((possStates s dx dy).getD []).length c1) ((possStates s dx dy).getD [])) w' ((aa.put k v).tmps[12]?.getD undef)) := by
  intro L aa ww w' k v hk hb hX
  obtain ⟨x0, x1, x2, x3⟩ := hX
  exact ⟨(fun h => by rw [put_ne' (hk 20 (by simp))]; obtain ⟨A1', c1', e, f1'⟩ := x0 h; exact ⟨A1', c1', e, f1'.below hb (Nat.le_refl _)⟩), (fun h => by rw [put_ne' (hk 16 (by simp))]; obtain ⟨A1', c1', e, f1'⟩ := x1 h; exact ⟨A1', c1', e, f1'.below hb (Nat.le_refl _)⟩), (fun h => by rw [put_ne' (hk 21 (by simp))]; obtain ⟨A1', c1', e, f1'⟩ := x2 h; exact ⟨A1', c1', e, f1'.below hb (Nat.le_refl _)⟩), (fun h => by rw [put_ne' (hk 12 (by simp))]; obtain ⟨A1', c1', e, f1'⟩ := x3 h; exact ⟨A1', c1', e, f1'.below hb (Nat.le_refl _)⟩)⟩
 refine wp_regJ (by kernel_rfl) [17, 18, 19, 20, 16, 21, 22, 12, 13] [some (.agg #[.int .i64 s.x, .int .i64 s.y, .int .i64 s.d]), some (.int .i64 dx), some (.int .i64 dy), none, none, none, some (.bool ((possStates s dx dy).isSome)), none, some (.bool ((possStates s dx dy).isSome))] ((List.range 9).map List.range) [17, 18, 19, 20, 16, 21, 22, 12, 13] [0, 1, 2, 3, 4, 5, 6, 7, 8] [] (fun L aa ww => (L 3 = true → (fun ww v => ∃ A1 c1, v = .tuple #[.slice A1 (((possStates s dx dy).getD []).length) c1, .bool ((possStates s dx dy).isSome)] ∧ New 57 3 spotC ww w2.heap.size (.slice A1 ((possStates s dx dy).getD []).length c1) ((possStates s dx dy).getD [])) ww (aa.tmps[20]?.getD undef)) ∧ (L 4 = true → (fun ww v => ∃ A1 c1, v = .tuple #[.slice A1 (((possStates s dx dy).getD []).length) c1, .bool ((possStates s dx dy).isSome)] ∧ New 57 3 spotC ww w2.heap.size (.slice A1 ((possStates s dx dy).getD []).length c1) ((possStates s dx dy).getD [])) ww (aa.tmps[16]?.getD undef)) ∧ (L 5 = true → (fun ww v => ∃ A1 c1, v = .slice A1 (((possStates s dx dy).getD []).length) c1 ∧ New 57 3 spotC ww w2.heap.size (.slice A1 ((possStates s dx dy).getD []).length c1) ((possStates s dx dy).getD [])) ww (aa.tmps[21]?.getD undef)) ∧ (L 7 = true → (fun ww v => ∃ A1 c1, v = .slice A1 (((possStates s dx dy).getD []).length) c1 ∧ New 57 3 spotC ww w2.heap.size (.slice A1 ((possStates s dx dy).getD []).length c1) ((possStates s dx dy).getD [])) ww (aa.tmps[12]?.getD undef))) (by kernel_rfl) (by rw [hz]; decide) ?_ (.cons ?_ (.cons ?_ (.cons ?_ (.cons ?_ (.cons ?_ (.cons ?_ (.cons ?_ (.cons ?_ (.cons ?_ .nil))))))))) ?_
 · exact fun _ h => ⟨(fun h => by cases h), (fun h => by cases h), (fun h => by cases h), (fun h => by cases h)⟩
 · intro Lk ak ww hL hdd haa hF hK hV hX Nk Qk hN; refine wnt rfl ?_
   simp [go_sem, Array.getD_eq_getD_getElem?, hF.g rfl s7, (b5.kp hK (by simp)).cell]
   exact (hN _ _ hK rfl (hXb Lk ak ww _ (some 17) _ (by simp) (Below.refl _ _) hX))
 · intro Lk ak ww hL hdd haa hF hK hV hX Nk Qk hN; refine wnt rfl ?_
   exact wp_move rfl (ev (hF.g rfl s3)) (hN _ _ hK rfl (hXb Lk ak ww _ (some 18) _ (by simp) (Below.refl _ _) hX))
 · intro Lk ak ww hL hdd haa hF hK hV hX Nk Qk hN; refine wnt rfl ?_
   exact wp_move rfl (ev (hF.g rfl s4)) (hN _ _ hK rfl (hXb Lk ak ww _ (some 19) _ (by simp) (Below.refl _ _) hX))
 · intro Lk ak ww hL hdd haa hF hK hV hX Nk Qk hN
   obtain ⟨x0, x1, x2, x3⟩ := hX
   refine wnt rfl ?_
   simp [go_sem, Array.getD_eq_getD_getElem?, (show ak.tmps[17]?.getD undef = _ from hV 0 _ rfl (hdd 0 rfl)), (show ak.tmps[18]?.getD undef = _ from hV 1 _ rfl (hdd 1 rfl)), (show ak.tmps[19]?.getD undef = _ from hV 2 _ rfl (hdd 2 rfl))]
   refine (iPossibleStates_c s dx dy ww hsi).mono ?_
   rintro x wx ⟨_, rfl, ⟨A1, c1, rfl, f0⟩, hb⟩
   have f1 := New.mono (show New 57 3 spotC wx ww.heap.size (.slice A1 ((possStates s dx dy).getD []).length c1) ((possStates s dx dy).getD []) from ⟨_, _, rfl, f0⟩) hK.size
   exact (hN _ _ (hK.call hb) trivial ⟨(fun _ => by rw [put_get_self (hF.lt (by rw [hz]; decide))]; exact ⟨A1, c1, rfl, f1⟩), (fun h => by rw [put_ne' (by decide)]; obtain ⟨A1', c1', e, f1'⟩ := x1 h; exact ⟨A1', c1', e, f1'.below hb (Nat.le_refl _)⟩), (fun h => by rw [put_ne' (by decide)]; obtain ⟨A1', c1', e, f1'⟩ := x2 h; exact ⟨A1', c1', e, f1'.below hb (Nat.le_refl _)⟩), (fun h => by rw [put_ne' (by decide)]; obtain ⟨A1', c1', e, f1'⟩ := x3 h; exact ⟨A1', c1', e, f1'.below hb (Nat.le_refl _)⟩)⟩)
 · intro Lk ak ww hL hdd haa hF hK hV hX Nk Qk hN
   obtain ⟨x0, x1, x2, x3⟩ := hX
   refine wnt rfl ?_
   obtain ⟨A1, c1, ee3, f1⟩ := x0 (hdd 3 rfl)
   exact wp_move rfl (ev ee3) (hN _ _ hK trivial ⟨(fun h => by rw [put_ne' (by decide)]; obtain ⟨A1', c1', e, f1'⟩ := x0 h; exact ⟨A1', c1', e, f1'.below (Below.refl _ _) (Nat.le_refl _)⟩), (fun _ => by rw [put_get_self (hF.lt (by rw [hz]; decide))]; exact ⟨A1, c1, rfl, f1⟩), (fun h => by rw [put_ne' (by decide)]; obtain ⟨A1', c1', e, f1'⟩ := x2 h; exact ⟨A1', c1', e, f1'.below (Below.refl _ _) (Nat.le_refl _)⟩), (fun h => by rw [put_ne' (by decide)]; obtain ⟨A1', c1', e, f1'⟩ := x3 h; exact ⟨A1', c1', e, f1'.below (Below.refl _ _) (Nat.le_refl _)⟩)⟩)
 · intro Lk ak ww hL hdd haa hF hK hV hX Nk Qk hN
   obtain ⟨x0, x1, x2, x3⟩ := hX
   refine wnt rfl ?_
   obtain ⟨A1, c1, ee4, f1⟩ := x1 (hdd 4 rfl)
   exact wp_extract rfl (ev ee4) rfl (hN _ _ hK trivial ⟨(fun h => by rw [put_ne' (by decide)]; obtain ⟨A1', c1', e, f1'⟩ := x0 h; exact ⟨A1', c1', e, f1'.below (Below.refl _ _) (Nat.le_refl _)⟩), (fun h => by rw [put_ne' (by decide)]; obtain ⟨A1', c1', e, f1'⟩ := x1 h; exact ⟨A1', c1', e, f1'.below (Below.refl _ _) (Nat.le_refl _)⟩), (fun _ => by rw [put_get_self (hF.lt (by rw [hz]; decide))]; exact ⟨A1, c1, rfl, f1⟩), (fun h => by rw [put_ne' (by decide)]; obtain ⟨A1', c1', e, f1'⟩ := x3 h; exact ⟨A1', c1', e, f1'.below (Below.refl _ _) (Nat.le_refl _)⟩)⟩)
 · intro Lk ak ww hL hdd haa hF hK hV hX Nk Qk hN
   obtain ⟨x0, x1, x2, x3⟩ := hX
   refine wnt rfl ?_
   obtain ⟨A1, c1, ee4, f1⟩ := x1 (hdd 4 rfl)
   exact wp_extract rfl (ev ee4) rfl (hN _ _ hK rfl (hXb Lk ak ww _ (some 22) _ (by simp) (Below.refl _ _) ⟨x0, x1, x2, x3⟩))
 · intro Lk ak ww hL hdd haa hF hK hV hX Nk Qk hN
   obtain ⟨x0, x1, x2, x3⟩ := hX
   refine wnt rfl ?_
   obtain ⟨A1, c1, ee5, f1⟩ := x2 (hdd 5 rfl)
   exact wp_assign rfl (ev ee5) (hN _ _ hK trivial ⟨(fun h => by rw [put_ne' (by decide)]; obtain ⟨A1', c1', e, f1'⟩ := x0 h; exact ⟨A1', c1', e, f1'.below (Below.refl _ _) (Nat.le_refl _)⟩), (fun h => by rw [put_ne' (by decide)]; obtain ⟨A1', c1', e, f1'⟩ := x1 h; exact ⟨A1', c1', e, f1'.below (Below.refl _ _) (Nat.le_refl _)⟩), (fun h => by rw [put_ne' (by decide)]; obtain ⟨A1', c1', e, f1'⟩ := x2 h; exact ⟨A1', c1', e, f1'.below (Below.refl _ _) (Nat.le_refl _)⟩), (fun _ => by rw [put_get_self (hF.lt (by rw [hz]; decide))]; exact ⟨A1, c1, rfl, f1⟩)⟩)
 · intro Lk ak ww hL hdd haa hF hK hV hX Nk Qk hN; refine wnt rfl ?_
   exact wp_assign rfl (ev (hV 6 _ rfl (hdd 6 rfl))) (hN _ _ hK rfl (hXb Lk ak ww _ (some 13) _ (by simp) (Below.refl _ _) hX))
 intro L a7 w8 hL hF hK hV hX
 obtain ⟨x0, x1, x2, x3⟩ := hX
 replace hz := hF.size.trans hz
 replace hdf := hF.defers.trans hdf
 replace s5 := hF.g rfl s5
 replace s6 := hF.g rfl s6
 replace s10 := hF.g rfl s10
 have s13 : a7.tmps[13]?.getD undef = .bool ((possStates s dx dy).isSome) := hV 8 _ rfl
 replace b3 := b3.kp hK (by simp)
 replace b4 := b4.kp hK (by simp)
 replace b6 := b6.kp hK (by simp)
 obtain ⟨A1, c1, s12, N1⟩ := x3 (hL 7 (by decide))
 have i1 : ∀ p, A1 = some p → p.block < w8.heap.size := fun p hp => (N1.blk p hp).2
 have zw8 := hK.size
 replace hZ := Nat.le_refl w8.heap.size
 replace hB := hK.below0 hB
 clear hF hK hV hL x0 x1 x2 x3 hXb s3 s4 s7 b5
 refine th_n ?_
 refine wp_seq ?_
 have hXb : ∀ (L : Nat → Bool) (aa : Act) (ww w' : World) (k : Option Nat) (v : Value), (∀ s ∈ [14, 23, 26, 27], k ≠ some s) → Below ww.heap.size ww w' → (L 2 = true → (fun ww v => ∃ A2 c2 R2, v = .tuple #[.agg #[.slice A2 R2.length c2], .bool (robOk r p)] ∧ (robOk r p = true → R2 = rpR r p) ∧ R2.length ≤ 40 ∧ New 111 3 halfC ww w8.heap.size (.slice A2 R2.length c2) R2) ww (aa.tmps[26]?.getD undef)) ∧ (L 3 = true → (fun ww v => ∃ A2 c2 R2, v = .tuple #[.agg #[.slice A2 R2.length c2], .bool (robOk r p)] ∧ (robOk r p = true → R2 = rpR r p) ∧ R2.length ≤ 40 ∧ New 111 3 halfC ww w8.heap.size (.slice A2 R2.length c2) R2) ww (aa.tmps[23]?.getD undef)) ∧ (L 4 = true → (fun ww v => ∃ A2 c2 R2, v = .agg #[.slice A2 R2.length c2] ∧ (robOk r p = true → R2 = rpR r p) ∧ R2.length ≤ 40 ∧ New 111 3 halfC ww w8.heap.size (.slice A2 R2.length c2) R2) ww (aa.tmps[27]?.getD undef)) ∧ (L 6 = true → BoxX w8 aa ww 14 37 [.slice none 0 0] (L 7) (fun ww vs => ∃ A2 c2 R2, vs = [.slice A2 R2.length c2] ∧ (robOk r p = true → R2 = rpR r p) ∧ R2.length ≤ 40 ∧ New 111 3 halfC ww w8.heap.size (.slice A2 R2.length c2) R2)) → (L 2 = true → (fun ww v => ∃ A2 c2 R2, v = .tuple #[.agg #[.slice A2 R2.length c2], .bool (robOk r p)] ∧ (robOk r p = true → R2 = rpR r p) ∧ R2.length ≤ 40 ∧ New 111 3 halfC ww w8.heap.size (.slice A2 R2.length c2) R2) w' ((aa.put k v).tmps[26]?.getD undef)) ∧ (L 3 = true → (fun ww v => ∃ A2 c2 R2, v = .tuple #[.agg #[.slice A2 R2.length c2], .bool (robOk r p)] ∧ (robOk r p = true → R2 = rpR r p) ∧ R2.length ≤ 40 ∧ New 111 3 halfC ww w8.heap.size (.slice A2 R2.length c2) R2) w' ((aa.put k v).tmps[23]?.getD undef)) ∧ (L 4 = true → (fun ww v => ∃ A2 c2 R2, v = .agg #[.slice A2 R2.length c2] ∧ (robOk r p = true → R2 = rpR r p) ∧ R2.length ≤ 40 ∧ New 111 3 halfC ww w8.heap.size (.slice A2 R2.length c2) R2) w' ((aa.put k v).tmps[27]?.getD undef)) ∧ (L 6 = true → BoxX w8 (aa.put k v) w' 14 37 [.slice none 0 0] (L 7) (fun ww vs => ∃ A2 c2 R2, vs = [.slice A2 R2.length c2] ∧ (robOk r p = true → R2 = rpR r p) ∧ R2.length ≤ 40 ∧ New 111 3 halfC ww w8.heap.size (.slice A2 R2.length c2) R2)) := by
  intro L aa ww w' k v hk hb hX
  obtain ⟨x0, x1, x2, x3⟩ := hX
  exact ⟨(fun h => by rw [put_ne' (hk 26 (by simp))]; obtain ⟨A2', c2', R2', e, f2'⟩ := x0 h; exact ⟨A2', c2', R2', e, And.intro f2'.1 (And.intro f2'.2.1 (f2'.2.2.below hb (Nat.le_refl _)))⟩), (fun h => by rw [put_ne' (hk 23 (by simp))]; obtain ⟨A2', c2', R2', e, f2'⟩ := x1 h; exact ⟨A2', c2', R2', e, And.intro f2'.1 (And.intro f2'.2.1 (f2'.2.2.below hb (Nat.le_refl _)))⟩), (fun h => by rw [put_ne' (hk 27 (by simp))]; obtain ⟨A2', c2', R2', e, f2'⟩ := x2 h; exact ⟨A2', c2', R2', e, And.intro f2'.1 (And.intro f2'.2.1 (f2'.2.2.below hb (Nat.le_refl _)))⟩), (fun h => ((x3 h).bel hb (fun _ ⟨A2', c2', R2', e, f2'⟩ => ⟨A2', c2', R2', e, And.intro f2'.1 (And.intro f2'.2.1 (f2'.2.2.below hb (Nat.le_refl _)))⟩)).put (hk 14 (by simp)) _)⟩
 refine wp_regJ (by kernel_rfl) [24, 25, 26, 23, 27, 28, 14, 0, 15] [some (roomV r ra), some (.agg #[.slice b.A p.length b.c]), none, none, none, some (.bool (robOk r p)), none, none, some (.bool (robOk r p))] ((List.range 9).map List.range) [24, 25, 26, 23, 27, 28, 14, 15] [0, 1, 2, 3, 4, 5, 6, 7, 8] [] (fun L aa ww => (L 2 = true → (fun ww v => ∃ A2 c2 R2, v = .tuple #[.agg #[.slice A2 R2.length c2], .bool (robOk r p)] ∧ (robOk r p = true → R2 = rpR r p) ∧ R2.length ≤ 40 ∧ New 111 3 halfC ww w8.heap.size (.slice A2 R2.length c2) R2) ww (aa.tmps[26]?.getD undef)) ∧ (L 3 = true → (fun ww v => ∃ A2 c2 R2, v = .tuple #[.agg #[.slice A2 R2.length c2], .bool (robOk r p)] ∧ (robOk r p = true → R2 = rpR r p) ∧ R2.length ≤ 40 ∧ New 111 3 halfC ww w8.heap.size (.slice A2 R2.length c2) R2) ww (aa.tmps[23]?.getD undef)) ∧ (L 4 = true → (fun ww v => ∃ A2 c2 R2, v = .agg #[.slice A2 R2.length c2] ∧ (robOk r p = true → R2 = rpR r p) ∧ R2.length ≤ 40 ∧ New 111 3 halfC ww w8.heap.size (.slice A2 R2.length c2) R2) ww (aa.tmps[27]?.getD undef)) ∧ (L 6 = true → BoxX w8 aa ww 14 37 [.slice none 0 0] (L 7) (fun ww vs => ∃ A2 c2 R2, vs = [.slice A2 R2.length c2] ∧ (robOk r p = true → R2 = rpR r p) ∧ R2.length ≤ 40 ∧ New 111 3 halfC ww w8.heap.size (.slice A2 R2.length c2) R2))) (by kernel_rfl) (by rw [hz]; decide) ?_ (.cons ?_ (.cons ?_ (.cons ?_ (.cons ?_ (.cons ?_ (.cons ?_ (.cons ?_ (.cons ?_ (.cons ?_ .nil))))))))) ?_
 · exact fun _ h => ⟨(fun h => by cases h), (fun h => by cases h), (fun h => by cases h), (fun h => by cases h)⟩
 · intro Lk ak ww hL hdd haa hF hK hV hX Nk Qk hN; refine wnt rfl ?_
   simp [go_sem, Array.getD_eq_getD_getElem?, hF.g rfl s5, (b3.kp hK (by simp)).cell]
   exact (hN _ _ hK rfl (hXb Lk ak ww _ (some 24) _ (by simp) (Below.refl _ _) hX))
 · intro Lk ak ww hL hdd haa hF hK hV hX Nk Qk hN; refine wnt rfl ?_
   simp [go_sem, Array.getD_eq_getD_getElem?, hF.g rfl s6, (b4.kp hK (by simp)).cell]
   exact (hN _ _ hK rfl (hXb Lk ak ww _ (some 25) _ (by simp) (Below.refl _ _) hX))
 · intro Lk ak ww hL hdd haa hF hK hV hX Nk Qk hN
   obtain ⟨x0, x1, x2, x3⟩ := hX
   refine wnt rfl ?_
   simp [go_sem, Array.getD_eq_getD_getElem?, (show ak.tmps[24]?.getD undef = _ from hV 0 _ rfl (hdd 0 rfl)), (show ak.tmps[25]?.getD undef = _ from hV 1 _ rfl (hdd 1 rfl))]
   have hBi := hK.below0 hB
   refine (iRobustOf_c r p ra b ww hn hin (hs.below hBi) hnl hlp hpi (hsp.below hBi) hnb).mono ?_
   rintro x wx ⟨_, R2, rfl, f8, f9, ⟨A2, c2, rfl, f0⟩, hb⟩
   have f2 : (robOk r p = true → R2 = rpR r p) ∧ R2.length ≤ 40 ∧ New 111 3 halfC wx _ (.slice A2 R2.length c2) R2 := ⟨f8, f9, New.mono (show New 111 3 halfC wx ww.heap.size (.slice A2 R2.length c2) R2 from ⟨_, _, rfl, f0⟩) hK.size⟩
   exact (hN _ _ (hK.call hb) trivial ⟨(fun _ => by rw [put_get_self (hF.lt (by rw [hz]; decide))]; exact ⟨A2, c2, R2, rfl, f2⟩), (fun h => by rw [put_ne' (by decide)]; obtain ⟨A2', c2', R2', e, f2'⟩ := x1 h; exact ⟨A2', c2', R2', e, And.intro f2'.1 (And.intro f2'.2.1 (f2'.2.2.below hb (Nat.le_refl _)))⟩), (fun h => by rw [put_ne' (by decide)]; obtain ⟨A2', c2', R2', e, f2'⟩ := x2 h; exact ⟨A2', c2', R2', e, And.intro f2'.1 (And.intro f2'.2.1 (f2'.2.2.below hb (Nat.le_refl _)))⟩), (fun h => ((x3 h).bel hb (fun _ ⟨A2', c2', R2', e, f2'⟩ => ⟨A2', c2', R2', e, And.intro f2'.1 (And.intro f2'.2.1 (f2'.2.2.below hb (Nat.le_refl _)))⟩)).put (by decide) _)⟩)
 · intro Lk ak ww hL hdd haa hF hK hV hX Nk Qk hN
   obtain ⟨x0, x1, x2, x3⟩ := hX
   refine wnt rfl ?_
   obtain ⟨A2, c2, R2, ee2, f2⟩ := x0 (hdd 2 rfl)
   exact wp_move rfl (ev ee2) (hN _ _ hK trivial ⟨(fun h => by rw [put_ne' (by decide)]; obtain ⟨A2', c2', R2', e, f2'⟩ := x0 h; exact ⟨A2', c2', R2', e, And.intro f2'.1 (And.intro f2'.2.1 (f2'.2.2.below (Below.refl _ _) (Nat.le_refl _)))⟩), (fun _ => by rw [put_get_self (hF.lt (by rw [hz]; decide))]; exact ⟨A2, c2, R2, rfl, f2⟩), (fun h => by rw [put_ne' (by decide)]; obtain ⟨A2', c2', R2', e, f2'⟩ := x2 h; exact ⟨A2', c2', R2', e, And.intro f2'.1 (And.intro f2'.2.1 (f2'.2.2.below (Below.refl _ _) (Nat.le_refl _)))⟩), (fun h => ((x3 h).bel (Below.refl _ _) (fun _ ⟨A2', c2', R2', e, f2'⟩ => ⟨A2', c2', R2', e, And.intro f2'.1 (And.intro f2'.2.1 (f2'.2.2.below (Below.refl _ _) (Nat.le_refl _)))⟩)).put (by decide) _)⟩)
 · intro Lk ak ww hL hdd haa hF hK hV hX Nk Qk hN
   obtain ⟨x0, x1, x2, x3⟩ := hX
   refine wnt rfl ?_
   obtain ⟨A2, c2, R2, ee3, f2⟩ := x1 (hdd 3 rfl)
   exact wp_extract rfl (ev ee3) rfl (hN _ _ hK trivial ⟨(fun h => by rw [put_ne' (by decide)]; obtain ⟨A2', c2', R2', e, f2'⟩ := x0 h; exact ⟨A2', c2', R2', e, And.intro f2'.1 (And.intro f2'.2.1 (f2'.2.2.below (Below.refl _ _) (Nat.le_refl _)))⟩), (fun h => by rw [put_ne' (by decide)]; obtain ⟨A2', c2', R2', e, f2'⟩ := x1 h; exact ⟨A2', c2', R2', e, And.intro f2'.1 (And.intro f2'.2.1 (f2'.2.2.below (Below.refl _ _) (Nat.le_refl _)))⟩), (fun _ => by rw [put_get_self (hF.lt (by rw [hz]; decide))]; exact ⟨A2, c2, R2, rfl, f2⟩), (fun h => ((x3 h).bel (Below.refl _ _) (fun _ ⟨A2', c2', R2', e, f2'⟩ => ⟨A2', c2', R2', e, And.intro f2'.1 (And.intro f2'.2.1 (f2'.2.2.below (Below.refl _ _) (Nat.le_refl _)))⟩)).put (by decide) _)⟩)
 · intro Lk ak ww hL hdd haa hF hK hV hX Nk Qk hN
   obtain ⟨x0, x1, x2, x3⟩ := hX
   refine wnt rfl ?_
   obtain ⟨A2, c2, R2, ee3, f2⟩ := x1 (hdd 3 rfl)
   exact wp_extract rfl (ev ee3) rfl (hN _ _ hK rfl (hXb Lk ak ww _ (some 28) _ (by simp) (Below.refl _ _) ⟨x0, x1, x2, x3⟩))
 · intro Lk ak ww hL hdd haa hF hK hV hX Nk Qk hN
   obtain ⟨x0, x1, x2, x3⟩ := hX
   refine wnt rfl ?_
   simp [go_sem]
   exact hN _ _ (hK.alloc _) trivial ⟨(fun h => by rw [put_ne' (by decide)]; obtain ⟨A2', c2', R2', e, f2'⟩ := x0 h; exact ⟨A2', c2', R2', e, And.intro f2'.1 (And.intro f2'.2.1 (f2'.2.2.below (below_al (Below.refl _ _) _) (Nat.le_refl _)))⟩), (fun h => by rw [put_ne' (by decide)]; obtain ⟨A2', c2', R2', e, f2'⟩ := x1 h; exact ⟨A2', c2', R2', e, And.intro f2'.1 (And.intro f2'.2.1 (f2'.2.2.below (below_al (Below.refl _ _) _) (Nat.le_refl _)))⟩), (fun h => by rw [put_ne' (by decide)]; obtain ⟨A2', c2', R2', e, f2'⟩ := x2 h; exact ⟨A2', c2', R2', e, And.intro f2'.1 (And.intro f2'.2.1 (f2'.2.2.below (below_al (Below.refl _ _) _) (Nat.le_refl _)))⟩), (fun _ => by rw [show upd Lk 6 7 = false from haa 7 rfl]; exact BoxX.new (s := 14) (hF.lt (by rw [hz]; decide)) hK.size [.slice none 0 0])⟩
 · intro Lk ak ww hL hdd haa hF hK hV hX Nk Qk hN
   obtain ⟨x0, x1, x2, x3⟩ := hX
   refine wnt rfl ?_
   obtain ⟨A2, c2, R2, ee4, f2⟩ := x2 (hdd 4 rfl)
   obtain ⟨g, eg, hg, y, _⟩ := x3 (hdd 6 rfl)
   have HT := y hL
   simp [go_sem, Array.getD_eq_getD_getElem?, ee4, eg, HT.cell, HT.frz]
   have f2 := And.intro f2.1 (And.intro f2.2.1 (f2.2.2.otherC (f2.2.2.typ HT (by decide)) [.slice A2 R2.length c2] 0))
   exact hN undef _ (hK.store (.inl hg) [.slice A2 R2.length c2] 0) trivial ⟨(fun h => by obtain ⟨A2', c2', R2', e, f2'⟩ := x0 h; exact ⟨A2', c2', R2', e, And.intro f2'.1 (And.intro f2'.2.1 (f2'.2.2.otherC (f2'.2.2.typ HT (by decide)) [.slice A2 R2.length c2] 0))⟩), (fun h => by obtain ⟨A2', c2', R2', e, f2'⟩ := x1 h; exact ⟨A2', c2', R2', e, And.intro f2'.1 (And.intro f2'.2.1 (f2'.2.2.otherC (f2'.2.2.typ HT (by decide)) [.slice A2 R2.length c2] 0))⟩), (fun h => by obtain ⟨A2', c2', R2', e, f2'⟩ := x2 h; exact ⟨A2', c2', R2', e, And.intro f2'.1 (And.intro f2'.2.1 (f2'.2.2.otherC (f2'.2.2.typ HT (by decide)) [.slice A2 R2.length c2] 0))⟩), (fun _ => BoxX.set eg hg HT (us := [.slice A2 R2.length c2]) rfl ⟨A2, c2, R2, rfl, f2⟩)⟩
 · intro Lk ak ww hL hdd haa hF hK hV hX Nk Qk hN; refine wnt rfl ?_
   exact wp_assign rfl (ev (hV 5 _ rfl (hdd 5 rfl))) (hN _ _ hK rfl (hXb Lk ak ww _ (some 15) _ (by simp) (Below.refl _ _) hX))
 intro L a9 w10 hL hF hK hV hX
 obtain ⟨x0, x1, x2, x3⟩ := hX
 replace hz := hF.size.trans hz
 replace hdf := hF.defers.trans hdf
 replace s5 := hF.g rfl s5
 replace s10 := hF.g rfl s10
 replace s13 := hF.g rfl s13
 replace s12 := hF.g rfl s12
 have s15 : a9.tmps[15]?.getD undef = .bool (robOk r p) := hV 8 _ rfl
 replace b3 := b3.kp hK (by simp)
 replace b6 := b6.kp hK (by simp)
 obtain ⟨g11, s14, lg11, -, b11⟩ := x3 (hL 6 (by decide))
 obtain ⟨_, b11, A2, c2, R2, rfl, N2⟩ := b11 (hL 7 (by decide))
 obtain ⟨E2r, E2l, N2⟩ := N2
 have i2 : ∀ p, A2 = some p → p.block < w10.heap.size := fun p hp => (N2.blk p hp).2
 have ug11 := b11.lt
 replace N1 := N1.below hK.toBelow (Nat.le_refl _)
 have zw10 := hK.size
 replace hZ := Nat.le_refl w10.heap.size
 replace hB := hK.below0 hB
 clear hF hK hV hL x0 x1 x2 x3 hXb s6 b4
 refine th_n ?_
 refine wp_seq ?_
 refine wp_seq ?_
 refine wp_regJ (by kernel_rfl) [29, 30, 31, 32, 33, 34] [some (.bool ((possStates s dx dy).isSome)), some (.bool (!((possStates s dx dy).isSome))), some (.bool (!((possStates s dx dy).isSome))), some ((bif !((possStates s dx dy).isSome) then undef else (.bool (robOk r p) : Value))), some ((bif !((possStates s dx dy).isSome) then undef else (.bool (!(robOk r p)) : Value))), some (.bool (!((possStates s dx dy).isSome) || !(robOk r p)))] ((List.range 6).map List.range) [29, 30, 31, 32, 33, 34] [0, 1, 2, 3, 4, 5] [] (fun _ _ _ => True) (by kernel_rfl) (by rw [hz]; decide) ?_ (.cons ?_ (.cons ?_ (.cons ?_ (.cons ?_ (.cons ?_ (.cons ?_ .nil)))))) ?_
 · exact fun _ _ => trivial
 · intro Lk ak ww hL hdd haa hF hK hV hX Nk Qk hN; refine wnt rfl ?_
   exact wp_move rfl (ev (hF.g rfl s13)) (hN _ _ hK rfl trivial)
 · intro Lk ak ww hL hdd haa hF hK hV hX Nk Qk hN; refine wnt rfl ?_
   exact wp_not rfl (ev (hV 0 _ rfl (hdd 0 rfl))) (hN _ _ hK rfl trivial)
 · intro Lk ak ww hL hdd haa hF hK hV hX Nk Qk hN; refine wnt rfl ?_
   exact wp_move rfl (ev (hV 1 _ rfl (hdd 1 rfl))) (hN _ _ hK rfl trivial)
 · intro Lk ak ww hL hdd haa hF hK hV hX Nk Qk hN
   rcases Bool.eq_false_or_eq_true (!((possStates s dx dy).isSome)) with qg | qg
   · refine wnt_n rfl rfl rfl (vb (hV 2 _ rfl (hdd 2 rfl)) qg) (by decide) ?_
     exact hN _ _ hK (bif_t qg).symm trivial
   · refine wnt_y rfl rfl rfl (vb (hV 2 _ rfl (hdd 2 rfl)) qg) ?_
     exact wp_move rfl (ev (hF.g rfl s15)) (hN _ _ hK (bif_f qg).symm trivial)
 · intro Lk ak ww hL hdd haa hF hK hV hX Nk Qk hN
   rcases Bool.eq_false_or_eq_true (!((possStates s dx dy).isSome)) with qg | qg
   · refine wnt_n rfl rfl rfl (vb (hV 2 _ rfl (hdd 2 rfl)) qg) (by decide) ?_
     exact hN _ _ hK (bif_t qg).symm trivial
   · refine wnt_y rfl rfl rfl (vb (hV 2 _ rfl (hdd 2 rfl)) qg) ?_
     exact wp_not rfl (ev ((hV 3 _ rfl (hdd 3 rfl)).trans (bif_f qg))) (hN _ _ hK (bif_f qg).symm trivial)
 · intro Lk ak ww hL hdd haa hF hK hV hX Nk Qk hN; refine wnt rfl ?_
   exact wp_pick rfl (ev (hV 2 _ rfl (hdd 2 rfl))) (fun h => vor_t h) (fun h => (ev ((hV 4 _ rfl (hdd 4 rfl)).trans (bif_f h))).trans (vor_f h)) (hN _ _ hK rfl trivial)
 intro L a12 w13 hL hF hK hV hX
 replace hz := hF.size.trans hz
 replace hdf := hF.defers.trans hdf
 replace s5 := hF.g rfl s5
 replace s10 := hF.g rfl s10
 replace s12 := hF.g rfl s12
 replace s14 := hF.g rfl s14
 have s34 : a12.tmps[34]?.getD undef = .bool (!((possStates s dx dy).isSome) || !(robOk r p)) := hV 5 _ rfl
 replace b3 := b3.kp hK (by simp)
 replace b6 := b6.kp hK (by simp)
 replace b11 := b11.kp hK (by simp)
 replace N1 := N1.below hK.toBelow (Nat.le_refl _)
 replace N2 := N2.below hK.toBelow (Nat.le_refl _)
 replace hZ := Nat.le_trans hZ hK.size
 replace hB := hK.below0 hB
 clear hF hK hV hL hX s13 s15
 refine th_n ?_
 rcases Bool.eq_false_or_eq_true (!((possStates s dx dy).isSome) || !(robOk r p)) with q14 | q14
 · skip
   refine wp_cond_true (ev (vb s34 q14)) ?_
   refine wp_seq ?_
   refine wp_regJ (by kernel_rfl) [35, 0, 11] [some (.agg #[.int .i64 0, .int .i64 0, .int .i64 0, .int .i64 0]), none, some (.bool false)] ((List.range 3).map List.range) [35, 11] [0, 1, 2] [(w.heap.size + 3)] (fun L aa ww => PreX ww (w.heap.size + 3) 54 [.int .i64 0, .int .i64 0, .int .i64 0, .int .i64 0] (L 1) (fun _ vs => vs = [.int .i64 0, .int .i64 0, .int .i64 0, .int .i64 0])) (by kernel_rfl) (by rw [hz]; decide) ?_ (.cons ?_ (.cons ?_ (.cons ?_ .nil))) ?_
   · exact fun _ h => (⟨fun _ => b6.kp h (by simp), (fun h => by cases h)⟩)
   · intro Lk ak ww hL hdd haa hF hK hV hX Nk Qk hN; refine wnt rfl ?_
     simp [go_sem]
     exact (hN _ _ hK rfl (hX.bel (Below.refl _ _) (fun _ h => h)))
   · intro Lk ak ww hL hdd haa hF hK hV hX Nk Qk hN
     have x0 := hX
     refine wnt rfl ?_
     have HT := x0.1 hL
     simp [go_sem, Array.getD_eq_getD_getElem?, (show ak.tmps[35]?.getD undef = _ from hV 0 _ rfl (hdd 0 rfl)), hF.g rfl s10, HT.cell, HT.frz]
     exact hN undef _ (hK.store (.inr (by simp)) [.int .i64 0, .int .i64 0, .int .i64 0, .int .i64 0] 0) trivial (PreX.set HT (us := [.int .i64 0, .int .i64 0, .int .i64 0, .int .i64 0]) rfl rfl)
   · intro Lk ak ww hL hdd haa hF hK hV hX Nk Qk hN; refine wnt rfl ?_
     exact wp_assign rfl rfl (hN _ _ hK rfl (hX.bel (Below.refl _ _) (fun _ h => h)))
   intro L a15 w16 hL hF hK hV hX
   have x0 := hX
   replace hz := hF.size.trans hz
   replace hdf := hF.defers.trans hdf
   replace s10 := hF.g rfl s10
   have s11 : a15.tmps[11]?.getD undef = .bool false := hV 2 _ rfl
   clear b6
   obtain ⟨_, b6, rfl⟩ := x0.2 (hL 1 (by decide))
   replace hZ := Nat.le_trans hZ hK.size
   replace hB := hK.below hB hB.size (by simp <;> omega)
   clear hF hK hV hL x0 s5 s12 s14 s34 b3 b11 N1 i1 N2 i2
   refine th_n ?_
   refine wp_ret ?_
   refine th_r ?_
   refine bodyPost_ret (v := .tuple #[.agg #[.int .i64 0, .int .i64 0, .int .i64 0, .int .i64 0], .bool false]) (by simp [results, Tryz.results26, go_sem, Array.getD_eq_getD_getElem?, s10, b6.cell, s11]) hdf ?_
   exact ⟨by rw [admDrift_no q14]; rfl, hB⟩
 · skip
   refine wp_cond_false (ev (vb s34 q14)) ?_
   refine wp_skip ?_
   refine th_n ?_
   refine wp_seq ?_
   refine wp_regJ (by kernel_rfl) [36, 37, 38, 39, 40, 41, 0, 11] [some (roomV r ra), some (.agg #[.slice A2 R2.length c2]), some (.slice A1 (((possStates s dx dy).getD []).length) c1), some (.tuple #[.agg #[.int .i64 (((accS (fun t => admit r R2 t) ((possStates s dx dy).getD []) ((possStates s dx dy).getD []).length).getD span0).low.n), .int .i64 (((accS (fun t => admit r R2 t) ((possStates s dx dy).getD []) ((possStates s dx dy).getD []).length).getD span0).low.d), .int .i64 (((accS (fun t => admit r R2 t) ((possStates s dx dy).getD []) ((possStates s dx dy).getD []).length).getD span0).high.n), .int .i64 (((accS (fun t => admit r R2 t) ((possStates s dx dy).getD []) ((possStates s dx dy).getD []).length).getD span0).high.d)], .bool ((accS (fun t => admit r R2 t) ((possStates s dx dy).getD []) ((possStates s dx dy).getD []).length).isSome)]), some (.agg #[.int .i64 (((accS (fun t => admit r R2 t) ((possStates s dx dy).getD []) ((possStates s dx dy).getD []).length).getD span0).low.n), .int .i64 (((accS (fun t => admit r R2 t) ((possStates s dx dy).getD []) ((possStates s dx dy).getD []).length).getD span0).low.d), .int .i64 (((accS (fun t => admit r R2 t) ((possStates s dx dy).getD []) ((possStates s dx dy).getD []).length).getD span0).high.n), .int .i64 (((accS (fun t => admit r R2 t) ((possStates s dx dy).getD []) ((possStates s dx dy).getD []).length).getD span0).high.d)]), some (.bool ((accS (fun t => admit r R2 t) ((possStates s dx dy).getD []) ((possStates s dx dy).getD []).length).isSome)), none, some (.bool ((accS (fun t => admit r R2 t) ((possStates s dx dy).getD []) ((possStates s dx dy).getD []).length).isSome))] ((List.range 8).map List.range) [36, 37, 38, 39, 40, 41, 11] [0, 1, 2, 3, 4, 5, 6, 7] [(w.heap.size + 3)] (fun L aa ww => PreX ww (w.heap.size + 3) 54 [.int .i64 0, .int .i64 0, .int .i64 0, .int .i64 0] (L 6) (fun _ vs => vs = [.int .i64 (((accS (fun t => admit r R2 t) ((possStates s dx dy).getD []) ((possStates s dx dy).getD []).length).getD span0).low.n), .int .i64 (((accS (fun t => admit r R2 t) ((possStates s dx dy).getD []) ((possStates s dx dy).getD []).length).getD span0).low.d), .int .i64 (((accS (fun t => admit r R2 t) ((possStates s dx dy).getD []) ((possStates s dx dy).getD []).length).getD span0).high.n), .int .i64 (((accS (fun t => admit r R2 t) ((possStates s dx dy).getD []) ((possStates s dx dy).getD []).length).getD span0).high.d)])) (by kernel_rfl) (by rw [hz]; decide) ?_ (.cons ?_ (.cons ?_ (.cons ?_ (.cons ?_ (.cons ?_ (.cons ?_ (.cons ?_ (.cons ?_ .nil)))))))) ?_
   · exact fun _ h => (⟨fun _ => b6.kp h (by simp), (fun h => by cases h)⟩)
   · intro Lk ak ww hL hdd haa hF hK hV hX Nk Qk hN; refine wnt rfl ?_
     simp [go_sem, Array.getD_eq_getD_getElem?, hF.g rfl s5, (b3.kp hK (by simp <;> omega)).cell]
     exact (hN _ _ hK rfl (hX.bel (Below.refl _ _) (fun _ h => h)))
   · intro Lk ak ww hL hdd haa hF hK hV hX Nk Qk hN; refine wnt rfl ?_
     simp [go_sem, Array.getD_eq_getD_getElem?, hF.g rfl s14, (b11.kp hK (by simp <;> omega)).cell]
     exact (hN _ _ hK rfl (hX.bel (Below.refl _ _) (fun _ h => h)))
   · intro Lk ak ww hL hdd haa hF hK hV hX Nk Qk hN; refine wnt rfl ?_
     exact wp_move rfl (ev (hF.g rfl s12)) (hN _ _ hK rfl (hX.bel (Below.refl _ _) (fun _ h => h)))
   · intro Lk ak ww hL hdd haa hF hK hV hX Nk Qk hN; refine wnt rfl ?_
     simp [go_sem, Array.getD_eq_getD_getElem?, (show ak.tmps[36]?.getD undef = _ from hV 0 _ rfl (hdd 0 rfl)), (show ak.tmps[37]?.getD undef = _ from hV 1 _ rfl (hdd 1 rfl)), (show ak.tmps[38]?.getD undef = _ from hV 2 _ rfl (hdd 2 rfl))]
     have hBi := hK.below hB hB.size (by simp <;> omega)
     refine (iAdmAll_c r R2 ((possStates s dx dy).getD []) ra ⟨A2, c2⟩ ⟨A1, c1⟩ ww (robOk_room (not_f (or_f2 q14))) (by rw [E2r (not_f (or_f2 q14))]; exact reg_ok (rpR_ok _ _)) E2l (possG (not_f (or_f1 q14))).2 (by have := (possG (not_f (or_f1 q14))).1; omega) (hs.below hBi) ((N2.kp hK i2 (by omega) (by simp <;> omega)).out halfC_len) ((N1.kp hK i1 (by omega) (by simp <;> omega)).out spotC_len)).mono ?_
     rintro x wx ⟨rfl, hb⟩
     exact (hN _ _ (hK.call hb) (optSpan_eq _) (hX.bel hb (fun _ h => h)))
   · intro Lk ak ww hL hdd haa hF hK hV hX Nk Qk hN; refine wnt rfl ?_
     exact wp_extract rfl (ev (hV 3 _ rfl (hdd 3 rfl))) rfl (hN _ _ hK rfl (hX.bel (Below.refl _ _) (fun _ h => h)))
   · intro Lk ak ww hL hdd haa hF hK hV hX Nk Qk hN; refine wnt rfl ?_
     exact wp_extract rfl (ev (hV 3 _ rfl (hdd 3 rfl))) rfl (hN _ _ hK rfl (hX.bel (Below.refl _ _) (fun _ h => h)))
   · intro Lk ak ww hL hdd haa hF hK hV hX Nk Qk hN
     have x0 := hX
     refine wnt rfl ?_
     have HT := x0.1 hL
     simp [go_sem, Array.getD_eq_getD_getElem?, (show ak.tmps[40]?.getD undef = _ from hV 4 _ rfl (hdd 4 rfl)), hF.g rfl s10, HT.cell, HT.frz]
     exact hN undef _ (hK.store (.inr (by simp)) [.int .i64 (((accS (fun t => admit r R2 t) ((possStates s dx dy).getD []) ((possStates s dx dy).getD []).length).getD span0).low.n), .int .i64 (((accS (fun t => admit r R2 t) ((possStates s dx dy).getD []) ((possStates s dx dy).getD []).length).getD span0).low.d), .int .i64 (((accS (fun t => admit r R2 t) ((possStates s dx dy).getD []) ((possStates s dx dy).getD []).length).getD span0).high.n), .int .i64 (((accS (fun t => admit r R2 t) ((possStates s dx dy).getD []) ((possStates s dx dy).getD []).length).getD span0).high.d)] 0) trivial (PreX.set HT (us := [.int .i64 (((accS (fun t => admit r R2 t) ((possStates s dx dy).getD []) ((possStates s dx dy).getD []).length).getD span0).low.n), .int .i64 (((accS (fun t => admit r R2 t) ((possStates s dx dy).getD []) ((possStates s dx dy).getD []).length).getD span0).low.d), .int .i64 (((accS (fun t => admit r R2 t) ((possStates s dx dy).getD []) ((possStates s dx dy).getD []).length).getD span0).high.n), .int .i64 (((accS (fun t => admit r R2 t) ((possStates s dx dy).getD []) ((possStates s dx dy).getD []).length).getD span0).high.d)]) rfl rfl)
   · intro Lk ak ww hL hdd haa hF hK hV hX Nk Qk hN; refine wnt rfl ?_
     exact wp_assign rfl (ev (hV 5 _ rfl (hdd 5 rfl))) (hN _ _ hK rfl (hX.bel (Below.refl _ _) (fun _ h => h)))
   intro L a17 w18 hL hF hK hV hX
   have x0 := hX
   replace hz := hF.size.trans hz
   replace hdf := hF.defers.trans hdf
   replace s10 := hF.g rfl s10
   have s11 : a17.tmps[11]?.getD undef = .bool ((accS (fun t => admit r R2 t) ((possStates s dx dy).getD []) ((possStates s dx dy).getD []).length).isSome) := hV 7 _ rfl
   clear b6
   obtain ⟨_, b6, rfl⟩ := x0.2 (hL 6 (by decide))
   replace N2 := N2.kp hK i2 (by omega) (by simp <;> omega)
   replace hZ := Nat.le_trans hZ hK.size
   replace hB := hK.below hB hB.size (by simp <;> omega)
   clear hF hK hV hL x0 s5 s12 s14 s34 b3 b11 N1 i1
   refine th_n ?_
   refine wp_ret ?_
   refine bodyPost_ret (v := .tuple #[.agg #[.int .i64 (((accS (fun t => admit r R2 t) ((possStates s dx dy).getD []) ((possStates s dx dy).getD []).length).getD span0).low.n), .int .i64 (((accS (fun t => admit r R2 t) ((possStates s dx dy).getD []) ((possStates s dx dy).getD []).length).getD span0).low.d), .int .i64 (((accS (fun t => admit r R2 t) ((possStates s dx dy).getD []) ((possStates s dx dy).getD []).length).getD span0).high.n), .int .i64 (((accS (fun t => admit r R2 t) ((possStates s dx dy).getD []) ((possStates s dx dy).getD []).length).getD span0).high.d)], .bool ((accS (fun t => admit r R2 t) ((possStates s dx dy).getD []) ((possStates s dx dy).getD []).length).isSome)]) (by simp [results, Tryz.results26, go_sem, Array.getD_eq_getD_getElem?, s10, b6.cell, s11]) hdf ?_
   exact ⟨by rw [admDrift_yes q14 E2r, optSpan_eq], hB⟩
set_option maxRecDepth 100000 in
set_option maxHeartbeats 3000000 in
theorem sAdmDrift_c (r : Room) (p : List Half) (s : Spot) (dx dy : Int) (ra : RoomA) (b : SlA) (w : World) (hn : roomLen r ≤ 1048576) (hin : RoomIn r) (hs : RoomSl w r ra) (hnl : RoomNil ra) (hlp : p.length ≤ 1048576) (hpi : ∀ h ∈ p, h.In) (hsp : Sl 3 halfC w b.A p) (hnb : b.A = none → b.c = 0) (hsi : s.In) :
    Calls Tryz.prog 24 #[roomV r ra, .agg #[.slice b.A p.length b.c], .agg #[.int .i64 s.x, .int .i64 s.y, .int .i64 s.d], .int .i64 dx, .int .i64 dy] w fun x w' => x = .returned (optSpanV (admDrift r p s dx dy)) ∧ Below w.heap.size w w' := by
 refine calls_v Tryz.func24 rfl (n := 71) Tryz.ntmps24 (by simp) ?_
 intro a0 hz hdf ha
 have s0 : a0.tmps[0]?.getD undef = roomV r ra := ha 0 _ rfl
 have s1 : a0.tmps[1]?.getD undef = .agg #[.slice b.A p.length b.c] := ha 1 _ rfl
 have s2 : a0.tmps[2]?.getD undef = .agg #[.int .i64 s.x, .int .i64 s.y, .int .i64 s.d] := ha 2 _ rfl
 have s3 : a0.tmps[3]?.getD undef = .int .i64 dx := ha 3 _ rfl
 have s4 : a0.tmps[4]?.getD undef = .int .i64 dy := ha 4 _ rfl
 clear ha
 have hB := Below.refl w.heap.size w
 have hZ := Nat.le_refl w.heap.size
 refine wp_seq ?_
 refine wp_entry [5, 6, 7, 10, 11] [.pointer (some ⟨w.heap.size, 0, none⟩), .pointer (some ⟨(w.heap.size + 1), 0, none⟩), .pointer (some ⟨(w.heap.size + 2), 0, none⟩), .pointer (some ⟨(w.heap.size + 3), 0, none⟩), .bool false] [some (.cells (roomC r ra).toArray 39), some (.cells [.slice b.A p.length b.c].toArray 37), some (.cells [.int .i64 s.x, .int .i64 s.y, .int .i64 s.d].toArray 57), some (.cells [.int .i64 0, .int .i64 0, .int .i64 0, .int .i64 0].toArray 54), none] [0, 1, 2, 3, 4] [5, 6, 7, 10, 11] [0, 1, 2, 3, 4] (by kernel_rfl) (by rw [hz]; decide) (.cons ?_ (.cons ?_ (.cons ?_ (.cons ?_ (.cons ?_ .nil))))) ?_
 · intro a w' hF hs N Q hN; simp [go_sem, Array.getD_eq_getD_getElem?, hF.g rfl s0]; rw [hs]; exact hN
 · intro a w' hF hs N Q hN; simp [go_sem, Array.getD_eq_getD_getElem?, hF.g rfl s1]; rw [hs]; exact hN
 · intro a w' hF hs N Q hN; simp [go_sem, Array.getD_eq_getD_getElem?, hF.g rfl s2]; rw [hs]; exact hN
 · intro a w' hF hs N Q hN; simp [go_sem]; rw [hs]; exact hN
 · intro a w' hF hs N Q hN; simp [go_sem]; exact hN
 intro a1 w2 hF hV hb hO
 replace hz := hF.size.trans hz
 replace hdf := hF.defers.trans hdf
 replace s3 := hF.g rfl s3
 replace s4 := hF.g rfl s4
 have s5 : a1.tmps[5]?.getD undef = .pointer (some ⟨w.heap.size, 0, none⟩) := hV 0 (by decide)
 have s6 : a1.tmps[6]?.getD undef = .pointer (some ⟨(w.heap.size + 1), 0, none⟩) := hV 1 (by decide)
 have s7 : a1.tmps[7]?.getD undef = .pointer (some ⟨(w.heap.size + 2), 0, none⟩) := hV 2 (by decide)
 have s10 : a1.tmps[10]?.getD undef = .pointer (some ⟨(w.heap.size + 3), 0, none⟩) := hV 3 (by decide)
 have b3 : HasT w2 w.heap.size 39 (roomC r ra) := hO 0 _ rfl
 have b4 : HasT w2 (w.heap.size + 1) 37 [.slice b.A p.length b.c] := hO 1 _ rfl
 have b5 : HasT w2 (w.heap.size + 2) 57 [.int .i64 s.x, .int .i64 s.y, .int .i64 s.d] := hO 2 _ rfl
 have b6 : HasT w2 (w.heap.size + 3) 54 [.int .i64 0, .int .i64 0, .int .i64 0, .int .i64 0] := hO 3 _ rfl
 have hG := b6.lt
 replace hB := below_tr hB hb
 have zw2 := Nat.le_trans hZ hb.size
 replace hZ := Nat.le_refl w2.heap.size
 clear hF hV hb hO s0 s1 s2
 refine th_n ?_
 refine wp_seq ?_
 have hXb : ∀ (L : Nat → Bool) (aa : Act) (ww w' : World) (k : Option Nat) (v : Value), (∀ s ∈ [12, 20, 24, 25], k ≠ some s) → Below ww.heap.size ww w' → (L 3 = true → (fun ww v => ∃ A1 c1, v = .tuple #[.slice A1 (((possStates s dx dy).getD []).length) c1, .bool ((possStates s dx dy).isSome)] ∧ New 57 3 spotC ww w2.heap.size (.slice A1 ((possStates s dx dy).getD []).length c1) ((possStates s dx dy).getD [])) ww (aa.tmps[24]?.getD undef)) ∧ (L 4 = true → (fun ww v => ∃ A1 c1, v = .tuple #[.slice A1 (((possStates s dx dy).getD []).length) c1, .bool ((possStates s dx dy).isSome)] ∧ New 57 3 spotC ww w2.heap.size (.slice A1 ((possStates s dx dy).getD []).length c1) ((possStates s dx dy).getD [])) ww (aa.tmps[20]?.getD undef)) ∧ (L 5 = true → (fun ww v => ∃ A1 c1, v = .slice A1 (((possStates s dx dy).getD []).length) c1 ∧ New 57 3 spotC ww w2.heap.size (.slice A1 ((possStates s dx dy).getD []).length c1) ((possStates s dx dy).getD [])) ww (aa.tmps[25]?.getD undef)) ∧ (L 7 = true → (fun ww v => ∃ A1 c1, v = .slice A1 (((possStates s dx dy).getD []).length) c1 ∧ New 57 3 spotC ww w2.heap.size (.slice A1 ((possStates s dx dy).getD []).length c1) ((possStates s dx dy).getD [])) ww (aa.tmps[12]?.getD undef)) → (L 3 = true → (fun ww v => ∃ A1 c1, v = .tuple #[.slice A1 (((possStates s dx dy).getD []).length) c1, .bool ((possStates s dx dy).isSome)] ∧ New 57 3 spotC ww w2.heap.size (.slice A1 ((possStates s dx dy).getD []).length c1) ((possStates s dx dy).getD [])) w' ((aa.put k v).tmps[24]?.getD undef)) ∧ (L 4 = true → (fun ww v => ∃ A1 c1, v = .tuple #[.slice A1 (((possStates s dx dy).getD []).length) c1, .bool ((possStates s dx dy).isSome)] ∧ New 57 3 spotC ww w2.heap.size (.slice A1 ((possStates s dx dy).getD []).length c1) ((possStates s dx dy).getD [])) w' ((aa.put k v).tmps[20]?.getD undef)) ∧ (L 5 = true → (fun ww v => ∃ A1 c1, v = .slice A1 (((possStates s dx dy).getD []).length) c1 ∧ New 57 3 spotC ww w2.heap.size (.slice A1 ((possStates s dx dy).getD []).length c1) ((possStates s dx dy).getD [])) w' ((aa.put k v).tmps[25]?.getD undef)) ∧ (L 7 = true → (fun ww v => ∃ A1 c1, v = .slice A1 (((possStates s dx dy).getD []).length) c1 ∧ New 57 3 spotC ww w2.heap.size (.slice A1 ((possStates s dx dy).getD []).length c1) ((possStates s dx dy).getD [])) w' ((aa.put k v).tmps[12]?.getD undef)) := by
  intro L aa ww w' k v hk hb hX
  obtain ⟨x0, x1, x2, x3⟩ := hX
  exact ⟨(fun h => by rw [put_ne' (hk 24 (by simp))]; obtain ⟨A1', c1', e, f1'⟩ := x0 h; exact ⟨A1', c1', e, f1'.below hb (Nat.le_refl _)⟩), (fun h => by rw [put_ne' (hk 20 (by simp))]; obtain ⟨A1', c1', e, f1'⟩ := x1 h; exact ⟨A1', c1', e, f1'.below hb (Nat.le_refl _)⟩), (fun h => by rw [put_ne' (hk 25 (by simp))]; obtain ⟨A1', c1', e, f1'⟩ := x2 h; exact ⟨A1', c1', e, f1'.below hb (Nat.le_refl _)⟩), (fun h => by rw [put_ne' (hk 12 (by simp))]; obtain ⟨A1', c1', e, f1'⟩ := x3 h; exact ⟨A1', c1', e, f1'.below hb (Nat.le_refl _)⟩)⟩
 refine wp_regJ (by kernel_rfl) [21, 22, 23, 24, 20, 25, 26, 12, 13] [some (.agg #[.int .i64 s.x, .int .i64 s.y, .int .i64 s.d]), some (.int .i64 dx), some (.int .i64 dy), none, none, none, some (.bool ((possStates s dx dy).isSome)), none, some (.bool ((possStates s dx dy).isSome))] ((List.range 9).map List.range) [21, 22, 23, 24, 20, 25, 26, 12, 13] [0, 1, 2, 3, 4, 5, 6, 7, 8] [] (fun L aa ww => (L 3 = true → (fun ww v => ∃ A1 c1, v = .tuple #[.slice A1 (((possStates s dx dy).getD []).length) c1, .bool ((possStates s dx dy).isSome)] ∧ New 57 3 spotC ww w2.heap.size (.slice A1 ((possStates s dx dy).getD []).length c1) ((possStates s dx dy).getD [])) ww (aa.tmps[24]?.getD undef)) ∧ (L 4 = true → (fun ww v => ∃ A1 c1, v = .tuple #[.slice A1 (((possStates s dx dy).getD []).length) c1, .bool ((possStates s dx dy).isSome)] ∧ New 57 3 spotC ww w2.heap.size (.slice A1 ((possStates s dx dy).getD []).length c1) ((possStates s dx dy).getD [])) ww (aa.tmps[20]?.getD undef)) ∧ (L 5 = true → (fun ww v => ∃ A1 c1, v = .slice A1 (((possStates s dx dy).getD []).length) c1 ∧ New 57 3 spotC ww w2.heap.size (.slice A1 ((possStates s dx dy).getD []).length c1) ((possStates s dx dy).getD [])) ww (aa.tmps[25]?.getD undef)) ∧ (L 7 = true → (fun ww v => ∃ A1 c1, v = .slice A1 (((possStates s dx dy).getD []).length) c1 ∧ New 57 3 spotC ww w2.heap.size (.slice A1 ((possStates s dx dy).getD []).length c1) ((possStates s dx dy).getD [])) ww (aa.tmps[12]?.getD undef))) (by kernel_rfl) (by rw [hz]; decide) ?_ (.cons ?_ (.cons ?_ (.cons ?_ (.cons ?_ (.cons ?_ (.cons ?_ (.cons ?_ (.cons ?_ (.cons ?_ .nil))))))))) ?_
 · exact fun _ h => ⟨(fun h => by cases h), (fun h => by cases h), (fun h => by cases h), (fun h => by cases h)⟩
 · intro Lk ak ww hL hdd haa hF hK hV hX Nk Qk hN; refine wnt rfl ?_
   simp [go_sem, Array.getD_eq_getD_getElem?, hF.g rfl s7, (b5.kp hK (by simp)).cell]
   exact (hN _ _ hK rfl (hXb Lk ak ww _ (some 21) _ (by simp) (Below.refl _ _) hX))
 · intro Lk ak ww hL hdd haa hF hK hV hX Nk Qk hN; refine wnt rfl ?_
   exact wp_move rfl (ev (hF.g rfl s3)) (hN _ _ hK rfl (hXb Lk ak ww _ (some 22) _ (by simp) (Below.refl _ _) hX))
 · intro Lk ak ww hL hdd haa hF hK hV hX Nk Qk hN; refine wnt rfl ?_
   exact wp_move rfl (ev (hF.g rfl s4)) (hN _ _ hK rfl (hXb Lk ak ww _ (some 23) _ (by simp) (Below.refl _ _) hX))
 · intro Lk ak ww hL hdd haa hF hK hV hX Nk Qk hN
   obtain ⟨x0, x1, x2, x3⟩ := hX
   refine wnt rfl ?_
   simp [go_sem, Array.getD_eq_getD_getElem?, (show ak.tmps[21]?.getD undef = _ from hV 0 _ rfl (hdd 0 rfl)), (show ak.tmps[22]?.getD undef = _ from hV 1 _ rfl (hdd 1 rfl)), (show ak.tmps[23]?.getD undef = _ from hV 2 _ rfl (hdd 2 rfl))]
   refine (sPossibleStates_c s dx dy ww hsi).mono ?_
   rintro x wx ⟨_, rfl, ⟨A1, c1, rfl, f0⟩, hb⟩
   have f1 := New.mono (show New 57 3 spotC wx ww.heap.size (.slice A1 ((possStates s dx dy).getD []).length c1) ((possStates s dx dy).getD []) from ⟨_, _, rfl, f0⟩) hK.size
   exact (hN _ _ (hK.call hb) trivial ⟨(fun _ => by rw [put_get_self (hF.lt (by rw [hz]; decide))]; exact ⟨A1, c1, rfl, f1⟩), (fun h => by rw [put_ne' (by decide)]; obtain ⟨A1', c1', e, f1'⟩ := x1 h; exact ⟨A1', c1', e, f1'.below hb (Nat.le_refl _)⟩), (fun h => by rw [put_ne' (by decide)]; obtain ⟨A1', c1', e, f1'⟩ := x2 h; exact ⟨A1', c1', e, f1'.below hb (Nat.le_refl _)⟩), (fun h => by rw [put_ne' (by decide)]; obtain ⟨A1', c1', e, f1'⟩ := x3 h; exact ⟨A1', c1', e, f1'.below hb (Nat.le_refl _)⟩)⟩)
 · intro Lk ak ww hL hdd haa hF hK hV hX Nk Qk hN
   obtain ⟨x0, x1, x2, x3⟩ := hX
   refine wnt rfl ?_
   obtain ⟨A1, c1, ee3, f1⟩ := x0 (hdd 3 rfl)
   exact wp_move rfl (ev ee3) (hN _ _ hK trivial ⟨(fun h => by rw [put_ne' (by decide)]; obtain ⟨A1', c1', e, f1'⟩ := x0 h; exact ⟨A1', c1', e, f1'.below (Below.refl _ _) (Nat.le_refl _)⟩), (fun _ => by rw [put_get_self (hF.lt (by rw [hz]; decide))]; exact ⟨A1, c1, rfl, f1⟩), (fun h => by rw [put_ne' (by decide)]; obtain ⟨A1', c1', e, f1'⟩ := x2 h; exact ⟨A1', c1', e, f1'.below (Below.refl _ _) (Nat.le_refl _)⟩), (fun h => by rw [put_ne' (by decide)]; obtain ⟨A1', c1', e, f1'⟩ := x3 h; exact ⟨A1', c1', e, f1'.below (Below.refl _ _) (Nat.le_refl _)⟩)⟩)
 · intro Lk ak ww hL hdd haa hF hK hV hX Nk Qk hN
   obtain ⟨x0, x1, x2, x3⟩ := hX
   refine wnt rfl ?_
   obtain ⟨A1, c1, ee4, f1⟩ := x1 (hdd 4 rfl)
   exact wp_extract rfl (ev ee4) rfl (hN _ _ hK trivial ⟨(fun h => by rw [put_ne' (by decide)]; obtain ⟨A1', c1', e, f1'⟩ := x0 h; exact ⟨A1', c1', e, f1'.below (Below.refl _ _) (Nat.le_refl _)⟩), (fun h => by rw [put_ne' (by decide)]; obtain ⟨A1', c1', e, f1'⟩ := x1 h; exact ⟨A1', c1', e, f1'.below (Below.refl _ _) (Nat.le_refl _)⟩), (fun _ => by rw [put_get_self (hF.lt (by rw [hz]; decide))]; exact ⟨A1, c1, rfl, f1⟩), (fun h => by rw [put_ne' (by decide)]; obtain ⟨A1', c1', e, f1'⟩ := x3 h; exact ⟨A1', c1', e, f1'.below (Below.refl _ _) (Nat.le_refl _)⟩)⟩)
 · intro Lk ak ww hL hdd haa hF hK hV hX Nk Qk hN
   obtain ⟨x0, x1, x2, x3⟩ := hX
   refine wnt rfl ?_
   obtain ⟨A1, c1, ee4, f1⟩ := x1 (hdd 4 rfl)
   exact wp_extract rfl (ev ee4) rfl (hN _ _ hK rfl (hXb Lk ak ww _ (some 26) _ (by simp) (Below.refl _ _) ⟨x0, x1, x2, x3⟩))
 · intro Lk ak ww hL hdd haa hF hK hV hX Nk Qk hN
   obtain ⟨x0, x1, x2, x3⟩ := hX
   refine wnt rfl ?_
   obtain ⟨A1, c1, ee5, f1⟩ := x2 (hdd 5 rfl)
   exact wp_assign rfl (ev ee5) (hN _ _ hK trivial ⟨(fun h => by rw [put_ne' (by decide)]; obtain ⟨A1', c1', e, f1'⟩ := x0 h; exact ⟨A1', c1', e, f1'.below (Below.refl _ _) (Nat.le_refl _)⟩), (fun h => by rw [put_ne' (by decide)]; obtain ⟨A1', c1', e, f1'⟩ := x1 h; exact ⟨A1', c1', e, f1'.below (Below.refl _ _) (Nat.le_refl _)⟩), (fun h => by rw [put_ne' (by decide)]; obtain ⟨A1', c1', e, f1'⟩ := x2 h; exact ⟨A1', c1', e, f1'.below (Below.refl _ _) (Nat.le_refl _)⟩), (fun _ => by rw [put_get_self (hF.lt (by rw [hz]; decide))]; exact ⟨A1, c1, rfl, f1⟩)⟩)
 · intro Lk ak ww hL hdd haa hF hK hV hX Nk Qk hN; refine wnt rfl ?_
   exact wp_assign rfl (ev (hV 6 _ rfl (hdd 6 rfl))) (hN _ _ hK rfl (hXb Lk ak ww _ (some 13) _ (by simp) (Below.refl _ _) hX))
 intro L a7 w8 hL hF hK hV hX
 obtain ⟨x0, x1, x2, x3⟩ := hX
 replace hz := hF.size.trans hz
 replace hdf := hF.defers.trans hdf
 replace s5 := hF.g rfl s5
 replace s6 := hF.g rfl s6
 replace s10 := hF.g rfl s10
 have s13 : a7.tmps[13]?.getD undef = .bool ((possStates s dx dy).isSome) := hV 8 _ rfl
 replace b3 := b3.kp hK (by simp)
 replace b4 := b4.kp hK (by simp)
 replace b6 := b6.kp hK (by simp)
 obtain ⟨A1, c1, s12, N1⟩ := x3 (hL 7 (by decide))
 have i1 : ∀ p, A1 = some p → p.block < w8.heap.size := fun p hp => (N1.blk p hp).2
 have zw8 := hK.size
 replace hZ := Nat.le_refl w8.heap.size
 replace hB := hK.below0 hB
 clear hF hK hV hL x0 x1 x2 x3 hXb s3 s4 s7 b5
 refine th_n ?_
 refine wp_seq ?_
 refine wp_seq ?_
 refine wp_regJ (by kernel_rfl) [27, 28] [some (.bool ((possStates s dx dy).isSome)), some (.bool (!((possStates s dx dy).isSome)))] ((List.range 2).map List.range) [27, 28] [0, 1] [] (fun _ _ _ => True) (by kernel_rfl) (by rw [hz]; decide) ?_ (.cons ?_ (.cons ?_ .nil)) ?_
 · exact fun _ _ => trivial
 · intro Lk ak ww hL hdd haa hF hK hV hX Nk Qk hN; refine wnt rfl ?_
   exact wp_move rfl (ev (hF.g rfl s13)) (hN _ _ hK rfl trivial)
 · intro Lk ak ww hL hdd haa hF hK hV hX Nk Qk hN; refine wnt rfl ?_
   exact wp_not rfl (ev (hV 0 _ rfl (hdd 0 rfl))) (hN _ _ hK rfl trivial)
 intro L a9 w10 hL hF hK hV hX
 replace hz := hF.size.trans hz
 replace hdf := hF.defers.trans hdf
 replace s5 := hF.g rfl s5
 replace s6 := hF.g rfl s6
 replace s10 := hF.g rfl s10
 replace s12 := hF.g rfl s12
 have s28 : a9.tmps[28]?.getD undef = .bool (!((possStates s dx dy).isSome)) := hV 1 _ rfl
 replace b3 := b3.kp hK (by simp)
 replace b4 := b4.kp hK (by simp)
 replace b6 := b6.kp hK (by simp)
 replace N1 := N1.below hK.toBelow (Nat.le_refl _)
 replace hZ := Nat.le_trans hZ hK.size
 replace hB := hK.below0 hB
 clear hF hK hV hL hX s13
 refine th_n ?_
 rcases Bool.eq_false_or_eq_true (!((possStates s dx dy).isSome)) with q11 | q11
 · skip
   refine wp_cond_true (ev (vb s28 q11)) ?_
   refine wp_seq ?_
   refine wp_regJ (by kernel_rfl) [29, 0, 11] [some (.agg #[.int .i64 0, .int .i64 0, .int .i64 0, .int .i64 0]), none, some (.bool false)] ((List.range 3).map List.range) [29, 11] [0, 1, 2] [(w.heap.size + 3)] (fun L aa ww => PreX ww (w.heap.size + 3) 54 [.int .i64 0, .int .i64 0, .int .i64 0, .int .i64 0] (L 1) (fun _ vs => vs = [.int .i64 0, .int .i64 0, .int .i64 0, .int .i64 0])) (by kernel_rfl) (by rw [hz]; decide) ?_ (.cons ?_ (.cons ?_ (.cons ?_ .nil))) ?_
   · exact fun _ h => (⟨fun _ => b6.kp h (by simp), (fun h => by cases h)⟩)
   · intro Lk ak ww hL hdd haa hF hK hV hX Nk Qk hN; refine wnt rfl ?_
     simp [go_sem]
     exact (hN _ _ hK rfl (hX.bel (Below.refl _ _) (fun _ h => h)))
   · intro Lk ak ww hL hdd haa hF hK hV hX Nk Qk hN
     have x0 := hX
     refine wnt rfl ?_
     have HT := x0.1 hL
     simp [go_sem, Array.getD_eq_getD_getElem?, (show ak.tmps[29]?.getD undef = _ from hV 0 _ rfl (hdd 0 rfl)), hF.g rfl s10, HT.cell, HT.frz]
     exact hN undef _ (hK.store (.inr (by simp)) [.int .i64 0, .int .i64 0, .int .i64 0, .int .i64 0] 0) trivial (PreX.set HT (us := [.int .i64 0, .int .i64 0, .int .i64 0, .int .i64 0]) rfl rfl)
   · intro Lk ak ww hL hdd haa hF hK hV hX Nk Qk hN; refine wnt rfl ?_
     exact wp_assign rfl rfl (hN _ _ hK rfl (hX.bel (Below.refl _ _) (fun _ h => h)))
   intro L a12 w13 hL hF hK hV hX
   have x0 := hX
   replace hz := hF.size.trans hz
   replace hdf := hF.defers.trans hdf
   replace s10 := hF.g rfl s10
   have s11 : a12.tmps[11]?.getD undef = .bool false := hV 2 _ rfl
   clear b6
   obtain ⟨_, b6, rfl⟩ := x0.2 (hL 1 (by decide))
   replace hZ := Nat.le_trans hZ hK.size
   replace hB := hK.below hB hB.size (by simp <;> omega)
   clear hF hK hV hL x0 s5 s6 s12 s28 b3 b4 N1 i1
   refine th_n ?_
   refine wp_ret ?_
   refine th_r ?_
   refine bodyPost_ret (v := .tuple #[.agg #[.int .i64 0, .int .i64 0, .int .i64 0, .int .i64 0], .bool false]) (by simp [results, Tryz.results24, go_sem, Array.getD_eq_getD_getElem?, s10, b6.cell, s11]) hdf ?_
   exact ⟨by rw [admDrift_none (not_t q11)]; rfl, hB⟩
 · skip
   have hp4 := possG (not_f q11)
   have hl4 := hp4.1
   obtain ⟨b1e, o1e, rfl, E1⟩ := ElS.open_ (N1.out spotC_len) (by omega)
   have kb1e := N1.cap (by omega)
   have lb1e := (N1.blk _ rfl).1
   have ub1e := i1 _ rfl
   simp only at lb1e ub1e
   clear N1 i1
   refine wp_cond_false (ev (vb s28 q11)) ?_
   refine wp_skip ?_
   refine th_n ?_
   refine wp_seq ?_
   refine wp_regJ (by kernel_rfl) [31, 32, 33, 34, 35, 36, 30, 37, 38, 14, 0, 15] [some (roomV r ra), some (.agg #[.slice b.A p.length b.c]), some (.slice (some ⟨b1e, o1e, none⟩) (((possStates s dx dy).getD []).length) c1), some (.pointer (some ⟨b1e, o1e, none⟩)), some (.agg #[.int .i64 ((((possStates s dx dy).getD []).getD 0 sp0).x), .int .i64 ((((possStates s dx dy).getD []).getD 0 sp0).y), .int .i64 ((((possStates s dx dy).getD []).getD 0 sp0).d)]), some (.tuple #[.agg #[.int .i64 (((admAt r p (((possStates s dx dy).getD []).getD 0 sp0)).getD span0).low.n), .int .i64 (((admAt r p (((possStates s dx dy).getD []).getD 0 sp0)).getD span0).low.d), .int .i64 (((admAt r p (((possStates s dx dy).getD []).getD 0 sp0)).getD span0).high.n), .int .i64 (((admAt r p (((possStates s dx dy).getD []).getD 0 sp0)).getD span0).high.d)], .bool ((admAt r p (((possStates s dx dy).getD []).getD 0 sp0)).isSome)]), some (.tuple #[.agg #[.int .i64 (((admAt r p (((possStates s dx dy).getD []).getD 0 sp0)).getD span0).low.n), .int .i64 (((admAt r p (((possStates s dx dy).getD []).getD 0 sp0)).getD span0).low.d), .int .i64 (((admAt r p (((possStates s dx dy).getD []).getD 0 sp0)).getD span0).high.n), .int .i64 (((admAt r p (((possStates s dx dy).getD []).getD 0 sp0)).getD span0).high.d)], .bool ((admAt r p (((possStates s dx dy).getD []).getD 0 sp0)).isSome)]), some (.agg #[.int .i64 (((admAt r p (((possStates s dx dy).getD []).getD 0 sp0)).getD span0).low.n), .int .i64 (((admAt r p (((possStates s dx dy).getD []).getD 0 sp0)).getD span0).low.d), .int .i64 (((admAt r p (((possStates s dx dy).getD []).getD 0 sp0)).getD span0).high.n), .int .i64 (((admAt r p (((possStates s dx dy).getD []).getD 0 sp0)).getD span0).high.d)]), some (.bool ((admAt r p (((possStates s dx dy).getD []).getD 0 sp0)).isSome)), none, none, some (.bool ((admAt r p (((possStates s dx dy).getD []).getD 0 sp0)).isSome))] ([[], [], [], [2], [2, 3], [0, 1, 2, 3, 4], [0, 1, 2, 3, 4, 5], [0, 1, 2, 3, 4, 5, 6], [0, 1, 2, 3, 4, 5, 6], [], [0, 1, 2, 3, 4, 5, 6, 7, 9], [0, 1, 2, 3, 4, 5, 6, 7, 8, 9, 10]]) [31, 32, 33, 34, 35, 36, 30, 37, 38, 14, 15] [0, 1, 2, 3, 4, 5, 6, 7, 8, 9, 10, 11] [] (fun L aa ww => (L 9 = true → BoxX w10 aa ww 14 54 [.int .i64 0, .int .i64 0, .int .i64 0, .int .i64 0] (L 10) (fun _ vs => vs = [.int .i64 (((admAt r p (((possStates s dx dy).getD []).getD 0 sp0)).getD span0).low.n), .int .i64 (((admAt r p (((possStates s dx dy).getD []).getD 0 sp0)).getD span0).low.d), .int .i64 (((admAt r p (((possStates s dx dy).getD []).getD 0 sp0)).getD span0).high.n), .int .i64 (((admAt r p (((possStates s dx dy).getD []).getD 0 sp0)).getD span0).high.d)]))) (by kernel_rfl) (by rw [hz]; decide) ?_ (.cons ?_ (.cons ?_ (.cons ?_ (.cons ?_ (.cons ?_ (.cons ?_ (.cons ?_ (.cons ?_ (.cons ?_ (.cons ?_ (.cons ?_ (.cons ?_ .nil)))))))))))) ?_
   · exact fun _ h => (fun h => by cases h)
   · intro Lk ak ww hL hdd haa hF hK hV hX Nk Qk hN; refine wnt rfl ?_
     simp [go_sem, Array.getD_eq_getD_getElem?, hF.g rfl s5, (b3.kp hK (by simp)).cell]
     exact (hN _ _ hK rfl (fun h => ((hX h).bel (Below.refl _ _) (fun _ h => h)).put (by decide) _))
   · intro Lk ak ww hL hdd haa hF hK hV hX Nk Qk hN; refine wnt rfl ?_
     simp [go_sem, Array.getD_eq_getD_getElem?, hF.g rfl s6, (b4.kp hK (by simp)).cell]
     exact (hN _ _ hK rfl (fun h => ((hX h).bel (Below.refl _ _) (fun _ h => h)).put (by decide) _))
   · intro Lk ak ww hL hdd haa hF hK hV hX Nk Qk hN; refine wnt rfl ?_
     exact wp_move rfl (ev (hF.g rfl s12)) (hN _ _ hK rfl (fun h => ((hX h).bel (Below.refl _ _) (fun _ h => h)).put (by decide) _))
   · intro Lk ak ww hL hdd haa hF hK hV hX Nk Qk hN; refine wnt rfl ?_
     simp [go_sem, Array.getD_eq_getD_getElem?, (show ak.tmps[33]?.getD undef = _ from hV 2 _ rfl (hdd 2 rfl)), show 0 < ((possStates s dx dy).getD []).length by omega]
     exact (hN _ _ hK rfl (fun h => ((hX h).bel (Below.refl _ _) (fun _ h => h)).put (by decide) _))
   · intro Lk ak ww hL hdd haa hF hK hV hX Nk Qk hN; refine wnt rfl ?_
     have hE := E1.kp hK (by simp)
     simp [go_sem, Array.getD_eq_getD_getElem?, (show ak.tmps[34]?.getD undef = _ from hV 3 _ rfl (hdd 3 rfl)), (hE.at_ sp0 (i := 0) (by omega) 0 (p := o1e) (by omega) rfl), (hE.at_ sp0 (i := 0) (by omega) 1 (p := o1e + 1) (by omega) rfl), (hE.at_ sp0 (i := 0) (by omega) 2 (p := o1e + 2) (by omega) rfl)]
     exact (hN _ _ hK rfl (fun h => ((hX h).bel (Below.refl _ _) (fun _ h => h)).put (by decide) _))
   · intro Lk ak ww hL hdd haa hF hK hV hX Nk Qk hN; refine wnt rfl ?_
     simp [go_sem, Array.getD_eq_getD_getElem?, (show ak.tmps[31]?.getD undef = _ from hV 0 _ rfl (hdd 0 rfl)), (show ak.tmps[32]?.getD undef = _ from hV 1 _ rfl (hdd 1 rfl)), (show ak.tmps[35]?.getD undef = _ from hV 4 _ rfl (hdd 4 rfl))]
     have hBi := hK.below0 hB
     refine (sAdmAt_c r p (((possStates s dx dy).getD []).getD 0 sp0) ra b ww hn hin (hs.below hBi) hnl hlp hpi (hsp.below hBi) hnb (spot_In (getD_ok hp4.2 (i := 0) (by omega)))).mono ?_
     rintro x wx ⟨rfl, hb⟩
     exact (hN _ _ (hK.call hb) (optSpan_eq _) (fun h => ((hX h).bel hb (fun _ h => h)).put (by decide) _))
   · intro Lk ak ww hL hdd haa hF hK hV hX Nk Qk hN; refine wnt rfl ?_
     exact wp_move rfl (ev (hV 5 _ rfl (hdd 5 rfl))) (hN _ _ hK rfl (fun h => ((hX h).bel (Below.refl _ _) (fun _ h => h)).put (by decide) _))
   · intro Lk ak ww hL hdd haa hF hK hV hX Nk Qk hN; refine wnt rfl ?_
     exact wp_extract rfl (ev (hV 6 _ rfl (hdd 6 rfl))) rfl (hN _ _ hK rfl (fun h => ((hX h).bel (Below.refl _ _) (fun _ h => h)).put (by decide) _))
   · intro Lk ak ww hL hdd haa hF hK hV hX Nk Qk hN; refine wnt rfl ?_
     exact wp_extract rfl (ev (hV 6 _ rfl (hdd 6 rfl))) rfl (hN _ _ hK rfl (fun h => ((hX h).bel (Below.refl _ _) (fun _ h => h)).put (by decide) _))
   · intro Lk ak ww hL hdd haa hF hK hV hX Nk Qk hN
     have x0 := hX
     refine wnt rfl ?_
     simp [go_sem]
     exact hN _ _ (hK.alloc _) trivial (fun _ => by rw [show upd Lk 9 10 = false from haa 10 rfl]; exact BoxX.new (s := 14) (hF.lt (by rw [hz]; decide)) hK.size [.int .i64 0, .int .i64 0, .int .i64 0, .int .i64 0])
   · intro Lk ak ww hL hdd haa hF hK hV hX Nk Qk hN
     have x0 := hX
     refine wnt rfl ?_
     obtain ⟨g, eg, hg, y, _⟩ := x0 (hdd 9 rfl)
     have HT := y hL
     simp [go_sem, Array.getD_eq_getD_getElem?, (show ak.tmps[37]?.getD undef = _ from hV 7 _ rfl (hdd 7 rfl)), eg, HT.cell, HT.frz]
     exact hN undef _ (hK.store (.inl hg) [.int .i64 (((admAt r p (((possStates s dx dy).getD []).getD 0 sp0)).getD span0).low.n), .int .i64 (((admAt r p (((possStates s dx dy).getD []).getD 0 sp0)).getD span0).low.d), .int .i64 (((admAt r p (((possStates s dx dy).getD []).getD 0 sp0)).getD span0).high.n), .int .i64 (((admAt r p (((possStates s dx dy).getD []).getD 0 sp0)).getD span0).high.d)] 0) trivial (fun _ => BoxX.set eg hg HT (us := [.int .i64 (((admAt r p (((possStates s dx dy).getD []).getD 0 sp0)).getD span0).low.n), .int .i64 (((admAt r p (((possStates s dx dy).getD []).getD 0 sp0)).getD span0).low.d), .int .i64 (((admAt r p (((possStates s dx dy).getD []).getD 0 sp0)).getD span0).high.n), .int .i64 (((admAt r p (((possStates s dx dy).getD []).getD 0 sp0)).getD span0).high.d)]) rfl rfl)
   · intro Lk ak ww hL hdd haa hF hK hV hX Nk Qk hN; refine wnt rfl ?_
     exact wp_assign rfl (ev (hV 8 _ rfl (hdd 8 rfl))) (hN _ _ hK rfl (fun h => ((hX h).bel (Below.refl _ _) (fun _ h => h)).put (by decide) _))
   intro L a14 w15 hL hF hK hV hX
   have x0 := hX
   replace hz := hF.size.trans hz
   replace hdf := hF.defers.trans hdf
   replace s5 := hF.g rfl s5
   replace s6 := hF.g rfl s6
   replace s10 := hF.g rfl s10
   replace s12 := hF.g rfl s12
   have s15 : a14.tmps[15]?.getD undef = .bool ((admAt r p (((possStates s dx dy).getD []).getD 0 sp0)).isSome) := hV 11 _ rfl
   replace b3 := b3.kp hK (by simp)
   replace b4 := b4.kp hK (by simp)
   replace b6 := b6.kp hK (by simp)
   obtain ⟨g16, s14, lg16, -, b16⟩ := x0 (hL 9 (by decide))
   obtain ⟨_, b16, rfl⟩ := b16 (hL 10 (by decide))
   have ug16 := b16.lt
   replace E1 := E1.kp hK (by simp)
   have zw10 := hZ
   have zw15 := hK.size
   replace hZ := Nat.le_refl w15.heap.size
   replace hB := hK.below0 hB
   clear hF hK hV hL x0 s28
   refine th_n ?_
   refine wp_seq ?_
   refine wp_seq ?_
   refine wp_regJ (by kernel_rfl) [39, 40, 41, 42] [some (.slice (some ⟨b1e, o1e, none⟩) (((possStates s dx dy).getD []).length) c1), some (.slice (some ⟨b1e, o1e + 3, none⟩) ((((possStates s dx dy).getD []).length) - 1) (c1 - 1)), some (.int .i64 (((((possStates s dx dy).getD []).length) - 1 : Nat) : Int)), some (.int .i64 0)] ((List.range 4).map List.range) [39, 40, 41, 42] [0, 1, 2, 3] [] (fun _ _ _ => True) (by kernel_rfl) (by rw [hz]; decide) ?_ (.cons ?_ (.cons ?_ (.cons ?_ (.cons ?_ .nil)))) ?_
   · exact fun _ _ => trivial
   · intro Lk ak ww hL hdd haa hF hK hV hX Nk Qk hN; refine wnt rfl ?_
     exact wp_move rfl (ev (hF.g rfl s12)) (hN _ _ hK rfl trivial)
   · intro Lk ak ww hL hdd haa hF hK hV hX Nk Qk hN; refine wnt rfl ?_
     simp [go_sem, Array.getD_eq_getD_getElem?, (show ak.tmps[39]?.getD undef = _ from hV 0 _ rfl (hdd 0 rfl)), show (1 : Int) ≤ ((((possStates s dx dy).getD []).length : Nat) : Int) by omega, show ¬ c1 = 1 by omega]
     exact (hN _ _ hK rfl trivial)
   · intro Lk ak ww hL hdd haa hF hK hV hX Nk Qk hN; refine wnt rfl ?_
     simp [go_sem, Array.getD_eq_getD_getElem?, (show ak.tmps[40]?.getD undef = _ from hV 1 _ rfl (hdd 1 rfl))]
     exact (hN _ _ hK rfl trivial)
   · intro Lk ak ww hL hdd haa hF hK hV hX Nk Qk hN; refine wnt rfl ?_
     exact wp_move rfl rfl (hN _ _ hK rfl trivial)
   intro L a17 w18 hL hF hK hV hX
   replace hz := hF.size.trans hz
   replace hdf := hF.defers.trans hdf
   replace s5 := hF.g rfl s5
   replace s6 := hF.g rfl s6
   replace s10 := hF.g rfl s10
   replace s15 := hF.g rfl s15
   replace s14 := hF.g rfl s14
   have s40 : a17.tmps[40]?.getD undef = .slice (some ⟨b1e, o1e + 3, none⟩) ((((possStates s dx dy).getD []).length) - 1) (c1 - 1) := hV 1 _ rfl
   have s41 : a17.tmps[41]?.getD undef = .int .i64 (((((possStates s dx dy).getD []).length) - 1 : Nat) : Int) := hV 2 _ rfl
   have s42 : a17.tmps[42]?.getD undef = .int .i64 0 := hV 3 _ rfl
   replace b3 := b3.kp hK (by simp)
   replace b4 := b4.kp hK (by simp)
   replace b6 := b6.kp hK (by simp)
   replace b16 := b16.kp hK (by simp)
   replace E1 := E1.kp hK (by simp)
   replace hZ := Nat.le_trans hZ hK.size
   replace hB := hK.below0 hB
   clear hF hK hV hL hX s12
   refine th_n ?_
   refine wp_block ?_
   refine wp_loop (fun al wl => al.tmps.size = 71 ∧ al.defers = [] ∧ ∃ (k : Nat) (ov : Option Span), (k ≤ ((possStates s dx dy).getD []).length - 1) ∧ (accS (admAt r p) (((possStates s dx dy).getD [])) (k + 1) = ov) ∧ al.tmps[5]?.getD undef = .pointer (some ⟨w.heap.size, 0, none⟩) ∧ al.tmps[6]?.getD undef = .pointer (some ⟨(w.heap.size + 1), 0, none⟩) ∧ al.tmps[10]?.getD undef = .pointer (some ⟨(w.heap.size + 3), 0, none⟩) ∧ al.tmps[15]?.getD undef = .bool ov.isSome ∧ al.tmps[14]?.getD undef = .pointer (some ⟨g16, 0, none⟩) ∧ al.tmps[40]?.getD undef = .slice (some ⟨b1e, o1e + 3, none⟩) ((((possStates s dx dy).getD []).length) - 1) (c1 - 1) ∧ al.tmps[41]?.getD undef = .int .i64 (((((possStates s dx dy).getD []).length) - 1 : Nat) : Int) ∧ al.tmps[42]?.getD undef = .int .i64 ((k : Nat) : Int) ∧ HasT wl w.heap.size 39 (roomC r ra) ∧ HasT wl (w.heap.size + 1) 37 [.slice b.A p.length b.c] ∧ HasT wl (w.heap.size + 3) 54 [.int .i64 0, .int .i64 0, .int .i64 0, .int .i64 0] ∧ HasT wl g16 54 [.int .i64 ((ov.getD span0).low.n), .int .i64 ((ov.getD span0).low.d), .int .i64 ((ov.getD span0).high.n), .int .i64 ((ov.getD span0).high.d)] ∧ ElS wl b1e o1e 3 spotC ((possStates s dx dy).getD []) ∧ Below w.heap.size w wl ∧ w15.heap.size ≤ wl.heap.size) (fun al _ => (((possStates s dx dy).getD []).length - 1 - (intOf (al.tmps[42]?.getD undef)).toNat)) ?_ ?_
   · exact ⟨hz, hdf, (0), (admAt r p (((possStates s dx dy).getD []).getD 0 sp0)), (Nat.zero_le _), (accS_one), s5, s6, s10, s15, s14, s40, s41, s42, b3, b4, b6, b16, E1, hB, (by omega)⟩
   clear hz hdf hB hZ s5 s6 s10 s15 s14 s40 s41 s42 b3 b4 b6 b16 E1
   rintro a19 w20 ⟨hz, hdf, k, ov, hk, hg, s5, s6, s10, s15, s14, s40, s41, s42, b3, b4, b6, b16, E1, hB, hZ⟩
   have hmu : (((possStates s dx dy).getD []).length - 1 - (intOf (a19.tmps[42]?.getD undef)).toNat) = (((possStates s dx dy).getD []).length - 1 - (intOf ((.int .i64 ((k : Nat) : Int)))).toNat) := by rw [s42]
   refine wp_seq ?_
   refine wp_regJ (by kernel_rfl) [43] [some (.bool (decide (((k : Nat) : Int) < (((((possStates s dx dy).getD []).length) - 1 : Nat) : Int))))] ((List.range 1).map List.range) [43] [0] [] (fun _ _ _ => True) (by kernel_rfl) (by rw [hz]; decide) ?_ (.cons ?_ .nil) ?_
   · exact fun _ _ => trivial
   · intro Lk ak ww hL hdd haa hF hK hV hX Nk Qk hN; refine wnt rfl ?_
     exact wp_bin rfl (ev (hF.g rfl s42)) (ev (hF.g rfl s41)) rfl rfl (hN _ _ hK rfl trivial)
   intro L a21 w22 hL hF hK hV hX
   replace hz := hF.size.trans hz
   replace hdf := hF.defers.trans hdf
   replace s5 := hF.g rfl s5
   replace s6 := hF.g rfl s6
   replace s10 := hF.g rfl s10
   replace s15 := hF.g rfl s15
   replace s14 := hF.g rfl s14
   replace s40 := hF.g rfl s40
   replace s41 := hF.g rfl s41
   replace s42 := hF.g rfl s42
   have s43 : a21.tmps[43]?.getD undef = .bool (decide (((k : Nat) : Int) < (((((possStates s dx dy).getD []).length) - 1 : Nat) : Int))) := hV 0 _ rfl
   replace b3 := b3.kp hK (by simp)
   replace b4 := b4.kp hK (by simp)
   replace b6 := b6.kp hK (by simp)
   replace b16 := b16.kp hK (by simp)
   replace E1 := E1.kp hK (by simp)
   replace hZ := Nat.le_trans hZ hK.size
   replace hB := hK.below0 hB
   clear hF hK hV hL hX
   refine th_n ?_
   refine wp_seq ?_
   rcases Bool.eq_false_or_eq_true (decide (((k : Nat) : Int) < (((((possStates s dx dy).getD []).length) - 1 : Nat) : Int))) with q23 | q23
   · skip
     have hkl : k + 1 < ((possStates s dx dy).getD []).length := by have := dec_t q23; omega
     refine wp_cond_true (ev (vb s43 q23)) ?_
     refine wp_skip ?_
     refine th_n ?_
     refine wp_seq ?_
     refine wp_block ?_
     refine wp_seq ?_
     refine wp_regJ (by kernel_rfl) [44, 45, 17, 0] [some (.pointer (some ⟨b1e, o1e + 3 + k * 3, none⟩)), some (.agg #[.int .i64 ((((possStates s dx dy).getD []).getD (k + 1) sp0).x), .int .i64 ((((possStates s dx dy).getD []).getD (k + 1) sp0).y), .int .i64 ((((possStates s dx dy).getD []).getD (k + 1) sp0).d)]), none, none] ((List.range 4).map List.range) [44, 45, 17] [0, 1, 2, 3] [] (fun L aa ww => (L 2 = true → BoxX w22 aa ww 17 57 [.int .i64 0, .int .i64 0, .int .i64 0] (L 3) (fun _ vs => vs = [.int .i64 ((((possStates s dx dy).getD []).getD (k + 1) sp0).x), .int .i64 ((((possStates s dx dy).getD []).getD (k + 1) sp0).y), .int .i64 ((((possStates s dx dy).getD []).getD (k + 1) sp0).d)]))) (by kernel_rfl) (by rw [hz]; decide) ?_ (.cons ?_ (.cons ?_ (.cons ?_ (.cons ?_ .nil)))) ?_
     · exact fun _ h => (fun h => by cases h)
     · intro Lk ak ww hL hdd haa hF hK hV hX Nk Qk hN; refine wnt rfl ?_
       simp [go_sem, Array.getD_eq_getD_getElem?, hF.g rfl s40, hF.g rfl s42, show k < ((possStates s dx dy).getD []).length - 1 by omega]
       exact (hN _ _ hK rfl (fun h => ((hX h).bel (Below.refl _ _) (fun _ h => h)).put (by decide) _))
     · intro Lk ak ww hL hdd haa hF hK hV hX Nk Qk hN; refine wnt rfl ?_
       have hE := E1.kp hK (by simp)
       simp [go_sem, Array.getD_eq_getD_getElem?, (show ak.tmps[44]?.getD undef = _ from hV 0 _ rfl (hdd 0 rfl)), (hE.at_ sp0 (i := k + 1) (by omega) 0 (p := o1e + 3 + k * 3) (by omega) rfl), (hE.at_ sp0 (i := k + 1) (by omega) 1 (p := o1e + 3 + k * 3 + 1) (by omega) rfl), (hE.at_ sp0 (i := k + 1) (by omega) 2 (p := o1e + 3 + k * 3 + 2) (by omega) rfl)]
       exact (hN _ _ hK rfl (fun h => ((hX h).bel (Below.refl _ _) (fun _ h => h)).put (by decide) _))
     · intro Lk ak ww hL hdd haa hF hK hV hX Nk Qk hN
       have x0 := hX
       refine wnt rfl ?_
       simp [go_sem]
       exact hN _ _ (hK.alloc _) trivial (fun _ => by rw [show upd Lk 2 3 = false from haa 3 rfl]; exact BoxX.new (s := 17) (hF.lt (by rw [hz]; decide)) hK.size [.int .i64 0, .int .i64 0, .int .i64 0])
     · intro Lk ak ww hL hdd haa hF hK hV hX Nk Qk hN
       have x0 := hX
       refine wnt rfl ?_
       obtain ⟨g, eg, hg, y, _⟩ := x0 (hdd 2 rfl)
       have HT := y hL
       simp [go_sem, Array.getD_eq_getD_getElem?, (show ak.tmps[45]?.getD undef = _ from hV 1 _ rfl (hdd 1 rfl)), eg, HT.cell, HT.frz]
       exact hN undef _ (hK.store (.inl hg) [.int .i64 ((((possStates s dx dy).getD []).getD (k + 1) sp0).x), .int .i64 ((((possStates s dx dy).getD []).getD (k + 1) sp0).y), .int .i64 ((((possStates s dx dy).getD []).getD (k + 1) sp0).d)] 0) trivial (fun _ => BoxX.set eg hg HT (us := [.int .i64 ((((possStates s dx dy).getD []).getD (k + 1) sp0).x), .int .i64 ((((possStates s dx dy).getD []).getD (k + 1) sp0).y), .int .i64 ((((possStates s dx dy).getD []).getD (k + 1) sp0).d)]) rfl rfl)
     intro L a24 w25 hL hF hK hV hX
     have x0 := hX
     replace hz := hF.size.trans hz
     replace hdf := hF.defers.trans hdf
     replace s5 := hF.g rfl s5
     replace s6 := hF.g rfl s6
     replace s10 := hF.g rfl s10
     replace s15 := hF.g rfl s15
     replace s14 := hF.g rfl s14
     replace s40 := hF.g rfl s40
     replace s41 := hF.g rfl s41
     replace s42 := hF.g rfl s42
     have s44 : a24.tmps[44]?.getD undef = .pointer (some ⟨b1e, o1e + 3 + k * 3, none⟩) := hV 0 _ rfl
     have s45 : a24.tmps[45]?.getD undef = .agg #[.int .i64 ((((possStates s dx dy).getD []).getD (k + 1) sp0).x), .int .i64 ((((possStates s dx dy).getD []).getD (k + 1) sp0).y), .int .i64 ((((possStates s dx dy).getD []).getD (k + 1) sp0).d)] := hV 1 _ rfl
     replace b3 := b3.kp hK (by simp)
     replace b4 := b4.kp hK (by simp)
     replace b6 := b6.kp hK (by simp)
     replace b16 := b16.kp hK (by simp)
     obtain ⟨g26, s17, lg26, -, b26⟩ := x0 (hL 2 (by decide))
     obtain ⟨_, b26, rfl⟩ := b26 (hL 3 (by decide))
     have ug26 := b26.lt
     replace E1 := E1.kp hK (by simp)
     have zw22 := hZ
     have zw25 := hK.size
     replace hZ := Nat.le_refl w25.heap.size
     replace hB := hK.below0 hB
     clear hF hK hV hL x0 s43
     refine th_n ?_
     refine wp_seq ?_
     refine wp_regJ (by kernel_rfl) [47, 48, 49, 50, 46, 51, 52, 18, 0, 19] [some (roomV r ra), some (.agg #[.slice b.A p.length b.c]), some (.agg #[.int .i64 ((((possStates s dx dy).getD []).getD (k + 1) sp0).x), .int .i64 ((((possStates s dx dy).getD []).getD (k + 1) sp0).y), .int .i64 ((((possStates s dx dy).getD []).getD (k + 1) sp0).d)]), some (.tuple #[.agg #[.int .i64 (((admAt r p (((possStates s dx dy).getD []).getD (k + 1) sp0)).getD span0).low.n), .int .i64 (((admAt r p (((possStates s dx dy).getD []).getD (k + 1) sp0)).getD span0).low.d), .int .i64 (((admAt r p (((possStates s dx dy).getD []).getD (k + 1) sp0)).getD span0).high.n), .int .i64 (((admAt r p (((possStates s dx dy).getD []).getD (k + 1) sp0)).getD span0).high.d)], .bool ((admAt r p (((possStates s dx dy).getD []).getD (k + 1) sp0)).isSome)]), some (.tuple #[.agg #[.int .i64 (((admAt r p (((possStates s dx dy).getD []).getD (k + 1) sp0)).getD span0).low.n), .int .i64 (((admAt r p (((possStates s dx dy).getD []).getD (k + 1) sp0)).getD span0).low.d), .int .i64 (((admAt r p (((possStates s dx dy).getD []).getD (k + 1) sp0)).getD span0).high.n), .int .i64 (((admAt r p (((possStates s dx dy).getD []).getD (k + 1) sp0)).getD span0).high.d)], .bool ((admAt r p (((possStates s dx dy).getD []).getD (k + 1) sp0)).isSome)]), some (.agg #[.int .i64 (((admAt r p (((possStates s dx dy).getD []).getD (k + 1) sp0)).getD span0).low.n), .int .i64 (((admAt r p (((possStates s dx dy).getD []).getD (k + 1) sp0)).getD span0).low.d), .int .i64 (((admAt r p (((possStates s dx dy).getD []).getD (k + 1) sp0)).getD span0).high.n), .int .i64 (((admAt r p (((possStates s dx dy).getD []).getD (k + 1) sp0)).getD span0).high.d)]), some (.bool ((admAt r p (((possStates s dx dy).getD []).getD (k + 1) sp0)).isSome)), none, none, some (.bool ((admAt r p (((possStates s dx dy).getD []).getD (k + 1) sp0)).isSome))] ((List.range 10).map List.range) [47, 48, 49, 50, 46, 51, 52, 18, 19] [0, 1, 2, 3, 4, 5, 6, 7, 8, 9] [] (fun L aa ww => (L 7 = true → BoxX w25 aa ww 18 54 [.int .i64 0, .int .i64 0, .int .i64 0, .int .i64 0] (L 8) (fun _ vs => vs = [.int .i64 (((admAt r p (((possStates s dx dy).getD []).getD (k + 1) sp0)).getD span0).low.n), .int .i64 (((admAt r p (((possStates s dx dy).getD []).getD (k + 1) sp0)).getD span0).low.d), .int .i64 (((admAt r p (((possStates s dx dy).getD []).getD (k + 1) sp0)).getD span0).high.n), .int .i64 (((admAt r p (((possStates s dx dy).getD []).getD (k + 1) sp0)).getD span0).high.d)]))) (by kernel_rfl) (by rw [hz]; decide) ?_ (.cons ?_ (.cons ?_ (.cons ?_ (.cons ?_ (.cons ?_ (.cons ?_ (.cons ?_ (.cons ?_ (.cons ?_ (.cons ?_ .nil)))))))))) ?_
     · exact fun _ h => (fun h => by cases h)
     · intro Lk ak ww hL hdd haa hF hK hV hX Nk Qk hN; refine wnt rfl ?_
       simp [go_sem, Array.getD_eq_getD_getElem?, hF.g rfl s5, (b3.kp hK (by simp)).cell]
       exact (hN _ _ hK rfl (fun h => ((hX h).bel (Below.refl _ _) (fun _ h => h)).put (by decide) _))
     · intro Lk ak ww hL hdd haa hF hK hV hX Nk Qk hN; refine wnt rfl ?_
       simp [go_sem, Array.getD_eq_getD_getElem?, hF.g rfl s6, (b4.kp hK (by simp)).cell]
       exact (hN _ _ hK rfl (fun h => ((hX h).bel (Below.refl _ _) (fun _ h => h)).put (by decide) _))
     · intro Lk ak ww hL hdd haa hF hK hV hX Nk Qk hN; refine wnt rfl ?_
       simp [go_sem, Array.getD_eq_getD_getElem?, hF.g rfl s17, (b26.kp hK (by simp)).cell]
       exact (hN _ _ hK rfl (fun h => ((hX h).bel (Below.refl _ _) (fun _ h => h)).put (by decide) _))
     · intro Lk ak ww hL hdd haa hF hK hV hX Nk Qk hN; refine wnt rfl ?_
       simp [go_sem, Array.getD_eq_getD_getElem?, (show ak.tmps[47]?.getD undef = _ from hV 0 _ rfl (hdd 0 rfl)), (show ak.tmps[48]?.getD undef = _ from hV 1 _ rfl (hdd 1 rfl)), (show ak.tmps[49]?.getD undef = _ from hV 2 _ rfl (hdd 2 rfl))]
       have hBi := hK.below0 hB
       refine (sAdmAt_c r p (((possStates s dx dy).getD []).getD (k + 1) sp0) ra b ww hn hin (hs.below hBi) hnl hlp hpi (hsp.below hBi) hnb (spot_In (getD_ok hp4.2 (i := k + 1) (by omega)))).mono ?_
       rintro x wx ⟨rfl, hb⟩
       exact (hN _ _ (hK.call hb) (optSpan_eq _) (fun h => ((hX h).bel hb (fun _ h => h)).put (by decide) _))
     · intro Lk ak ww hL hdd haa hF hK hV hX Nk Qk hN; refine wnt rfl ?_
       exact wp_move rfl (ev (hV 3 _ rfl (hdd 3 rfl))) (hN _ _ hK rfl (fun h => ((hX h).bel (Below.refl _ _) (fun _ h => h)).put (by decide) _))
     · intro Lk ak ww hL hdd haa hF hK hV hX Nk Qk hN; refine wnt rfl ?_
       exact wp_extract rfl (ev (hV 4 _ rfl (hdd 4 rfl))) rfl (hN _ _ hK rfl (fun h => ((hX h).bel (Below.refl _ _) (fun _ h => h)).put (by decide) _))
     · intro Lk ak ww hL hdd haa hF hK hV hX Nk Qk hN; refine wnt rfl ?_
       exact wp_extract rfl (ev (hV 4 _ rfl (hdd 4 rfl))) rfl (hN _ _ hK rfl (fun h => ((hX h).bel (Below.refl _ _) (fun _ h => h)).put (by decide) _))
     · intro Lk ak ww hL hdd haa hF hK hV hX Nk Qk hN
       have x0 := hX
       refine wnt rfl ?_
       simp [go_sem]
       exact hN _ _ (hK.alloc _) trivial (fun _ => by rw [show upd Lk 7 8 = false from haa 8 rfl]; exact BoxX.new (s := 18) (hF.lt (by rw [hz]; decide)) hK.size [.int .i64 0, .int .i64 0, .int .i64 0, .int .i64 0])
     · intro Lk ak ww hL hdd haa hF hK hV hX Nk Qk hN
       have x0 := hX
       refine wnt rfl ?_
       obtain ⟨g, eg, hg, y, _⟩ := x0 (hdd 7 rfl)
       have HT := y hL
       simp [go_sem, Array.getD_eq_getD_getElem?, (show ak.tmps[51]?.getD undef = _ from hV 5 _ rfl (hdd 5 rfl)), eg, HT.cell, HT.frz]
       exact hN undef _ (hK.store (.inl hg) [.int .i64 (((admAt r p (((possStates s dx dy).getD []).getD (k + 1) sp0)).getD span0).low.n), .int .i64 (((admAt r p (((possStates s dx dy).getD []).getD (k + 1) sp0)).getD span0).low.d), .int .i64 (((admAt r p (((possStates s dx dy).getD []).getD (k + 1) sp0)).getD span0).high.n), .int .i64 (((admAt r p (((possStates s dx dy).getD []).getD (k + 1) sp0)).getD span0).high.d)] 0) trivial (fun _ => BoxX.set eg hg HT (us := [.int .i64 (((admAt r p (((possStates s dx dy).getD []).getD (k + 1) sp0)).getD span0).low.n), .int .i64 (((admAt r p (((possStates s dx dy).getD []).getD (k + 1) sp0)).getD span0).low.d), .int .i64 (((admAt r p (((possStates s dx dy).getD []).getD (k + 1) sp0)).getD span0).high.n), .int .i64 (((admAt r p (((possStates s dx dy).getD []).getD (k + 1) sp0)).getD span0).high.d)]) rfl rfl)
     · intro Lk ak ww hL hdd haa hF hK hV hX Nk Qk hN; refine wnt rfl ?_
       exact wp_assign rfl (ev (hV 6 _ rfl (hdd 6 rfl))) (hN _ _ hK rfl (fun h => ((hX h).bel (Below.refl _ _) (fun _ h => h)).put (by decide) _))
     intro L a27 w28 hL hF hK hV hX
     have x0 := hX
     replace hz := hF.size.trans hz
     replace hdf := hF.defers.trans hdf
     replace s5 := hF.g rfl s5
     replace s6 := hF.g rfl s6
     replace s10 := hF.g rfl s10
     replace s15 := hF.g rfl s15
     replace s14 := hF.g rfl s14
     replace s40 := hF.g rfl s40
     replace s41 := hF.g rfl s41
     replace s42 := hF.g rfl s42
     replace s44 := hF.g rfl s44
     replace s45 := hF.g rfl s45
     replace s17 := hF.g rfl s17
     have s47 : a27.tmps[47]?.getD undef = roomV r ra := hV 0 _ rfl
     have s48 : a27.tmps[48]?.getD undef = .agg #[.slice b.A p.length b.c] := hV 1 _ rfl
     have s49 : a27.tmps[49]?.getD undef = .agg #[.int .i64 ((((possStates s dx dy).getD []).getD (k + 1) sp0).x), .int .i64 ((((possStates s dx dy).getD []).getD (k + 1) sp0).y), .int .i64 ((((possStates s dx dy).getD []).getD (k + 1) sp0).d)] := hV 2 _ rfl
     have s50 : a27.tmps[50]?.getD undef = .tuple #[.agg #[.int .i64 (((admAt r p (((possStates s dx dy).getD []).getD (k + 1) sp0)).getD span0).low.n), .int .i64 (((admAt r p (((possStates s dx dy).getD []).getD (k + 1) sp0)).getD span0).low.d), .int .i64 (((admAt r p (((possStates s dx dy).getD []).getD (k + 1) sp0)).getD span0).high.n), .int .i64 (((admAt r p (((possStates s dx dy).getD []).getD (k + 1) sp0)).getD span0).high.d)], .bool ((admAt r p (((possStates s dx dy).getD []).getD (k + 1) sp0)).isSome)] := hV 3 _ rfl
     have s46 : a27.tmps[46]?.getD undef = .tuple #[.agg #[.int .i64 (((admAt r p (((possStates s dx dy).getD []).getD (k + 1) sp0)).getD span0).low.n), .int .i64 (((admAt r p (((possStates s dx dy).getD []).getD (k + 1) sp0)).getD span0).low.d), .int .i64 (((admAt r p (((possStates s dx dy).getD []).getD (k + 1) sp0)).getD span0).high.n), .int .i64 (((admAt r p (((possStates s dx dy).getD []).getD (k + 1) sp0)).getD span0).high.d)], .bool ((admAt r p (((possStates s dx dy).getD []).getD (k + 1) sp0)).isSome)] := hV 4 _ rfl
     have s51 : a27.tmps[51]?.getD undef = .agg #[.int .i64 (((admAt r p (((possStates s dx dy).getD []).getD (k + 1) sp0)).getD span0).low.n), .int .i64 (((admAt r p (((possStates s dx dy).getD []).getD (k + 1) sp0)).getD span0).low.d), .int .i64 (((admAt r p (((possStates s dx dy).getD []).getD (k + 1) sp0)).getD span0).high.n), .int .i64 (((admAt r p (((possStates s dx dy).getD []).getD (k + 1) sp0)).getD span0).high.d)] := hV 5 _ rfl
     have s52 : a27.tmps[52]?.getD undef = .bool ((admAt r p (((possStates s dx dy).getD []).getD (k + 1) sp0)).isSome) := hV 6 _ rfl
     have s19 : a27.tmps[19]?.getD undef = .bool ((admAt r p (((possStates s dx dy).getD []).getD (k + 1) sp0)).isSome) := hV 9 _ rfl
     replace b3 := b3.kp hK (by simp)
     replace b4 := b4.kp hK (by simp)
     replace b6 := b6.kp hK (by simp)
     replace b16 := b16.kp hK (by simp)
     replace b26 := b26.kp hK (by simp)
     obtain ⟨g29, s18, lg29, -, b29⟩ := x0 (hL 7 (by decide))
     obtain ⟨_, b29, rfl⟩ := b29 (hL 8 (by decide))
     have ug29 := b29.lt
     replace E1 := E1.kp hK (by simp)
     have zw28 := hK.size
     replace hZ := Nat.le_refl w28.heap.size
     replace hB := hK.below0 hB
     clear hF hK hV hL x0
     refine th_n ?_
     refine wp_seq ?_
     refine wp_seq ?_
     refine wp_regJ (by kernel_rfl) [53, 54, 55, 56, 57, 58] [some (.bool ov.isSome), some (.bool (!ov.isSome)), some (.bool (!ov.isSome)), some ((bif !ov.isSome then undef else (.bool ((admAt r p (((possStates s dx dy).getD []).getD (k + 1) sp0)).isSome) : Value))), some ((bif !ov.isSome then undef else (.bool (!((admAt r p (((possStates s dx dy).getD []).getD (k + 1) sp0)).isSome)) : Value))), some (.bool (!ov.isSome || !((admAt r p (((possStates s dx dy).getD []).getD (k + 1) sp0)).isSome)))] ((List.range 6).map List.range) [53, 54, 55, 56, 57, 58] [0, 1, 2, 3, 4, 5] [] (fun _ _ _ => True) (by kernel_rfl) (by rw [hz]; decide) ?_ (.cons ?_ (.cons ?_ (.cons ?_ (.cons ?_ (.cons ?_ (.cons ?_ .nil)))))) ?_
     · exact fun _ _ => trivial
     · intro Lk ak ww hL hdd haa hF hK hV hX Nk Qk hN; refine wnt rfl ?_
       exact wp_move rfl (ev (hF.g rfl s15)) (hN _ _ hK rfl trivial)
     · intro Lk ak ww hL hdd haa hF hK hV hX Nk Qk hN; refine wnt rfl ?_
       exact wp_not rfl (ev (hV 0 _ rfl (hdd 0 rfl))) (hN _ _ hK rfl trivial)
     · intro Lk ak ww hL hdd haa hF hK hV hX Nk Qk hN; refine wnt rfl ?_
       exact wp_move rfl (ev (hV 1 _ rfl (hdd 1 rfl))) (hN _ _ hK rfl trivial)
     · intro Lk ak ww hL hdd haa hF hK hV hX Nk Qk hN
       rcases Bool.eq_false_or_eq_true (!ov.isSome) with qg | qg
       · refine wnt_n rfl rfl rfl (vb (hV 2 _ rfl (hdd 2 rfl)) qg) (by decide) ?_
         exact hN _ _ hK (bif_t qg).symm trivial
       · refine wnt_y rfl rfl rfl (vb (hV 2 _ rfl (hdd 2 rfl)) qg) ?_
         exact wp_move rfl (ev (hF.g rfl s19)) (hN _ _ hK (bif_f qg).symm trivial)
     · intro Lk ak ww hL hdd haa hF hK hV hX Nk Qk hN
       rcases Bool.eq_false_or_eq_true (!ov.isSome) with qg | qg
       · refine wnt_n rfl rfl rfl (vb (hV 2 _ rfl (hdd 2 rfl)) qg) (by decide) ?_
         exact hN _ _ hK (bif_t qg).symm trivial
       · refine wnt_y rfl rfl rfl (vb (hV 2 _ rfl (hdd 2 rfl)) qg) ?_
         exact wp_not rfl (ev ((hV 3 _ rfl (hdd 3 rfl)).trans (bif_f qg))) (hN _ _ hK (bif_f qg).symm trivial)
     · intro Lk ak ww hL hdd haa hF hK hV hX Nk Qk hN; refine wnt rfl ?_
       exact wp_pick rfl (ev (hV 2 _ rfl (hdd 2 rfl))) (fun h => vor_t h) (fun h => (ev ((hV 4 _ rfl (hdd 4 rfl)).trans (bif_f h))).trans (vor_f h)) (hN _ _ hK rfl trivial)
     intro L a30 w31 hL hF hK hV hX
     replace hz := hF.size.trans hz
     replace hdf := hF.defers.trans hdf
     replace s5 := hF.g rfl s5
     replace s6 := hF.g rfl s6
     replace s10 := hF.g rfl s10
     replace s14 := hF.g rfl s14
     replace s40 := hF.g rfl s40
     replace s41 := hF.g rfl s41
     replace s42 := hF.g rfl s42
     replace s44 := hF.g rfl s44
     replace s45 := hF.g rfl s45
     replace s17 := hF.g rfl s17
     replace s47 := hF.g rfl s47
     replace s48 := hF.g rfl s48
     replace s49 := hF.g rfl s49
     replace s50 := hF.g rfl s50
     replace s46 := hF.g rfl s46
     replace s51 := hF.g rfl s51
     replace s52 := hF.g rfl s52
     replace s18 := hF.g rfl s18
     have s53 : a30.tmps[53]?.getD undef = .bool ov.isSome := hV 0 _ rfl
     have s54 : a30.tmps[54]?.getD undef = .bool (!ov.isSome) := hV 1 _ rfl
     have s55 : a30.tmps[55]?.getD undef = .bool (!ov.isSome) := hV 2 _ rfl
     have s56 : a30.tmps[56]?.getD undef = (bif !ov.isSome then undef else (.bool ((admAt r p (((possStates s dx dy).getD []).getD (k + 1) sp0)).isSome) : Value)) := hV 3 _ rfl
     have s57 : a30.tmps[57]?.getD undef = (bif !ov.isSome then undef else (.bool (!((admAt r p (((possStates s dx dy).getD []).getD (k + 1) sp0)).isSome)) : Value)) := hV 4 _ rfl
     have s58 : a30.tmps[58]?.getD undef = .bool (!ov.isSome || !((admAt r p (((possStates s dx dy).getD []).getD (k + 1) sp0)).isSome)) := hV 5 _ rfl
     replace b3 := b3.kp hK (by simp)
     replace b4 := b4.kp hK (by simp)
     replace b6 := b6.kp hK (by simp)
     replace b16 := b16.kp hK (by simp)
     replace b26 := b26.kp hK (by simp)
     replace b29 := b29.kp hK (by simp)
     replace E1 := E1.kp hK (by simp)
     replace hZ := Nat.le_trans hZ hK.size
     replace hB := hK.below0 hB
     clear hF hK hV hL hX s15 s19
     refine th_n ?_
     rcases Bool.eq_false_or_eq_true (!ov.isSome || !((admAt r p (((possStates s dx dy).getD []).getD (k + 1) sp0)).isSome)) with q32 | q32
     · skip
       refine wp_cond_true (ev (vb s58 q32)) ?_
       refine wp_seq ?_
       refine wp_regJ (by kernel_rfl) [59, 0, 11] [some (.agg #[.int .i64 0, .int .i64 0, .int .i64 0, .int .i64 0]), none, some (.bool false)] ((List.range 3).map List.range) [59, 11] [0, 1, 2] [(w.heap.size + 3)] (fun L aa ww => PreX ww (w.heap.size + 3) 54 [.int .i64 0, .int .i64 0, .int .i64 0, .int .i64 0] (L 1) (fun _ vs => vs = [.int .i64 0, .int .i64 0, .int .i64 0, .int .i64 0])) (by kernel_rfl) (by rw [hz]; decide) ?_ (.cons ?_ (.cons ?_ (.cons ?_ .nil))) ?_
       · exact fun _ h => (⟨fun _ => b6.kp h (by simp), (fun h => by cases h)⟩)
       · intro Lk ak ww hL hdd haa hF hK hV hX Nk Qk hN; refine wnt rfl ?_
         simp [go_sem]
         exact (hN _ _ hK rfl (hX.bel (Below.refl _ _) (fun _ h => h)))
       · intro Lk ak ww hL hdd haa hF hK hV hX Nk Qk hN
         have x0 := hX
         refine wnt rfl ?_
         have HT := x0.1 hL
         simp [go_sem, Array.getD_eq_getD_getElem?, (show ak.tmps[59]?.getD undef = _ from hV 0 _ rfl (hdd 0 rfl)), hF.g rfl s10, HT.cell, HT.frz]
         exact hN undef _ (hK.store (.inr (by simp)) [.int .i64 0, .int .i64 0, .int .i64 0, .int .i64 0] 0) trivial (PreX.set HT (us := [.int .i64 0, .int .i64 0, .int .i64 0, .int .i64 0]) rfl rfl)
       · intro Lk ak ww hL hdd haa hF hK hV hX Nk Qk hN; refine wnt rfl ?_
         exact wp_assign rfl rfl (hN _ _ hK rfl (hX.bel (Below.refl _ _) (fun _ h => h)))
       intro L a33 w34 hL hF hK hV hX
       have x0 := hX
       replace hz := hF.size.trans hz
       replace hdf := hF.defers.trans hdf
       replace s10 := hF.g rfl s10
       have s11 : a33.tmps[11]?.getD undef = .bool false := hV 2 _ rfl
       clear b6
       obtain ⟨_, b6, rfl⟩ := x0.2 (hL 1 (by decide))
       replace hZ := Nat.le_trans hZ hK.size
       replace hB := hK.below hB hB.size (by simp <;> omega)
       clear hF hK hV hL x0 s5 s6 s14 s40 s41 s42 s44 s45 s17 s47 s48 s49 s50 s46 s51 s52 s18 s53 s54 s55 s56 s57 s58 b3 b4 b16 b26 b29 E1
       refine th_n ?_
       refine wp_ret ?_
       refine th_r (ib_r (th_r (th_r (ib_r (th_r ?_)))))
       refine bodyPost_ret (v := .tuple #[.agg #[.int .i64 0, .int .i64 0, .int .i64 0, .int .i64 0], .bool false]) (by simp [results, Tryz.results24, go_sem, Array.getD_eq_getD_getElem?, s10, b6.cell, s11]) hdf ?_
       exact ⟨by rw [admDrift_acc (not_f q11), accS_stop hg hkl q32]; rfl, hB⟩
     · skip
       refine wp_cond_false (ev (vb s58 q32)) ?_
       refine wp_skip ?_
       refine th_n ?_
       refine wp_regJ (by kernel_rfl) [61, 62, 63, 60, 64, 65, 0, 15] [some (.agg #[.int .i64 ((ov.getD span0).low.n), .int .i64 ((ov.getD span0).low.d), .int .i64 ((ov.getD span0).high.n), .int .i64 ((ov.getD span0).high.d)]), some (.agg #[.int .i64 (((admAt r p (((possStates s dx dy).getD []).getD (k + 1) sp0)).getD span0).low.n), .int .i64 (((admAt r p (((possStates s dx dy).getD []).getD (k + 1) sp0)).getD span0).low.d), .int .i64 (((admAt r p (((possStates s dx dy).getD []).getD (k + 1) sp0)).getD span0).high.n), .int .i64 (((admAt r p (((possStates s dx dy).getD []).getD (k + 1) sp0)).getD span0).high.d)]), some (.tuple #[.agg #[.int .i64 (((meetSp (ov.getD span0) ((admAt r p (((possStates s dx dy).getD []).getD (k + 1) sp0)).getD span0)).getD span0).low.n), .int .i64 (((meetSp (ov.getD span0) ((admAt r p (((possStates s dx dy).getD []).getD (k + 1) sp0)).getD span0)).getD span0).low.d), .int .i64 (((meetSp (ov.getD span0) ((admAt r p (((possStates s dx dy).getD []).getD (k + 1) sp0)).getD span0)).getD span0).high.n), .int .i64 (((meetSp (ov.getD span0) ((admAt r p (((possStates s dx dy).getD []).getD (k + 1) sp0)).getD span0)).getD span0).high.d)], .bool ((meetSp (ov.getD span0) ((admAt r p (((possStates s dx dy).getD []).getD (k + 1) sp0)).getD span0)).isSome)]), some (.tuple #[.agg #[.int .i64 (((meetSp (ov.getD span0) ((admAt r p (((possStates s dx dy).getD []).getD (k + 1) sp0)).getD span0)).getD span0).low.n), .int .i64 (((meetSp (ov.getD span0) ((admAt r p (((possStates s dx dy).getD []).getD (k + 1) sp0)).getD span0)).getD span0).low.d), .int .i64 (((meetSp (ov.getD span0) ((admAt r p (((possStates s dx dy).getD []).getD (k + 1) sp0)).getD span0)).getD span0).high.n), .int .i64 (((meetSp (ov.getD span0) ((admAt r p (((possStates s dx dy).getD []).getD (k + 1) sp0)).getD span0)).getD span0).high.d)], .bool ((meetSp (ov.getD span0) ((admAt r p (((possStates s dx dy).getD []).getD (k + 1) sp0)).getD span0)).isSome)]), some (.agg #[.int .i64 (((meetSp (ov.getD span0) ((admAt r p (((possStates s dx dy).getD []).getD (k + 1) sp0)).getD span0)).getD span0).low.n), .int .i64 (((meetSp (ov.getD span0) ((admAt r p (((possStates s dx dy).getD []).getD (k + 1) sp0)).getD span0)).getD span0).low.d), .int .i64 (((meetSp (ov.getD span0) ((admAt r p (((possStates s dx dy).getD []).getD (k + 1) sp0)).getD span0)).getD span0).high.n), .int .i64 (((meetSp (ov.getD span0) ((admAt r p (((possStates s dx dy).getD []).getD (k + 1) sp0)).getD span0)).getD span0).high.d)]), some (.bool ((meetSp (ov.getD span0) ((admAt r p (((possStates s dx dy).getD []).getD (k + 1) sp0)).getD span0)).isSome)), none, some (.bool ((meetSp (ov.getD span0) ((admAt r p (((possStates s dx dy).getD []).getD (k + 1) sp0)).getD span0)).isSome))] ((List.range 8).map List.range) [61, 62, 63, 60, 64, 65, 15] [0, 1, 2, 3, 4, 5, 6, 7] [g16] (fun L aa ww => PreX ww g16 54 [.int .i64 ((ov.getD span0).low.n), .int .i64 ((ov.getD span0).low.d), .int .i64 ((ov.getD span0).high.n), .int .i64 ((ov.getD span0).high.d)] (L 6) (fun _ vs => vs = [.int .i64 (((meetSp (ov.getD span0) ((admAt r p (((possStates s dx dy).getD []).getD (k + 1) sp0)).getD span0)).getD span0).low.n), .int .i64 (((meetSp (ov.getD span0) ((admAt r p (((possStates s dx dy).getD []).getD (k + 1) sp0)).getD span0)).getD span0).low.d), .int .i64 (((meetSp (ov.getD span0) ((admAt r p (((possStates s dx dy).getD []).getD (k + 1) sp0)).getD span0)).getD span0).high.n), .int .i64 (((meetSp (ov.getD span0) ((admAt r p (((possStates s dx dy).getD []).getD (k + 1) sp0)).getD span0)).getD span0).high.d)])) (by kernel_rfl) (by rw [hz]; decide) ?_ (.cons ?_ (.cons ?_ (.cons ?_ (.cons ?_ (.cons ?_ (.cons ?_ (.cons ?_ (.cons ?_ .nil)))))))) ?_
       · exact fun _ h => (⟨fun _ => b16.kp h (by simp), (fun h => by cases h)⟩)
       · intro Lk ak ww hL hdd haa hF hK hV hX Nk Qk hN
         have x0 := hX
         refine wnt rfl ?_
         have hb0 := x0.1 (haa 6 rfl)
         simp [go_sem, Array.getD_eq_getD_getElem?, hF.g rfl s14, hb0.cell]
         exact (hN _ _ hK rfl (x0.bel (Below.refl _ _) (fun _ h => h)))
       · intro Lk ak ww hL hdd haa hF hK hV hX Nk Qk hN; refine wnt rfl ?_
         simp [go_sem, Array.getD_eq_getD_getElem?, hF.g rfl s18, (b29.kp hK (by simp <;> omega)).cell]
         exact (hN _ _ hK rfl (hX.bel (Below.refl _ _) (fun _ h => h)))
       · intro Lk ak ww hL hdd haa hF hK hV hX Nk Qk hN; refine wnt rfl ?_
         simp [go_sem, Array.getD_eq_getD_getElem?, (show ak.tmps[61]?.getD undef = _ from hV 0 _ rfl (hdd 0 rfl)), (show ak.tmps[62]?.getD undef = _ from hV 1 _ rfl (hdd 1 rfl))]
         refine (sMeet2_c (ov.getD span0) ((admAt r p (((possStates s dx dy).getD []).getD (k + 1) sp0)).getD span0) ww (optIn (fun v hv => accS_ok (fun _ _ h => admAt_ok h) (hg.trans hv))) (optIn (fun v hv => admAt_ok hv))).mono ?_
         rintro x wx ⟨rfl, hb⟩
         exact (hN _ _ (hK.call hb) (optSpan_eq _) (hX.bel hb (fun _ h => h)))
       · intro Lk ak ww hL hdd haa hF hK hV hX Nk Qk hN; refine wnt rfl ?_
         exact wp_move rfl (ev (hV 2 _ rfl (hdd 2 rfl))) (hN _ _ hK rfl (hX.bel (Below.refl _ _) (fun _ h => h)))
       · intro Lk ak ww hL hdd haa hF hK hV hX Nk Qk hN; refine wnt rfl ?_
         exact wp_extract rfl (ev (hV 3 _ rfl (hdd 3 rfl))) rfl (hN _ _ hK rfl (hX.bel (Below.refl _ _) (fun _ h => h)))
       · intro Lk ak ww hL hdd haa hF hK hV hX Nk Qk hN; refine wnt rfl ?_
         exact wp_extract rfl (ev (hV 3 _ rfl (hdd 3 rfl))) rfl (hN _ _ hK rfl (hX.bel (Below.refl _ _) (fun _ h => h)))
       · intro Lk ak ww hL hdd haa hF hK hV hX Nk Qk hN
         have x0 := hX
         refine wnt rfl ?_
         have HT := x0.1 hL
         simp [go_sem, Array.getD_eq_getD_getElem?, (show ak.tmps[64]?.getD undef = _ from hV 4 _ rfl (hdd 4 rfl)), hF.g rfl s14, HT.cell, HT.frz]
         exact hN undef _ (hK.store (.inr (by simp)) [.int .i64 (((meetSp (ov.getD span0) ((admAt r p (((possStates s dx dy).getD []).getD (k + 1) sp0)).getD span0)).getD span0).low.n), .int .i64 (((meetSp (ov.getD span0) ((admAt r p (((possStates s dx dy).getD []).getD (k + 1) sp0)).getD span0)).getD span0).low.d), .int .i64 (((meetSp (ov.getD span0) ((admAt r p (((possStates s dx dy).getD []).getD (k + 1) sp0)).getD span0)).getD span0).high.n), .int .i64 (((meetSp (ov.getD span0) ((admAt r p (((possStates s dx dy).getD []).getD (k + 1) sp0)).getD span0)).getD span0).high.d)] 0) trivial (PreX.set HT (us := [.int .i64 (((meetSp (ov.getD span0) ((admAt r p (((possStates s dx dy).getD []).getD (k + 1) sp0)).getD span0)).getD span0).low.n), .int .i64 (((meetSp (ov.getD span0) ((admAt r p (((possStates s dx dy).getD []).getD (k + 1) sp0)).getD span0)).getD span0).low.d), .int .i64 (((meetSp (ov.getD span0) ((admAt r p (((possStates s dx dy).getD []).getD (k + 1) sp0)).getD span0)).getD span0).high.n), .int .i64 (((meetSp (ov.getD span0) ((admAt r p (((possStates s dx dy).getD []).getD (k + 1) sp0)).getD span0)).getD span0).high.d)]) rfl rfl)
       · intro Lk ak ww hL hdd haa hF hK hV hX Nk Qk hN; refine wnt rfl ?_
         exact wp_assign rfl (ev (hV 5 _ rfl (hdd 5 rfl))) (hN _ _ hK rfl (hX.bel (Below.refl _ _) (fun _ h => h)))
       intro L a35 w36 hL hF hK hV hX
       have x0 := hX
       replace hz := hF.size.trans hz
       replace hdf := hF.defers.trans hdf
       replace s5 := hF.g rfl s5
       replace s6 := hF.g rfl s6
       replace s10 := hF.g rfl s10
       replace s14 := hF.g rfl s14
       replace s40 := hF.g rfl s40
       replace s41 := hF.g rfl s41
       replace s42 := hF.g rfl s42
       replace s44 := hF.g rfl s44
       replace s45 := hF.g rfl s45
       replace s17 := hF.g rfl s17
       replace s47 := hF.g rfl s47
       replace s48 := hF.g rfl s48
       replace s49 := hF.g rfl s49
       replace s50 := hF.g rfl s50
       replace s46 := hF.g rfl s46
       replace s51 := hF.g rfl s51
       replace s52 := hF.g rfl s52
       replace s18 := hF.g rfl s18
       replace s53 := hF.g rfl s53
       replace s54 := hF.g rfl s54
       replace s55 := hF.g rfl s55
       replace s56 := hF.g rfl s56
       replace s57 := hF.g rfl s57
       have s61 : a35.tmps[61]?.getD undef = .agg #[.int .i64 ((ov.getD span0).low.n), .int .i64 ((ov.getD span0).low.d), .int .i64 ((ov.getD span0).high.n), .int .i64 ((ov.getD span0).high.d)] := hV 0 _ rfl
       have s62 : a35.tmps[62]?.getD undef = .agg #[.int .i64 (((admAt r p (((possStates s dx dy).getD []).getD (k + 1) sp0)).getD span0).low.n), .int .i64 (((admAt r p (((possStates s dx dy).getD []).getD (k + 1) sp0)).getD span0).low.d), .int .i64 (((admAt r p (((possStates s dx dy).getD []).getD (k + 1) sp0)).getD span0).high.n), .int .i64 (((admAt r p (((possStates s dx dy).getD []).getD (k + 1) sp0)).getD span0).high.d)] := hV 1 _ rfl
       have s63 : a35.tmps[63]?.getD undef = .tuple #[.agg #[.int .i64 (((meetSp (ov.getD span0) ((admAt r p (((possStates s dx dy).getD []).getD (k + 1) sp0)).getD span0)).getD span0).low.n), .int .i64 (((meetSp (ov.getD span0) ((admAt r p (((possStates s dx dy).getD []).getD (k + 1) sp0)).getD span0)).getD span0).low.d), .int .i64 (((meetSp (ov.getD span0) ((admAt r p (((possStates s dx dy).getD []).getD (k + 1) sp0)).getD span0)).getD span0).high.n), .int .i64 (((meetSp (ov.getD span0) ((admAt r p (((possStates s dx dy).getD []).getD (k + 1) sp0)).getD span0)).getD span0).high.d)], .bool ((meetSp (ov.getD span0) ((admAt r p (((possStates s dx dy).getD []).getD (k + 1) sp0)).getD span0)).isSome)] := hV 2 _ rfl
       have s60 : a35.tmps[60]?.getD undef = .tuple #[.agg #[.int .i64 (((meetSp (ov.getD span0) ((admAt r p (((possStates s dx dy).getD []).getD (k + 1) sp0)).getD span0)).getD span0).low.n), .int .i64 (((meetSp (ov.getD span0) ((admAt r p (((possStates s dx dy).getD []).getD (k + 1) sp0)).getD span0)).getD span0).low.d), .int .i64 (((meetSp (ov.getD span0) ((admAt r p (((possStates s dx dy).getD []).getD (k + 1) sp0)).getD span0)).getD span0).high.n), .int .i64 (((meetSp (ov.getD span0) ((admAt r p (((possStates s dx dy).getD []).getD (k + 1) sp0)).getD span0)).getD span0).high.d)], .bool ((meetSp (ov.getD span0) ((admAt r p (((possStates s dx dy).getD []).getD (k + 1) sp0)).getD span0)).isSome)] := hV 3 _ rfl
       have s64 : a35.tmps[64]?.getD undef = .agg #[.int .i64 (((meetSp (ov.getD span0) ((admAt r p (((possStates s dx dy).getD []).getD (k + 1) sp0)).getD span0)).getD span0).low.n), .int .i64 (((meetSp (ov.getD span0) ((admAt r p (((possStates s dx dy).getD []).getD (k + 1) sp0)).getD span0)).getD span0).low.d), .int .i64 (((meetSp (ov.getD span0) ((admAt r p (((possStates s dx dy).getD []).getD (k + 1) sp0)).getD span0)).getD span0).high.n), .int .i64 (((meetSp (ov.getD span0) ((admAt r p (((possStates s dx dy).getD []).getD (k + 1) sp0)).getD span0)).getD span0).high.d)] := hV 4 _ rfl
       have s65 : a35.tmps[65]?.getD undef = .bool ((meetSp (ov.getD span0) ((admAt r p (((possStates s dx dy).getD []).getD (k + 1) sp0)).getD span0)).isSome) := hV 5 _ rfl
       have s15 : a35.tmps[15]?.getD undef = .bool ((meetSp (ov.getD span0) ((admAt r p (((possStates s dx dy).getD []).getD (k + 1) sp0)).getD span0)).isSome) := hV 7 _ rfl
       replace b3 := b3.kp hK (by simp <;> omega)
       replace b4 := b4.kp hK (by simp <;> omega)
       replace b6 := b6.kp hK (by simp <;> omega)
       clear b16
       obtain ⟨_, b16, rfl⟩ := x0.2 (hL 6 (by decide))
       replace b26 := b26.kp hK (by simp <;> omega)
       replace b29 := b29.kp hK (by simp <;> omega)
       replace E1 := E1.kp hK (by simp <;> omega)
       replace hZ := Nat.le_trans hZ hK.size
       replace hB := hK.below hB hB.size (by simp <;> omega)
       clear hF hK hV hL x0 s58
       refine ib_n (th_n ?_)
       refine wp_regJ (by kernel_rfl) [66, 42] [some (.int .i64 (((k : Nat) : Int) + 1)), some (.int .i64 (((k : Nat) : Int) + 1))] ((List.range 2).map List.range) [66, 42] [0, 1] [] (fun L aa ww => (L 1 = false → aa.tmps[42]?.getD undef = .int .i64 ((k : Nat) : Int))) (by kernel_rfl) (by rw [hz]; decide) ?_ (.cons ?_ (.cons ?_ .nil)) ?_
       · exact fun _ h => (fun _ => s42)
       · intro Lk ak ww hL hdd haa hF hK hV hX Nk Qk hN
         have x0 := hX
         refine wnt rfl ?_
         exact wp_add rfl (ev (x0 (haa 1 rfl))) rfl (by omega) (hN _ _ hK rfl (fun h => (put_ne' (by decide) _).trans (x0 h)))
       · intro Lk ak ww hL hdd haa hF hK hV hX Nk Qk hN
         have x0 := hX
         refine wnt rfl ?_
         exact wp_move rfl (ev (hV 0 _ rfl (hdd 0 rfl))) (hN _ _ hK rfl (fun h => by cases h))
       intro L a37 w38 hL hF hK hV hX
       have x0 := hX
       replace hz := hF.size.trans hz
       replace hdf := hF.defers.trans hdf
       replace s5 := hF.g rfl s5
       replace s6 := hF.g rfl s6
       replace s10 := hF.g rfl s10
       replace s14 := hF.g rfl s14
       replace s40 := hF.g rfl s40
       replace s41 := hF.g rfl s41
       replace s44 := hF.g rfl s44
       replace s45 := hF.g rfl s45
       replace s17 := hF.g rfl s17
       replace s47 := hF.g rfl s47
       replace s48 := hF.g rfl s48
       replace s49 := hF.g rfl s49
       replace s50 := hF.g rfl s50
       replace s46 := hF.g rfl s46
       replace s51 := hF.g rfl s51
       replace s52 := hF.g rfl s52
       replace s18 := hF.g rfl s18
       replace s53 := hF.g rfl s53
       replace s54 := hF.g rfl s54
       replace s55 := hF.g rfl s55
       replace s56 := hF.g rfl s56
       replace s57 := hF.g rfl s57
       replace s61 := hF.g rfl s61
       replace s62 := hF.g rfl s62
       replace s63 := hF.g rfl s63
       replace s60 := hF.g rfl s60
       replace s64 := hF.g rfl s64
       replace s65 := hF.g rfl s65
       replace s15 := hF.g rfl s15
       have s66 : a37.tmps[66]?.getD undef = .int .i64 (((k : Nat) : Int) + 1) := hV 0 _ rfl
       have s42 : a37.tmps[42]?.getD undef = .int .i64 (((k : Nat) : Int) + 1) := hV 1 _ rfl
       replace b3 := b3.kp hK (by simp)
       replace b4 := b4.kp hK (by simp)
       replace b6 := b6.kp hK (by simp)
       replace b16 := b16.kp hK (by simp)
       replace b26 := b26.kp hK (by simp)
       replace b29 := b29.kp hK (by simp)
       replace E1 := E1.kp hK (by simp)
       replace hZ := Nat.le_trans hZ hK.size
       replace hB := hK.below0 hB
       clear hF hK hV hL x0
       refine th_n ?_
       refine ⟨?_, ?_⟩
       · exact ⟨hz, hdf, (k + 1), (meetSp (ov.getD span0) ((admAt r p (((possStates s dx dy).getD []).getD (k + 1) sp0)).getD span0)), (by have := dec_t q23; omega), (accS_next hg (not_f (or_f1 q32)) (not_f (or_f2 q32))), s5, s6, s10, s15, s14, s40, s41, s42, b3, b4, b6, b16, E1, hB, (by omega)⟩
       · show (((possStates s dx dy).getD []).length - 1 - (intOf (a37.tmps[42]?.getD undef)).toNat) < _
         rw [s42, hmu]; simp only [intOf]; have := dec_t q23; omega
   · skip
     have hkk : k + 1 = ((possStates s dx dy).getD []).length := by have := dec_f q23; omega
     refine wp_cond_false (ev (vb s43 q23)) ?_
     refine wp_exit ?_
     refine th_e (th_e (ib_x (th_n ?_)))
     refine wp_seq ?_
     refine wp_seq ?_
     refine wp_regJ (by kernel_rfl) [67, 68] [some (.bool ov.isSome), some (.bool (!ov.isSome))] ((List.range 2).map List.range) [67, 68] [0, 1] [] (fun _ _ _ => True) (by kernel_rfl) (by rw [hz]; decide) ?_ (.cons ?_ (.cons ?_ .nil)) ?_
     · exact fun _ _ => trivial
     · intro Lk ak ww hL hdd haa hF hK hV hX Nk Qk hN; refine wnt rfl ?_
       exact wp_move rfl (ev (hF.g rfl s15)) (hN _ _ hK rfl trivial)
     · intro Lk ak ww hL hdd haa hF hK hV hX Nk Qk hN; refine wnt rfl ?_
       exact wp_not rfl (ev (hV 0 _ rfl (hdd 0 rfl))) (hN _ _ hK rfl trivial)
     intro L a39 w40 hL hF hK hV hX
     replace hz := hF.size.trans hz
     replace hdf := hF.defers.trans hdf
     replace s10 := hF.g rfl s10
     replace s14 := hF.g rfl s14
     have s68 : a39.tmps[68]?.getD undef = .bool (!ov.isSome) := hV 1 _ rfl
     replace b6 := b6.kp hK (by simp)
     replace b16 := b16.kp hK (by simp)
     replace hZ := Nat.le_trans hZ hK.size
     replace hB := hK.below0 hB
     clear hF hK hV hL hX s5 s6 s15 s40 s41 s42 s43 b3 b4 E1
     refine th_n ?_
     rcases Bool.eq_false_or_eq_true (!ov.isSome) with q41 | q41
     · skip
       refine wp_cond_true (ev (vb s68 q41)) ?_
       refine wp_seq ?_
       refine wp_regJ (by kernel_rfl) [69, 0, 11] [some (.agg #[.int .i64 0, .int .i64 0, .int .i64 0, .int .i64 0]), none, some (.bool false)] ((List.range 3).map List.range) [69, 11] [0, 1, 2] [(w.heap.size + 3)] (fun L aa ww => PreX ww (w.heap.size + 3) 54 [.int .i64 0, .int .i64 0, .int .i64 0, .int .i64 0] (L 1) (fun _ vs => vs = [.int .i64 0, .int .i64 0, .int .i64 0, .int .i64 0])) (by kernel_rfl) (by rw [hz]; decide) ?_ (.cons ?_ (.cons ?_ (.cons ?_ .nil))) ?_
       · exact fun _ h => (⟨fun _ => b6.kp h (by simp), (fun h => by cases h)⟩)
       · intro Lk ak ww hL hdd haa hF hK hV hX Nk Qk hN; refine wnt rfl ?_
         simp [go_sem]
         exact (hN _ _ hK rfl (hX.bel (Below.refl _ _) (fun _ h => h)))
       · intro Lk ak ww hL hdd haa hF hK hV hX Nk Qk hN
         have x0 := hX
         refine wnt rfl ?_
         have HT := x0.1 hL
         simp [go_sem, Array.getD_eq_getD_getElem?, (show ak.tmps[69]?.getD undef = _ from hV 0 _ rfl (hdd 0 rfl)), hF.g rfl s10, HT.cell, HT.frz]
         exact hN undef _ (hK.store (.inr (by simp)) [.int .i64 0, .int .i64 0, .int .i64 0, .int .i64 0] 0) trivial (PreX.set HT (us := [.int .i64 0, .int .i64 0, .int .i64 0, .int .i64 0]) rfl rfl)
       · intro Lk ak ww hL hdd haa hF hK hV hX Nk Qk hN; refine wnt rfl ?_
         exact wp_assign rfl rfl (hN _ _ hK rfl (hX.bel (Below.refl _ _) (fun _ h => h)))
       intro L a42 w43 hL hF hK hV hX
       have x0 := hX
       replace hz := hF.size.trans hz
       replace hdf := hF.defers.trans hdf
       replace s10 := hF.g rfl s10
       have s11 : a42.tmps[11]?.getD undef = .bool false := hV 2 _ rfl
       clear b6
       obtain ⟨_, b6, rfl⟩ := x0.2 (hL 1 (by decide))
       replace hZ := Nat.le_trans hZ hK.size
       replace hB := hK.below hB hB.size (by simp <;> omega)
       clear hF hK hV hL x0 s14 s68 b16
       refine th_n ?_
       refine wp_ret ?_
       refine th_r ?_
       refine bodyPost_ret (v := .tuple #[.agg #[.int .i64 0, .int .i64 0, .int .i64 0, .int .i64 0], .bool false]) (by simp [results, Tryz.results24, go_sem, Array.getD_eq_getD_getElem?, s10, b6.cell, s11]) hdf ?_
       exact ⟨by rw [admDrift_acc (not_f q11), ← hkk, hg, optSpan_eq, not_t q41]; rw [isNone_f (not_t q41)]; rfl, hB⟩
     · skip
       refine wp_cond_false (ev (vb s68 q41)) ?_
       refine wp_skip ?_
       refine th_n ?_
       refine wp_seq ?_
       refine wp_regJ (by kernel_rfl) [70, 0, 11] [some (.agg #[.int .i64 ((ov.getD span0).low.n), .int .i64 ((ov.getD span0).low.d), .int .i64 ((ov.getD span0).high.n), .int .i64 ((ov.getD span0).high.d)]), none, some (.bool true)] ((List.range 3).map List.range) [70, 11] [0, 1, 2] [(w.heap.size + 3)] (fun L aa ww => PreX ww (w.heap.size + 3) 54 [.int .i64 0, .int .i64 0, .int .i64 0, .int .i64 0] (L 1) (fun _ vs => vs = [.int .i64 ((ov.getD span0).low.n), .int .i64 ((ov.getD span0).low.d), .int .i64 ((ov.getD span0).high.n), .int .i64 ((ov.getD span0).high.d)])) (by kernel_rfl) (by rw [hz]; decide) ?_ (.cons ?_ (.cons ?_ (.cons ?_ .nil))) ?_
       · exact fun _ h => (⟨fun _ => b6.kp h (by simp), (fun h => by cases h)⟩)
       · intro Lk ak ww hL hdd haa hF hK hV hX Nk Qk hN; refine wnt rfl ?_
         simp [go_sem, Array.getD_eq_getD_getElem?, hF.g rfl s14, (b16.kp hK (by simp <;> omega)).cell]
         exact (hN _ _ hK rfl (hX.bel (Below.refl _ _) (fun _ h => h)))
       · intro Lk ak ww hL hdd haa hF hK hV hX Nk Qk hN
         have x0 := hX
         refine wnt rfl ?_
         have HT := x0.1 hL
         simp [go_sem, Array.getD_eq_getD_getElem?, (show ak.tmps[70]?.getD undef = _ from hV 0 _ rfl (hdd 0 rfl)), hF.g rfl s10, HT.cell, HT.frz]
         exact hN undef _ (hK.store (.inr (by simp)) [.int .i64 ((ov.getD span0).low.n), .int .i64 ((ov.getD span0).low.d), .int .i64 ((ov.getD span0).high.n), .int .i64 ((ov.getD span0).high.d)] 0) trivial (PreX.set HT (us := [.int .i64 ((ov.getD span0).low.n), .int .i64 ((ov.getD span0).low.d), .int .i64 ((ov.getD span0).high.n), .int .i64 ((ov.getD span0).high.d)]) rfl rfl)
       · intro Lk ak ww hL hdd haa hF hK hV hX Nk Qk hN; refine wnt rfl ?_
         exact wp_assign rfl rfl (hN _ _ hK rfl (hX.bel (Below.refl _ _) (fun _ h => h)))
       intro L a44 w45 hL hF hK hV hX
       have x0 := hX
       replace hz := hF.size.trans hz
       replace hdf := hF.defers.trans hdf
       replace s10 := hF.g rfl s10
       have s11 : a44.tmps[11]?.getD undef = .bool true := hV 2 _ rfl
       clear b6
       obtain ⟨_, b6, rfl⟩ := x0.2 (hL 1 (by decide))
       replace hZ := Nat.le_trans hZ hK.size
       replace hB := hK.below hB hB.size (by simp <;> omega)
       clear hF hK hV hL x0 s14 s68 b16
       refine th_n ?_
       refine wp_ret ?_
       refine bodyPost_ret (v := .tuple #[.agg #[.int .i64 ((ov.getD span0).low.n), .int .i64 ((ov.getD span0).low.d), .int .i64 ((ov.getD span0).high.n), .int .i64 ((ov.getD span0).high.d)], .bool true]) (by simp [results, Tryz.results24, go_sem, Array.getD_eq_getD_getElem?, s10, b6.cell, s11]) hdf ?_
       exact ⟨by rw [admDrift_acc (not_f q11), ← hkk, hg, optSpan_eq, not_f q41], hB⟩
end Go.Proofs.YtdncnhcffbgjhaaGreat
