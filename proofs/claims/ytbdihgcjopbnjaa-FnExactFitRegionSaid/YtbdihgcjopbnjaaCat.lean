/-
  Appending a slice to a slice of the call's own; slices.Grow and slices.Concat at half planes.
  Conditions: the slices hold at most 2^20 elements.
-/
import Derived.Test.YtbdihgcjopbnjaaTig
import Derived.Laws.AppendOwnNone
namespace Go.Proofs.Ytbdihgcjopbnjaa
open Go.RowKit

theorem New.mk' {α : Type} {T sz base n : Nat} {enc : α → List Value} {w : World} {v : Value} {xs : List α} (hn : n = xs.length) (h : w.ownsRow base T sz v n (xs.flatMap enc)) : New T sz enc w base v xs := by
  subst hn
  rcases h.2 with ⟨e, h0⟩ | ⟨g, cap', cur, e, r⟩
  · exact ⟨none, 0, by rw [h0]; exact e, h⟩
  · exact ⟨_, cap', e, h⟩
theorem wpList_appS {α : Type} {T sz : Nat} {enc : α → List Value} (hsz : ∀ x, (enc x).length = sz) {P : Program} (w : World) {ops : Array Oper} {rest : List Oper} {o : Oper} {a : Act} {Q : Exit → Act → World → Prop} (hgd : o.guard = none) (s x : Operand) (t : TypeId)
    (ho : o.op = .call { callee := .builtin .append, args := #[s, x], argTypes := #[t, t] })
    (base : Nat) (i : TypeInfo) (z : Value) (bytes : Nat) (ht : P.underlying t = some (.slice T)) (hi : P.info? T = some i) (hz : i.zero = some z)
    (hsize : i.size = sz) (hby : i.bytes = bytes) (hzs : z.cells.size = sz) (hpos : 0 < sz)
    {v : Value} {xs ys : List α} (hs : a.eval s = v) (hown : New T sz enc w base v xs)
    (B : Option Addr) (c : Nat) (hx : a.eval x = .slice B ys.length c) (hys : Sl sz enc w B ys) (hnil : B = none → c = 0) (h1 : ∀ y, ∀ u ∈ enc y, u.oneCell' = true)
    {W0 : World} (hb : Below base W0 w) (hbase : base ≤ w.heap.size) (hn : xs.length + ys.length ≤ 1073741824) (hbytes : bytes ≤ 128)
    (h : ∀ v' w', New T sz enc w' base v' (xs ++ ys) → Below base W0 w' → wpList P ops Q rest (a.put o.dst v') w') : wpList P ops Q (o :: rest) a w := by
  obtain ⟨A, cap, rfl, hr⟩ := hown
  have hb2 : (xs.length + ys.length) * bytes ≤ 1073741824 * 128 := Nat.mul_le_mul hn hbytes
  have hl : (xs ++ ys).length = xs.length + ys.length := List.length_append
  have hf : (xs ++ ys).flatMap enc = xs.flatMap enc ++ ys.flatMap enc := List.flatMap_append
  have go : ∀ ad : Addr, B = some ad → (∀ j u, (ys.flatMap enc)[j]? = some u → w.cell? (ad.add j) = some u) → wpList P ops Q (o :: rest) a w := by
    intro ad hB hc
    subst hB
    refine wpList_append_own w hgd s x t ho base T i z sz bytes ht hi hz hsize hby hzs hpos _ _ _ hs hr ad ys.length c (ys.flatMap enc) hx (flatMap_len hsz ys) hc (fun u hu => by
      obtain ⟨y, _, hy⟩ := List.mem_flatMap.1 hu
      exact h1 y u hy) (by unfold maxLen; omega) (by omega) hbase ?_
    intro v' w' hown' hg _
    have hbl := hb.grown hg hbase (fun k e => (hr.lt k e).1)
    rw [← hf] at hown'
    exact h _ _ (New.mk' hl.symm hown') hbl
  by_cases h0 : ys.length = 0
  · have hy : ys = [] := List.eq_nil_of_length_eq_zero h0
    subst hy
    cases B with
    | none =>
      have hc0 := hnil rfl
      subst hc0
      refine wpList_append_own_none hgd s x t ho base T i sz ht hi _ _ _ hs hr hx ?_
      exact h _ _ (New.mk' (n := xs.length) (by simp) (by simpa using hr)) hb
    | some ad => exact go ad rfl (fun j u hu => by simp at hu)
  · obtain ⟨b, off, hB, _, hc⟩ := hys (by omega)
    refine go ⟨b, off, none⟩ hB (fun j u hu => ?_)
    rw [Addr.add_lit]
    have hjl : j < ys.length * sz := by
      rw [← flatMap_len hsz ys]
      rcases Nat.lt_or_ge j (ys.flatMap enc).length with h3 | h3
      · exact h3
      · rw [List.getElem?_eq_none h3] at hu; cases hu
    have hq : j / sz < ys.length := Nat.div_lt_of_lt_mul (by rw [Nat.mul_comm]; exact hjl)
    have hm : j % sz < sz := Nat.mod_lt _ hpos
    have hjj : j / sz * sz + j % sz = j := by rw [Nat.mul_comm]; exact Nat.div_add_mod j sz
    have hu2 : (enc ys[j / sz])[j % sz]? = some ((enc ys[j / sz])[j % sz]'(by rw [hsz]; exact hm)) := List.getElem?_eq_getElem _
    have h4 := flatMap_at hsz ys _ hq _ _ hu2
    rw [hjj, hu] at h4
    have h5 := hc _ hq _ _ hu2
    rw [Nat.add_assoc, hjj, ← h4] at h5
    exact h5

set_option maxRecDepth 100000 in
set_option maxHeartbeats 2000000 in
theorem grow_c (n : Nat) (w : World) (h0 : 0 < n) (hn : n ≤ 4194304) :
    Calls Try.prog 199 #[.slice none 0 0, .int .i64 n] w fun e w' => ∃ v, e = .returned v ∧ New 177 3 halfC w' w.heap.size v [] ∧ Below w.heap.size w w' := by
  obtain ⟨i0, hi0, hz0, hz1, hz2⟩ := info_parts (show (Try.prog.info? 177).map (fun i => (i.zero, i.size, i.bytes)) = some (some (.agg #[.int .i64 0, .int .i64 0, .int .i64 0]), 3, 24) by kernel_rfl)
  have mixed : Try.prog.follows Departure.mixedOrders = true := by kernel_rfl
  have hrz : ∀ ty, (Builtin.append_ #[74, 3] ty #[.slice none 0 0, .int .i64 (n : Int)]).run Try.prog w =
      .ok (.slice (some ⟨w.heap.size, 0, none⟩) n (grownCap w n 0 177))
        (w.drew.alloc (.cells (([] : List Value).toArray ++ Builtin.zeroCells (Value.agg #[.int .i64 0, .int .i64 0, .int .i64 0]).cells n ++ Builtin.zeroCells (Value.agg #[.int .i64 0, .int .i64 0, .int .i64 0]).cells (grownCap w n 0 177 - n)) 177)) := fun ty => by
    have h1 := Lib.run_append_grow_zeros w 74 3 ty 177 i0 _ .i64 .i64 Try.underlying74 Try.underlying3 hi0 hz0 none 0 0 [] (run_firstCells_none w.drew i0.size 0 0 0) n h0 (by omega) (by omega) (by omega) (by rw [hz2]; omega) (by rw [hz2, Nat.zero_add]; exact growslice_fits (by omega) (by omega))
    rw [Nat.zero_add] at h1
    exact h1
  obtain ⟨C, hC⟩ : ∃ C, C = grownCap w n 0 177 := ⟨_, rfl⟩
  have hC1 : n ≤ C := by rw [hC]; exact grownCap_ge _ _ _ _
  have hC2 : C ≤ maxLen := by rw [hC]; exact grownCap_le_maxLen _ _ _ _ (by unfold maxLen; omega)
  rw [← hC] at hrz
  obtain ⟨ROW, hROW⟩ : ∃ ROW : Array Value, ROW = ([] : List Value).toArray ++ Builtin.zeroCells (Value.agg #[.int .i64 0, .int .i64 0, .int .i64 0]).cells n ++ Builtin.zeroCells (Value.agg #[.int .i64 0, .int .i64 0, .int .i64 0]).cells (C - n) := ⟨_, rfl⟩
  have hRs : ROW.size = C * 3 := by
    rw [hROW]
    simp only [Array.size_append, Builtin.zeroCells, Value.cells, Array.size_map, Array.size_range, List.size_toArray, List.length_cons, List.length_nil]
    omega
  rw [← hROW] at hrz
  have hnew : New 177 3 halfC (w.drew.alloc (.cells ROW 177)) w.heap.size (.slice (some ⟨w.heap.size, 0, none⟩) 0 C) [] :=
    ⟨_, C, rfl, by simp, .inr ⟨w.heap.size, C, ROW, rfl, Nat.le_refl _, heap_alloc_new w.drew _, Nat.zero_le _, hC2, hRs, by simp⟩⟩
  have hbel : Below w.heap.size w (w.drew.alloc (.cells ROW 177)) := (Below.refl _ _).drew.alloc (Nat.le_refl _) _
  obtain ⟨W, hW⟩ : ∃ W, W = w.drew.alloc (.cells ROW 177) := ⟨_, rfl⟩
  rw [← hW] at hrz hnew hbel
  have hnew' := Lib.hid hnew
  have hbel' := Lib.hid hbel
  clear hnew hbel hW hROW hRs hC
  have e1 : ¬ (C = 0) := by omega
  have e2 : (0 : Int) ≤ (C : Int) := by omega
  have e3 : (0 : Int) < (n : Int) := by omega
  go_enter Try.func199, Try.ntmps199
  go_wp2_with (at_builtin; refine Lib.wpList_append_run _ rfl _ _ _ _ rfl _ _ rfl rfl _ _ (hrz _) ?_)
  go_ret
  exact ⟨_, rfl, hnew'.out, hbel'.out⟩
set_option maxRecDepth 100000 in
set_option maxHeartbeats 4000000 in
theorem concat_c (A B : Option Addr) (xs ys : List Half) (ca cb gv : Nat) (w : World) (h0 : 0 < xs.length) (hx : xs.length ≤ 1048576) (hy : ys.length ≤ 1048576) (hA : Sl 3 halfC w A xs) (hB : Sl 3 halfC w B ys) (hnil : B = none → cb = 0)
    (HV : Has w gv [.slice A xs.length ca, .slice B ys.length cb]) :
    Calls Try.prog 165 #[.slice (some ⟨gv, 0, none⟩) 2 2] w fun e w' => ∃ v, e = .returned v ∧ New 177 3 halfC w' w.heap.size v (xs ++ ys) ∧ Below w.heap.size w w' := by
  obtain ⟨i0, hi0, hz0, hz1, hz2⟩ := info_parts (show (Try.prog.info? 177).map (fun i => (i.zero, i.size, i.bytes)) = some (some (.agg #[.int .i64 0, .int .i64 0, .int .i64 0]), 3, 24) by kernel_rfl)
  have lV := HV.1
  have HV' := Lib.hid HV
  obtain ⟨cHV_0, fHV_0⟩ := HV.2 0 _ rfl
  obtain ⟨cHV_1, fHV_1⟩ := HV.2 1 _ rfl
  have c1 := fun n W h1 h2 => grow_c n W h1 h2
  go_enter Try.func165, Try.ntmps165
  go_wp2
  go_loopw [3, 5, 11] (fun v3 _ i wr => ∃ k : Nat, k ≤ 2 ∧ i = .int .i64 k ∧ v3 = .int .i64 (if k = 0 then 0 else if k = 1 then (xs.length : Int) else (xs.length : Int) + ys.length) ∧ wr = w) (fun _ _ i _ => 2 - (intOf i).toNat)
  case atStart => exact ⟨0, by omega, rfl, rfl, rfl⟩
  case round =>
    obtain ⟨k, hk, rfl, rfl, hwr⟩ := hrel
    obtain rfl : w = wr := hwr.symm
    match k, hk with
    | 0, _ =>
      go_wp2
      go_roundw
      case rel => exact ⟨1, by omega, by go_num, by go_num, by trivial⟩
      case measure => simp [intOf]
    | 1, _ =>
      have e1 : (0 : Int) ≤ (xs.length : Int) + (ys.length : Int) := by omega
      go_wp2
      go_roundw
      case rel => exact ⟨2, by omega, by go_num, by go_num, by trivial⟩
      case measure => simp [intOf]
    | 2, _ =>
      have e2 : ((xs.length : Int) + (ys.length : Int)) = ((xs.length + ys.length : Nat) : Int) := by omega
      have c2 := fun W => (show Calls Try.prog 199 #[.slice none 0 0, .int .i64 ((xs.length : Int) + (ys.length : Int))] W fun e w' => ∃ v, e = .returned v ∧ New 177 3 halfC w' W.heap.size v [] ∧ Below W.heap.size W w' from by rw [e2]; exact c1 _ W (by omega) (by omega))
      go_wp2_with (go_at_call 199; refine (c2 _).mono ?_; rintro e w1 ⟨v1, rfl, N1, hb1⟩)
      unfold Oper.wp
      simp [go_sem]
      refine (c2 _).mono ?_
      rintro e w1 ⟨v1, rfl, N1, hb1⟩
      have hnilA : A = none → ca = 0 := fun e => by
        obtain ⟨b, off, e2, _⟩ := hA h0
        rw [e] at e2; cases e2
      clear cHV_0 cHV_1 fHV_0 fHV_1 c1 c2 e2
      have HV1 := HV'.out.below hb1
      obtain ⟨cHV1_0, fHV1_0⟩ := HV1.2 0 _ rfl
      obtain ⟨cHV1_1, fHV1_1⟩ := HV1.2 1 _ rfl
      go_wp2
      clear HV1 cHV1_0 cHV1_1 fHV1_0 fHV1_1
      go_loopw [6, 8, 27] (fun v6 _ i wq => ∃ k : Nat, k ≤ 2 ∧ i = .int .i64 k ∧ New 177 3 halfC wq w.heap.size v6 (if k = 0 then [] else if k = 1 then xs else xs ++ ys) ∧ Below w.heap.size w wq) (fun _ _ i _ => 2 - (intOf i).toNat)
      case atStart => exact ⟨0, by omega, rfl, N1, hb1⟩
      case round =>
        clear hb1 N1
        obtain ⟨k, hk, rfl, N, hb2⟩ := hrel
        have HV1 := HV'.out.below hb2
        have hA1 := hA.below hb2
        have hB1 := hB.below hb2
        have lV1 := HV1.1
        have hlen0 : ([] : List Half).length + xs.length ≤ 1073741824 := by simp only [List.length_nil]; omega
        have hlen1 : xs.length + ys.length ≤ 1073741824 := by omega
        obtain ⟨cHV1_0, fHV1_0⟩ := HV1.2 0 _ rfl
        obtain ⟨cHV1_1, fHV1_1⟩ := HV1.2 1 _ rfl
        match k, hk with
        | 0, _ =>
          go_wp2_with (at_builtin; refine wpList_appS halfC_len _ rfl _ _ 74 rfl w.heap.size i0 _ 24 Try.underlying74 hi0 hz0 hz1 hz2 rfl (by decide) rfl N A ca rfl hA1 hnilA halfC_one hb2 hb2.size hlen0 (by decide) ?_)
          intro v' w4 hn4 hb4
          go_wp2
          go_roundw
          case rel => exact ⟨1, by omega, by go_num, hn4, hb4⟩
          case measure => simp [intOf]
        | 1, _ =>
          go_wp2_with (at_builtin; refine wpList_appS halfC_len _ rfl _ _ 74 rfl w.heap.size i0 _ 24 Try.underlying74 hi0 hz0 hz1 hz2 rfl (by decide) rfl N B cb rfl hB1 hnil halfC_one hb2 hb2.size hlen1 (by decide) ?_)
          intro v' w4 hn4 hb4
          go_wp2
          go_roundw
          case rel => exact ⟨2, by omega, by go_num, hn4, hb4⟩
          case measure => simp [intOf]
        | 2, _ =>
          go_wp2
          go_ret
          exact ⟨_, rfl, N, hb2⟩
end Go.Proofs.Ytbdihgcjopbnjaa
