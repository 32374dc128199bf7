/-
  Inserting a half plane into a slice of the call's own; copies of elements of several cells.
  Conditions: the slice holds at most 2^20 elements.
-/
import Derived.Test.YtbdihgcjopbnjaaDir
import Derived.Test.YtbdihgcjopbnjaaApp
import Derived.Laws.CopyOwn
import Derived.Lib.AppendZerosOnto
import Derived.Lib.Overlaps
import Derived.Lib.Walk
import Derived.Lib.SliceRun
import Derived.Shelf.RegionOpenPlain
import Derived.Deep.RegionLaw
namespace Go.Proofs.Ytbdihgcjopbnjaa
open Go.RowKit

theorem run_copyK {P : Program} (w : World) (dT sT ty elem : TypeId) (i : TypeInfo) (g o dLen dCap : Nat) (a : Addr) (sLen sCap : Nat) (cur : Array Value) (t : TypeId) (cs : List Value) (k : Nat)
    (hu : P.underlying dT = some (.slice elem)) (hi : P.info? elem = some i) (hk : k = Nat.min sLen dLen) (hn : cs.length = k * i.size)
    (hg : w.heap[g]? = some (.cells cur t (0, 0))) (hsrc : ∀ j v, cs[j]? = some v → w.cell? (a.add j) = some v) (hfit : o + cs.length ≤ cur.size) (h1 : ∀ v ∈ cs, v.oneCell' = true) :
    (Builtin.copy_ #[dT, sT] ty #[.slice (some ⟨g, o, none⟩) dLen dCap, .slice (some a) sLen sCap]).run P w =
      .ok (goInt k) (w.setRow g (cur.toList.take o ++ cs ++ cur.toList.drop (o + cs.length)).toArray) := by
  have hl := run_loadCells_list (P := P) w a cs hsrc
  have hst := run_storeCells_at P g o t cs 0 cur w hg (by simpa using hfit) h1
  rw [hn] at hl
  simp [Builtin.copy_, run_underlying hu, Builtin.lenOf, Builtin.firstCells, sizeOf, typeInfo, hi, ← hk, hl, hst]

/-- The operation 'copy', where its run is known. -/
theorem wpList_copyR {P : Program} {w : World} {ops : Array Oper} {rest : List Oper} {o : Oper} {a : Act} {Q : Exit → Act → World → Prop} (hgd : o.guard = none) (d s : Operand) (dT sT : TypeId)
    (ho : o.op = .call { callee := .builtin .copy, args := #[d, s], argTypes := #[dT, sT] }) {v u : Value} (hd : a.eval d = v) (hs : a.eval s = u) {v' : Value} {w' : World}
    (hr : (Builtin.copy_ #[dT, sT] o.type #[v, u]).run P w = .ok v' w') (h : wpList P ops Q rest (a.put o.dst v') w') : wpList P ops Q (o :: rest) a w := by
  refine wpList_plain hgd fun K hK => ?_
  unfold Oper.wp
  simp [execOp, ho, resolve, invoke, builtin, hd, hs, hr, Result.andThen]
  exact hK _ _ h
theorem step_copyR {P : Program} {ops : Array Oper} {o : Oper} {a : Act} {w : World} {K : Act → World → Prop} {Q : Exit → Act → World → Prop} {E : Prop} (hgd : o.guard = none) (d s : Operand) (dT sT : TypeId)
    (ho : o.op = .call { callee := .builtin .copy, args := #[d, s], argTypes := #[dT, sT] }) {v u : Value} (hd : a.eval d = v) (hs : a.eval s = u) {v' : Value} {w' : World}
    (hr : (Builtin.copy_ #[dT, sT] o.type #[v, u]).run P w = .ok v' w') (h : K (a.put o.dst v') w') : if Region.wanted o (yielded ops a.tmps) = true then Oper.wp P o a w K Q else E := by
  rw [if_pos (by simp [Region.wanted, hgd])]
  unfold Oper.wp
  simp [execOp, ho, resolve, invoke, builtin, hd, hs, hr, Result.andThen]
  exact h

theorem halfC_one (t : Half) : ∀ u ∈ halfC t, u.oneCell' = true := by
  intro u hu
  simp only [halfC, List.mem_cons, List.not_mem_nil, or_false] at hu
  rcases hu with rfl | rfl | rfl <;> rfl

/-- The row behind a shift in place, and behind the copy of the new element. -/
theorem shiftL {cur TS HS CS : List Value} {a c : Nat} (h1 : cur.take a = TS) (hT : TS.length = a) (hH : HS.length = 3) (hC : CS.length = c) (hl : a + 3 + c ≤ cur.length) :
    ((cur.take (a + 3) ++ CS ++ cur.drop (a + 3 + c)).take a ++ HS ++ (cur.take (a + 3) ++ CS ++ cur.drop (a + 3 + c)).drop (a + 3)).length = cur.length ∧
    ((cur.take (a + 3) ++ CS ++ cur.drop (a + 3 + c)).take a ++ HS ++ (cur.take (a + 3) ++ CS ++ cur.drop (a + 3 + c)).drop (a + 3)).take (a + 3 + c) = TS ++ (HS ++ CS) := by
  have e0 : (cur.take (a + 3)).length = a + 3 := by rw [List.length_take]; omega
  have e1 : (cur.take (a + 3) ++ CS ++ cur.drop (a + 3 + c)).take a = TS := by
    rw [List.append_assoc, List.take_append_of_le_length (by omega), List.take_take, Nat.min_eq_left (by omega), h1]
  have e2 : (cur.take (a + 3) ++ CS ++ cur.drop (a + 3 + c)).drop (a + 3) = CS ++ cur.drop (a + 3 + c) := by
    rw [List.append_assoc, List.drop_left' e0]
  rw [e1, e2]
  refine ⟨by simp only [List.length_append, List.length_drop]; omega, ?_⟩
  have e3 : TS ++ HS ++ (CS ++ cur.drop (a + 3 + c)) = (TS ++ (HS ++ CS)) ++ cur.drop (a + 3 + c) := by simp only [List.append_assoc]
  rw [e3, List.take_left' (by simp only [List.length_append]; omega)]
/-- The same in a new row. -/
theorem growL {row TS HS CS : List Value} {a c : Nat} (h1 : row.take a = TS) (hT : TS.length = a) (hH : HS.length = 3) (hC : CS.length = c) (hl : a + 3 + c ≤ row.length) :
    ((row.take a ++ HS ++ row.drop (a + 3)).take (a + 3) ++ CS ++ (row.take a ++ HS ++ row.drop (a + 3)).drop (a + 3 + c)).length = row.length ∧
    ((row.take a ++ HS ++ row.drop (a + 3)).take (a + 3) ++ CS ++ (row.take a ++ HS ++ row.drop (a + 3)).drop (a + 3 + c)).take (a + 3 + c) = TS ++ (HS ++ CS) := by
  have e1 : (row.take a ++ HS ++ row.drop (a + 3)).take (a + 3) = TS ++ HS := by
    rw [h1, List.take_left' (by simp only [List.length_append]; omega)]
  have e2 : (row.take a ++ HS ++ row.drop (a + 3)).length = row.length := by simp only [List.length_append, List.length_take, List.length_drop]; omega
  rw [e1]
  refine ⟨by simp only [List.length_append, List.length_drop, e2]; omega, ?_⟩
  rw [List.append_assoc TS HS CS, List.take_left' (by simp only [List.length_append]; omega)]

set_option maxRecDepth 100000 in
set_option maxHeartbeats 4000000 in
theorem insert_c (v : Value) (xs : List Half) (i base : Nat) (h : Half) (w : World) (hi : i ≤ xs.length) (hn : xs.length ≤ 1048576) (hown : New 177 3 halfC w base v xs) (hbase : base ≤ w.heap.size) :
    Calls Try.prog 198 #[v, .int .i64 i, .slice (some ⟨w.heap.size, 0, none⟩) 1 1] (w.alloc (.cells #[.int .i64 h.a, .int .i64 h.b, .int .i64 h.c] 177)) fun e w' =>
      ∃ v', e = .returned v' ∧ New 177 3 halfC w' base v' (xs.take i ++ h :: xs.drop i) ∧ Below base w w' := by
  obtain ⟨i0, hi0, hz0, hz1, hz2⟩ := info_parts (show (Try.prog.info? 177).map (fun i => (i.zero, i.size, i.bytes)) = some (some (.agg #[.int .i64 0, .int .i64 0, .int .i64 0]), 3, 24) by kernel_rfl)
  have hlt := (show ∀ g, v.ownBlock = some g → base ≤ g ∧ g < w.heap.size from by
    obtain ⟨A, cap, rfl, hr⟩ := hown
    exact hr.lt)
  have N1 := hown.alloc (.cells #[.int .i64 h.a, .int .i64 h.b, .int .i64 h.c] 177)
  have B1 : Below base w (w.alloc (.cells #[.int .i64 h.a, .int .i64 h.b, .int .i64 h.c] 177)) := (Below.refl _ _).alloc hbase _
  have B1' : base ≤ (w.alloc (.cells #[.int .i64 h.a, .int .i64 h.b, .int .i64 h.c] 177)).heap.size := by simp; omega
  have HV := Has.new w #[.int .i64 h.a, .int .i64 h.b, .int .i64 h.c] 177
  have hvo : ∀ j u, (halfC h)[j]? = some u → (w.alloc (.cells #[.int .i64 h.a, .int .i64 h.b, .int .i64 h.c] 177)).cell? (Addr.add ⟨w.heap.size, 0, none⟩ j) = some u := by
    intro j u hj
    have := (HV.2 j u hj).1
    rw [Addr.add_lit, Nat.zero_add]; exact this
  have i63 : (xs.length : Int) ≤ 1048576 := by omega
  have hn30 : xs.length ≤ 1073741823 := by omega
  by_cases hin : i = xs.length
  · have hres := Lib.hid (show xs.take i ++ h :: xs.drop i = xs ++ [h] by rw [hin]; simp)
    subst hin
    obtain ⟨A, cap, rfl, hr⟩ := hown
    clear hi hlt
    rcases hr.2 with ⟨hv, h0⟩ | ⟨g, cap', cur, hv, hg, hh, hcap, hmax, hsize, htake⟩
    · have hx : xs = [] := List.eq_nil_of_length_eq_zero h0
      subst hx
      injection hv with hA _ hc
      subst hA hc
      clear hr h0 i63
      go_enter Try.func198, Try.ntmps198
      go_wp2_with (at_builtin; refine wpList_app1 halfC_len _ rfl _ _ 74 rfl base i0 _ 24 Try.underlying74 hi0 hz0 hz1 hz2 rfl (by decide) rfl N1 _ 1 rfl h hvo (halfC_one h) B1 B1' hn30 (by decide) ?_)
      intro v' w4 hn4 hb4
      go_wp2
      go_ret
      exact ⟨_, rfl, hn4, hb4⟩
    · injection hv with hA _ hc
      subst hA hc
      clear hr hh hsize htake
      have hm2 : (cap : Int) ≤ 9223372036854775807 := by unfold maxLen at hmax; omega
      have hc2 : (xs.length : Int) ≤ (cap : Int) := by omega
      by_cases hcc : cap = xs.length
      · go_enter Try.func198, Try.ntmps198
        go_wp2_with (at_builtin; refine wpList_app1 halfC_len _ rfl _ _ 74 rfl base i0 _ 24 Try.underlying74 hi0 hz0 hz1 hz2 rfl (by decide) rfl N1 _ 1 rfl h hvo (halfC_one h) B1 B1' hn30 (by decide) ?_)
        intro v' w4 hn4 hb4
        go_wp2
        go_ret
        exact ⟨_, rfl, by rw [hres.out]; exact hn4, hb4⟩
      · have hc3 : ¬ ((cap : Int) = (xs.length : Int)) := by omega
        go_enter Try.func198, Try.ntmps198
        go_wp2_with (at_builtin; refine wpList_app1 halfC_len _ rfl _ _ 74 rfl base i0 _ 24 Try.underlying74 hi0 hz0 hz1 hz2 rfl (by decide) rfl N1 _ 1 rfl h hvo (halfC_one h) B1 B1' hn30 (by decide) ?_)
        intro v' w4 hn4 hb4
        go_wp2
        go_ret
        exact ⟨_, rfl, by rw [hres.out]; exact hn4, hb4⟩
  · obtain ⟨A, cap, rfl, hr⟩ := hown
    clear hlt
    rcases hr.2 with ⟨hv, h0⟩ | ⟨g, cap', cur, hv, hg, hh, hcap, hmax, hsize, htake⟩
    · omega
    · injection hv with hA _ hc
      subst hA hc
      have hgw := lt_of_heap hh
      have hin2 : i < xs.length := by omega
      have hgne : g ≠ w.heap.size := by omega
      have hh1 : (w.alloc (.cells #[.int .i64 h.a, .int .i64 h.b, .int .i64 h.c] 177)).heap[g]? = some (.cells cur 177 (0, 0)) := (((Below.refl w.heap.size w).alloc (Nat.le_refl _) _).block g hgw).trans hh
      have hm2 : (cap : Int) ≤ 9223372036854775807 := by unfold maxLen at hmax; omega
      have hc2 : (xs.length : Int) ≤ (cap : Int) := by omega
      have e1 : (0 : Int) ≤ (i : Int) := by omega
      have e2 : (i : Int) ≤ (xs.length : Int) := by omega
      have e3 : ¬ ((i : Int) = (xs.length : Int)) := by omega
      have e4 : ¬ (cap = i) := by omega
      have e5 : ¬ (cap = i + 1) ∨ cap = i + 1 := by omega
      have e6 : (i : Int) ≤ (cap : Int) := by omega
      have e7 : i ≤ xs.length := by omega
      have hn1 : i ≤ cap := by omega
      clear hr
      have hfl := flatMap_len halfC_len xs
      have hcs1 : ∀ j v, ((xs.drop i).flatMap halfC)[j]? = some v → cur.toList[i * 3 + j]? = some v := by
        intro j v hj
        have hsp : xs.flatMap halfC = (xs.take i).flatMap halfC ++ (xs.drop i).flatMap halfC := by rw [← List.flatMap_append, List.take_append_drop]
        have hl1 : ((xs.take i).flatMap halfC).length = i * 3 := by rw [flatMap_len halfC_len, List.length_take, Nat.min_eq_left e7]
        have hjl : j < ((xs.drop i).flatMap halfC).length := by
          rcases Nat.lt_or_ge j ((xs.drop i).flatMap halfC).length with h1 | h1
          · exact h1
          · rw [List.getElem?_eq_none h1] at hj; cases hj
        have h2 : (xs.flatMap halfC)[i * 3 + j]? = some v := by
          rw [hsp, List.getElem?_append_right (by omega), hl1, Nat.add_sub_cancel_left]; exact hj
        rw [← htake, List.getElem?_take] at h2
        split at h2
        · exact h2
        · cases h2
      have hcsl : ((xs.drop i).flatMap halfC).length = (xs.length - i) * 3 := by rw [flatMap_len halfC_len, List.length_drop]
      have hcso : ∀ v ∈ (xs.drop i).flatMap halfC, v.oneCell' = true := by
        intro v hv
        obtain ⟨y, _, hy⟩ := List.mem_flatMap.1 hv
        exact halfC_one y v hy
      have htk : (cur.toList.take (i * 3)) = (xs.take i).flatMap halfC := by
        have h1 : xs.flatMap halfC = (xs.take i).flatMap halfC ++ (xs.drop i).flatMap halfC := by rw [← List.flatMap_append, List.take_append_drop]
        have h2 : ((xs.take i).flatMap halfC).length = i * 3 := by rw [flatMap_len halfC_len, List.length_take, Nat.min_eq_left e7]
        have h3 := congrArg (List.take (i * 3)) htake
        rw [List.take_take, Nat.min_eq_left (by omega), h1, List.take_left' h2] at h3
        exact h3
      have hflat : (xs.take i ++ h :: xs.drop i).flatMap halfC = (xs.take i).flatMap halfC ++ (halfC h ++ (xs.drop i).flatMap halfC) := by simp
      have hlen1 : (xs.take i ++ h :: xs.drop i).length = xs.length + 1 := by simp; omega
      have htl : ((xs.take i).flatMap halfC).length = i * 3 := by rw [flatMap_len halfC_len, List.length_take, Nat.min_eq_left e7]
      have hhl : (halfC h).length = 3 := halfC_len h
      obtain ⟨CS, hCS⟩ : ∃ CS, CS = (xs.drop i).flatMap halfC := ⟨_, rfl⟩
      rw [← hCS] at hcs1 hcsl hcso hflat
      obtain ⟨TS, hTS⟩ : ∃ TS, TS = (xs.take i).flatMap halfC := ⟨_, rfl⟩
      rw [← hTS] at htk hflat htl
      obtain ⟨YS, hYS⟩ : ∃ YS, YS = xs.take i ++ h :: xs.drop i := ⟨_, rfl⟩
      rw [← hYS] at hflat hlen1 ⊢
      clear hYS hTS hCS htake
      by_cases hroom : cap < xs.length + 1
      · have hcx : cap = xs.length := by omega
        subst hcx
        have e11 : ((i : Int) + 1).toNat = i + 1 := by omega
        have e13 : (0 : Int) ≤ (i : Int) + 1 := by omega
        have mixed : Try.prog.follows Departure.mixedOrders = true := by kernel_rfl
        have hkk : (xs.length : Int) + 1 - (i : Int) = ((xs.length + 1 - i : Nat) : Int) := by omega
        have hik : i + (xs.length + 1 - i) = xs.length + 1 := by omega
        have hw1 : IntKind.i64.wrap ((i : Int) + 1) = (i : Int) + 1 := IntWalk.i64_in _ (by omega)
        have hcl : cur.toList.length = xs.length * 3 := by rw [Array.length_toList, hsize]
        have hold : (Builtin.firstCells i0.size i (.slice (some ⟨g, 0, none⟩) i xs.length)).run Try.prog (w.alloc (.cells #[.int .i64 h.a, .int .i64 h.b, .int .i64 h.c] 177)).drew = .ok TS.toArray (w.alloc (.cells #[.int .i64 h.a, .int .i64 h.b, .int .i64 h.c] 177)).drew := by
          rw [hz1]
          refine run_firstCells_some _ 3 i ⟨g, 0, none⟩ i xs.length TS htl (fun j v hj => ?_)
          rw [Addr.add_lit, Nat.zero_add]
          refine (cell_of_row _ g _ cur 177 (0, 0) hh1).trans ?_
          rw [← htk, List.getElem?_take] at hj
          split at hj
          · rw [← Array.getElem?_toList]; exact hj
          · cases hj
        have hrz : ∀ ty, (Builtin.append_ #[74, 3] ty #[.slice (some ⟨g, 0, none⟩) i xs.length, .int .i64 ((xs.length : Int) + 1 - (i : Int))]).run Try.prog (w.alloc (.cells #[.int .i64 h.a, .int .i64 h.b, .int .i64 h.c] 177)) =
            .ok (.slice (some ⟨w.heap.size + 1, 0, none⟩) (xs.length + 1) (grownCap (w.alloc (.cells #[.int .i64 h.a, .int .i64 h.b, .int .i64 h.c] 177)) (xs.length + 1) xs.length 177))
              ((w.alloc (.cells #[.int .i64 h.a, .int .i64 h.b, .int .i64 h.c] 177)).drew.alloc (.cells (TS.toArray ++ Builtin.zeroCells (Value.agg #[.int .i64 0, .int .i64 0, .int .i64 0]).cells (xs.length + 1 - i) ++ Builtin.zeroCells (Value.agg #[.int .i64 0, .int .i64 0, .int .i64 0]).cells (grownCap (w.alloc (.cells #[.int .i64 h.a, .int .i64 h.b, .int .i64 h.c] 177)) (xs.length + 1) xs.length 177 - (xs.length + 1))) 177)) := fun ty => by
          have h1 := Lib.run_append_grow_zeros (w.alloc (.cells #[.int .i64 h.a, .int .i64 h.b, .int .i64 h.c] 177)) 74 3 ty 177 i0 _ .i64 .i64 Try.underlying74 Try.underlying3 hi0 hz0 (some ⟨g, 0, none⟩) i xs.length TS hold (xs.length + 1 - i) (by omega) (by omega) (by omega) (by omega) (by rw [hz2]; omega) (by rw [hz2, hik]; exact growslice_fits hroom (by omega))
          rw [hik, World.size_alloc] at h1
          rw [hkk]
          exact h1
        obtain ⟨C, hC⟩ : ∃ C, C = grownCap (w.alloc (.cells #[.int .i64 h.a, .int .i64 h.b, .int .i64 h.c] 177)) (xs.length + 1) xs.length 177 := ⟨_, rfl⟩
        have hC1 : xs.length + 1 ≤ C := by rw [hC]; exact grownCap_ge _ _ _ _
        have hC2 : C ≤ maxLen := by rw [hC]; exact grownCap_le_maxLen _ _ _ _ (by unfold maxLen; omega)
        rw [← hC] at hrz
        obtain ⟨ROW, hROW⟩ : ∃ ROW : Array Value, ROW = TS.toArray ++ Builtin.zeroCells (Value.agg #[.int .i64 0, .int .i64 0, .int .i64 0]).cells (xs.length + 1 - i) ++ Builtin.zeroCells (Value.agg #[.int .i64 0, .int .i64 0, .int .i64 0]).cells (C - (xs.length + 1)) := ⟨_, rfl⟩
        rw [← hROW] at hrz
        have hRs : ROW.toList.length = C * 3 := by
          rw [hROW, Array.length_toList]
          simp only [Array.size_append, Builtin.zeroCells, Value.cells, Array.size_map, Array.size_range, List.size_toArray, List.length_cons, List.length_nil]
          omega
        have hRt : ROW.toList.take (i * 3) = TS := by
          rw [hROW]
          simp only [Array.toList_append]
          rw [List.append_assoc, List.take_left' htl]
        clear hROW hold
        obtain ⟨W1, hW1⟩ : ∃ W1, W1 = (w.alloc (.cells #[.int .i64 h.a, .int .i64 h.b, .int .i64 h.c] 177)).drew.alloc (.cells ROW 177) := ⟨_, rfl⟩
        rw [← hW1] at hrz
        have hW1g : W1.heap[w.heap.size + 1]? = some (.cells ROW 177 (0, 0)) := by
          rw [hW1]
          have := heap_alloc_new (w.alloc (.cells #[.int .i64 h.a, .int .i64 h.b, .int .i64 h.c] 177)).drew (.cells ROW 177)
          simpa using this
        have hW1b : Below base w W1 := by rw [hW1]; exact (below_drewN B1 1).alloc (by simp; omega) _
        have hW1v : ∀ j u, (halfC h)[j]? = some u → W1.cell? (Addr.add ⟨w.heap.size, 0, none⟩ j) = some u := fun j u hj => by
          have h0 := hvo j u hj
          rw [Addr.add_lit] at h0 ⊢
          rw [hW1]
          exact (((Below.refl (w.heap.size + 1) (w.alloc (.cells #[.int .i64 h.a, .int .i64 h.b, .int .i64 h.c] 177)).drew).alloc (by simp) _).cell (p := ⟨w.heap.size, 0 + j, none⟩) (by simp)).trans h0
        have hW1s : ∀ j v, CS[j]? = some v → W1.cell? (Addr.add ⟨g, i * 3, none⟩ j) = some v := fun j v hj => by
          rw [Addr.add_lit, hW1]
          exact (((Below.refl (w.heap.size + 1) (w.alloc (.cells #[.int .i64 h.a, .int .i64 h.b, .int .i64 h.c] 177)).drew).alloc (by simp) _).cell (p := ⟨g, i * 3 + j, none⟩) (by simp only; omega)).trans ((cell_of_row _ g _ cur 177 (0, 0) hh1).trans (by rw [← Array.getElem?_toList]; exact hcs1 j v hj))
        have hm3 : i * 3 + 3 + CS.length ≤ ROW.toList.length := by omega
        obtain ⟨hs1, hs2⟩ := growL (c := CS.length) hRt htl hhl rfl hm3
        obtain ⟨R1, hR1⟩ : ∃ R1, R1 = ROW.toList.take (i * 3) ++ halfC h ++ ROW.toList.drop (i * 3 + 3) := ⟨_, rfl⟩
        have hR1l : R1.length = ROW.toList.length := by rw [hR1]; simp only [List.length_append, List.length_take, List.length_drop]; omega
        have hcp1 : ∀ ty dl dc, 1 ≤ dl → (Builtin.copy_ #[74, 74] ty #[.slice (some ⟨w.heap.size + 1, i * 3, none⟩) dl dc, .slice (some ⟨w.heap.size, 0, none⟩) 1 1]).run Try.prog W1 = .ok (goInt (1 : Nat)) (W1.setRow (w.heap.size + 1) R1.toArray) := fun ty dl dc h1 => by
          rw [hR1, show i * 3 + 3 = i * 3 + (halfC h).length by rw [hhl]]
          exact run_copyK W1 _ _ ty 177 i0 (w.heap.size + 1) (i * 3) dl dc ⟨w.heap.size, 0, none⟩ 1 1 ROW 177 (halfC h) 1 Try.underlying74 hi0 (by simp only [Nat.min_def]; split <;> omega) (by rw [hz1, hhl]) hW1g hW1v (by rw [← Array.length_toList]; omega) (halfC_one h)
        obtain ⟨W2, hW2⟩ : ∃ W2, W2 = W1.setRow (w.heap.size + 1) R1.toArray := ⟨_, rfl⟩
        rw [← hW2] at hcp1
        have hW2g : W2.heap[w.heap.size + 1]? = some (.cells R1.toArray 177 (0, 0)) := by rw [hW2]; exact setRow_heap _ _ _ _ _ _ hW1g
        have hW2b : Below base w W2 := by rw [hW2]; exact below_setRow hW1b (by omega) _
        have hW2s : ∀ j v, CS[j]? = some v → W2.cell? (Addr.add ⟨g, i * 3, none⟩ j) = some v := fun j v hj => by
          have h0 := hW1s j v hj
          rw [Addr.add_lit] at h0 ⊢
          rw [hW2]; exact (cell_setRow_other _ _ _ _ (by simp only; omega)).trans h0
        obtain ⟨R2, hR2⟩ : ∃ R2, R2 = R1.take (i * 3 + 3) ++ CS ++ R1.drop (i * 3 + 3 + CS.length) := ⟨_, rfl⟩
        rw [← hR1, ← hR2] at hs1 hs2
        have hcp2 : ∀ ty dl dc sl sc, dl = xs.length - i → sl = xs.length - i → (Builtin.copy_ #[74, 74] ty #[.slice (some ⟨w.heap.size + 1, (i + 1) * 3, none⟩) dl dc, .slice (some ⟨g, i * 3, none⟩) sl sc]).run Try.prog W2.drew = .ok (goInt (xs.length - i : Nat)) (W2.drew.setRow (w.heap.size + 1) R2.toArray) := fun ty dl dc sl sc h1 h2 => by
          rw [hR2]
          have e : (i + 1) * 3 = i * 3 + 3 := by omega
          rw [e]
          exact run_copyK W2.drew _ _ ty 177 i0 (w.heap.size + 1) (i * 3 + 3) dl dc ⟨g, i * 3, none⟩ sl sc R1.toArray 177 CS (xs.length - i) Try.underlying74 hi0 (by rw [h1, h2]; simp only [Nat.min_def]; split <;> omega) (by rw [hz1]; exact hcsl) hW2g hW2s (by simp only [List.size_toArray]; omega) hcso
        have hnew : New 177 3 halfC (W2.drew.setRow (w.heap.size + 1) R2.toArray) base (.slice (some ⟨w.heap.size + 1, 0, none⟩) (xs.length + 1) C) YS := by
          refine ⟨_, C, by rw [hlen1], ?_, .inr ⟨w.heap.size + 1, C, R2.toArray, by rw [hlen1], by omega, setRow_heap _ _ _ _ _ _ hW2g, by omega, hC2, by simp only [List.size_toArray]; omega, ?_⟩⟩
          · rw [hflat, hlen1]; simp only [List.length_append]; omega
          · rw [hflat, hlen1, show (xs.length + 1) * 3 = i * 3 + 3 + CS.length by omega]; exact hs2
        have hbel : Below base w (W2.drew.setRow (w.heap.size + 1) R2.toArray) := below_setRow (below_drewN hW2b 1) (by omega) _
        obtain ⟨W3, hW3⟩ : ∃ W3, W3 = W2.drew.setRow (w.heap.size + 1) R2.toArray := ⟨_, rfl⟩
        rw [← hW3] at hcp2 hnew hbel
        have hnew' := Lib.hid hnew
        have hbel' := Lib.hid hbel
        have f1 : ¬ (C = i) := by omega
        have f2 : ¬ (C = i + 1) := by omega
        have f3 : (i : Int) ≤ (xs.length : Int) + 1 := by omega
        have f4 : (i : Int) + 1 ≤ (xs.length : Int) + 1 := by omega
        have f5 : (i : Int) ≤ (C : Int) := by omega
        clear hW3 hR2 hW2s hW2b hW2g hW2 hR1l hR1 hs1 hs2 hm3 hcl hnew hbel hcsl hcs1 hcso hflat htk htl hhl hfl hh N1 HV hvo hW1s hW1v hW1b hW1g hW1 hRt hRs hC hkk hik
        go_enter Try.func198, Try.ntmps198
        go_wp2_with (first | (at_builtin; refine Lib.wpList_append_run _ rfl _ _ _ _ rfl _ _ rfl rfl _ _ (hrz _) ?_) | (refine wpList_copyR rfl _ _ 74 74 rfl rfl rfl (hcp1 _ _ _ (by omega)) ?_))
        go_region_law_o (refine step_copyR rfl _ _ 74 74 rfl (by simp [Act.eval, Act.put]; done) (by simp [Act.eval, Act.put]; done) (hcp2 _ _ _ _ _ (by omega) (by omega)) ?_)
        go_wp2
        go_ret
        exact ⟨_, rfl, hnew'.out, hbel'.out⟩
      · have hc4 : ¬ (xs.length + 1 > cap) := hroom
        have e8 : ¬ (cap = i + 1) := by omega
        have e9 : (i : Int) + 1 ≤ (xs.length : Int) + 1 := by omega
        have e10 : (xs.length : Int) + 1 ≤ (cap : Int) := by omega
        have e11 : ((i : Int) + 1).toNat = i + 1 := by omega
        have e13 : (0 : Int) ≤ (i : Int) + 1 := by omega
        have e14 : (i : Int) ≤ (xs.length : Int) + 1 := by omega
        have mixed : Try.prog.follows Departure.mixedOrders = true := by kernel_rfl
        have e12 : ((xs.length : Int) + 1).toNat = xs.length + 1 := by omega
        have hw1 : IntKind.i64.wrap ((i : Int) + 1) = (i : Int) + 1 := IntWalk.i64_in _ (by omega)
        have hshg : (w.alloc (.cells #[.int .i64 h.a, .int .i64 h.b, .int .i64 h.c] 177)).shape? g = some (177, cur.size) := by simp only [World.shape?, hh1]
        have hshv : (w.alloc (.cells #[.int .i64 h.a, .int .i64 h.b, .int .i64 h.c] 177)).shape? w.heap.size = some (177, 3) := by
          simp only [World.shape?, heap_alloc_new w _]; rfl
        have hov : ∀ lb cb, (callFunc 227 #[.slice (some ⟨w.heap.size, 0, none⟩) 1 1, .slice (some ⟨g, (i + 1) * 3, none⟩) lb cb]).run Try.prog (w.alloc (.cells #[.int .i64 h.a, .int .i64 h.b, .int .i64 h.c] 177)) = .ok (.value (.bool false)) (w.alloc (.cells #[.int .i64 h.a, .int .i64 h.b, .int .i64 h.c] 177)) := fun lb cb => by
          rw [run_callFunc_extern Try.func227 (by kernel_rfl) (by kernel_rfl) (by kernel_rfl) (e := Extern.SlicesOverlaps.overlaps #[74, 74] #[4]) (by kernel_rfl),
            Lib.run_overlaps_apart _ 74 4 177 Try.underlying74 3 (fun w => by simp [sizeOf, typeInfo, hi0, hz1]) ⟨w.heap.size, 0, none⟩ ⟨g, (i + 1) * 3, none⟩ 1 1 lb cb (fun e => hgne e.symm) 177 177 3 cur.size hshv hshg (by rw [hsize]; omega) (by simp) (by simp)]
          rfl
        have hcl : cur.toList.length = cap * 3 := by rw [Array.length_toList, hsize]
        have hm3 : i * 3 + 3 + CS.length ≤ cur.toList.length := by omega
        obtain ⟨hs1, hs2⟩ := shiftL (c := CS.length) htk htl hhl rfl hm3
        obtain ⟨R1, hR1⟩ : ∃ R1, R1 = cur.toList.take (i * 3 + 3) ++ CS ++ cur.toList.drop (i * 3 + 3 + CS.length) := ⟨_, rfl⟩
        have hR1l : R1.length = cur.toList.length := by rw [hR1]; simp only [List.length_append, List.length_take, List.length_drop]; omega
        have hcp1 : ∀ ty dl dc sl sc, dl = xs.length - i → sl = xs.length + 1 - i → (Builtin.copy_ #[74, 74] ty #[.slice (some ⟨g, (i + 1) * 3, none⟩) dl dc, .slice (some ⟨g, i * 3, none⟩) sl sc]).run Try.prog (w.alloc (.cells #[.int .i64 h.a, .int .i64 h.b, .int .i64 h.c] 177)).drew = .ok (goInt (xs.length - i : Nat)) ((w.alloc (.cells #[.int .i64 h.a, .int .i64 h.b, .int .i64 h.c] 177)).drew.setRow g R1.toArray) := fun ty dl dc sl sc h1 h2 => by
          rw [hR1]
          have e : (i + 1) * 3 = i * 3 + 3 := by omega
          rw [e]
          exact run_copyK _ _ _ ty 177 i0 g (i * 3 + 3) dl dc ⟨g, i * 3, none⟩ sl sc cur 177 CS (xs.length - i) Try.underlying74 hi0 (by rw [h1, h2]; simp only [Nat.min_def]; split <;> omega) (by rw [hz1]; exact hcsl) hh1
            (fun j v hj => by rw [Addr.add_lit]; exact (cell_of_row _ g _ cur 177 (0, 0) hh1).trans (by rw [← Array.getElem?_toList]; exact hcs1 j v hj)) (by rw [← Array.length_toList]; omega) hcso
        obtain ⟨W1, hW1⟩ : ∃ W1, W1 = (w.alloc (.cells #[.int .i64 h.a, .int .i64 h.b, .int .i64 h.c] 177)).drew.setRow g R1.toArray := ⟨_, rfl⟩
        rw [← hW1] at hcp1
        have hW1g : W1.heap[g]? = some (.cells R1.toArray 177 (0, 0)) := by rw [hW1]; exact setRow_heap _ g _ _ _ _ hh1
        have hW1v : ∀ j u, (halfC h)[j]? = some u → W1.cell? (Addr.add ⟨w.heap.size, 0, none⟩ j) = some u := fun j u hj => by
          have h0 := hvo j u hj
          rw [Addr.add_lit] at h0 ⊢
          rw [hW1]; exact (cell_setRow_other _ g _ _ (fun e => hgne e.symm)).trans h0
        have hW1b : Below base w W1 := by rw [hW1]; exact below_setRow (below_drewN B1 1) hg _
        obtain ⟨R2, hR2⟩ : ∃ R2, R2 = R1.take (i * 3) ++ halfC h ++ R1.drop (i * 3 + 3) := ⟨_, rfl⟩
        rw [← hR1, ← hR2] at hs1 hs2
        have hcp2 : ∀ ty dl dc, 1 ≤ dl → (Builtin.copy_ #[74, 74] ty #[.slice (some ⟨g, i * 3, none⟩) dl dc, .slice (some ⟨w.heap.size, 0, none⟩) 1 1]).run Try.prog W1 = .ok (goInt (1 : Nat)) (W1.setRow g R2.toArray) := fun ty dl dc h1 => by
          rw [hR2, show i * 3 + 3 = i * 3 + (halfC h).length by rw [hhl]]
          exact run_copyK W1 _ _ ty 177 i0 g (i * 3) dl dc ⟨w.heap.size, 0, none⟩ 1 1 R1.toArray 177 (halfC h) 1 Try.underlying74 hi0 (by simp only [Nat.min_def]; split <;> omega) (by rw [hz1, hhl]) hW1g hW1v (by simp only [List.size_toArray]; omega) (halfC_one h)
        have hnew : New 177 3 halfC (W1.setRow g R2.toArray) base (.slice (some ⟨g, 0, none⟩) (xs.length + 1) cap) YS := by
          refine ⟨_, cap, by rw [hlen1], ?_, .inr ⟨g, cap, R2.toArray, by rw [hlen1], hg, setRow_heap _ g _ _ _ _ hW1g, by omega, hmax, by simp only [List.size_toArray]; omega, ?_⟩⟩
          · rw [hflat, hlen1]; simp only [List.length_append]; omega
          · rw [hflat, hlen1, show (xs.length + 1) * 3 = i * 3 + 3 + CS.length by omega]; exact hs2
        have hbel : Below base w (W1.setRow g R2.toArray) := below_setRow hW1b hg _
        obtain ⟨W2, hW2⟩ : ∃ W2, W2 = W1.setRow g R2.toArray := ⟨_, rfl⟩
        rw [← hW2] at hcp2 hnew hbel
        have hnew' := Lib.hid hnew
        have hbel' := Lib.hid hbel
        clear hW2 hR2 hW1b hW1v hW1g hW1 hR1l hR1 hs1 hs2 hm3 hcl hnew hbel hcsl hcs1 hcso hflat htk htl hhl hfl hh N1 HV hvo hshv hshg
        go_enter Try.func198, Try.ntmps198
        go_wp2_with (simp only [hov])
        go_region_law_o (refine step_copyR rfl _ _ 74 74 rfl (by simp [Act.eval, Act.put]; done) (by simp [Act.eval, Act.put]; done) (hcp1 _ _ _ _ _ (by omega) (by omega)) ?_)
        go_wp2_with (refine wpList_copyR rfl _ _ 74 74 rfl rfl rfl (hcp2 _ _ _ (by omega)) ?_)
        go_wp2
        go_ret
        exact ⟨_, rfl, hnew'.out, hbel'.out⟩
end Go.Proofs.Ytbdihgcjopbnjaa
