/-
  A record that changes the fitted region: of the program and of the reference.
  Conditions: the slices hold at most 2^20 elements.
-/
import Derived.Test.YtbdihgcjopbnjaaGrL
import Derived.Test.YtbdihgcjopbnjaaPred
import Derived.Test.YtbdihgcjopbnjaaCopy
import Derived.Test.YtbdihgcjopbnjaaGrM
import Derived.Lib.SliceRun
import Derived.Deep.RegionHeld3
import Derived.Deep.DeepMust
import Derived.Deep.DeepCutAuto
namespace Go.Proofs.Ytbdihgcjopbnjaa
open Go.RowKit

theorem recordC_one (x : Record) : ∀ u ∈ recordC x, u.oneCell' = true := by
  intro u hu
  simp only [recordC, List.mem_cons, List.not_mem_nil, or_false] at hu
  rcases hu with rfl | rfl | rfl <;> rfl
theorem Has.grown {w w' : World} {g : Nat} {vs : List Value} {row : Option Nat} (h : Has w g vs) (hG : w.grownBy w' row) (hne : ∀ k, row = some k → g ≠ k) : Has w' g vs := by
  have hb := hG.block g h.1 (fun e => hne g e.symm rfl)
  refine ⟨Nat.lt_of_lt_of_le h.1 hG.size, fun j u hu => ?_⟩
  have h2 := h.2 j u hu
  exact ⟨(World.cell?_of_block (w := w) hb).trans h2.1, (World.frozen?_of_block (w := w) hb).trans h2.2⟩
theorem New.own {α : Type} {T sz : Nat} {enc : α → List Value} {base : Nat} {w : World} {v : Value} {xs : List α} (h : New T sz enc w base v xs) : ∀ k, v.ownBlock = some k → base ≤ k ∧ k < w.heap.size := by
  obtain ⟨A, cap, rfl, hr⟩ := h
  exact fun k e => hr.lt k e
/-- append of a slice that reads as a list to one of the call's own, as a run. -/
theorem run_appS {α : Type} {T sz : Nat} {enc : α → List Value} (hsz : ∀ x, (enc x).length = sz) {P : Program} (w : World) (t ty : TypeId)
    (base : Nat) (i : TypeInfo) (z : Value) (bytes : Nat) (ht : P.underlying t = some (.slice T)) (hi : P.info? T = some i) (hz : i.zero = some z)
    (hsize : i.size = sz) (hby : i.bytes = bytes) (hzs : z.cells.size = sz) (hpos : 0 < sz)
    {v : Value} {xs ys : List α} (hown : New T sz enc w base v xs)
    (B : Option Addr) (c : Nat) (hys : Sl sz enc w B ys) (hnil : B = none → c = 0) (h1 : ∀ y, ∀ u ∈ enc y, u.oneCell' = true)
    {W0 : World} (hb : Below base W0 w) (hbase : base ≤ w.heap.size) (hn : xs.length + ys.length ≤ 1073741824) (hbytes : bytes ≤ 128) :
    ∃ v' w', (Builtin.append_ #[t, t] ty #[v, .slice B ys.length c]).run P w = .ok v' w' ∧ New T sz enc w' base v' (xs ++ ys) ∧ Below base W0 w' ∧ w.grownBy w' v.ownBlock := by
  obtain ⟨A, cap, rfl, hr⟩ := hown
  have hb2 : (xs.length + ys.length) * bytes ≤ 1073741824 * 128 := Nat.mul_le_mul hn hbytes
  have hl : (xs ++ ys).length = xs.length + ys.length := List.length_append
  have hf : (xs ++ ys).flatMap enc = xs.flatMap enc ++ ys.flatMap enc := List.flatMap_append
  have go : ∀ ad : Addr, B = some ad → (∀ j u, (ys.flatMap enc)[j]? = some u → w.cell? (ad.add j) = some u) → ∃ v' w', (Builtin.append_ #[t, t] ty #[.slice A xs.length cap, .slice B ys.length c]).run P w = .ok v' w' ∧ New T sz enc w' base v' (xs ++ ys) ∧ Below base W0 w' ∧ w.grownBy w' (Value.slice A xs.length cap).ownBlock := by
    intro ad hB hc
    subst hB
    obtain ⟨v', w', hrun, hown', hg, _⟩ := run_append_own (P := P) w base t ty T i z sz bytes ht hi hz hsize hby hzs hpos _ _ _ hr ad ys.length c (ys.flatMap enc) (flatMap_len hsz ys) hc (fun u hu => by
      obtain ⟨y, _, hy⟩ := List.mem_flatMap.1 hu
      exact h1 y u hy) (by unfold maxLen; omega) (by omega) hbase
    have hbl := hb.grown hg hbase (fun k e => (hr.lt k e).1)
    rw [← hf] at hown'
    exact ⟨_, _, hrun, New.mk' hl.symm hown', hbl, hg⟩
  by_cases h0 : ys.length = 0
  · have hy : ys = [] := List.eq_nil_of_length_eq_zero h0
    subst hy
    cases B with
    | none =>
      have hc0 := hnil rfl
      subst hc0
      have hrun := run_append_owned_none (P := P) (w := w) base t ty T i sz ht hi _ _ _ hr
      exact ⟨_, _, hrun, New.mk' (n := xs.length) (by simp) (by simpa using hr), hb, World.grownBy.refl _ _⟩
    | some ad => exact go ad rfl (fun j u hu => by simp at hu)
  · obtain ⟨b, off, hB, _, hc⟩ := hys (by omega)
    refine go ⟨b, off, none⟩ hB (fun j u hu => ?_)
    rw [Addr.add_lit]
    have hjl : j < ys.length * sz := by
      rw [← flatMap_len hsz ys]
      rcases Nat.lt_or_ge j (ys.flatMap enc).length with h3 | h3
      · exact h3
      · rw [List.getElem?_eq_none h3] at hu; cases hu
    have hq : j / sz < ys.length := Nat.div_lt_of_lt_mul (by rw [Nat.mul_comm]; exact hjl)
    have hm : j % sz < sz := Nat.mod_lt _ hpos
    have hjj : j / sz * sz + j % sz = j := by rw [Nat.mul_comm]; exact Nat.div_add_mod j sz
    have hu2 : (enc ys[j / sz])[j % sz]? = some ((enc ys[j / sz])[j % sz]'(by rw [hsz]; exact hm)) := List.getElem?_eq_getElem _
    have h4 := flatMap_at hsz ys _ hq _ _ hu2
    rw [hjj, hu] at h4
    have h5 := hc _ hq _ _ hu2
    rw [Nat.add_assoc, hjj, ← h4] at h5
    exact h5
theorem HasT.belowB {B g T : Nat} {w w' : World} {vs : List Value} (h : HasT w g T vs) (hb : Below B w w') (hg : g < B) : HasT w' g T vs := (hb.block g hg).trans h
theorem HasT.neT {w : World} {g g' T T' : Nat} {vs vs' : List Value} (h : HasT w g T vs) (h' : HasT w g' T' vs') (hne : T ≠ T') : g ≠ g' := by
  intro e
  subst e
  rw [HasT] at h h'
  rw [h] at h'
  simp at h'
  exact hne h'.2
theorem HasT.grownT {α : Type} {T sz base g T' n c : Nat} {enc : α → List Value} {w w' : World} {A : Option Addr} {xs : List α} {vs : List Value} (h : HasT w g T' vs) (hg : w.grownBy w' (Value.slice A n c).ownBlock) (N : New T sz enc w base (.slice A n c) xs) (hne : T ≠ T') : HasT w' g T' vs := by
  refine (hg.block g (lt_of_heap h) (fun e => ?_)).trans h
  cases A with
  | none => simp [Value.ownBlock] at e
  | some p => exact N.typ h hne p rfl (by simpa [Value.ownBlock] using e.symm)
/-- append at a step of a region that draws its order: to a slice of the call's own. -/
theorem step_appO {α : Type} {T sz : Nat} {enc : α → List Value} (hsz : ∀ x, (enc x).length = sz) {P : Program} {o : Oper} {a : Act} {w : World} {K : Act → World → Prop} {Q : Exit → Act → World → Prop} (s x : Operand) (t : TypeId)
    (ho : o.op = .call { callee := .builtin .append, args := #[s, x], argTypes := #[t, t] })
    (base : Nat) (i : TypeInfo) (z : Value) (bytes : Nat) (ht : P.underlying t = some (.slice T)) (hi : P.info? T = some i) (hz : i.zero = some z)
    (hsize : i.size = sz) (hby : i.bytes = bytes) (hzs : z.cells.size = sz) (hpos : 0 < sz)
    {v : Value} {xs ys : List α} (hs : a.eval s = v) (hown : New T sz enc w base v xs)
    (B : Option Addr) (c : Nat) (hx : a.eval x = .slice B ys.length c) (hys : Sl sz enc w B ys) (hnil : B = none → c = 0) (h1 : ∀ y, ∀ u ∈ enc y, u.oneCell' = true)
    (hbase : base ≤ w.heap.size) (hn : xs.length + ys.length ≤ 1073741824) (hbytes : bytes ≤ 128)
    (hK : ∀ v' w', New T sz enc w' base v' (xs ++ ys) → Below base w w' → w.grownBy w' v.ownBlock → K (a.put o.dst v') w') : Oper.wp P o a w K Q := by
  obtain ⟨v', w', hrun, hN, hB, hG⟩ := run_appS hsz w t o.type base i z bytes ht hi hz hsize hby hzs hpos hown B c hys hnil h1 (Below.refl base w) hbase hn hbytes
  unfold Oper.wp
  simp [execOp, ho, resolve, invoke, builtin, hs, hx, hrun, Result.andThen]
  exact hK v' w' hN hB hG
/-- The same to an empty slice without room: only new blocks arise. -/
theorem step_app0 {α : Type} {T sz : Nat} {enc : α → List Value} (hsz : ∀ x, (enc x).length = sz) {P : Program} {o : Oper} {a : Act} {w : World} {K : Act → World → Prop} {Q : Exit → Act → World → Prop} (s x : Operand) (t : TypeId)
    (ho : o.op = .call { callee := .builtin .append, args := #[s, x], argTypes := #[t, t] })
    (base : Nat) (i : TypeInfo) (z : Value) (bytes : Nat) (ht : P.underlying t = some (.slice T)) (hi : P.info? T = some i) (hz : i.zero = some z)
    (hsize : i.size = sz) (hby : i.bytes = bytes) (hzs : z.cells.size = sz) (hpos : 0 < sz)
    {p : Addr} {ys : List α} (hs : a.eval s = .slice (some p) 0 0) (hown : New T sz enc w base (.slice (some p) 0 0) ([] : List α))
    (B : Option Addr) (c : Nat) (hx : a.eval x = .slice B ys.length c) (hys : Sl sz enc w B ys) (hnil : B = none → c = 0)
    (hbase : base ≤ w.heap.size) (hn : ys.length ≤ 1073741824) (hbytes : bytes ≤ 128)
    (hK : ∀ v' w', New T sz enc w' base v' ys → Below w.heap.size w w' → K (a.put o.dst v') w') : Oper.wp P o a w K Q := by
  have run : ∃ v' w', (Builtin.append_ #[t, t] o.type #[.slice (some p) 0 0, .slice B ys.length c]).run P w = .ok v' w' ∧ New T sz enc w' base v' ys ∧ Below w.heap.size w w' := by
    by_cases h0 : ys.length = 0
    · have hy : ys = [] := List.eq_nil_of_length_eq_zero h0
      subst hy
      refine ⟨_, _, ?_, hown, Below.refl _ _⟩
      cases B with
      | none => have := hnil rfl; subst this; simp [Builtin.append_, run_underlying ht, sizeOf, typeInfo, hi, Builtin.lenOf, Builtin.firstCells, storeCells]
      | some ad => simp [Builtin.append_, run_underlying ht, sizeOf, typeInfo, hi, Builtin.lenOf, Builtin.firstCells, storeCells, loadCells, loadCellsFrom]
    · obtain ⟨b, off, hB, _, hc⟩ := hys (by omega)
      subst hB
      have hb2 : ys.length * bytes ≤ 1073741824 * 128 := Nat.mul_le_mul hn hbytes
      obtain ⟨v', w', hrun, hown', hg⟩ := run_append_arg_grows (P := P) (w := w) t o.type T i z sz bytes ht hi hz hsize hby hzs hpos p 0 0 [] (by simp) (fun j u hu => by simp at hu) ⟨b, off, none⟩ ys.length c (ys.flatMap enc) (flatMap_len hsz ys) (fun j u hu => by
        rw [Addr.add_lit]
        have hjl : j < ys.length * sz := by
          rw [← flatMap_len hsz ys]
          rcases Nat.lt_or_ge j (ys.flatMap enc).length with h3 | h3
          · exact h3
          · rw [List.getElem?_eq_none h3] at hu; cases hu
        have hq : j / sz < ys.length := Nat.div_lt_of_lt_mul (by rw [Nat.mul_comm]; exact hjl)
        have hm : j % sz < sz := Nat.mod_lt _ hpos
        have hjj : j / sz * sz + j % sz = j := by rw [Nat.mul_comm]; exact Nat.div_add_mod j sz
        have hu2 : (enc ys[j / sz])[j % sz]? = some ((enc ys[j / sz])[j % sz]'(by rw [hsz]; exact hm)) := List.getElem?_eq_getElem _
        have h4 := flatMap_at hsz ys _ hq _ _ hu2
        rw [hjj, hu] at h4
        have h5 := hc _ hq _ _ hu2
        rw [Nat.add_assoc, hjj, ← h4] at h5
        exact h5) (by omega) (by unfold maxLen; omega) (by rw [Nat.zero_add]; omega)
      refine ⟨v', w', hrun, ?_, (Below.refl _ _).grown hg (Nat.le_refl _) (fun k e => by cases e)⟩
      rw [Nat.zero_add, List.nil_append] at hown'
      exact (New.mk' rfl hown').mono hbase
  obtain ⟨v', w', hrun, hN, hB⟩ := run
  unfold Oper.wp
  simp [execOp, ho, resolve, invoke, builtin, hs, hx, hrun, Result.andThen]
  exact hK v' w' hN hB
theorem one_sl {w : World} {g : Nat} {x : Record} (h : Has w g [.int .i64 x.before, .int .i64 x.input, .int .i64 x.after]) : Sl 3 recordC w (some ⟨g, 0, none⟩) [x] := by
  intro _
  refine ⟨g, 0, rfl, h.1, fun i hi j u hu => ?_⟩
  obtain rfl : i = 0 := by simp at hi; omega
  have := h.2 j u hu
  simpa using this.1
theorem fitR_len (xs : List Record) (err : Int) : (fitR xs err).length ≤ 40 := by
  unfold fitR
  split
  · rename_i h
    have h1 : recordsOk xs = true := by
      have := h.1
      simp only [fitOk, Bool.and_eq_true] at this
      exact this.1
    have h2 := (fit_few (err := err) h1).1
    unfold meetOk at h2
    exact of_decide_eq_true h2
  · exact Nat.zero_le _
def newRec (xs : List Record) (err : Int) (x : Record) : Bool := fitOk xs err && (fitOk (xs ++ [x]) err && !eqB (fitR xs err) (fitR (xs ++ [x]) err))
set_option maxRecDepth 100000 in
theorem clone_c (A : Option Addr) (xs : List Record) (cap : Nat) (w : World) (hl : xs.length ≤ 1048576) (hs : Sl 3 recordC w A xs) :
    Calls Try.prog 129 #[.slice A xs.length cap] w fun e w' => ∃ v, e = .returned v ∧ New 95 3 recordC w' w.heap.size v xs ∧ Below w.heap.size w w' := by
  obtain ⟨i0, hi0, hz0, hz1, hz2⟩ := info_parts (show (Try.prog.info? 95).map (fun i => (i.zero, i.size, i.bytes)) = some (some (.agg #[.int .i64 0, .int .i64 0, .int .i64 0]), 3, 24) by kernel_rfl)
  have hnil := fun W n => Lib.run_eql_slice_nil (P := Try.prog) W 71 _ A n cap 0 0 Try.underlying71
  cases A with
  | none =>
    have hx : xs = [] := by
      apply List.eq_nil_of_length_eq_zero
      apply Nat.eq_zero_of_not_pos
      intro h0
      obtain ⟨b, off, e, _⟩ := hs h0
      cases e
    subst hx
    go_enter Try.func129, Try.ntmps129
    go_wp2
    go_ret
    refine ⟨_, rfl, ⟨none, 0, rfl, by simp, .inl ⟨rfl, rfl⟩⟩, ?_⟩
    repeat (first | (with_reducible exact Below.refl _ _) | (with_reducible assumption) | (with_reducible refine below_al ?_ _) | (with_reducible refine Below.drew ?_) | (with_reducible refine below_drewN ?_ _) | (with_reducible refine below_st ?_ ?_ _) | (with_reducible refine below_tr ?_ (by assumption)) | (with_reducible exact Nat.le_refl _) | (focus (simp; done)) | (focus (simp; omega)))
  | some p =>
    have N0 : New 95 3 recordC (w.alloc (.cells #[] 95)) w.heap.size (.slice (some ⟨w.heap.size, 0, none⟩) 0 0) [] := New.mk0 w
    have b0 : Below w.heap.size w (w.alloc (.cells #[] 95)) := by
      repeat (first | (with_reducible exact Below.refl _ _) | (with_reducible assumption) | (with_reducible refine below_al ?_ _) | (with_reducible refine Below.drew ?_) | (with_reducible refine below_drewN ?_ _) | (with_reducible refine below_st ?_ ?_ _) | (with_reducible refine below_tr ?_ (by assumption)) | (with_reducible exact Nat.le_refl _) | (focus (simp; done)) | (focus (simp; omega)))
    have hs0 := hs.below b0
    have hz30 : ([] : List Record).length + xs.length ≤ 1073741824 := by simp only [List.length_nil]; omega
    go_enter Try.func129, Try.ntmps129
    go_wp2_with (at_builtin; refine wpList_appS recordC_len _ rfl _ _ 71 rfl w.heap.size i0 _ 24 Try.underlying71 hi0 hz0 hz1 hz2 rfl (by decide) rfl N0 (some p) cap rfl hs0 (fun e => by cases e) recordC_one b0 (by simp) hz30 (by decide) ?_)
    intro v1 w1 N1 hb1
    go_wp2
    go_ret
    exact ⟨_, rfl, N1, hb1⟩
set_option maxRecDepth 100000 in
set_option maxHeartbeats 8000000 in
theorem iNew_c (A : Option Addr) (xs : List Record) (cap : Nat) (err : Int) (x : Record) (w : World) (hl : xs.length ≤ 1048576) (he : In64 err) (hs : Sl 3 recordC w A xs) :
    Calls Try.prog 48 #[.slice A xs.length cap, .int .i64 err, recordV x] w fun e w' => e = .returned (.bool (newRec xs err x)) ∧ Below w.heap.size w w' := by
  obtain ⟨i0, hi0, hz0, hz1, hz2⟩ := info_parts (show (Try.prog.info? 95).map (fun i => (i.zero, i.size, i.bytes)) = some (some (.agg #[.int .i64 0, .int .i64 0, .int .i64 0]), 3, 24) by kernel_rfl)
  obtain ⟨YS, hYS⟩ : ∃ YS, YS = xs ++ [x] := ⟨_, rfl⟩
  have hdef := Lib.hid (show newRec xs err x = (fitOk xs err && (fitOk YS err && !eqB (fitR xs err) (fitR YS err))) by rw [hYS]; rfl)
  have hYl : YS.length ≤ 1048577 := by rw [hYS]; simp; omega
  have c1 := fun W h => iFit_c A xs cap err W (by omega) he h
  have c2 := fun W B d h => iFit_c B YS d err W hYl he h
  have hle1 := Lib.hid (fitR_len xs err)
  have hle2 := Lib.hid (fitR_len YS err)
  generalize fitR xs err = R1 at *
  generalize fitR YS err = R2 at *
  generalize fitOk xs err = ok1 at *
  generalize fitOk YS err = ok2 at *
  have hsum1 : xs.length + [x].length ≤ 1073741824 := by simp; omega
  have hYS' := Lib.hid hYS
  clear hYS hYl
  have TX0 : HasT (w.alloc (.cells #[.int .i64 x.before, .int .i64 x.input, .int .i64 x.after] 95)) w.heap.size 95 [.int .i64 x.before, .int .i64 x.input, .int .i64 x.after] := HasT.new w [.int .i64 x.before, .int .i64 x.input, .int .i64 x.after] 95
  have b0 : Below w.heap.size w (w.alloc (.cells #[.int .i64 x.before, .int .i64 x.input, .int .i64 x.after] 95)) := by
    repeat (first | (with_reducible exact Below.refl _ _) | (with_reducible assumption) | (with_reducible refine below_al ?_ _) | (with_reducible refine Below.drew ?_) | (with_reducible refine below_drewN ?_ _) | (with_reducible refine below_st ?_ ?_ _) | (with_reducible refine below_tr ?_ (by assumption)) | (with_reducible exact Nat.le_refl _) | (focus (simp; done)) | (focus (simp; omega)))
  have hs0 := hs.below b0
  go_enter Try.func48, Try.ntmps48
  go_wp2_with (fail)
  refine (c1 _ hs0).mono ?_
  rintro e w1 ⟨v1, rfl, N1, hb1⟩
  have TX1 := TX0.below hb1
  have b1 := below_tr b0 hb1
  have hs1 := hs0.below hb1
  obtain ⟨A1, k1, rfl, S1⟩ := N1.sl halfC_len
  clear N1 TX0 b0 hs0 c1 hb1
  have TX := TX1.alloc (.cells #[.slice A1 R1.length k1] 76)
  have T7 : HasT (w1.alloc (.cells #[.slice A1 R1.length k1] 76)) w1.heap.size 76 [.slice A1 R1.length k1] := HasT.new w1 [.slice A1 R1.length k1] 76
  have b2 := below_al b1 (.cells #[.slice A1 R1.length k1] 76)
  have hs2 := hs1.alloc (.cells #[.slice A1 R1.length k1] 76)
  have S2 := S1.alloc (.cells #[.slice A1 R1.length k1] 76)
  go_upto_region 2 with fail
  generalize w1.alloc (.cells #[.slice A1 R1.length k1] 76) = wa at *
  clear TX1 S1 b1 hs1
  generalize w1.heap.size = g7 at *
  have lx := lt_of_heap TX
  have l7 := lt_of_heap T7
  have hBWA : wa.heap.size ≤ wa.heap.size := Nat.le_refl _
  have hTA_0 := TX
  have hTA_1 := T7
  obtain ⟨IA, hIA⟩ : ∃ I : Act → (Nat → Bool) → Act → World → Prop, I = (fun a0 L a w' => FrameOf a0 a [18, 19, 20, 21, 22, 23, 24, 17, 25, 26, 9, 10] ∧ Below (wa.heap.size) wa w' ∧ (L 0 = true → a.tmps[18]?.getD undef = .slice A xs.length cap) ∧ (L 1 = true → ∃ C k, a.tmps[19]?.getD undef = .slice C (xs.length) k ∧ (L 4 = false → New 95 3 recordC w' wa.heap.size (.slice C (xs.length) k) xs)) ∧ (L 2 = true → a.tmps[20]?.getD undef = .agg #[.int .i64 x.before, .int .i64 x.input, .int .i64 x.after]) ∧ (L 3 = true → ∃ g, a.tmps[21]?.getD undef = .slice (some ⟨g, 0, none⟩) 1 1 ∧ (L 4 = false → HasT w' g 95 [.int .i64 x.before, .int .i64 x.input, .int .i64 x.after])) ∧ (L 4 = true → ∃ C k, a.tmps[22]?.getD undef = .slice C (YS.length) k ∧ New 95 3 recordC w' wa.heap.size (.slice C (YS.length) k) YS) ∧ (L 5 = true → a.tmps[23]?.getD undef = .int .i64 err) ∧ (L 6 = true → ∃ C k, a.tmps[24]?.getD undef = .tuple #[.agg #[.slice C (R2.length) k], .bool ok2] ∧ New 177 3 halfC w' wa.heap.size (.slice C (R2.length) k) R2) ∧ (L 7 = true → ∃ C k, a.tmps[17]?.getD undef = .tuple #[.agg #[.slice C (R2.length) k], .bool ok2] ∧ New 177 3 halfC w' wa.heap.size (.slice C (R2.length) k) R2) ∧ (L 8 = true → ∃ C k, a.tmps[25]?.getD undef = .agg #[.slice C (R2.length) k] ∧ New 177 3 halfC w' wa.heap.size (.slice C (R2.length) k) R2) ∧ (L 9 = true → a.tmps[26]?.getD undef = .bool ok2) ∧ (L 12 = true → a.tmps[10]?.getD undef = .bool ok2) ∧ (L 1 = true → L 0 = true) ∧ (L 3 = true → L 2 = true) ∧ (L 4 = true → L 1 = true) ∧ (L 4 = true → L 3 = true) ∧ (L 6 = true → L 4 = true) ∧ (L 6 = true → L 5 = true) ∧ (L 7 = true → L 6 = true) ∧ (L 8 = true → L 7 = true) ∧ (L 9 = true → L 7 = true) ∧ (L 11 = true → L 8 = true) ∧ (L 11 = true → L 10 = true) ∧ (L 12 = true → L 9 = true) ∧ (L 10 = true → ∃ g : Nat, a.tmps[9]?.getD undef = .pointer (some ⟨g, 0, none⟩) ∧ wa.heap.size ≤ g ∧ (L 11 = false → HasT w' g 76 [.slice none 0 0]) ∧ (L 11 = true → (∃ C k, HasT w' (g) 76 [.slice C (R2.length) k] ∧ New 177 3 halfC w' wa.heap.size (.slice C (R2.length) k) R2))) ∧ HasT w' (w.heap.size) 95 [.int .i64 x.before, .int .i64 x.input, .int .i64 x.after] ∧ HasT w' (g7) 76 [.slice A1 R1.length k1]) := ⟨_, rfl⟩
  refine wp_region_I0 (by kernel_rfl) (by kernel_rfl) IA ?h0 ?hs ?he
  case h0 =>
    rw [hIA]
    exact ⟨FrameOf.refl _ _, (Below.refl _ _).drew, fun h => absurd h (by simp), fun h => absurd h (by simp), fun h => absurd h (by simp), fun h => absurd h (by simp), fun h => absurd h (by simp), fun h => absurd h (by simp), fun h => absurd h (by simp), fun h => absurd h (by simp), fun h => absurd h (by simp), fun h => absurd h (by simp), fun h => absurd h (by simp), fun h => absurd h (by simp), fun h => absurd h (by simp), fun h => absurd h (by simp), fun h => absurd h (by simp), fun h => absurd h (by simp), fun h => absurd h (by simp), fun h => absurd h (by simp), fun h => absurd h (by simp), fun h => absurd h (by simp), fun h => absurd h (by simp), fun h => absurd h (by simp), fun h => absurd h (by simp), fun h => absurd h (by simp), hTA_0, hTA_1⟩
  case hs =>
    intro L a w' i o ho hLi hd hI'
    rw [hIA] at hI'
    obtain ⟨hF, hB, ci0, ci1, ci2, ci3, ci4, ci5, ci6, ci7, ci8, ci9, ci12, cp1_0, cp3_2, cp4_1, cp4_3, cp6_4, cp6_5, cp7_6, cp8_7, cp9_7, cp11_8, cp11_10, cp12_9, ca2, cy0, cy1⟩ := hI'
    have hi : i < 13 := by
      rcases Nat.lt_or_ge i 13 with h | h
      · exact h
      · rw [List.getElem?_eq_none (by simpa using h)] at ho; cases ho
    have zB := hB.size
    have hBw : wa.heap.size ≤ w'.heap.size := Nat.le_trans hBWA zB
    obtain rfl | rfl | rfl | rfl | rfl | rfl | rfl | rfl | rfl | rfl | rfl | rfl | rfl : i = 0 ∨ i = 1 ∨ i = 2 ∨ i = 3 ∨ i = 4 ∨ i = 5 ∨ i = 6 ∨ i = 7 ∨ i = 8 ∨ i = 9 ∨ i = 10 ∨ i = 11 ∨ i = 12 := by omega
    · simp only [List.getElem?_cons_zero, Option.some.injEq] at ho
      subst ho
      rw [if_pos (by simp [Region.wanted])]
      have e0 : a.tmps[0]?.getD undef = .slice A xs.length cap := hF.get (by decide)
      simp [go_sem, Array.getD_eq_getD_getElem?, e0]
      rw [hIA]
      exact ⟨hF.put (by decide) _, hB, fun _ => put_get_self (hF.lt (by simp)) _, fun h => by have hq : L 1 = true := (by simpa using h); exact absurd (cp1_0 hq) (by rw [hLi]; decide), pgK ci2 (by decide) rfl, fun h => by obtain ⟨g_z, vz, Nz⟩ := ci3 (by simpa using h); exact ⟨g_z, (put_get_ne (by decide) _).trans vz, fun h2 => (Nz (by simpa using h2))⟩, fun h => by have hq : L 4 = true := (by simpa using h); exact absurd (cp1_0 (cp4_1 hq)) (by rw [hLi]; decide), pgK ci5 (by decide) rfl, fun h => by have hq : L 6 = true := (by simpa using h); exact absurd (cp1_0 (cp4_1 (cp6_4 hq))) (by rw [hLi]; decide), fun h => by have hq : L 7 = true := (by simpa using h); exact absurd (cp1_0 (cp4_1 (cp6_4 (cp7_6 hq)))) (by rw [hLi]; decide), fun h => by have hq : L 8 = true := (by simpa using h); exact absurd (cp1_0 (cp4_1 (cp6_4 (cp7_6 (cp8_7 hq))))) (by rw [hLi]; decide), pgK ci9 (by decide) rfl, pgK ci12 (by decide) rfl, fun _ => by simp, prK cp3_2 rfl, prK cp4_1 rfl, prK cp4_3 rfl, prK cp6_4 rfl, prK cp6_5 rfl, prK cp7_6 rfl, prK cp8_7 rfl, prK cp9_7 rfl, prK cp11_8 rfl, prK cp11_10 rfl, prK cp12_9 rfl, fun h => by obtain ⟨g2, e2, hg2, y2, z2⟩ := ca2 (by simpa using h); exact ⟨g2, (put_get_ne (by decide) _).trans e2, hg2, fun h => y2 (by simpa using h), fun h => (by have hq : L 11 = true := (by simpa using h); exact absurd (cp1_0 (cp4_1 (cp6_4 (cp7_6 (cp8_7 (cp11_8 hq)))))) (by rw [hLi]; decide))⟩, cy0, cy1⟩
    · simp only [List.getElem?_cons_zero, List.getElem?_cons_succ, Option.some.injEq] at ho
      subst ho
      rw [if_pos (by simp [Region.wanted])]
      have d0 := hd { on := 0, ground := .data } (by simp) (by decide)
      have v0 := ci0 d0
      simp [go_sem, Array.getD_eq_getD_getElem?, v0]
      refine (clone_c A xs cap _ hl (hs2.below hB)).mono ?_
      rintro e wx ⟨v, rfl, N, hbx⟩
      obtain ⟨C_1, k_1, rfl, o⟩ := N
      have N_1 : New 95 3 recordC wx wa.heap.size (.slice C_1 (xs.length) k_1) xs := New.mono ⟨C_1, k_1, rfl, o⟩ hBw
      clear o
      rw [hIA]
      exact ⟨hF.put (by decide) _, hB.trans (hbx.mono hBw), pgK ci0 (by decide) rfl, fun _ => ⟨C_1, k_1, put_get_self (hF.lt (by simp)) _, fun _ => N_1⟩, pgK ci2 (by decide) rfl, fun h => by obtain ⟨g_z, vz, Nz⟩ := ci3 (by simpa using h); exact ⟨g_z, (put_get_ne (by decide) _).trans vz, fun h2 => ((Nz (by simpa using h2))).below hbx⟩, fun h => by have hq : L 4 = true := (by simpa using h); exact absurd (cp4_1 hq) (by rw [hLi]; decide), pgK ci5 (by decide) rfl, fun h => by have hq : L 6 = true := (by simpa using h); exact absurd (cp4_1 (cp6_4 hq)) (by rw [hLi]; decide), fun h => by have hq : L 7 = true := (by simpa using h); exact absurd (cp4_1 (cp6_4 (cp7_6 hq))) (by rw [hLi]; decide), fun h => by have hq : L 8 = true := (by simpa using h); exact absurd (cp4_1 (cp6_4 (cp7_6 (cp8_7 hq)))) (by rw [hLi]; decide), pgK ci9 (by decide) rfl, pgK ci12 (by decide) rfl, fun _ => by simp [d0], prK cp3_2 rfl, fun _ => by simp, prK cp4_3 rfl, prK cp6_4 rfl, prK cp6_5 rfl, prK cp7_6 rfl, prK cp8_7 rfl, prK cp9_7 rfl, prK cp11_8 rfl, prK cp11_10 rfl, prK cp12_9 rfl, fun h => by obtain ⟨g2, e2, hg2, y2, z2⟩ := ca2 (by simpa using h); exact ⟨g2, (put_get_ne (by decide) _).trans e2, hg2, fun h => (y2 (by simpa using h)).below hbx, fun h => (by have hq : L 11 = true := (by simpa using h); exact absurd (cp4_1 (cp6_4 (cp7_6 (cp8_7 (cp11_8 hq))))) (by rw [hLi]; decide))⟩, (cy0).below hbx, (cy1).below hbx⟩
    · simp only [List.getElem?_cons_zero, List.getElem?_cons_succ, Option.some.injEq] at ho
      subst ho
      rw [if_pos (by simp [Region.wanted])]
      have e0 : a.tmps[5]?.getD undef = .pointer (some ⟨w.heap.size, 0, none⟩) := hF.get (by decide)
      have HT0 := cy0
      have HH0 := HT0.has
      have lH0 := HH0.1
      obtain ⟨cH0_0, fH0_0⟩ := HH0.2 0 _ rfl
      obtain ⟨cH0_1, fH0_1⟩ := HH0.2 1 _ rfl
      obtain ⟨cH0_2, fH0_2⟩ := HH0.2 2 _ rfl
      simp [go_sem, Array.getD_eq_getD_getElem?, e0, cH0_0, cH0_1, cH0_2]
      rw [hIA]
      exact ⟨hF.put (by decide) _, hB, pgK ci0 (by decide) rfl, fun h => by obtain ⟨C_z, k_z, vz, Nz⟩ := ci1 (by simpa using h); exact ⟨C_z, k_z, (put_get_ne (by decide) _).trans vz, fun h2 => (Nz (by simpa using h2))⟩, fun _ => put_get_self (hF.lt (by simp)) _, fun h => by have hq : L 3 = true := (by simpa using h); exact absurd (cp3_2 hq) (by rw [hLi]; decide), fun h => by have hq : L 4 = true := (by simpa using h); exact absurd (cp3_2 (cp4_3 hq)) (by rw [hLi]; decide), pgK ci5 (by decide) rfl, fun h => by have hq : L 6 = true := (by simpa using h); exact absurd (cp3_2 (cp4_3 (cp6_4 hq))) (by rw [hLi]; decide), fun h => by have hq : L 7 = true := (by simpa using h); exact absurd (cp3_2 (cp4_3 (cp6_4 (cp7_6 hq)))) (by rw [hLi]; decide), fun h => by have hq : L 8 = true := (by simpa using h); exact absurd (cp3_2 (cp4_3 (cp6_4 (cp7_6 (cp8_7 hq))))) (by rw [hLi]; decide), pgK ci9 (by decide) rfl, pgK ci12 (by decide) rfl, prK cp1_0 rfl, fun _ => by simp, prK cp4_1 rfl, prK cp4_3 rfl, prK cp6_4 rfl, prK cp6_5 rfl, prK cp7_6 rfl, prK cp8_7 rfl, prK cp9_7 rfl, prK cp11_8 rfl, prK cp11_10 rfl, prK cp12_9 rfl, fun h => by obtain ⟨g2, e2, hg2, y2, z2⟩ := ca2 (by simpa using h); exact ⟨g2, (put_get_ne (by decide) _).trans e2, hg2, fun h => y2 (by simpa using h), fun h => (by have hq : L 11 = true := (by simpa using h); exact absurd (cp3_2 (cp4_3 (cp6_4 (cp7_6 (cp8_7 (cp11_8 hq)))))) (by rw [hLi]; decide))⟩, cy0, cy1⟩
    · simp only [List.getElem?_cons_zero, List.getElem?_cons_succ, Option.some.injEq] at ho
      subst ho
      rw [if_pos (by simp [Region.wanted])]
      have d2 := hd { on := 2, ground := .data } (by simp) (by decide)
      have v2 := ci2 d2
      simp [go_sem, Array.getD_eq_getD_getElem?, v2]
      obtain ⟨g_3, hg3⟩ : ∃ g, g = w'.heap.size := ⟨_, rfl⟩
      have N_3 : HasT (w'.alloc (.cells #[.int .i64 x.before, .int .i64 x.input, .int .i64 x.after] 95)) g_3 95 [.int .i64 x.before, .int .i64 x.input, .int .i64 x.after] := hg3 ▸ HasT.new w' [.int .i64 x.before, .int .i64 x.input, .int .i64 x.after] 95
      rw [← hg3]
      rw [hIA]
      exact ⟨hF.put (by decide) _, hB.alloc hBw _, pgK ci0 (by decide) rfl, fun h => by obtain ⟨C_z, k_z, vz, Nz⟩ := ci1 (by simpa using h); exact ⟨C_z, k_z, (put_get_ne (by decide) _).trans vz, fun h2 => ((Nz (by simpa using h2))).alloc _⟩, pgK ci2 (by decide) rfl, fun _ => ⟨g_3, put_get_self (hF.lt (by simp)) _, fun _ => N_3⟩, fun h => by have hq : L 4 = true := (by simpa using h); exact absurd (cp4_3 hq) (by rw [hLi]; decide), pgK ci5 (by decide) rfl, fun h => by have hq : L 6 = true := (by simpa using h); exact absurd (cp4_3 (cp6_4 hq)) (by rw [hLi]; decide), fun h => by have hq : L 7 = true := (by simpa using h); exact absurd (cp4_3 (cp6_4 (cp7_6 hq))) (by rw [hLi]; decide), fun h => by have hq : L 8 = true := (by simpa using h); exact absurd (cp4_3 (cp6_4 (cp7_6 (cp8_7 hq)))) (by rw [hLi]; decide), pgK ci9 (by decide) rfl, pgK ci12 (by decide) rfl, prK cp1_0 rfl, fun _ => by simp [d2], prK cp4_1 rfl, fun _ => by simp, prK cp6_4 rfl, prK cp6_5 rfl, prK cp7_6 rfl, prK cp8_7 rfl, prK cp9_7 rfl, prK cp11_8 rfl, prK cp11_10 rfl, prK cp12_9 rfl, fun h => by obtain ⟨g2, e2, hg2, y2, z2⟩ := ca2 (by simpa using h); exact ⟨g2, (put_get_ne (by decide) _).trans e2, hg2, fun h => (y2 (by simpa using h)).alloc _, fun h => (by have hq : L 11 = true := (by simpa using h); exact absurd (cp4_3 (cp6_4 (cp7_6 (cp8_7 (cp11_8 hq))))) (by rw [hLi]; decide))⟩, (cy0).alloc _, (cy1).alloc _⟩
    · simp only [List.getElem?_cons_zero, List.getElem?_cons_succ, Option.some.injEq] at ho
      subst ho
      rw [if_pos (by simp [Region.wanted])]
      have d1 := hd { on := 1, ground := .data } (by simp) (by decide)
      obtain ⟨C_1, k_1, v1, N_1⟩ := ci1 d1
      have N_1 := N_1 hLi
      have d3 := hd { on := 3, ground := .data } (by simp) (by decide)
      obtain ⟨g_3, v3, N_3⟩ := ci3 d3
      have N_3 := N_3 hLi
      refine step_appO (v := .slice C_1 (xs.length) k_1) (xs := xs) (ys := [x]) recordC_len _ _ 71 rfl wa.heap.size i0 _ 24 Try.underlying71 hi0 hz0 hz1 hz2 rfl (by decide) (by simp [go_sem, Array.getD_eq_getD_getElem?, v1]) N_1 (some ⟨g_3, 0, none⟩) 1 (by simp [go_sem, Array.getD_eq_getD_getElem?, v3]) (one_sl N_3.has) (fun e => by cases e) recordC_one hBw hsum1 (by decide) ?_
      intro v wx N hbx hg
      rw [← hYS'.out] at N
      obtain ⟨C_4, k_4, rfl, o⟩ := N
      have N_4 : New 95 3 recordC wx wa.heap.size (.slice C_4 (YS.length) k_4) YS := ⟨C_4, k_4, rfl, o⟩
      clear o
      rw [hIA]
      exact ⟨hF.put (by decide) _, hB.trans hbx, pgK ci0 (by decide) rfl, fun h => by obtain ⟨C_z, k_z, vz, Nz⟩ := ci1 (by simpa using h); exact ⟨C_z, k_z, (put_get_ne (by decide) _).trans vz, fun h2 => by simp at h2⟩, pgK ci2 (by decide) rfl, fun h => by obtain ⟨g_z, vz, Nz⟩ := ci3 (by simpa using h); exact ⟨g_z, (put_get_ne (by decide) _).trans vz, fun h2 => by simp at h2⟩, fun _ => ⟨C_4, k_4, put_get_self (hF.lt (by simp)) _, N_4⟩, pgK ci5 (by decide) rfl, fun h => by have hq : L 6 = true := (by simpa using h); exact absurd (cp6_4 hq) (by rw [hLi]; decide), fun h => by have hq : L 7 = true := (by simpa using h); exact absurd (cp6_4 (cp7_6 hq)) (by rw [hLi]; decide), fun h => by have hq : L 8 = true := (by simpa using h); exact absurd (cp6_4 (cp7_6 (cp8_7 hq))) (by rw [hLi]; decide), pgK ci9 (by decide) rfl, pgK ci12 (by decide) rfl, prK cp1_0 rfl, prK cp3_2 rfl, fun _ => by simp [d1], fun _ => by simp [d3], fun _ => by simp, prK cp6_5 rfl, prK cp7_6 rfl, prK cp8_7 rfl, prK cp9_7 rfl, prK cp11_8 rfl, prK cp11_10 rfl, prK cp12_9 rfl, fun h => by obtain ⟨g2, e2, hg2, y2, z2⟩ := ca2 (by simpa using h); exact ⟨g2, (put_get_ne (by decide) _).trans e2, hg2, fun h => (y2 (by simpa using h)).grownT hg N_1 (by decide), fun h => (by have hq : L 11 = true := (by simpa using h); exact absurd (cp6_4 (cp7_6 (cp8_7 (cp11_8 hq)))) (by rw [hLi]; decide))⟩, (cy0).belowB hbx (by omega), (cy1).belowB hbx (by omega)⟩
    · simp only [List.getElem?_cons_zero, List.getElem?_cons_succ, Option.some.injEq] at ho
      subst ho
      rw [if_pos (by simp [Region.wanted])]
      have e0 : a.tmps[1]?.getD undef = .int .i64 err := hF.get (by decide)
      simp [go_sem, Array.getD_eq_getD_getElem?, e0]
      rw [hIA]
      exact ⟨hF.put (by decide) _, hB, pgK ci0 (by decide) rfl, fun h => by obtain ⟨C_z, k_z, vz, Nz⟩ := ci1 (by simpa using h); exact ⟨C_z, k_z, (put_get_ne (by decide) _).trans vz, fun h2 => (Nz (by simpa using h2))⟩, pgK ci2 (by decide) rfl, fun h => by obtain ⟨g_z, vz, Nz⟩ := ci3 (by simpa using h); exact ⟨g_z, (put_get_ne (by decide) _).trans vz, fun h2 => (Nz (by simpa using h2))⟩, fun h => by obtain ⟨C_z, k_z, vz, Nz⟩ := ci4 (by simpa using h); exact ⟨C_z, k_z, (put_get_ne (by decide) _).trans vz, Nz⟩, fun _ => put_get_self (hF.lt (by simp)) _, fun h => by have hq : L 6 = true := (by simpa using h); exact absurd (cp6_5 hq) (by rw [hLi]; decide), fun h => by have hq : L 7 = true := (by simpa using h); exact absurd (cp6_5 (cp7_6 hq)) (by rw [hLi]; decide), fun h => by have hq : L 8 = true := (by simpa using h); exact absurd (cp6_5 (cp7_6 (cp8_7 hq))) (by rw [hLi]; decide), pgK ci9 (by decide) rfl, pgK ci12 (by decide) rfl, prK cp1_0 rfl, prK cp3_2 rfl, prK cp4_1 rfl, prK cp4_3 rfl, prK cp6_4 rfl, fun _ => by simp, prK cp7_6 rfl, prK cp8_7 rfl, prK cp9_7 rfl, prK cp11_8 rfl, prK cp11_10 rfl, prK cp12_9 rfl, fun h => by obtain ⟨g2, e2, hg2, y2, z2⟩ := ca2 (by simpa using h); exact ⟨g2, (put_get_ne (by decide) _).trans e2, hg2, fun h => y2 (by simpa using h), fun h => (by have hq : L 11 = true := (by simpa using h); exact absurd (cp6_5 (cp7_6 (cp8_7 (cp11_8 hq)))) (by rw [hLi]; decide))⟩, cy0, cy1⟩
    · simp only [List.getElem?_cons_zero, List.getElem?_cons_succ, Option.some.injEq] at ho
      subst ho
      rw [if_pos (by simp [Region.wanted])]
      have d4 := hd { on := 4, ground := .data } (by simp) (by decide)
      obtain ⟨C_4, k_4, v4, N_4⟩ := ci4 d4
      have d5 := hd { on := 5, ground := .data } (by simp) (by decide)
      have v5 := ci5 d5
      simp [go_sem, Array.getD_eq_getD_getElem?, v4, v5]
      refine (c2 _ _ _ (N_4.out recordC_len)).mono ?_
      rintro e wx ⟨v, rfl, N, hbx⟩
      obtain ⟨C_6, k_6, rfl, o⟩ := N
      have N_6 : New 177 3 halfC wx wa.heap.size (.slice C_6 (R2.length) k_6) R2 := New.mono ⟨C_6, k_6, rfl, o⟩ hBw
      clear o
      rw [hIA]
      exact ⟨hF.put (by decide) _, hB.trans (hbx.mono hBw), pgK ci0 (by decide) rfl, fun h => by obtain ⟨C_z, k_z, vz, Nz⟩ := ci1 (by simpa using h); exact ⟨C_z, k_z, (put_get_ne (by decide) _).trans vz, fun h2 => by have h3 : L 4 = false := (by simpa using h2); rw [d4] at h3; cases h3⟩, pgK ci2 (by decide) rfl, fun h => by obtain ⟨g_z, vz, Nz⟩ := ci3 (by simpa using h); exact ⟨g_z, (put_get_ne (by decide) _).trans vz, fun h2 => by have h3 : L 4 = false := (by simpa using h2); rw [d4] at h3; cases h3⟩, fun h => by obtain ⟨C_z, k_z, vz, Nz⟩ := ci4 (by simpa using h); exact ⟨C_z, k_z, (put_get_ne (by decide) _).trans vz, (Nz).below hbx (Nat.le_refl _)⟩, pgK ci5 (by decide) rfl, fun _ => ⟨C_6, k_6, put_get_self (hF.lt (by simp)) _, N_6⟩, fun h => by have hq : L 7 = true := (by simpa using h); exact absurd (cp7_6 hq) (by rw [hLi]; decide), fun h => by have hq : L 8 = true := (by simpa using h); exact absurd (cp7_6 (cp8_7 hq)) (by rw [hLi]; decide), pgK ci9 (by decide) rfl, pgK ci12 (by decide) rfl, prK cp1_0 rfl, prK cp3_2 rfl, prK cp4_1 rfl, prK cp4_3 rfl, fun _ => by simp [d4], fun _ => by simp [d5], fun _ => by simp, prK cp8_7 rfl, prK cp9_7 rfl, prK cp11_8 rfl, prK cp11_10 rfl, prK cp12_9 rfl, fun h => by obtain ⟨g2, e2, hg2, y2, z2⟩ := ca2 (by simpa using h); exact ⟨g2, (put_get_ne (by decide) _).trans e2, hg2, fun h => (y2 (by simpa using h)).below hbx, fun h => (by have hq : L 11 = true := (by simpa using h); exact absurd (cp7_6 (cp8_7 (cp11_8 hq))) (by rw [hLi]; decide))⟩, (cy0).below hbx, (cy1).below hbx⟩
    · simp only [List.getElem?_cons_zero, List.getElem?_cons_succ, Option.some.injEq] at ho
      subst ho
      rw [if_pos (by simp [Region.wanted])]
      have d6 := hd { on := 6, ground := .data } (by simp) (by decide)
      obtain ⟨C_6, k_6, v6, N_6⟩ := ci6 d6
      simp [go_sem, Array.getD_eq_getD_getElem?, v6]
      rw [hIA]
      exact ⟨hF.put (by decide) _, hB, pgK ci0 (by decide) rfl, fun h => by obtain ⟨C_z, k_z, vz, Nz⟩ := ci1 (by simpa using h); exact ⟨C_z, k_z, (put_get_ne (by decide) _).trans vz, fun h2 => by have h3 : L 4 = false := (by simpa using h2); rw [(cp6_4 d6)] at h3; cases h3⟩, pgK ci2 (by decide) rfl, fun h => by obtain ⟨g_z, vz, Nz⟩ := ci3 (by simpa using h); exact ⟨g_z, (put_get_ne (by decide) _).trans vz, fun h2 => by have h3 : L 4 = false := (by simpa using h2); rw [(cp6_4 d6)] at h3; cases h3⟩, fun h => by obtain ⟨C_z, k_z, vz, Nz⟩ := ci4 (by simpa using h); exact ⟨C_z, k_z, (put_get_ne (by decide) _).trans vz, Nz⟩, pgK ci5 (by decide) rfl, fun h => by obtain ⟨C_z, k_z, vz, Nz⟩ := ci6 (by simpa using h); exact ⟨C_z, k_z, (put_get_ne (by decide) _).trans vz, Nz⟩, fun _ => ⟨C_6, k_6, put_get_self (hF.lt (by simp)) _, N_6⟩, fun h => by have hq : L 8 = true := (by simpa using h); exact absurd (cp8_7 hq) (by rw [hLi]; decide), pgK ci9 (by decide) rfl, pgK ci12 (by decide) rfl, prK cp1_0 rfl, prK cp3_2 rfl, prK cp4_1 rfl, prK cp4_3 rfl, prK cp6_4 rfl, prK cp6_5 rfl, fun _ => by simp [d6], fun _ => by simp, fun _ => by simp, prK cp11_8 rfl, prK cp11_10 rfl, prK cp12_9 rfl, fun h => by obtain ⟨g2, e2, hg2, y2, z2⟩ := ca2 (by simpa using h); exact ⟨g2, (put_get_ne (by decide) _).trans e2, hg2, fun h => y2 (by simpa using h), fun h => (by have hq : L 11 = true := (by simpa using h); exact absurd (cp8_7 (cp11_8 hq)) (by rw [hLi]; decide))⟩, cy0, cy1⟩
    · simp only [List.getElem?_cons_zero, List.getElem?_cons_succ, Option.some.injEq] at ho
      subst ho
      rw [if_pos (by simp [Region.wanted])]
      have d7 := hd { on := 7, ground := .data } (by simp) (by decide)
      obtain ⟨C_7, k_7, v7, N_7⟩ := ci7 d7
      simp [go_sem, Array.getD_eq_getD_getElem?, v7]
      rw [hIA]
      exact ⟨hF.put (by decide) _, hB, pgK ci0 (by decide) rfl, fun h => by obtain ⟨C_z, k_z, vz, Nz⟩ := ci1 (by simpa using h); exact ⟨C_z, k_z, (put_get_ne (by decide) _).trans vz, fun h2 => by have h3 : L 4 = false := (by simpa using h2); rw [(cp6_4 (cp7_6 d7))] at h3; cases h3⟩, pgK ci2 (by decide) rfl, fun h => by obtain ⟨g_z, vz, Nz⟩ := ci3 (by simpa using h); exact ⟨g_z, (put_get_ne (by decide) _).trans vz, fun h2 => by have h3 : L 4 = false := (by simpa using h2); rw [(cp6_4 (cp7_6 d7))] at h3; cases h3⟩, fun h => by obtain ⟨C_z, k_z, vz, Nz⟩ := ci4 (by simpa using h); exact ⟨C_z, k_z, (put_get_ne (by decide) _).trans vz, Nz⟩, pgK ci5 (by decide) rfl, fun h => by obtain ⟨C_z, k_z, vz, Nz⟩ := ci6 (by simpa using h); exact ⟨C_z, k_z, (put_get_ne (by decide) _).trans vz, Nz⟩, fun h => by obtain ⟨C_z, k_z, vz, Nz⟩ := ci7 (by simpa using h); exact ⟨C_z, k_z, (put_get_ne (by decide) _).trans vz, Nz⟩, fun _ => ⟨C_7, k_7, put_get_self (hF.lt (by simp)) _, N_7⟩, pgK ci9 (by decide) rfl, pgK ci12 (by decide) rfl, prK cp1_0 rfl, prK cp3_2 rfl, prK cp4_1 rfl, prK cp4_3 rfl, prK cp6_4 rfl, prK cp6_5 rfl, prK cp7_6 rfl, fun _ => by simp [d7], prK cp9_7 rfl, fun _ => by simp, prK cp11_10 rfl, prK cp12_9 rfl, fun h => by obtain ⟨g2, e2, hg2, y2, z2⟩ := ca2 (by simpa using h); exact ⟨g2, (put_get_ne (by decide) _).trans e2, hg2, fun h => y2 (by simpa using h), fun h => (by have hq : L 11 = true := (by simpa using h); exact absurd (cp11_8 hq) (by rw [hLi]; decide))⟩, cy0, cy1⟩
    · simp only [List.getElem?_cons_zero, List.getElem?_cons_succ, Option.some.injEq] at ho
      subst ho
      rw [if_pos (by simp [Region.wanted])]
      have d7 := hd { on := 7, ground := .data } (by simp) (by decide)
      obtain ⟨C_7, k_7, v7, N_7⟩ := ci7 d7
      simp [go_sem, Array.getD_eq_getD_getElem?, v7]
      rw [hIA]
      exact ⟨hF.put (by decide) _, hB, pgK ci0 (by decide) rfl, fun h => by obtain ⟨C_z, k_z, vz, Nz⟩ := ci1 (by simpa using h); exact ⟨C_z, k_z, (put_get_ne (by decide) _).trans vz, fun h2 => by have h3 : L 4 = false := (by simpa using h2); rw [(cp6_4 (cp7_6 d7))] at h3; cases h3⟩, pgK ci2 (by decide) rfl, fun h => by obtain ⟨g_z, vz, Nz⟩ := ci3 (by simpa using h); exact ⟨g_z, (put_get_ne (by decide) _).trans vz, fun h2 => by have h3 : L 4 = false := (by simpa using h2); rw [(cp6_4 (cp7_6 d7))] at h3; cases h3⟩, fun h => by obtain ⟨C_z, k_z, vz, Nz⟩ := ci4 (by simpa using h); exact ⟨C_z, k_z, (put_get_ne (by decide) _).trans vz, Nz⟩, pgK ci5 (by decide) rfl, fun h => by obtain ⟨C_z, k_z, vz, Nz⟩ := ci6 (by simpa using h); exact ⟨C_z, k_z, (put_get_ne (by decide) _).trans vz, Nz⟩, fun h => by obtain ⟨C_z, k_z, vz, Nz⟩ := ci7 (by simpa using h); exact ⟨C_z, k_z, (put_get_ne (by decide) _).trans vz, Nz⟩, fun h => by obtain ⟨C_z, k_z, vz, Nz⟩ := ci8 (by simpa using h); exact ⟨C_z, k_z, (put_get_ne (by decide) _).trans vz, Nz⟩, fun _ => put_get_self (hF.lt (by simp)) _, pgK ci12 (by decide) rfl, prK cp1_0 rfl, prK cp3_2 rfl, prK cp4_1 rfl, prK cp4_3 rfl, prK cp6_4 rfl, prK cp6_5 rfl, prK cp7_6 rfl, prK cp8_7 rfl, fun _ => by simp [d7], prK cp11_8 rfl, prK cp11_10 rfl, fun _ => by simp, fun h => by obtain ⟨g2, e2, hg2, y2, z2⟩ := ca2 (by simpa using h); exact ⟨g2, (put_get_ne (by decide) _).trans e2, hg2, fun h => y2 (by simpa using h), fun h => (by obtain ⟨C_z, k_z, Hz, Nz⟩ := z2 (by simpa using h); exact ⟨C_z, k_z, Hz, Nz⟩)⟩, cy0, cy1⟩
    · simp only [List.getElem?_cons_zero, List.getElem?_cons_succ, Option.some.injEq] at ho
      subst ho
      rw [if_pos (by simp [Region.wanted])]
      simp [go_sem]
      rw [hIA]
      exact ⟨hF.put (by decide) _, hB.alloc hBw _, pgK ci0 (by decide) rfl, fun h => by obtain ⟨C_z, k_z, vz, Nz⟩ := ci1 (by simpa using h); exact ⟨C_z, k_z, (put_get_ne (by decide) _).trans vz, fun h2 => ((Nz (by simpa using h2))).alloc _⟩, pgK ci2 (by decide) rfl, fun h => by obtain ⟨g_z, vz, Nz⟩ := ci3 (by simpa using h); exact ⟨g_z, (put_get_ne (by decide) _).trans vz, fun h2 => ((Nz (by simpa using h2))).alloc _⟩, fun h => by obtain ⟨C_z, k_z, vz, Nz⟩ := ci4 (by simpa using h); exact ⟨C_z, k_z, (put_get_ne (by decide) _).trans vz, (Nz).alloc _⟩, pgK ci5 (by decide) rfl, fun h => by obtain ⟨C_z, k_z, vz, Nz⟩ := ci6 (by simpa using h); exact ⟨C_z, k_z, (put_get_ne (by decide) _).trans vz, (Nz).alloc _⟩, fun h => by obtain ⟨C_z, k_z, vz, Nz⟩ := ci7 (by simpa using h); exact ⟨C_z, k_z, (put_get_ne (by decide) _).trans vz, (Nz).alloc _⟩, fun h => by obtain ⟨C_z, k_z, vz, Nz⟩ := ci8 (by simpa using h); exact ⟨C_z, k_z, (put_get_ne (by decide) _).trans vz, (Nz).alloc _⟩, pgK ci9 (by decide) rfl, pgK ci12 (by decide) rfl, prK cp1_0 rfl, prK cp3_2 rfl, prK cp4_1 rfl, prK cp4_3 rfl, prK cp6_4 rfl, prK cp6_5 rfl, prK cp7_6 rfl, prK cp8_7 rfl, prK cp9_7 rfl, prK cp11_8 rfl, fun _ => by simp, prK cp12_9 rfl, fun _ => ⟨w'.heap.size, put_get_self (hF.lt (by simp)) _, zB, fun _ => HasT.new w' [.slice none 0 0] 76, fun h => by have hq := cp11_10 (by simpa using h); rw [hLi] at hq; cases hq⟩, (cy0).alloc _, (cy1).alloc _⟩
    · simp only [List.getElem?_cons_zero, List.getElem?_cons_succ, Option.some.injEq] at ho
      subst ho
      rw [if_pos (by simp [Region.wanted])]
      have d8 := hd { on := 8, ground := .data } (by simp) (by decide)
      obtain ⟨C_8, k_8, v8, N_8⟩ := ci8 d8
      have d10 := hd { on := 10, ground := .data } (by simp) (by decide)
      obtain ⟨gk, ek, hgk, yk, _⟩ := ca2 d10
      have HT2 := yk hLi
      have HH2 := HT2.has
      have lH2 := HH2.1
      obtain ⟨cH2_0, fH2_0⟩ := HH2.2 0 _ rfl
      simp [go_sem, Array.getD_eq_getD_getElem?, v8, ek, cH2_0, fH2_0]
      rw [hIA]
      exact ⟨hF, below_setCells_at (by omega) [_] 0 _ hB, kpK ci0 rfl, fun h => by obtain ⟨C_z, k_z, vz, Nz⟩ := ci1 (by simpa using h); exact ⟨C_z, k_z, vz, fun h2 => by have h3 : L 4 = false := (by simpa using h2); rw [(cp6_4 (cp7_6 (cp8_7 d8)))] at h3; cases h3⟩, kpK ci2 rfl, fun h => by obtain ⟨g_z, vz, Nz⟩ := ci3 (by simpa using h); exact ⟨g_z, vz, fun h2 => by have h3 : L 4 = false := (by simpa using h2); rw [(cp6_4 (cp7_6 (cp8_7 d8)))] at h3; cases h3⟩, fun h => by obtain ⟨C_z, k_z, vz, Nz⟩ := ci4 (by simpa using h); exact ⟨C_z, k_z, vz, (Nz).otherC ((Nz).typ HT2 (by decide)) [.slice C_8 (R2.length) k_8] 0⟩, kpK ci5 rfl, fun h => by obtain ⟨C_z, k_z, vz, Nz⟩ := ci6 (by simpa using h); exact ⟨C_z, k_z, vz, (Nz).otherC ((Nz).typ HT2 (by decide)) [.slice C_8 (R2.length) k_8] 0⟩, fun h => by obtain ⟨C_z, k_z, vz, Nz⟩ := ci7 (by simpa using h); exact ⟨C_z, k_z, vz, (Nz).otherC ((Nz).typ HT2 (by decide)) [.slice C_8 (R2.length) k_8] 0⟩, fun h => by obtain ⟨C_z, k_z, vz, Nz⟩ := ci8 (by simpa using h); exact ⟨C_z, k_z, vz, (Nz).otherC ((Nz).typ HT2 (by decide)) [.slice C_8 (R2.length) k_8] 0⟩, kpK ci9 rfl, kpK ci12 rfl, prK cp1_0 rfl, prK cp3_2 rfl, prK cp4_1 rfl, prK cp4_3 rfl, prK cp6_4 rfl, prK cp6_5 rfl, prK cp7_6 rfl, prK cp8_7 rfl, prK cp9_7 rfl, fun _ => by simp [d8], fun _ => by simp [d10], prK cp12_9 rfl, fun _ => ⟨gk, ek, hgk, fun h => by simp at h, fun _ => ⟨C_8, k_8, HT2.store (us := [.slice C_8 (R2.length) k_8]) rfl, (N_8).otherC ((N_8).typ HT2 (by decide)) [.slice C_8 (R2.length) k_8] 0⟩⟩, (cy0).other (g' := gk) (by have hl := lt_of_heap hTA_0; omega) [.slice C_8 (R2.length) k_8] 0, (cy1).other (g' := gk) (by have hl := lt_of_heap hTA_1; omega) [.slice C_8 (R2.length) k_8] 0⟩
    · simp only [List.getElem?_cons_zero, List.getElem?_cons_succ, Option.some.injEq] at ho
      subst ho
      rw [if_pos (by simp [Region.wanted])]
      have d9 := hd { on := 9, ground := .data } (by simp) (by decide)
      have v9 := ci9 d9
      simp [go_sem, Array.getD_eq_getD_getElem?, v9]
      rw [hIA]
      exact ⟨hF.put (by decide) _, hB, pgK ci0 (by decide) rfl, fun h => by obtain ⟨C_z, k_z, vz, Nz⟩ := ci1 (by simpa using h); exact ⟨C_z, k_z, (put_get_ne (by decide) _).trans vz, fun h2 => by have h3 : L 4 = false := (by simpa using h2); rw [(cp6_4 (cp7_6 (cp9_7 d9)))] at h3; cases h3⟩, pgK ci2 (by decide) rfl, fun h => by obtain ⟨g_z, vz, Nz⟩ := ci3 (by simpa using h); exact ⟨g_z, (put_get_ne (by decide) _).trans vz, fun h2 => by have h3 : L 4 = false := (by simpa using h2); rw [(cp6_4 (cp7_6 (cp9_7 d9)))] at h3; cases h3⟩, fun h => by obtain ⟨C_z, k_z, vz, Nz⟩ := ci4 (by simpa using h); exact ⟨C_z, k_z, (put_get_ne (by decide) _).trans vz, Nz⟩, pgK ci5 (by decide) rfl, fun h => by obtain ⟨C_z, k_z, vz, Nz⟩ := ci6 (by simpa using h); exact ⟨C_z, k_z, (put_get_ne (by decide) _).trans vz, Nz⟩, fun h => by obtain ⟨C_z, k_z, vz, Nz⟩ := ci7 (by simpa using h); exact ⟨C_z, k_z, (put_get_ne (by decide) _).trans vz, Nz⟩, fun h => by obtain ⟨C_z, k_z, vz, Nz⟩ := ci8 (by simpa using h); exact ⟨C_z, k_z, (put_get_ne (by decide) _).trans vz, Nz⟩, pgK ci9 (by decide) rfl, fun _ => put_get_self (hF.lt (by simp)) _, prK cp1_0 rfl, prK cp3_2 rfl, prK cp4_1 rfl, prK cp4_3 rfl, prK cp6_4 rfl, prK cp6_5 rfl, prK cp7_6 rfl, prK cp8_7 rfl, prK cp9_7 rfl, prK cp11_8 rfl, prK cp11_10 rfl, fun _ => by simp [d9], fun h => by obtain ⟨g2, e2, hg2, y2, z2⟩ := ca2 (by simpa using h); exact ⟨g2, (put_get_ne (by decide) _).trans e2, hg2, fun h => y2 (by simpa using h), fun h => (by obtain ⟨C_z, k_z, Hz, Nz⟩ := z2 (by simpa using h); exact ⟨C_z, k_z, Hz, Nz⟩)⟩, cy0, cy1⟩
  case he =>
    intro L a' wA hL hI'
    rw [hIA] at hI'
    obtain ⟨hF, hbA, ci0, ci1, ci2, ci3, ci4, ci5, ci6, ci7, ci8, ci9, ci12, cp1_0, cp3_2, cp4_1, cp4_3, cp6_4, cp6_5, cp7_6, cp8_7, cp9_7, cp11_8, cp11_10, cp12_9, ca2, cy0, cy1⟩ := hI'
    have eA_12 := ci12 (hL 12 (by decide))
    obtain ⟨gA_2, eA_b2, hgA_2, _, cz2⟩ := ca2 (hL 10 (by decide))
    obtain ⟨CA_b2, kA_b2, HTA_2, NTA_2⟩ := cz2 (hL 11 (by decide))
    have HTA_0 := cy0
    have HTA_1 := cy1
    have hout := hF.outG (by simp)
    simp only [List.foldl_cons, List.foldl_nil, eA_12, eA_b2] at hout
    rw [hout]
    generalize a'.tmps[18]?.getD undef = xA_18
    generalize a'.tmps[19]?.getD undef = xA_19
    generalize a'.tmps[20]?.getD undef = xA_20
    generalize a'.tmps[21]?.getD undef = xA_21
    generalize a'.tmps[22]?.getD undef = xA_22
    generalize a'.tmps[23]?.getD undef = xA_23
    generalize a'.tmps[24]?.getD undef = xA_24
    generalize a'.tmps[17]?.getD undef = xA_17
    generalize a'.tmps[25]?.getD undef = xA_25
    generalize a'.tmps[26]?.getD undef = xA_26
    clear hout hIA hF hL ci0 ci1 ci2 ci3 ci4 ci5 ci6 ci7 ci8 ci9 ci12 cp1_0 cp3_2 cp4_1 cp4_3 cp6_4 cp6_5 cp7_6 cp8_7 cp9_7 cp11_8 cp11_10 cp12_9 ca2 cy0 cy1
    go_simp
    have S7 := S2.below hbA
    have S9 := NTA_2.out halfC_len
    have bF := b2.trans (hbA.mono b2.size)
    have H7 := HTA_1.has
    have H9 := HTA_2.has
    obtain ⟨cH7_0, fH7_0⟩ := H7.2 0 _ rfl
    obtain ⟨cH9_0, fH9_0⟩ := H9.2 0 _ rfl
    have l7 := H7.1
    have l9 := H9.1
    clear NTA_2 HTA_0 hTA_0 hTA_1 TX T7 hs2 S2 c2 b2 hbA
    cases ok1
    · go_wp2
      go_ret
      exact ⟨by rw [hdef.out]; rfl, bF⟩
    cases ok2
    · go_wp2
      go_ret
      exact ⟨by rw [hdef.out]; rfl, bF⟩
    go_wp2_with (go_at_call 50; refine (iSameRegion_c R1 R2 ⟨A1, k1⟩ ⟨CA_b2, kA_b2⟩ _ (by have := hle1.out; omega) (by have := hle2.out; omega) S7 S9).mono ?_; rintro e w9 ⟨rfl, hb9⟩)
    go_ret
    exact ⟨by rw [hdef.out]; rfl, bF.trans (hb9.mono bF.size)⟩
set_option maxRecDepth 100000 in
set_option maxHeartbeats 8000000 in
theorem sNew_c (A : Option Addr) (xs : List Record) (cap : Nat) (err : Int) (x : Record) (w : World) (hl : xs.length ≤ 1048576) (he : In64 err) (hs : Sl 3 recordC w A xs) (hnil : A = none → cap = 0) :
    Calls Try.prog 53 #[.slice A xs.length cap, .int .i64 err, recordV x] w fun e w' => e = .returned (.bool (newRec xs err x)) ∧ Below w.heap.size w w' := by
  obtain ⟨i0, hi0, hz0, hz1, hz2⟩ := info_parts (show (Try.prog.info? 95).map (fun i => (i.zero, i.size, i.bytes)) = some (some (.agg #[.int .i64 0, .int .i64 0, .int .i64 0]), 3, 24) by kernel_rfl)
  obtain ⟨YS, hYS⟩ : ∃ YS, YS = xs ++ [x] := ⟨_, rfl⟩
  have hdef := Lib.hid (show newRec xs err x = (fitOk xs err && (fitOk YS err && !eqB (fitR xs err) (fitR YS err))) by rw [hYS]; rfl)
  have hYl : YS.length ≤ 1048577 := by rw [hYS]; simp; omega
  have c1 := fun W h => sFit_c A xs cap err W (by omega) he h
  have c2 := fun W B d h => sFit_c B YS d err W hYl he h
  have hle1 := Lib.hid (fitR_len xs err)
  have hle2 := Lib.hid (fitR_len YS err)
  generalize fitR xs err = R1 at *
  generalize fitR YS err = R2 at *
  generalize fitOk xs err = ok1 at *
  generalize fitOk YS err = ok2 at *
  have hsum1 : xs.length + [x].length ≤ 1073741824 := by simp; omega
  have hYS' := Lib.hid hYS
  clear hYS hYl
  have TX0 : HasT (w.alloc (.cells #[.int .i64 x.before, .int .i64 x.input, .int .i64 x.after] 95)) w.heap.size 95 [.int .i64 x.before, .int .i64 x.input, .int .i64 x.after] := HasT.new w [.int .i64 x.before, .int .i64 x.input, .int .i64 x.after] 95
  have b0 : Below w.heap.size w (w.alloc (.cells #[.int .i64 x.before, .int .i64 x.input, .int .i64 x.after] 95)) := by
    repeat (first | (with_reducible exact Below.refl _ _) | (with_reducible assumption) | (with_reducible refine below_al ?_ _) | (with_reducible refine Below.drew ?_) | (with_reducible refine below_drewN ?_ _) | (with_reducible refine below_st ?_ ?_ _) | (with_reducible refine below_tr ?_ (by assumption)) | (with_reducible exact Nat.le_refl _) | (focus (simp; done)) | (focus (simp; omega)))
  have hs0 := hs.below b0
  go_enter Try.func53, Try.ntmps53
  go_wp2_with (fail)
  refine (c1 _ hs0).mono ?_
  rintro e w1 ⟨v1, rfl, N1, hb1⟩
  have TX1 := TX0.below hb1
  have b1 := below_tr b0 hb1
  have hs1 := hs0.below hb1
  obtain ⟨A1, k1, rfl, S1⟩ := N1.sl halfC_len
  clear N1 TX0 b0 hs0 c1 hb1
  have TX := TX1.alloc (.cells #[.slice A1 R1.length k1] 76)
  have T7 : HasT (w1.alloc (.cells #[.slice A1 R1.length k1] 76)) w1.heap.size 76 [.slice A1 R1.length k1] := HasT.new w1 [.slice A1 R1.length k1] 76
  have b2 := below_al b1 (.cells #[.slice A1 R1.length k1] 76)
  have hs2 := hs1.alloc (.cells #[.slice A1 R1.length k1] 76)
  have S2 := S1.alloc (.cells #[.slice A1 R1.length k1] 76)
  go_upto_region 2 with fail
  generalize w1.alloc (.cells #[.slice A1 R1.length k1] 76) = wa at *
  clear TX1 S1 b1 hs1
  generalize w1.heap.size = g7 at *
  have lx := lt_of_heap TX
  have l7 := lt_of_heap T7
  have hBWA : wa.heap.size ≤ wa.heap.size := Nat.le_refl _
  have hTA_0 := TX
  have hTA_1 := T7
  obtain ⟨IA, hIA⟩ : ∃ I : Act → (Nat → Bool) → Act → World → Prop, I = (fun a0 L a w' => FrameOf a0 a [18, 19, 20, 21, 22, 23, 24, 25, 17, 26, 27, 9, 10] ∧ Below (wa.heap.size) wa w' ∧ (L 0 = true → ∃ g, a.tmps[18]?.getD undef = .slice (some ⟨g, 0, none⟩) 0 0 ∧ (L 2 = false → New 95 3 recordC w' wa.heap.size (.slice (some ⟨g, 0, none⟩) 0 0) ([] : List Record))) ∧ (L 1 = true → a.tmps[19]?.getD undef = .slice A xs.length cap) ∧ (L 2 = true → ∃ C k, a.tmps[20]?.getD undef = .slice C (xs.length) k ∧ (L 5 = false → New 95 3 recordC w' wa.heap.size (.slice C (xs.length) k) xs)) ∧ (L 3 = true → a.tmps[21]?.getD undef = .agg #[.int .i64 x.before, .int .i64 x.input, .int .i64 x.after]) ∧ (L 4 = true → ∃ g, a.tmps[22]?.getD undef = .slice (some ⟨g, 0, none⟩) 1 1 ∧ (L 5 = false → HasT w' g 95 [.int .i64 x.before, .int .i64 x.input, .int .i64 x.after])) ∧ (L 5 = true → ∃ C k, a.tmps[23]?.getD undef = .slice C (YS.length) k ∧ New 95 3 recordC w' wa.heap.size (.slice C (YS.length) k) YS) ∧ (L 6 = true → a.tmps[24]?.getD undef = .int .i64 err) ∧ (L 7 = true → ∃ C k, a.tmps[25]?.getD undef = .tuple #[.agg #[.slice C (R2.length) k], .bool ok2] ∧ New 177 3 halfC w' wa.heap.size (.slice C (R2.length) k) R2) ∧ (L 8 = true → ∃ C k, a.tmps[17]?.getD undef = .tuple #[.agg #[.slice C (R2.length) k], .bool ok2] ∧ New 177 3 halfC w' wa.heap.size (.slice C (R2.length) k) R2) ∧ (L 9 = true → ∃ C k, a.tmps[26]?.getD undef = .agg #[.slice C (R2.length) k] ∧ New 177 3 halfC w' wa.heap.size (.slice C (R2.length) k) R2) ∧ (L 10 = true → a.tmps[27]?.getD undef = .bool ok2) ∧ (L 13 = true → a.tmps[10]?.getD undef = .bool ok2) ∧ (L 2 = true → L 0 = true) ∧ (L 2 = true → L 1 = true) ∧ (L 4 = true → L 3 = true) ∧ (L 5 = true → L 2 = true) ∧ (L 5 = true → L 4 = true) ∧ (L 7 = true → L 5 = true) ∧ (L 7 = true → L 6 = true) ∧ (L 8 = true → L 7 = true) ∧ (L 9 = true → L 8 = true) ∧ (L 10 = true → L 8 = true) ∧ (L 12 = true → L 9 = true) ∧ (L 12 = true → L 11 = true) ∧ (L 13 = true → L 10 = true) ∧ (L 11 = true → ∃ g : Nat, a.tmps[9]?.getD undef = .pointer (some ⟨g, 0, none⟩) ∧ wa.heap.size ≤ g ∧ (L 12 = false → HasT w' g 76 [.slice none 0 0]) ∧ (L 12 = true → (∃ C k, HasT w' (g) 76 [.slice C (R2.length) k] ∧ New 177 3 halfC w' wa.heap.size (.slice C (R2.length) k) R2))) ∧ HasT w' (w.heap.size) 95 [.int .i64 x.before, .int .i64 x.input, .int .i64 x.after] ∧ HasT w' (g7) 76 [.slice A1 R1.length k1]) := ⟨_, rfl⟩
  refine wp_region_I0 (by kernel_rfl) (by kernel_rfl) IA ?h0 ?hs ?he
  case h0 =>
    rw [hIA]
    exact ⟨FrameOf.refl _ _, (Below.refl _ _).drew, fun h => absurd h (by simp), fun h => absurd h (by simp), fun h => absurd h (by simp), fun h => absurd h (by simp), fun h => absurd h (by simp), fun h => absurd h (by simp), fun h => absurd h (by simp), fun h => absurd h (by simp), fun h => absurd h (by simp), fun h => absurd h (by simp), fun h => absurd h (by simp), fun h => absurd h (by simp), fun h => absurd h (by simp), fun h => absurd h (by simp), fun h => absurd h (by simp), fun h => absurd h (by simp), fun h => absurd h (by simp), fun h => absurd h (by simp), fun h => absurd h (by simp), fun h => absurd h (by simp), fun h => absurd h (by simp), fun h => absurd h (by simp), fun h => absurd h (by simp), fun h => absurd h (by simp), fun h => absurd h (by simp), fun h => absurd h (by simp), hTA_0, hTA_1⟩
  case hs =>
    intro L a w' i o ho hLi hd hI'
    rw [hIA] at hI'
    obtain ⟨hF, hB, ci0, ci1, ci2, ci3, ci4, ci5, ci6, ci7, ci8, ci9, ci10, ci13, cp2_0, cp2_1, cp4_3, cp5_2, cp5_4, cp7_5, cp7_6, cp8_7, cp9_8, cp10_8, cp12_9, cp12_11, cp13_10, ca2, cy0, cy1⟩ := hI'
    have hi : i < 14 := by
      rcases Nat.lt_or_ge i 14 with h | h
      · exact h
      · rw [List.getElem?_eq_none (by simpa using h)] at ho; cases ho
    have zB := hB.size
    have hBw : wa.heap.size ≤ w'.heap.size := Nat.le_trans hBWA zB
    obtain rfl | rfl | rfl | rfl | rfl | rfl | rfl | rfl | rfl | rfl | rfl | rfl | rfl | rfl : i = 0 ∨ i = 1 ∨ i = 2 ∨ i = 3 ∨ i = 4 ∨ i = 5 ∨ i = 6 ∨ i = 7 ∨ i = 8 ∨ i = 9 ∨ i = 10 ∨ i = 11 ∨ i = 12 ∨ i = 13 := by omega
    · simp only [List.getElem?_cons_zero, Option.some.injEq] at ho
      subst ho
      rw [if_pos (by simp [Region.wanted])]
      simp [go_sem]
      obtain ⟨g_0, hg0⟩ : ∃ g, g = w'.heap.size := ⟨_, rfl⟩
      have N_0 : New 95 3 recordC (w'.alloc (.cells #[] 95)) wa.heap.size (.slice (some ⟨g_0, 0, none⟩) 0 0) ([] : List Record) := (New.mk0at w' hg0).mono hBw
      rw [← hg0]
      rw [hIA]
      exact ⟨hF.put (by decide) _, hB.alloc hBw _, fun _ => ⟨g_0, put_get_self (hF.lt (by simp)) _, fun _ => N_0⟩, pgK ci1 (by decide) rfl, fun h => by have hq : L 2 = true := (by simpa using h); exact absurd (cp2_0 hq) (by rw [hLi]; decide), pgK ci3 (by decide) rfl, fun h => by obtain ⟨g_z, vz, Nz⟩ := ci4 (by simpa using h); exact ⟨g_z, (put_get_ne (by decide) _).trans vz, fun h2 => ((Nz (by simpa using h2))).alloc _⟩, fun h => by have hq : L 5 = true := (by simpa using h); exact absurd (cp2_0 (cp5_2 hq)) (by rw [hLi]; decide), pgK ci6 (by decide) rfl, fun h => by have hq : L 7 = true := (by simpa using h); exact absurd (cp2_0 (cp5_2 (cp7_5 hq))) (by rw [hLi]; decide), fun h => by have hq : L 8 = true := (by simpa using h); exact absurd (cp2_0 (cp5_2 (cp7_5 (cp8_7 hq)))) (by rw [hLi]; decide), fun h => by have hq : L 9 = true := (by simpa using h); exact absurd (cp2_0 (cp5_2 (cp7_5 (cp8_7 (cp9_8 hq))))) (by rw [hLi]; decide), pgK ci10 (by decide) rfl, pgK ci13 (by decide) rfl, fun _ => by simp, prK cp2_1 rfl, prK cp4_3 rfl, prK cp5_2 rfl, prK cp5_4 rfl, prK cp7_5 rfl, prK cp7_6 rfl, prK cp8_7 rfl, prK cp9_8 rfl, prK cp10_8 rfl, prK cp12_9 rfl, prK cp12_11 rfl, prK cp13_10 rfl, fun h => by obtain ⟨g2, e2, hg2, y2, z2⟩ := ca2 (by simpa using h); exact ⟨g2, (put_get_ne (by decide) _).trans e2, hg2, fun h => (y2 (by simpa using h)).alloc _, fun h => (by have hq : L 12 = true := (by simpa using h); exact absurd (cp2_0 (cp5_2 (cp7_5 (cp8_7 (cp9_8 (cp12_9 hq)))))) (by rw [hLi]; decide))⟩, (cy0).alloc _, (cy1).alloc _⟩
    · simp only [List.getElem?_cons_zero, List.getElem?_cons_succ, Option.some.injEq] at ho
      subst ho
      rw [if_pos (by simp [Region.wanted])]
      have e0 : a.tmps[0]?.getD undef = .slice A xs.length cap := hF.get (by decide)
      simp [go_sem, Array.getD_eq_getD_getElem?, e0]
      rw [hIA]
      exact ⟨hF.put (by decide) _, hB, fun h => by obtain ⟨g_z, vz, Nz⟩ := ci0 (by simpa using h); exact ⟨g_z, (put_get_ne (by decide) _).trans vz, fun h2 => (Nz (by simpa using h2))⟩, fun _ => put_get_self (hF.lt (by simp)) _, fun h => by have hq : L 2 = true := (by simpa using h); exact absurd (cp2_1 hq) (by rw [hLi]; decide), pgK ci3 (by decide) rfl, fun h => by obtain ⟨g_z, vz, Nz⟩ := ci4 (by simpa using h); exact ⟨g_z, (put_get_ne (by decide) _).trans vz, fun h2 => (Nz (by simpa using h2))⟩, fun h => by have hq : L 5 = true := (by simpa using h); exact absurd (cp2_1 (cp5_2 hq)) (by rw [hLi]; decide), pgK ci6 (by decide) rfl, fun h => by have hq : L 7 = true := (by simpa using h); exact absurd (cp2_1 (cp5_2 (cp7_5 hq))) (by rw [hLi]; decide), fun h => by have hq : L 8 = true := (by simpa using h); exact absurd (cp2_1 (cp5_2 (cp7_5 (cp8_7 hq)))) (by rw [hLi]; decide), fun h => by have hq : L 9 = true := (by simpa using h); exact absurd (cp2_1 (cp5_2 (cp7_5 (cp8_7 (cp9_8 hq))))) (by rw [hLi]; decide), pgK ci10 (by decide) rfl, pgK ci13 (by decide) rfl, prK cp2_0 rfl, fun _ => by simp, prK cp4_3 rfl, prK cp5_2 rfl, prK cp5_4 rfl, prK cp7_5 rfl, prK cp7_6 rfl, prK cp8_7 rfl, prK cp9_8 rfl, prK cp10_8 rfl, prK cp12_9 rfl, prK cp12_11 rfl, prK cp13_10 rfl, fun h => by obtain ⟨g2, e2, hg2, y2, z2⟩ := ca2 (by simpa using h); exact ⟨g2, (put_get_ne (by decide) _).trans e2, hg2, fun h => y2 (by simpa using h), fun h => (by have hq : L 12 = true := (by simpa using h); exact absurd (cp2_1 (cp5_2 (cp7_5 (cp8_7 (cp9_8 (cp12_9 hq)))))) (by rw [hLi]; decide))⟩, cy0, cy1⟩
    · simp only [List.getElem?_cons_zero, List.getElem?_cons_succ, Option.some.injEq] at ho
      subst ho
      rw [if_pos (by simp [Region.wanted])]
      have d0 := hd { on := 0, ground := .data } (by simp) (by decide)
      obtain ⟨g_0, v0, N_0⟩ := ci0 d0
      have N_0 := N_0 hLi
      have d1 := hd { on := 1, ground := .data } (by simp) (by decide)
      have v1 := ci1 d1
      refine step_app0 (ys := xs) recordC_len _ _ 71 rfl wa.heap.size i0 _ 24 Try.underlying71 hi0 hz0 hz1 hz2 rfl (by decide) (by simp [go_sem, Array.getD_eq_getD_getElem?, v0]) N_0 A cap (by simp [go_sem, Array.getD_eq_getD_getElem?, v1]) (hs2.below hB) hnil hBw (by omega) (by decide) ?_
      intro v wx N hbx
      obtain ⟨C_2, k_2, rfl, o⟩ := N
      have N_2 : New 95 3 recordC wx wa.heap.size (.slice C_2 (xs.length) k_2) xs := ⟨C_2, k_2, rfl, o⟩
      clear o
      rw [hIA]
      exact ⟨hF.put (by decide) _, hB.trans (hbx.mono hBw), fun h => by obtain ⟨g_z, vz, Nz⟩ := ci0 (by simpa using h); exact ⟨g_z, (put_get_ne (by decide) _).trans vz, fun h2 => by simp at h2⟩, pgK ci1 (by decide) rfl, fun _ => ⟨C_2, k_2, put_get_self (hF.lt (by simp)) _, fun _ => N_2⟩, pgK ci3 (by decide) rfl, fun h => by obtain ⟨g_z, vz, Nz⟩ := ci4 (by simpa using h); exact ⟨g_z, (put_get_ne (by decide) _).trans vz, fun h2 => ((Nz (by simpa using h2))).below hbx⟩, fun h => by have hq : L 5 = true := (by simpa using h); exact absurd (cp5_2 hq) (by rw [hLi]; decide), pgK ci6 (by decide) rfl, fun h => by have hq : L 7 = true := (by simpa using h); exact absurd (cp5_2 (cp7_5 hq)) (by rw [hLi]; decide), fun h => by have hq : L 8 = true := (by simpa using h); exact absurd (cp5_2 (cp7_5 (cp8_7 hq))) (by rw [hLi]; decide), fun h => by have hq : L 9 = true := (by simpa using h); exact absurd (cp5_2 (cp7_5 (cp8_7 (cp9_8 hq)))) (by rw [hLi]; decide), pgK ci10 (by decide) rfl, pgK ci13 (by decide) rfl, fun _ => by simp [d0], fun _ => by simp [d1], prK cp4_3 rfl, fun _ => by simp, prK cp5_4 rfl, prK cp7_5 rfl, prK cp7_6 rfl, prK cp8_7 rfl, prK cp9_8 rfl, prK cp10_8 rfl, prK cp12_9 rfl, prK cp12_11 rfl, prK cp13_10 rfl, fun h => by obtain ⟨g2, e2, hg2, y2, z2⟩ := ca2 (by simpa using h); exact ⟨g2, (put_get_ne (by decide) _).trans e2, hg2, fun h => (y2 (by simpa using h)).below hbx, fun h => (by have hq : L 12 = true := (by simpa using h); exact absurd (cp5_2 (cp7_5 (cp8_7 (cp9_8 (cp12_9 hq))))) (by rw [hLi]; decide))⟩, (cy0).below hbx, (cy1).below hbx⟩
    · simp only [List.getElem?_cons_zero, List.getElem?_cons_succ, Option.some.injEq] at ho
      subst ho
      rw [if_pos (by simp [Region.wanted])]
      have e0 : a.tmps[5]?.getD undef = .pointer (some ⟨w.heap.size, 0, none⟩) := hF.get (by decide)
      have HT0 := cy0
      have HH0 := HT0.has
      have lH0 := HH0.1
      obtain ⟨cH0_0, fH0_0⟩ := HH0.2 0 _ rfl
      obtain ⟨cH0_1, fH0_1⟩ := HH0.2 1 _ rfl
      obtain ⟨cH0_2, fH0_2⟩ := HH0.2 2 _ rfl
      simp [go_sem, Array.getD_eq_getD_getElem?, e0, cH0_0, cH0_1, cH0_2]
      rw [hIA]
      exact ⟨hF.put (by decide) _, hB, fun h => by obtain ⟨g_z, vz, Nz⟩ := ci0 (by simpa using h); exact ⟨g_z, (put_get_ne (by decide) _).trans vz, fun h2 => (Nz (by simpa using h2))⟩, pgK ci1 (by decide) rfl, fun h => by obtain ⟨C_z, k_z, vz, Nz⟩ := ci2 (by simpa using h); exact ⟨C_z, k_z, (put_get_ne (by decide) _).trans vz, fun h2 => (Nz (by simpa using h2))⟩, fun _ => put_get_self (hF.lt (by simp)) _, fun h => by have hq : L 4 = true := (by simpa using h); exact absurd (cp4_3 hq) (by rw [hLi]; decide), fun h => by have hq : L 5 = true := (by simpa using h); exact absurd (cp4_3 (cp5_4 hq)) (by rw [hLi]; decide), pgK ci6 (by decide) rfl, fun h => by have hq : L 7 = true := (by simpa using h); exact absurd (cp4_3 (cp5_4 (cp7_5 hq))) (by rw [hLi]; decide), fun h => by have hq : L 8 = true := (by simpa using h); exact absurd (cp4_3 (cp5_4 (cp7_5 (cp8_7 hq)))) (by rw [hLi]; decide), fun h => by have hq : L 9 = true := (by simpa using h); exact absurd (cp4_3 (cp5_4 (cp7_5 (cp8_7 (cp9_8 hq))))) (by rw [hLi]; decide), pgK ci10 (by decide) rfl, pgK ci13 (by decide) rfl, prK cp2_0 rfl, prK cp2_1 rfl, fun _ => by simp, prK cp5_2 rfl, prK cp5_4 rfl, prK cp7_5 rfl, prK cp7_6 rfl, prK cp8_7 rfl, prK cp9_8 rfl, prK cp10_8 rfl, prK cp12_9 rfl, prK cp12_11 rfl, prK cp13_10 rfl, fun h => by obtain ⟨g2, e2, hg2, y2, z2⟩ := ca2 (by simpa using h); exact ⟨g2, (put_get_ne (by decide) _).trans e2, hg2, fun h => y2 (by simpa using h), fun h => (by have hq : L 12 = true := (by simpa using h); exact absurd (cp4_3 (cp5_4 (cp7_5 (cp8_7 (cp9_8 (cp12_9 hq)))))) (by rw [hLi]; decide))⟩, cy0, cy1⟩
    · simp only [List.getElem?_cons_zero, List.getElem?_cons_succ, Option.some.injEq] at ho
      subst ho
      rw [if_pos (by simp [Region.wanted])]
      have d3 := hd { on := 3, ground := .data } (by simp) (by decide)
      have v3 := ci3 d3
      simp [go_sem, Array.getD_eq_getD_getElem?, v3]
      obtain ⟨g_4, hg4⟩ : ∃ g, g = w'.heap.size := ⟨_, rfl⟩
      have N_4 : HasT (w'.alloc (.cells #[.int .i64 x.before, .int .i64 x.input, .int .i64 x.after] 95)) g_4 95 [.int .i64 x.before, .int .i64 x.input, .int .i64 x.after] := hg4 ▸ HasT.new w' [.int .i64 x.before, .int .i64 x.input, .int .i64 x.after] 95
      rw [← hg4]
      rw [hIA]
      exact ⟨hF.put (by decide) _, hB.alloc hBw _, fun h => by obtain ⟨g_z, vz, Nz⟩ := ci0 (by simpa using h); exact ⟨g_z, (put_get_ne (by decide) _).trans vz, fun h2 => ((Nz (by simpa using h2))).alloc _⟩, pgK ci1 (by decide) rfl, fun h => by obtain ⟨C_z, k_z, vz, Nz⟩ := ci2 (by simpa using h); exact ⟨C_z, k_z, (put_get_ne (by decide) _).trans vz, fun h2 => ((Nz (by simpa using h2))).alloc _⟩, pgK ci3 (by decide) rfl, fun _ => ⟨g_4, put_get_self (hF.lt (by simp)) _, fun _ => N_4⟩, fun h => by have hq : L 5 = true := (by simpa using h); exact absurd (cp5_4 hq) (by rw [hLi]; decide), pgK ci6 (by decide) rfl, fun h => by have hq : L 7 = true := (by simpa using h); exact absurd (cp5_4 (cp7_5 hq)) (by rw [hLi]; decide), fun h => by have hq : L 8 = true := (by simpa using h); exact absurd (cp5_4 (cp7_5 (cp8_7 hq))) (by rw [hLi]; decide), fun h => by have hq : L 9 = true := (by simpa using h); exact absurd (cp5_4 (cp7_5 (cp8_7 (cp9_8 hq)))) (by rw [hLi]; decide), pgK ci10 (by decide) rfl, pgK ci13 (by decide) rfl, prK cp2_0 rfl, prK cp2_1 rfl, fun _ => by simp [d3], prK cp5_2 rfl, fun _ => by simp, prK cp7_5 rfl, prK cp7_6 rfl, prK cp8_7 rfl, prK cp9_8 rfl, prK cp10_8 rfl, prK cp12_9 rfl, prK cp12_11 rfl, prK cp13_10 rfl, fun h => by obtain ⟨g2, e2, hg2, y2, z2⟩ := ca2 (by simpa using h); exact ⟨g2, (put_get_ne (by decide) _).trans e2, hg2, fun h => (y2 (by simpa using h)).alloc _, fun h => (by have hq : L 12 = true := (by simpa using h); exact absurd (cp5_4 (cp7_5 (cp8_7 (cp9_8 (cp12_9 hq))))) (by rw [hLi]; decide))⟩, (cy0).alloc _, (cy1).alloc _⟩
    · simp only [List.getElem?_cons_zero, List.getElem?_cons_succ, Option.some.injEq] at ho
      subst ho
      rw [if_pos (by simp [Region.wanted])]
      have d2 := hd { on := 2, ground := .data } (by simp) (by decide)
      obtain ⟨C_2, k_2, v2, N_2⟩ := ci2 d2
      have N_2 := N_2 hLi
      have d4 := hd { on := 4, ground := .data } (by simp) (by decide)
      obtain ⟨g_4, v4, N_4⟩ := ci4 d4
      have N_4 := N_4 hLi
      refine step_appO (v := .slice C_2 (xs.length) k_2) (xs := xs) (ys := [x]) recordC_len _ _ 71 rfl wa.heap.size i0 _ 24 Try.underlying71 hi0 hz0 hz1 hz2 rfl (by decide) (by simp [go_sem, Array.getD_eq_getD_getElem?, v2]) N_2 (some ⟨g_4, 0, none⟩) 1 (by simp [go_sem, Array.getD_eq_getD_getElem?, v4]) (one_sl N_4.has) (fun e => by cases e) recordC_one hBw hsum1 (by decide) ?_
      intro v wx N hbx hg
      rw [← hYS'.out] at N
      obtain ⟨C_5, k_5, rfl, o⟩ := N
      have N_5 : New 95 3 recordC wx wa.heap.size (.slice C_5 (YS.length) k_5) YS := ⟨C_5, k_5, rfl, o⟩
      clear o
      rw [hIA]
      exact ⟨hF.put (by decide) _, hB.trans hbx, fun h => by obtain ⟨g_z, vz, Nz⟩ := ci0 (by simpa using h); exact ⟨g_z, (put_get_ne (by decide) _).trans vz, fun h2 => by have h3 : L 2 = false := (by simpa using h2); rw [d2] at h3; cases h3⟩, pgK ci1 (by decide) rfl, fun h => by obtain ⟨C_z, k_z, vz, Nz⟩ := ci2 (by simpa using h); exact ⟨C_z, k_z, (put_get_ne (by decide) _).trans vz, fun h2 => by simp at h2⟩, pgK ci3 (by decide) rfl, fun h => by obtain ⟨g_z, vz, Nz⟩ := ci4 (by simpa using h); exact ⟨g_z, (put_get_ne (by decide) _).trans vz, fun h2 => by simp at h2⟩, fun _ => ⟨C_5, k_5, put_get_self (hF.lt (by simp)) _, N_5⟩, pgK ci6 (by decide) rfl, fun h => by have hq : L 7 = true := (by simpa using h); exact absurd (cp7_5 hq) (by rw [hLi]; decide), fun h => by have hq : L 8 = true := (by simpa using h); exact absurd (cp7_5 (cp8_7 hq)) (by rw [hLi]; decide), fun h => by have hq : L 9 = true := (by simpa using h); exact absurd (cp7_5 (cp8_7 (cp9_8 hq))) (by rw [hLi]; decide), pgK ci10 (by decide) rfl, pgK ci13 (by decide) rfl, prK cp2_0 rfl, prK cp2_1 rfl, prK cp4_3 rfl, fun _ => by simp [d2], fun _ => by simp [d4], fun _ => by simp, prK cp7_6 rfl, prK cp8_7 rfl, prK cp9_8 rfl, prK cp10_8 rfl, prK cp12_9 rfl, prK cp12_11 rfl, prK cp13_10 rfl, fun h => by obtain ⟨g2, e2, hg2, y2, z2⟩ := ca2 (by simpa using h); exact ⟨g2, (put_get_ne (by decide) _).trans e2, hg2, fun h => (y2 (by simpa using h)).grownT hg N_2 (by decide), fun h => (by have hq : L 12 = true := (by simpa using h); exact absurd (cp7_5 (cp8_7 (cp9_8 (cp12_9 hq)))) (by rw [hLi]; decide))⟩, (cy0).belowB hbx (by omega), (cy1).belowB hbx (by omega)⟩
    · simp only [List.getElem?_cons_zero, List.getElem?_cons_succ, Option.some.injEq] at ho
      subst ho
      rw [if_pos (by simp [Region.wanted])]
      have e0 : a.tmps[1]?.getD undef = .int .i64 err := hF.get (by decide)
      simp [go_sem, Array.getD_eq_getD_getElem?, e0]
      rw [hIA]
      exact ⟨hF.put (by decide) _, hB, fun h => by obtain ⟨g_z, vz, Nz⟩ := ci0 (by simpa using h); exact ⟨g_z, (put_get_ne (by decide) _).trans vz, fun h2 => (Nz (by simpa using h2))⟩, pgK ci1 (by decide) rfl, fun h => by obtain ⟨C_z, k_z, vz, Nz⟩ := ci2 (by simpa using h); exact ⟨C_z, k_z, (put_get_ne (by decide) _).trans vz, fun h2 => (Nz (by simpa using h2))⟩, pgK ci3 (by decide) rfl, fun h => by obtain ⟨g_z, vz, Nz⟩ := ci4 (by simpa using h); exact ⟨g_z, (put_get_ne (by decide) _).trans vz, fun h2 => (Nz (by simpa using h2))⟩, fun h => by obtain ⟨C_z, k_z, vz, Nz⟩ := ci5 (by simpa using h); exact ⟨C_z, k_z, (put_get_ne (by decide) _).trans vz, Nz⟩, fun _ => put_get_self (hF.lt (by simp)) _, fun h => by have hq : L 7 = true := (by simpa using h); exact absurd (cp7_6 hq) (by rw [hLi]; decide), fun h => by have hq : L 8 = true := (by simpa using h); exact absurd (cp7_6 (cp8_7 hq)) (by rw [hLi]; decide), fun h => by have hq : L 9 = true := (by simpa using h); exact absurd (cp7_6 (cp8_7 (cp9_8 hq))) (by rw [hLi]; decide), pgK ci10 (by decide) rfl, pgK ci13 (by decide) rfl, prK cp2_0 rfl, prK cp2_1 rfl, prK cp4_3 rfl, prK cp5_2 rfl, prK cp5_4 rfl, prK cp7_5 rfl, fun _ => by simp, prK cp8_7 rfl, prK cp9_8 rfl, prK cp10_8 rfl, prK cp12_9 rfl, prK cp12_11 rfl, prK cp13_10 rfl, fun h => by obtain ⟨g2, e2, hg2, y2, z2⟩ := ca2 (by simpa using h); exact ⟨g2, (put_get_ne (by decide) _).trans e2, hg2, fun h => y2 (by simpa using h), fun h => (by have hq : L 12 = true := (by simpa using h); exact absurd (cp7_6 (cp8_7 (cp9_8 (cp12_9 hq)))) (by rw [hLi]; decide))⟩, cy0, cy1⟩
    · simp only [List.getElem?_cons_zero, List.getElem?_cons_succ, Option.some.injEq] at ho
      subst ho
      rw [if_pos (by simp [Region.wanted])]
      have d5 := hd { on := 5, ground := .data } (by simp) (by decide)
      obtain ⟨C_5, k_5, v5, N_5⟩ := ci5 d5
      have d6 := hd { on := 6, ground := .data } (by simp) (by decide)
      have v6 := ci6 d6
      simp [go_sem, Array.getD_eq_getD_getElem?, v5, v6]
      refine (c2 _ _ _ (N_5.out recordC_len)).mono ?_
      rintro e wx ⟨v, rfl, N, hbx⟩
      obtain ⟨C_7, k_7, rfl, o⟩ := N
      have N_7 : New 177 3 halfC wx wa.heap.size (.slice C_7 (R2.length) k_7) R2 := New.mono ⟨C_7, k_7, rfl, o⟩ hBw
      clear o
      rw [hIA]
      exact ⟨hF.put (by decide) _, hB.trans (hbx.mono hBw), fun h => by obtain ⟨g_z, vz, Nz⟩ := ci0 (by simpa using h); exact ⟨g_z, (put_get_ne (by decide) _).trans vz, fun h2 => by have h3 : L 2 = false := (by simpa using h2); rw [(cp5_2 d5)] at h3; cases h3⟩, pgK ci1 (by decide) rfl, fun h => by obtain ⟨C_z, k_z, vz, Nz⟩ := ci2 (by simpa using h); exact ⟨C_z, k_z, (put_get_ne (by decide) _).trans vz, fun h2 => by have h3 : L 5 = false := (by simpa using h2); rw [d5] at h3; cases h3⟩, pgK ci3 (by decide) rfl, fun h => by obtain ⟨g_z, vz, Nz⟩ := ci4 (by simpa using h); exact ⟨g_z, (put_get_ne (by decide) _).trans vz, fun h2 => by have h3 : L 5 = false := (by simpa using h2); rw [d5] at h3; cases h3⟩, fun h => by obtain ⟨C_z, k_z, vz, Nz⟩ := ci5 (by simpa using h); exact ⟨C_z, k_z, (put_get_ne (by decide) _).trans vz, (Nz).below hbx (Nat.le_refl _)⟩, pgK ci6 (by decide) rfl, fun _ => ⟨C_7, k_7, put_get_self (hF.lt (by simp)) _, N_7⟩, fun h => by have hq : L 8 = true := (by simpa using h); exact absurd (cp8_7 hq) (by rw [hLi]; decide), fun h => by have hq : L 9 = true := (by simpa using h); exact absurd (cp8_7 (cp9_8 hq)) (by rw [hLi]; decide), pgK ci10 (by decide) rfl, pgK ci13 (by decide) rfl, prK cp2_0 rfl, prK cp2_1 rfl, prK cp4_3 rfl, prK cp5_2 rfl, prK cp5_4 rfl, fun _ => by simp [d5], fun _ => by simp [d6], fun _ => by simp, prK cp9_8 rfl, prK cp10_8 rfl, prK cp12_9 rfl, prK cp12_11 rfl, prK cp13_10 rfl, fun h => by obtain ⟨g2, e2, hg2, y2, z2⟩ := ca2 (by simpa using h); exact ⟨g2, (put_get_ne (by decide) _).trans e2, hg2, fun h => (y2 (by simpa using h)).below hbx, fun h => (by have hq : L 12 = true := (by simpa using h); exact absurd (cp8_7 (cp9_8 (cp12_9 hq))) (by rw [hLi]; decide))⟩, (cy0).below hbx, (cy1).below hbx⟩
    · simp only [List.getElem?_cons_zero, List.getElem?_cons_succ, Option.some.injEq] at ho
      subst ho
      rw [if_pos (by simp [Region.wanted])]
      have d7 := hd { on := 7, ground := .data } (by simp) (by decide)
      obtain ⟨C_7, k_7, v7, N_7⟩ := ci7 d7
      simp [go_sem, Array.getD_eq_getD_getElem?, v7]
      rw [hIA]
      exact ⟨hF.put (by decide) _, hB, fun h => by obtain ⟨g_z, vz, Nz⟩ := ci0 (by simpa using h); exact ⟨g_z, (put_get_ne (by decide) _).trans vz, fun h2 => by have h3 : L 2 = false := (by simpa using h2); rw [(cp5_2 (cp7_5 d7))] at h3; cases h3⟩, pgK ci1 (by decide) rfl, fun h => by obtain ⟨C_z, k_z, vz, Nz⟩ := ci2 (by simpa using h); exact ⟨C_z, k_z, (put_get_ne (by decide) _).trans vz, fun h2 => by have h3 : L 5 = false := (by simpa using h2); rw [(cp7_5 d7)] at h3; cases h3⟩, pgK ci3 (by decide) rfl, fun h => by obtain ⟨g_z, vz, Nz⟩ := ci4 (by simpa using h); exact ⟨g_z, (put_get_ne (by decide) _).trans vz, fun h2 => by have h3 : L 5 = false := (by simpa using h2); rw [(cp7_5 d7)] at h3; cases h3⟩, fun h => by obtain ⟨C_z, k_z, vz, Nz⟩ := ci5 (by simpa using h); exact ⟨C_z, k_z, (put_get_ne (by decide) _).trans vz, Nz⟩, pgK ci6 (by decide) rfl, fun h => by obtain ⟨C_z, k_z, vz, Nz⟩ := ci7 (by simpa using h); exact ⟨C_z, k_z, (put_get_ne (by decide) _).trans vz, Nz⟩, fun _ => ⟨C_7, k_7, put_get_self (hF.lt (by simp)) _, N_7⟩, fun h => by have hq : L 9 = true := (by simpa using h); exact absurd (cp9_8 hq) (by rw [hLi]; decide), pgK ci10 (by decide) rfl, pgK ci13 (by decide) rfl, prK cp2_0 rfl, prK cp2_1 rfl, prK cp4_3 rfl, prK cp5_2 rfl, prK cp5_4 rfl, prK cp7_5 rfl, prK cp7_6 rfl, fun _ => by simp [d7], fun _ => by simp, fun _ => by simp, prK cp12_9 rfl, prK cp12_11 rfl, prK cp13_10 rfl, fun h => by obtain ⟨g2, e2, hg2, y2, z2⟩ := ca2 (by simpa using h); exact ⟨g2, (put_get_ne (by decide) _).trans e2, hg2, fun h => y2 (by simpa using h), fun h => (by have hq : L 12 = true := (by simpa using h); exact absurd (cp9_8 (cp12_9 hq)) (by rw [hLi]; decide))⟩, cy0, cy1⟩
    · simp only [List.getElem?_cons_zero, List.getElem?_cons_succ, Option.some.injEq] at ho
      subst ho
      rw [if_pos (by simp [Region.wanted])]
      have d8 := hd { on := 8, ground := .data } (by simp) (by decide)
      obtain ⟨C_8, k_8, v8, N_8⟩ := ci8 d8
      simp [go_sem, Array.getD_eq_getD_getElem?, v8]
      rw [hIA]
      exact ⟨hF.put (by decide) _, hB, fun h => by obtain ⟨g_z, vz, Nz⟩ := ci0 (by simpa using h); exact ⟨g_z, (put_get_ne (by decide) _).trans vz, fun h2 => by have h3 : L 2 = false := (by simpa using h2); rw [(cp5_2 (cp7_5 (cp8_7 d8)))] at h3; cases h3⟩, pgK ci1 (by decide) rfl, fun h => by obtain ⟨C_z, k_z, vz, Nz⟩ := ci2 (by simpa using h); exact ⟨C_z, k_z, (put_get_ne (by decide) _).trans vz, fun h2 => by have h3 : L 5 = false := (by simpa using h2); rw [(cp7_5 (cp8_7 d8))] at h3; cases h3⟩, pgK ci3 (by decide) rfl, fun h => by obtain ⟨g_z, vz, Nz⟩ := ci4 (by simpa using h); exact ⟨g_z, (put_get_ne (by decide) _).trans vz, fun h2 => by have h3 : L 5 = false := (by simpa using h2); rw [(cp7_5 (cp8_7 d8))] at h3; cases h3⟩, fun h => by obtain ⟨C_z, k_z, vz, Nz⟩ := ci5 (by simpa using h); exact ⟨C_z, k_z, (put_get_ne (by decide) _).trans vz, Nz⟩, pgK ci6 (by decide) rfl, fun h => by obtain ⟨C_z, k_z, vz, Nz⟩ := ci7 (by simpa using h); exact ⟨C_z, k_z, (put_get_ne (by decide) _).trans vz, Nz⟩, fun h => by obtain ⟨C_z, k_z, vz, Nz⟩ := ci8 (by simpa using h); exact ⟨C_z, k_z, (put_get_ne (by decide) _).trans vz, Nz⟩, fun _ => ⟨C_8, k_8, put_get_self (hF.lt (by simp)) _, N_8⟩, pgK ci10 (by decide) rfl, pgK ci13 (by decide) rfl, prK cp2_0 rfl, prK cp2_1 rfl, prK cp4_3 rfl, prK cp5_2 rfl, prK cp5_4 rfl, prK cp7_5 rfl, prK cp7_6 rfl, prK cp8_7 rfl, fun _ => by simp [d8], prK cp10_8 rfl, fun _ => by simp, prK cp12_11 rfl, prK cp13_10 rfl, fun h => by obtain ⟨g2, e2, hg2, y2, z2⟩ := ca2 (by simpa using h); exact ⟨g2, (put_get_ne (by decide) _).trans e2, hg2, fun h => y2 (by simpa using h), fun h => (by have hq : L 12 = true := (by simpa using h); exact absurd (cp12_9 hq) (by rw [hLi]; decide))⟩, cy0, cy1⟩
    · simp only [List.getElem?_cons_zero, List.getElem?_cons_succ, Option.some.injEq] at ho
      subst ho
      rw [if_pos (by simp [Region.wanted])]
      have d8 := hd { on := 8, ground := .data } (by simp) (by decide)
      obtain ⟨C_8, k_8, v8, N_8⟩ := ci8 d8
      simp [go_sem, Array.getD_eq_getD_getElem?, v8]
      rw [hIA]
      exact ⟨hF.put (by decide) _, hB, fun h => by obtain ⟨g_z, vz, Nz⟩ := ci0 (by simpa using h); exact ⟨g_z, (put_get_ne (by decide) _).trans vz, fun h2 => by have h3 : L 2 = false := (by simpa using h2); rw [(cp5_2 (cp7_5 (cp8_7 d8)))] at h3; cases h3⟩, pgK ci1 (by decide) rfl, fun h => by obtain ⟨C_z, k_z, vz, Nz⟩ := ci2 (by simpa using h); exact ⟨C_z, k_z, (put_get_ne (by decide) _).trans vz, fun h2 => by have h3 : L 5 = false := (by simpa using h2); rw [(cp7_5 (cp8_7 d8))] at h3; cases h3⟩, pgK ci3 (by decide) rfl, fun h => by obtain ⟨g_z, vz, Nz⟩ := ci4 (by simpa using h); exact ⟨g_z, (put_get_ne (by decide) _).trans vz, fun h2 => by have h3 : L 5 = false := (by simpa using h2); rw [(cp7_5 (cp8_7 d8))] at h3; cases h3⟩, fun h => by obtain ⟨C_z, k_z, vz, Nz⟩ := ci5 (by simpa using h); exact ⟨C_z, k_z, (put_get_ne (by decide) _).trans vz, Nz⟩, pgK ci6 (by decide) rfl, fun h => by obtain ⟨C_z, k_z, vz, Nz⟩ := ci7 (by simpa using h); exact ⟨C_z, k_z, (put_get_ne (by decide) _).trans vz, Nz⟩, fun h => by obtain ⟨C_z, k_z, vz, Nz⟩ := ci8 (by simpa using h); exact ⟨C_z, k_z, (put_get_ne (by decide) _).trans vz, Nz⟩, fun h => by obtain ⟨C_z, k_z, vz, Nz⟩ := ci9 (by simpa using h); exact ⟨C_z, k_z, (put_get_ne (by decide) _).trans vz, Nz⟩, fun _ => put_get_self (hF.lt (by simp)) _, pgK ci13 (by decide) rfl, prK cp2_0 rfl, prK cp2_1 rfl, prK cp4_3 rfl, prK cp5_2 rfl, prK cp5_4 rfl, prK cp7_5 rfl, prK cp7_6 rfl, prK cp8_7 rfl, prK cp9_8 rfl, fun _ => by simp [d8], prK cp12_9 rfl, prK cp12_11 rfl, fun _ => by simp, fun h => by obtain ⟨g2, e2, hg2, y2, z2⟩ := ca2 (by simpa using h); exact ⟨g2, (put_get_ne (by decide) _).trans e2, hg2, fun h => y2 (by simpa using h), fun h => (by obtain ⟨C_z, k_z, Hz, Nz⟩ := z2 (by simpa using h); exact ⟨C_z, k_z, Hz, Nz⟩)⟩, cy0, cy1⟩
    · simp only [List.getElem?_cons_zero, List.getElem?_cons_succ, Option.some.injEq] at ho
      subst ho
      rw [if_pos (by simp [Region.wanted])]
      simp [go_sem]
      rw [hIA]
      exact ⟨hF.put (by decide) _, hB.alloc hBw _, fun h => by obtain ⟨g_z, vz, Nz⟩ := ci0 (by simpa using h); exact ⟨g_z, (put_get_ne (by decide) _).trans vz, fun h2 => ((Nz (by simpa using h2))).alloc _⟩, pgK ci1 (by decide) rfl, fun h => by obtain ⟨C_z, k_z, vz, Nz⟩ := ci2 (by simpa using h); exact ⟨C_z, k_z, (put_get_ne (by decide) _).trans vz, fun h2 => ((Nz (by simpa using h2))).alloc _⟩, pgK ci3 (by decide) rfl, fun h => by obtain ⟨g_z, vz, Nz⟩ := ci4 (by simpa using h); exact ⟨g_z, (put_get_ne (by decide) _).trans vz, fun h2 => ((Nz (by simpa using h2))).alloc _⟩, fun h => by obtain ⟨C_z, k_z, vz, Nz⟩ := ci5 (by simpa using h); exact ⟨C_z, k_z, (put_get_ne (by decide) _).trans vz, (Nz).alloc _⟩, pgK ci6 (by decide) rfl, fun h => by obtain ⟨C_z, k_z, vz, Nz⟩ := ci7 (by simpa using h); exact ⟨C_z, k_z, (put_get_ne (by decide) _).trans vz, (Nz).alloc _⟩, fun h => by obtain ⟨C_z, k_z, vz, Nz⟩ := ci8 (by simpa using h); exact ⟨C_z, k_z, (put_get_ne (by decide) _).trans vz, (Nz).alloc _⟩, fun h => by obtain ⟨C_z, k_z, vz, Nz⟩ := ci9 (by simpa using h); exact ⟨C_z, k_z, (put_get_ne (by decide) _).trans vz, (Nz).alloc _⟩, pgK ci10 (by decide) rfl, pgK ci13 (by decide) rfl, prK cp2_0 rfl, prK cp2_1 rfl, prK cp4_3 rfl, prK cp5_2 rfl, prK cp5_4 rfl, prK cp7_5 rfl, prK cp7_6 rfl, prK cp8_7 rfl, prK cp9_8 rfl, prK cp10_8 rfl, prK cp12_9 rfl, fun _ => by simp, prK cp13_10 rfl, fun _ => ⟨w'.heap.size, put_get_self (hF.lt (by simp)) _, zB, fun _ => HasT.new w' [.slice none 0 0] 76, fun h => by have hq := cp12_11 (by simpa using h); rw [hLi] at hq; cases hq⟩, (cy0).alloc _, (cy1).alloc _⟩
    · simp only [List.getElem?_cons_zero, List.getElem?_cons_succ, Option.some.injEq] at ho
      subst ho
      rw [if_pos (by simp [Region.wanted])]
      have d9 := hd { on := 9, ground := .data } (by simp) (by decide)
      obtain ⟨C_9, k_9, v9, N_9⟩ := ci9 d9
      have d11 := hd { on := 11, ground := .data } (by simp) (by decide)
      obtain ⟨gk, ek, hgk, yk, _⟩ := ca2 d11
      have HT2 := yk hLi
      have HH2 := HT2.has
      have lH2 := HH2.1
      obtain ⟨cH2_0, fH2_0⟩ := HH2.2 0 _ rfl
      simp [go_sem, Array.getD_eq_getD_getElem?, v9, ek, cH2_0, fH2_0]
      rw [hIA]
      exact ⟨hF, below_setCells_at (by omega) [_] 0 _ hB, fun h => by obtain ⟨g_z, vz, Nz⟩ := ci0 (by simpa using h); exact ⟨g_z, vz, fun h2 => by have h3 : L 2 = false := (by simpa using h2); rw [(cp5_2 (cp7_5 (cp8_7 (cp9_8 d9))))] at h3; cases h3⟩, kpK ci1 rfl, fun h => by obtain ⟨C_z, k_z, vz, Nz⟩ := ci2 (by simpa using h); exact ⟨C_z, k_z, vz, fun h2 => by have h3 : L 5 = false := (by simpa using h2); rw [(cp7_5 (cp8_7 (cp9_8 d9)))] at h3; cases h3⟩, kpK ci3 rfl, fun h => by obtain ⟨g_z, vz, Nz⟩ := ci4 (by simpa using h); exact ⟨g_z, vz, fun h2 => by have h3 : L 5 = false := (by simpa using h2); rw [(cp7_5 (cp8_7 (cp9_8 d9)))] at h3; cases h3⟩, fun h => by obtain ⟨C_z, k_z, vz, Nz⟩ := ci5 (by simpa using h); exact ⟨C_z, k_z, vz, (Nz).otherC ((Nz).typ HT2 (by decide)) [.slice C_9 (R2.length) k_9] 0⟩, kpK ci6 rfl, fun h => by obtain ⟨C_z, k_z, vz, Nz⟩ := ci7 (by simpa using h); exact ⟨C_z, k_z, vz, (Nz).otherC ((Nz).typ HT2 (by decide)) [.slice C_9 (R2.length) k_9] 0⟩, fun h => by obtain ⟨C_z, k_z, vz, Nz⟩ := ci8 (by simpa using h); exact ⟨C_z, k_z, vz, (Nz).otherC ((Nz).typ HT2 (by decide)) [.slice C_9 (R2.length) k_9] 0⟩, fun h => by obtain ⟨C_z, k_z, vz, Nz⟩ := ci9 (by simpa using h); exact ⟨C_z, k_z, vz, (Nz).otherC ((Nz).typ HT2 (by decide)) [.slice C_9 (R2.length) k_9] 0⟩, kpK ci10 rfl, kpK ci13 rfl, prK cp2_0 rfl, prK cp2_1 rfl, prK cp4_3 rfl, prK cp5_2 rfl, prK cp5_4 rfl, prK cp7_5 rfl, prK cp7_6 rfl, prK cp8_7 rfl, prK cp9_8 rfl, prK cp10_8 rfl, fun _ => by simp [d9], fun _ => by simp [d11], prK cp13_10 rfl, fun _ => ⟨gk, ek, hgk, fun h => by simp at h, fun _ => ⟨C_9, k_9, HT2.store (us := [.slice C_9 (R2.length) k_9]) rfl, (N_9).otherC ((N_9).typ HT2 (by decide)) [.slice C_9 (R2.length) k_9] 0⟩⟩, (cy0).other (g' := gk) (by have hl := lt_of_heap hTA_0; omega) [.slice C_9 (R2.length) k_9] 0, (cy1).other (g' := gk) (by have hl := lt_of_heap hTA_1; omega) [.slice C_9 (R2.length) k_9] 0⟩
    · simp only [List.getElem?_cons_zero, List.getElem?_cons_succ, Option.some.injEq] at ho
      subst ho
      rw [if_pos (by simp [Region.wanted])]
      have d10 := hd { on := 10, ground := .data } (by simp) (by decide)
      have v10 := ci10 d10
      simp [go_sem, Array.getD_eq_getD_getElem?, v10]
      rw [hIA]
      exact ⟨hF.put (by decide) _, hB, fun h => by obtain ⟨g_z, vz, Nz⟩ := ci0 (by simpa using h); exact ⟨g_z, (put_get_ne (by decide) _).trans vz, fun h2 => by have h3 : L 2 = false := (by simpa using h2); rw [(cp5_2 (cp7_5 (cp8_7 (cp10_8 d10))))] at h3; cases h3⟩, pgK ci1 (by decide) rfl, fun h => by obtain ⟨C_z, k_z, vz, Nz⟩ := ci2 (by simpa using h); exact ⟨C_z, k_z, (put_get_ne (by decide) _).trans vz, fun h2 => by have h3 : L 5 = false := (by simpa using h2); rw [(cp7_5 (cp8_7 (cp10_8 d10)))] at h3; cases h3⟩, pgK ci3 (by decide) rfl, fun h => by obtain ⟨g_z, vz, Nz⟩ := ci4 (by simpa using h); exact ⟨g_z, (put_get_ne (by decide) _).trans vz, fun h2 => by have h3 : L 5 = false := (by simpa using h2); rw [(cp7_5 (cp8_7 (cp10_8 d10)))] at h3; cases h3⟩, fun h => by obtain ⟨C_z, k_z, vz, Nz⟩ := ci5 (by simpa using h); exact ⟨C_z, k_z, (put_get_ne (by decide) _).trans vz, Nz⟩, pgK ci6 (by decide) rfl, fun h => by obtain ⟨C_z, k_z, vz, Nz⟩ := ci7 (by simpa using h); exact ⟨C_z, k_z, (put_get_ne (by decide) _).trans vz, Nz⟩, fun h => by obtain ⟨C_z, k_z, vz, Nz⟩ := ci8 (by simpa using h); exact ⟨C_z, k_z, (put_get_ne (by decide) _).trans vz, Nz⟩, fun h => by obtain ⟨C_z, k_z, vz, Nz⟩ := ci9 (by simpa using h); exact ⟨C_z, k_z, (put_get_ne (by decide) _).trans vz, Nz⟩, pgK ci10 (by decide) rfl, fun _ => put_get_self (hF.lt (by simp)) _, prK cp2_0 rfl, prK cp2_1 rfl, prK cp4_3 rfl, prK cp5_2 rfl, prK cp5_4 rfl, prK cp7_5 rfl, prK cp7_6 rfl, prK cp8_7 rfl, prK cp9_8 rfl, prK cp10_8 rfl, prK cp12_9 rfl, prK cp12_11 rfl, fun _ => by simp [d10], fun h => by obtain ⟨g2, e2, hg2, y2, z2⟩ := ca2 (by simpa using h); exact ⟨g2, (put_get_ne (by decide) _).trans e2, hg2, fun h => y2 (by simpa using h), fun h => (by obtain ⟨C_z, k_z, Hz, Nz⟩ := z2 (by simpa using h); exact ⟨C_z, k_z, Hz, Nz⟩)⟩, cy0, cy1⟩
  case he =>
    intro L a' wA hL hI'
    rw [hIA] at hI'
    obtain ⟨hF, hbA, ci0, ci1, ci2, ci3, ci4, ci5, ci6, ci7, ci8, ci9, ci10, ci13, cp2_0, cp2_1, cp4_3, cp5_2, cp5_4, cp7_5, cp7_6, cp8_7, cp9_8, cp10_8, cp12_9, cp12_11, cp13_10, ca2, cy0, cy1⟩ := hI'
    have eA_13 := ci13 (hL 13 (by decide))
    obtain ⟨gA_2, eA_b2, hgA_2, _, cz2⟩ := ca2 (hL 11 (by decide))
    obtain ⟨CA_b2, kA_b2, HTA_2, NTA_2⟩ := cz2 (hL 12 (by decide))
    have HTA_0 := cy0
    have HTA_1 := cy1
    have hout := hF.outG (by simp)
    simp only [List.foldl_cons, List.foldl_nil, eA_13, eA_b2] at hout
    rw [hout]
    generalize a'.tmps[18]?.getD undef = xA_18
    generalize a'.tmps[19]?.getD undef = xA_19
    generalize a'.tmps[20]?.getD undef = xA_20
    generalize a'.tmps[21]?.getD undef = xA_21
    generalize a'.tmps[22]?.getD undef = xA_22
    generalize a'.tmps[23]?.getD undef = xA_23
    generalize a'.tmps[24]?.getD undef = xA_24
    generalize a'.tmps[25]?.getD undef = xA_25
    generalize a'.tmps[17]?.getD undef = xA_17
    generalize a'.tmps[26]?.getD undef = xA_26
    generalize a'.tmps[27]?.getD undef = xA_27
    clear hout hIA hF hL ci0 ci1 ci2 ci3 ci4 ci5 ci6 ci7 ci8 ci9 ci10 ci13 cp2_0 cp2_1 cp4_3 cp5_2 cp5_4 cp7_5 cp7_6 cp8_7 cp9_8 cp10_8 cp12_9 cp12_11 cp13_10 ca2 cy0 cy1
    go_simp
    have S7 := S2.below hbA
    have S9 := NTA_2.out halfC_len
    have bF := b2.trans (hbA.mono b2.size)
    have H7 := HTA_1.has
    have H9 := HTA_2.has
    obtain ⟨cH7_0, fH7_0⟩ := H7.2 0 _ rfl
    obtain ⟨cH9_0, fH9_0⟩ := H9.2 0 _ rfl
    have l7 := H7.1
    have l9 := H9.1
    clear NTA_2 HTA_0 hTA_0 hTA_1 TX T7 hs2 S2 c2 b2 hbA
    cases ok1
    · go_wp2
      go_ret
      exact ⟨by rw [hdef.out]; rfl, bF⟩
    cases ok2
    · go_wp2
      go_ret
      exact ⟨by rw [hdef.out]; rfl, bF⟩
    go_wp2_with (go_at_call 133; refine (sSameRegion_c R1 R2 ⟨A1, k1⟩ ⟨CA_b2, kA_b2⟩ _ (by have := hle1.out; omega) (by have := hle2.out; omega) S7 S9).mono ?_; rintro e w9 ⟨rfl, hb9⟩)
    go_ret
    exact ⟨by rw [hdef.out]; rfl, bF.trans (hb9.mono bF.size)⟩
end Go.Proofs.Ytbdihgcjopbnjaa
