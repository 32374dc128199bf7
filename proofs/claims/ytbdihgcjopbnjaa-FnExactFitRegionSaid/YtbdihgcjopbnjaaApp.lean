/-
  Append of one element to a slice of the call's own, in the words New and Below.
-/
import Derived.Test.YtbdihgcjopbnjaaBase
import Derived.ArgAppend
namespace Go.Proofs.Ytbdihgcjopbnjaa
open Go.RowKit

theorem wpList_app1 {α : Type} {T sz : Nat} {enc : α → List Value} (hsz : ∀ x, (enc x).length = sz) {P : Program} (w : World) {ops : Array Oper} {rest : List Oper} {o : Oper} {a : Act} {Q : Exit → Act → World → Prop} (hgd : o.guard = none) (s x : Operand) (t : TypeId)
    (ho : o.op = .call { callee := .builtin .append, args := #[s, x], argTypes := #[t, t] })
    (base : Nat) (i : TypeInfo) (z : Value) (bytes : Nat) (ht : P.underlying t = some (.slice T)) (hi : P.info? T = some i) (hz : i.zero = some z)
    (hsize : i.size = sz) (hby : i.bytes = bytes) (hzs : z.cells.size = sz) (hpos : 0 < sz)
    {v : Value} {xs : List α} (hs : a.eval s = v) (hown : New T sz enc w base v xs)
    (ad : Addr) (c : Nat) (hx : a.eval x = .slice (some ad) 1 c) (y : α) (hy : ∀ j u, (enc y)[j]? = some u → w.cell? (ad.add j) = some u) (h1 : ∀ u ∈ enc y, u.oneCell' = true)
    {W0 : World} (hb : Below base W0 w) (hbase : base ≤ w.heap.size) (hn : xs.length ≤ 1073741823) (hbytes : bytes ≤ 128)
    (h : ∀ v' w', New T sz enc w' base v' (xs ++ [y]) → Below base W0 w' → wpList P ops Q rest (a.put o.dst v') w') : wpList P ops Q (o :: rest) a w := by
  obtain ⟨A, cap, rfl, hr⟩ := hown
  have hb2 : (xs.length + 1) * bytes ≤ 1073741824 * 128 := Nat.mul_le_mul (by omega) hbytes
  refine wpList_append_own w hgd s x t ho base T i z sz bytes ht hi hz hsize hby hzs hpos _ _ _ hs hr ad 1 c (enc y) hx (by rw [hsz, Nat.one_mul]) hy h1 (by unfold maxLen; omega) (by omega) hbase ?_
  intro v' w' hown' hg _
  have hl : (xs ++ [y]).length = xs.length + 1 := by simp
  have hf : (xs ++ [y]).flatMap enc = xs.flatMap enc ++ enc y := by simp
  have hbl := hb.grown hg hbase (fun k e => (hr.lt k e).1)
  rcases hown'.2 with ⟨_, h0⟩ | ⟨g, cap', cur, rfl, hg1, r⟩
  · omega
  · exact h _ _ ⟨_, cap', by rw [hl], by rw [hl, hf]; exact hown'⟩ hbl

/-- The same, where the slice is empty and has no capacity: the result lies in a new block. -/
theorem wpList_app1g {α : Type} {T sz : Nat} {enc : α → List Value} (hsz : ∀ x, (enc x).length = sz) {P : Program} (w : World) {ops : Array Oper} {rest : List Oper} {o : Oper} {a : Act} {Q : Exit → Act → World → Prop} (hgd : o.guard = none) (s x : Operand) (t : TypeId)
    (ho : o.op = .call { callee := .builtin .append, args := #[s, x], argTypes := #[t, t] })
    (i : TypeInfo) (z : Value) (bytes : Nat) (ht : P.underlying t = some (.slice T)) (hi : P.info? T = some i) (hz : i.zero = some z)
    (hsize : i.size = sz) (hby : i.bytes = bytes) (hzs : z.cells.size = sz) (hpos : 0 < sz)
    (ao : Option Addr) (hs : a.eval s = .slice ao 0 0)
    (ad : Addr) (c : Nat) (hx : a.eval x = .slice (some ad) 1 c) (y : α) (hy : ∀ j u, (enc y)[j]? = some u → w.cell? (ad.add j) = some u) (h1 : ∀ u ∈ enc y, u.oneCell' = true)
    {B : Nat} {W0 : World} (hb : Below B W0 w) (hbase : B ≤ w.heap.size) (hbytes : bytes ≤ 128)
    (h : ∀ v' w', New T sz enc w' B v' [y] → Below B W0 w' → wpList P ops Q rest (a.put o.dst v') w') : wpList P ops Q (o :: rest) a w := by
  refine wpList_append_grows w hgd s x t ho T i z sz bytes ht hi hz hsize hby hzs hpos ao 0 0 [] hs (fun _ => ⟨rfl, rfl⟩) (by simp) (fun _ _ _ _ h => by simp at h) ad 1 c (enc y) hx (by rw [hsz, Nat.one_mul]) hy h1 (by omega) (by unfold maxLen; omega) (by omega) ?_
  intro v' w' hown' hg
  have hbl := hb.grown hg hbase (fun k e => by cases e)
  rcases hown'.2 with ⟨_, h0⟩ | ⟨g, cap', cur, rfl, hg1, r⟩
  · omega
  · have h3 : New T sz enc w' w.heap.size (.slice (some ⟨g, 0, none⟩) (0 + 1) cap') [y] := by
      refine ⟨_, cap', rfl, ?_⟩
      have h4 : [y].flatMap enc = [] ++ enc y := by simp
      rw [h4]; exact hown'
    exact h _ _ (h3.mono hbase) hbl
end Go.Proofs.Ytbdihgcjopbnjaa
