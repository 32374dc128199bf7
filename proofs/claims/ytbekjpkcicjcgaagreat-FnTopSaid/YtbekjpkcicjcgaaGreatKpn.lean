/-
 What stays of a slice of one's own when other blocks change.
 Conditions: none.
-/
import Derived.Test.YtbekjpkcicjcgaaGreatGrU
namespace Go.Proofs.YtbekjpkcicjcgaaGreat
open Go.RowKit
theorem XG.kpN {α:Type} {T sz base n c:Nat} {enc:α->List Value} {M:List Nat} {w w':World} {A:Option Addr} {xs:List α} (h:XG T sz enc w base (.slice A n c) xs) (k:Kp M w w') (hA:∀ p,A=some p->p.block∉M):XG T sz enc w' base (.slice A n c) xs:=by
 obtain ⟨A',cap,e,h1,h2⟩:=h;refine ⟨A',cap,e,h1,?_⟩
 rcases h2 with h2|⟨q,cap',cur,hv,hg,hh,r⟩
 ·exact .inl h2
 ·have hA2:A=some ⟨q,0,none⟩:=by injection hv
  exact .inr ⟨q,cap',cur,hv,hg,(k.block q (by rcases Nat.lt_or_ge q w.heap.size with h|h;exact h;rw [Array.getElem?_eq_none h] at hh;cases hh) (hA _ hA2)).trans hh,r⟩
end Go.Proofs.YtbekjpkcicjcgaaGreat
