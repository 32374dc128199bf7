/-
 What was made stays, beside a box of another type that is written.
 Conditions: none.
-/
import Derived.Test.YtkjimfapbjdafaaGreatGrX
import Derived.Test.YtkjimfapbjdafaaGreatGrP
namespace Go.Proofs.YtkjimfapbjdafaaGreat
open Go.RowKit
theorem Xv.otherT {w:World} {base g T:Nat} {x:List Half} {a:Zw} {vs:List Value} (h:Xv w base x a) (hg:Xu w g T vs) (h0:175≠T) (us:List Value) (o:Nat):Xv (w.setCells g o us) base x a:=⟨h.halves.otherC (h.halves.typ hg h0) us o⟩
theorem Xv.neT {w:World} {base g T:Nat} {x:List Half} {a:Zw} {vs:List Value} (h:Xv w base x a) (hg:Xu w g T vs) (h0:175≠T):∀ c∈[a],∀ p,c.A=some p→p.block≠g:=by
 intro c hc
 simp only [List.mem_cons,List.not_mem_nil,or_false] at hc
 subst hc
 exact h.halves.typ hg h0
theorem XR.otherT {w:World} {base g T:Nat} {x:XJ} {a:Ye} {vs:List Value} (h:XR w base x a) (hg:Xu w g T vs) (h0:3≠T) (h1:175≠T) (us:List Value) (o:Nat):XR (w.setCells g o us) base x a:=⟨h.map.otherC (h.map.typ hg h0) us o,h.noise.otherT hg h1 us o,h.limits.otherT hg h1 us o,h.apart⟩
theorem XR.neT {w:World} {base g T:Nat} {x:XJ} {a:Ye} {vs:List Value} (h:XR w base x a) (hg:Xu w g T vs) (h0:3≠T) (h1:175≠T):∀ c∈[a.map,a.noise,a.limits],∀ p,c.A=some p→p.block≠g:=by
 intro c hc
 simp only [List.mem_cons,List.not_mem_nil,or_false] at hc
 rcases hc with rfl|rfl|rfl
 ·exact h.map.typ hg h0
 ·exact h.noise.halves.typ hg h1
 ·exact h.limits.halves.typ hg h1
theorem Yz.otherT {w:World} {base g T:Nat} {x:K6} {a:KI} {vs:List Value} (h:Yz w base x a) (hg:Xu w g T vs) (h0:3≠T) (h1:175≠T) (us:List Value) (o:Nat):Yz (w.setCells g o us) base x a:=⟨h.room.otherT hg h0 h1 us o,h.reg.otherT hg h1 us o,h.log.otherC (h.log.typ hg h0) us o,h.apart⟩
theorem Yz.neT {w:World} {base g T:Nat} {x:K6} {a:KI} {vs:List Value} (h:Yz w base x a) (hg:Xu w g T vs) (h0:3≠T) (h1:175≠T):∀ c∈[a.room.map,a.room.noise,a.room.limits,a.reg,a.log],∀ p,c.A=some p→p.block≠g:=by
 intro c hc
 simp only [List.mem_cons,List.not_mem_nil,or_false] at hc
 rcases hc with rfl|rfl|rfl|rfl|rfl
 ·exact h.room.map.typ hg h0
 ·exact h.room.noise.halves.typ hg h1
 ·exact h.room.limits.halves.typ hg h1
 ·exact h.reg.halves.typ hg h1
 ·exact h.log.typ hg h0
theorem YA.otherT {w:World} {base g T:Nat} {x:Jo} {a:KJ} {vs:List Value} (h:YA w base x a) (hg:Xu w g T vs) (h0:44≠T) (h1:70≠T) (us:List Value) (o:Nat):YA (w.setCells g o us) base x a:=⟨h.spots.otherC (h.spots.typ hg h0) us o,h.inputs.otherC (h.inputs.typ hg h1) us o,h.apart⟩
theorem YA.neT {w:World} {base g T:Nat} {x:Jo} {a:KJ} {vs:List Value} (h:YA w base x a) (hg:Xu w g T vs) (h0:44≠T) (h1:70≠T):∀ c∈[a.spots,a.inputs],∀ p,c.A=some p→p.block≠g:=by
 intro c hc
 simp only [List.mem_cons,List.not_mem_nil,or_false] at hc
 rcases hc with rfl|rfl
 ·exact h.spots.typ hg h0
 ·exact h.inputs.typ hg h1
theorem Zz.otherT {w:World} {base g T:Nat} {x:Law} {a:LawA} {vs:List Value} (h:Zz w base x a) (hg:Xu w g T vs) (h0:171≠T) (us:List Value) (o:Nat):Zz (w.setCells g o us) base x a:=⟨h.lows.otherC (h.lows.typ hg h0) us o,h.highs.otherC (h.highs.typ hg h0) us o,h.apart⟩
theorem Zz.neT {w:World} {base g T:Nat} {x:Law} {a:LawA} {vs:List Value} (h:Zz w base x a) (hg:Xu w g T vs) (h0:171≠T):∀ c∈[a.lows,a.highs],∀ p,c.A=some p→p.block≠g:=by
 intro c hc
 simp only [List.mem_cons,List.not_mem_nil,or_false] at hc
 rcases hc with rfl|rfl
 ·exact h.lows.typ hg h0
 ·exact h.highs.typ hg h0
end Go.Proofs.YtkjimfapbjdafaaGreat
