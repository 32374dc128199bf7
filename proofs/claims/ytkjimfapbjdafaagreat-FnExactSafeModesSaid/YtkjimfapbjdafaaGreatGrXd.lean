/-
 What the functions that mark modes, pieces and laws return: they change the marked slices' own blocks alone.
 Conditions: the slices hold at most 2^20 elements.
-/
import Derived.Test.YtkjimfapbjdafaaGreatGrVQa
import Derived.Test.YtkjimfapbjdafaaGreatGrPQb
namespace Go.Proofs.YtkjimfapbjdafaaGreat
open Go.RowKit
structure LawMk (w:World) (x:Law) (a:LawA) (K:Int):Prop where
 lows:Sl 4 pieceC w a.lows.A (markPieces K x.lows.length)
 highs:Sl 4 pieceC w a.highs.A (markPieces (K+x.lows.length*4) x.highs.length)
theorem LawMk.below {w w':World} {x:Law} {a:LawA} {K:Int} (h:LawMk w x a K) (hb:Below w.heap.size w w'):LawMk w' x a K:=⟨h.lows.below hb,h.highs.below hb⟩
def blkLs (L:List ZS):List Nat:=L.flatMap λ a=>blkL a.A
theorem blkLs_in {L:List ZS} {m:Nat} (h:m∈blkLs L):∃ a∈L,∃ p,a.A=some p/\p.block=m:=by
 obtain ⟨a,ha,hm⟩:=List.mem_flatMap.1 h;obtain ⟨p,hp,e⟩:=blkL_in hm;exact ⟨a,ha,p,hp,e⟩
theorem blkLs_mem {L:List ZS} {a:ZS} {p:Addr} (ha:a∈L) (hp:a.A=some p):p.block∈blkLs L :=
 List.mem_flatMap.2 ⟨a,ha,by rw [hp];simp [blkL]⟩
theorem ZE {L:List ZS} {g:Nat} (h:∀ a∈L,∀ p,a.A=some p->p.block≠g):g ∉ blkLs L:=by
 intro hm;obtain ⟨a,ha,p,hp,e⟩:=blkLs_in hm;exact h a ha p hp e
theorem Y6.kp {L:List ZS} {w w':World} (h:Y6 w w' L):Kp (blkLs L) w w' :=
 ⟨⟨h.os,h.tape,h.output,h.size,λ k hk=>absurd hk (Nat.not_lt_zero _)⟩,λ g hg hm=>h.block g hg (λ a ha p hp e=>hm (by rw [<- e];exact blkLs_mem ha hp))⟩
theorem Kp.only {L:List ZS} {w w':World} (h:Kp (blkLs L) w w'):Y6 w w' L :=
 ⟨h.base.os,h.base.tape,h.base.output,h.base.size,λ k hk hn=>h.block k hk (ZE hn)⟩
theorem XK.neT {w:World} {base g T:Nat} {x:List Half} {a:ZS} {vs:List Value} (h:XK w base x a) (hg:Xz w g T vs) (h0:175≠T):∀ c∈[a],∀ p,c.A=some p->p.block≠g:=by
 intro c hc;simp only [List.mem_cons,List.not_mem_nil,or_false] at hc;subst hc;exact h.halves.typ hg h0
theorem X1.neT {w:World} {base g T:Nat} {x:XT} {a:Yq} {vs:List Value} (h:X1 w base x a) (hg:Xz w g T vs) (h0:3≠T) (h1:175≠T):∀ c∈[a.map,a.noise,a.limits],∀ p,c.A=some p->p.block≠g:=by
 intro c hc;simp only [List.mem_cons,List.not_mem_nil,or_false] at hc;rcases hc with rfl|rfl|rfl
 ·exact h.map.typ hg h0
 ·exact h.noise.halves.typ hg h1
 ·exact h.limits.halves.typ hg h1
theorem Zh.neT {w:World} {base g T:Nat} {x:Watch} {a:WatchA} {vs:List Value} (h:Zh w base x a) (hg:Xz w g T vs) (h0:3≠T) (h1:175≠T):∀ c∈[a.room.map,a.room.noise,a.room.limits,a.reg,a.log],∀ p,c.A=some p->p.block≠g:=by
 intro c hc;simp only [List.mem_cons,List.not_mem_nil,or_false] at hc;rcases hc with rfl|rfl|rfl|rfl|rfl
 ·exact h.room.map.typ hg h0
 ·exact h.room.noise.halves.typ hg h1
 ·exact h.room.limits.halves.typ hg h1
 ·exact h.reg.halves.typ hg h1
 ·exact h.log.typ hg h0
theorem Zi.neT {w:World} {base g T:Nat} {x:Track} {a:TrackA} {vs:List Value} (h:Zi w base x a) (hg:Xz w g T vs) (h0:44≠T) (h1:70≠T):∀ c∈[a.spots,a.inputs],∀ p,c.A=some p->p.block≠g:=by
 intro c hc;simp only [List.mem_cons,List.not_mem_nil,or_false] at hc;rcases hc with rfl|rfl
 ·exact h.spots.typ hg h0
 ·exact h.inputs.typ hg h1
theorem Kn.neT {w:World} {base g T:Nat} {x:Law} {a:LawA} {vs:List Value} (h:Kn w base x a) (hg:Xz w g T vs) (h0:171≠T):∀ c∈[a.lows,a.highs],∀ p,c.A=some p->p.block≠g:=by
 intro c hc;simp only [List.mem_cons,List.not_mem_nil,or_false] at hc;rcases hc with rfl|rfl
 ·exact h.lows.typ hg h0
 ·exact h.highs.typ hg h0
end Go.Proofs.YtkjimfapbjdafaaGreat
