/-
 What was made stays, beside a box of another type that is written.
 Conditions: none.
-/
import Derived.Test.YtdncnhcffbgjhaaGreatGrX
import Derived.Test.YtdncnhcffbgjhaaGreatGrP
namespace Go.Proofs.YtdncnhcffbgjhaaGreat
open Go.RowKit
theorem RegionNew.otherT {w:World} {base g T:Nat} {x:List Half} {a:SlA} {vs:List Value} (h:RegionNew w base x a) (hg:HasT w g T vs) (h0:111≠T) (us:List Value) (o:Nat):RegionNew (w.setCells g o us) base x a:=⟨h.halves.otherC (h.halves.typ hg h0) us o⟩
theorem RegionNew.neT {w:World} {base g T:Nat} {x:List Half} {a:SlA} {vs:List Value} (h:RegionNew w base x a) (hg:HasT w g T vs) (h0:111≠T):∀ c∈[a],∀ p,c.A=some p→p.block≠g:=by
 intro c hc
 simp only [List.mem_cons,List.not_mem_nil,or_false] at hc
 subst hc
 exact h.halves.typ hg h0
theorem RoomNew.otherT {w:World} {base g T:Nat} {x:Room} {a:RoomA} {vs:List Value} (h:RoomNew w base x a) (hg:HasT w g T vs) (h0:3≠T) (h1:111≠T) (us:List Value) (o:Nat):RoomNew (w.setCells g o us) base x a:=⟨h.map.otherC (h.map.typ hg h0) us o,h.noise.otherT hg h1 us o,h.limits.otherT hg h1 us o,h.apart⟩
theorem RoomNew.neT {w:World} {base g T:Nat} {x:Room} {a:RoomA} {vs:List Value} (h:RoomNew w base x a) (hg:HasT w g T vs) (h0:3≠T) (h1:111≠T):∀ c∈[a.map,a.noise,a.limits],∀ p,c.A=some p→p.block≠g:=by
 intro c hc
 simp only [List.mem_cons,List.not_mem_nil,or_false] at hc
 rcases hc with rfl|rfl|rfl
 ·exact h.map.typ hg h0
 ·exact h.noise.halves.typ hg h1
 ·exact h.limits.halves.typ hg h1
theorem WatchNew.otherT {w:World} {base g T:Nat} {x:Watch} {a:WatchA} {vs:List Value} (h:WatchNew w base x a) (hg:HasT w g T vs) (h0:3≠T) (h1:111≠T) (us:List Value) (o:Nat):WatchNew (w.setCells g o us) base x a:=⟨h.room.otherT hg h0 h1 us o,h.reg.otherT hg h1 us o,h.log.otherC (h.log.typ hg h0) us o,h.apart⟩
theorem WatchNew.neT {w:World} {base g T:Nat} {x:Watch} {a:WatchA} {vs:List Value} (h:WatchNew w base x a) (hg:HasT w g T vs) (h0:3≠T) (h1:111≠T):∀ c∈[a.room.map,a.room.noise,a.room.limits,a.reg,a.log],∀ p,c.A=some p→p.block≠g:=by
 intro c hc
 simp only [List.mem_cons,List.not_mem_nil,or_false] at hc
 rcases hc with rfl|rfl|rfl|rfl|rfl
 ·exact h.room.map.typ hg h0
 ·exact h.room.noise.halves.typ hg h1
 ·exact h.room.limits.halves.typ hg h1
 ·exact h.reg.halves.typ hg h1
 ·exact h.log.typ hg h0
theorem TrackNew.otherT {w:World} {base g T:Nat} {x:Track} {a:TrackA} {vs:List Value} (h:TrackNew w base x a) (hg:HasT w g T vs) (h0:57≠T) (h1:52≠T) (us:List Value) (o:Nat):TrackNew (w.setCells g o us) base x a:=⟨h.spots.otherC (h.spots.typ hg h0) us o,h.inputs.otherC (h.inputs.typ hg h1) us o,h.apart⟩
theorem TrackNew.neT {w:World} {base g T:Nat} {x:Track} {a:TrackA} {vs:List Value} (h:TrackNew w base x a) (hg:HasT w g T vs) (h0:57≠T) (h1:52≠T):∀ c∈[a.spots,a.inputs],∀ p,c.A=some p→p.block≠g:=by
 intro c hc
 simp only [List.mem_cons,List.not_mem_nil,or_false] at hc
 rcases hc with rfl|rfl
 ·exact h.spots.typ hg h0
 ·exact h.inputs.typ hg h1
theorem LawNew.otherT {w:World} {base g T:Nat} {x:Law} {a:LawA} {vs:List Value} (h:LawNew w base x a) (hg:HasT w g T vs) (h0:109≠T) (us:List Value) (o:Nat):LawNew (w.setCells g o us) base x a:=⟨h.lows.otherC (h.lows.typ hg h0) us o,h.highs.otherC (h.highs.typ hg h0) us o,h.apart⟩
theorem LawNew.neT {w:World} {base g T:Nat} {x:Law} {a:LawA} {vs:List Value} (h:LawNew w base x a) (hg:HasT w g T vs) (h0:109≠T):∀ c∈[a.lows,a.highs],∀ p,c.A=some p→p.block≠g:=by
 intro c hc
 simp only [List.mem_cons,List.not_mem_nil,or_false] at hc
 rcases hc with rfl|rfl
 ·exact h.lows.typ hg h0
 ·exact h.highs.typ hg h0
end Go.Proofs.YtdncnhcffbgjhaaGreat
