/-
 The functions on records: what they return.
 Conditions: the slice reads as a list of at most 2^20 records.
-/
import Derived.Test.YtkjimfapbjdafaaGreatGrC
import Derived.Test.YtkjimfapbjdafaaGreatGrA
import Derived.Test.YtkjimfapbjdafaaGreatGrD
import Derived.Deep.RegionHeld3
import Derived.Test.YtkjimfapbjdafaaGreatGrX
import Derived.Test.YtkjimfapbjdafaaGreatGrP
section
namespace Go.Proofs.YtkjimfapbjdafaaGreat
open Go.RowKit
def recOk (x:Z7):Bool:=YR x.before (-1000) 1000&&YR x.input (-1000) 1000&&YR x.after (-1000) 1000
def recordsOk (xs:List Z7):Bool:=xs.all recOk&&decide (xs.length≤12)
end Go.Proofs.YtkjimfapbjdafaaGreat
end
section
namespace Go.Proofs.YtkjimfapbjdafaaGreat
open Go.RowKit
theorem red3 {a b c:Int} (h:0<Xs [a,b,c]):Xs [a.tdiv (Xs [a,b,c]),b.tdiv (Xs [a,b,c]),c.tdiv (Xs [a,b,c])]=1:=by
 have e:=gcd3 a b c
 rw [gcd3 (a.tdiv _)]
 simp only [natAbs_tdiv]
 generalize Xs [a,b,c]=g at *
 have d1:g ∣ a.natAbs:=by rw [e];exact Nat.dvd_trans (Nat.gcd_dvd_left _ _) (Nat.gcd_dvd_left _ _)
 have d2:g ∣ b.natAbs:=by rw [e];exact Nat.dvd_trans (Nat.gcd_dvd_left _ _) (Nat.gcd_dvd_right _ _)
 have d3:g ∣ c.natAbs:=by rw [e];exact Nat.gcd_dvd_right _ _
 rw [Nat.gcd_div d1 d2,Nat.gcd_div (Nat.dvd_gcd d1 d2) d3,← e]
 exact Nat.div_self h
def recH1 (x:Z7) (err:Int):Half:=redHalf x.before x.input (100*(x.after+err))
def recH2 (x:Z7) (err:Int):Half:=redHalf (-x.before) (-x.input) (100*(err-x.after))
def recordHalves (x:Z7) (err:Int):List Half :=
 if recOk x=true∧YR err 0 1000=true∧¬(x.before=0∧x.input=0) then [recH1 x err,recH2 x err] else []
end Go.Proofs.YtkjimfapbjdafaaGreat
end
section
namespace Go.Proofs.YtkjimfapbjdafaaGreat
open Go.RowKit
end Go.Proofs.YtkjimfapbjdafaaGreat
end
section
namespace Go.Proofs.YtkjimfapbjdafaaGreat
open Go.RowKit
def shiftSpot (s:XJ) (dx dy:Int):Option XJ :=
 if X9 s=true∧YR dx (-2000) 2000=true∧YR dy (-2000) 2000=true then Zl (s.x+dx*s.d) (s.y+dy*s.d) s.d else none
structure SB (s:XJ) (dx dy:Int):Prop where
 d:1≤s.d∧s.d≤5000000000
 x : -5000000000000≤s.x∧s.x≤5000000000000
 y : -5000000000000≤s.y∧s.y≤5000000000000
 m : -10000000000000≤dx*s.d∧dx*s.d≤10000000000000
 n : -10000000000000≤dy*s.d∧dy*s.d≤10000000000000
end Go.Proofs.YtkjimfapbjdafaaGreat
end
section
namespace Go.Proofs.YtkjimfapbjdafaaGreat
open Go.RowKit
def sh (s:XJ) (dx dy:Int):Nat→Option XJ
 | 0=>shiftSpot s (-dx) (-dy)
 | 1=>shiftSpot s dx (-dy)
 | 2=>shiftSpot s dx dy
 | _=>shiftSpot s (-dx) dy
def shs (s:XJ) (dx dy:Int):Nat→Option (List XJ)
 | 0=>some []
 | k+1=>match shs s dx dy k,sh s dx dy k with
  | some l,some t=>some (l++[t])
  | _,_=>none
def possStates (s:XJ) (dx dy:Int):Option (List XJ) :=
 if YR dx 0 100=true∧YR dy 0 100=true then shs s dx dy 4 else none
end Go.Proofs.YtkjimfapbjdafaaGreat
end
namespace Go.Proofs.YtkjimfapbjdafaaGreat
open Go.RowKit
theorem XL.otherT {w:World} {base g T:Nat} {x:List Half} {a:ZR} {vs:List Value} (h:XL w base x a) (hg:Xy w g T vs) (h0:175≠T) (us:List Value) (o:Nat):XL (w.setCells g o us) base x a:=⟨h.halves.otherC (h.halves.typ hg h0) us o⟩
theorem XL.neT {w:World} {base g T:Nat} {x:List Half} {a:ZR} {vs:List Value} (h:XL w base x a) (hg:Xy w g T vs) (h0:175≠T):∀ c∈[a],∀ p,c.A=some p→p.block≠g:=by
 intro c hc
 simp only [List.mem_cons,List.not_mem_nil,or_false] at hc
 subst hc
 exact h.halves.typ hg h0
theorem X0.otherT {w:World} {base g T:Nat} {x:XN} {a:Yr} {vs:List Value} (h:X0 w base x a) (hg:Xy w g T vs) (h0:3≠T) (h1:175≠T) (us:List Value) (o:Nat):X0 (w.setCells g o us) base x a:=⟨h.map.otherC (h.map.typ hg h0) us o,h.noise.otherT hg h1 us o,h.limits.otherT hg h1 us o,h.apart⟩
theorem X0.neT {w:World} {base g T:Nat} {x:XN} {a:Yr} {vs:List Value} (h:X0 w base x a) (hg:Xy w g T vs) (h0:3≠T) (h1:175≠T):∀ c∈[a.map,a.noise,a.limits],∀ p,c.A=some p→p.block≠g:=by
 intro c hc
 simp only [List.mem_cons,List.not_mem_nil,or_false] at hc
 rcases hc with rfl|rfl|rfl
 ·exact h.map.typ hg h0
 ·exact h.noise.halves.typ hg h1
 ·exact h.limits.halves.typ hg h1
theorem Zh.otherT {w:World} {base g T:Nat} {x:Watch} {a:JP} {vs:List Value} (h:Zh w base x a) (hg:Xy w g T vs) (h0:3≠T) (h1:175≠T) (us:List Value) (o:Nat):Zh (w.setCells g o us) base x a:=⟨h.room.otherT hg h0 h1 us o,h.reg.otherT hg h1 us o,h.log.otherC (h.log.typ hg h0) us o,h.apart⟩
theorem Zh.neT {w:World} {base g T:Nat} {x:Watch} {a:JP} {vs:List Value} (h:Zh w base x a) (hg:Xy w g T vs) (h0:3≠T) (h1:175≠T):∀ c∈[a.room.map,a.room.noise,a.room.limits,a.reg,a.log],∀ p,c.A=some p→p.block≠g:=by
 intro c hc
 simp only [List.mem_cons,List.not_mem_nil,or_false] at hc
 rcases hc with rfl|rfl|rfl|rfl|rfl
 ·exact h.room.map.typ hg h0
 ·exact h.room.noise.halves.typ hg h1
 ·exact h.room.limits.halves.typ hg h1
 ·exact h.reg.halves.typ hg h1
 ·exact h.log.typ hg h0
theorem Zi.otherT {w:World} {base g T:Nat} {x:Track} {a:JQ} {vs:List Value} (h:Zi w base x a) (hg:Xy w g T vs) (h0:44≠T) (h1:70≠T) (us:List Value) (o:Nat):Zi (w.setCells g o us) base x a:=⟨h.spots.otherC (h.spots.typ hg h0) us o,h.inputs.otherC (h.inputs.typ hg h1) us o,h.apart⟩
theorem Zi.neT {w:World} {base g T:Nat} {x:Track} {a:JQ} {vs:List Value} (h:Zi w base x a) (hg:Xy w g T vs) (h0:44≠T) (h1:70≠T):∀ c∈[a.spots,a.inputs],∀ p,c.A=some p→p.block≠g:=by
 intro c hc
 simp only [List.mem_cons,List.not_mem_nil,or_false] at hc
 rcases hc with rfl|rfl
 ·exact h.spots.typ hg h0
 ·exact h.inputs.typ hg h1
theorem Ko.otherT {w:World} {base g T:Nat} {x:Law} {a:LawA} {vs:List Value} (h:Ko w base x a) (hg:Xy w g T vs) (h0:171≠T) (us:List Value) (o:Nat):Ko (w.setCells g o us) base x a:=⟨h.lows.otherC (h.lows.typ hg h0) us o,h.highs.otherC (h.highs.typ hg h0) us o,h.apart⟩
theorem Ko.neT {w:World} {base g T:Nat} {x:Law} {a:LawA} {vs:List Value} (h:Ko w base x a) (hg:Xy w g T vs) (h0:171≠T):∀ c∈[a.lows,a.highs],∀ p,c.A=some p→p.block≠g:=by
 intro c hc
 simp only [List.mem_cons,List.not_mem_nil,or_false] at hc
 rcases hc with rfl|rfl
 ·exact h.lows.typ hg h0
 ·exact h.highs.typ hg h0
end Go.Proofs.YtkjimfapbjdafaaGreat
