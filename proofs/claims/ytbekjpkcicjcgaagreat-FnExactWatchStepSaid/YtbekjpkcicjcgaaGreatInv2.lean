/-
 What was made stays, beside a box of another type that is written.
 Conditions: none.
-/
import Derived.Test.YtbekjpkcicjcgaaGreatV1
namespace Go.Proofs.YtbekjpkcicjcgaaGreat
open Go.RowKit
theorem XK.otherT {w:World} {base g T:Nat} {x:List Half} {a:Zi} {vs:List Value} (h:XK w base x a) (hg:Xz w g T vs) (h0:136≠T) (us:List Value) (o:Nat):XK (w.setCells g o us) base x a:=⟨h.halves.otherC (h.halves.typ hg h0) us o⟩
theorem XK.neT {w:World} {base g T:Nat} {x:List Half} {a:Zi} {vs:List Value} (h:XK w base x a) (hg:Xz w g T vs) (h0:136≠T):∀ c∈[a],∀ p,c.A=some p->p.block≠g:=by
 intro c hc;simp only [List.mem_cons,List.not_mem_nil,or_false] at hc;subst hc;exact h.halves.typ hg h0
theorem Yr.otherT {w:World} {base g T:Nat} {x:XU} {a:Yn} {vs:List Value} (h:Yr w base x a) (hg:Xz w g T vs) (h0:3≠T) (h1:136≠T) (us:List Value) (o:Nat):Yr (w.setCells g o us) base x a:=⟨h.map.otherC (h.map.typ hg h0) us o,h.noise.otherT hg h1 us o,h.limits.otherT hg h1 us o,h.apart⟩
theorem Yr.neT {w:World} {base g T:Nat} {x:XU} {a:Yn} {vs:List Value} (h:Yr w base x a) (hg:Xz w g T vs) (h0:3≠T) (h1:136≠T):∀ c∈[a.map,a.noise,a.limits],∀ p,c.A=some p->p.block≠g:=by
 intro c hc;simp only [List.mem_cons,List.not_mem_nil,or_false] at hc;rcases hc with rfl|rfl|rfl
 ·exact h.map.typ hg h0
 ·exact h.noise.halves.typ hg h1
 ·exact h.limits.halves.typ hg h1
theorem XA.otherT {w:World} {base g T:Nat} {x:ZE} {a:ZF} {vs:List Value} (h:XA w base x a) (hg:Xz w g T vs) (h0:3≠T) (h1:136≠T) (us:List Value) (o:Nat):XA (w.setCells g o us) base x a:=⟨h.room.otherT hg h0 h1 us o,h.reg.otherT hg h1 us o,h.log.otherC (h.log.typ hg h0) us o,h.apart⟩
theorem XA.neT {w:World} {base g T:Nat} {x:ZE} {a:ZF} {vs:List Value} (h:XA w base x a) (hg:Xz w g T vs) (h0:3≠T) (h1:136≠T):∀ c∈[a.room.map,a.room.noise,a.room.limits,a.reg,a.log],∀ p,c.A=some p->p.block≠g:=by
 intro c hc;simp only [List.mem_cons,List.not_mem_nil,or_false] at hc;rcases hc with rfl|rfl|rfl|rfl|rfl
 ·exact h.room.map.typ hg h0
 ·exact h.room.noise.halves.typ hg h1
 ·exact h.room.limits.halves.typ hg h1
 ·exact h.reg.halves.typ hg h1
 ·exact h.log.typ hg h0
theorem Y3.otherT {w:World} {base g T:Nat} {x:Track} {a:JS} {vs:List Value} (h:Y3 w base x a) (hg:Xz w g T vs) (h0:30≠T) (h1:46≠T) (us:List Value) (o:Nat):Y3 (w.setCells g o us) base x a:=⟨h.spots.otherC (h.spots.typ hg h0) us o,h.inputs.otherC (h.inputs.typ hg h1) us o,h.apart⟩
theorem Y3.neT {w:World} {base g T:Nat} {x:Track} {a:JS} {vs:List Value} (h:Y3 w base x a) (hg:Xz w g T vs) (h0:30≠T) (h1:46≠T):∀ c∈[a.spots,a.inputs],∀ p,c.A=some p->p.block≠g:=by
 intro c hc;simp only [List.mem_cons,List.not_mem_nil,or_false] at hc;rcases hc with rfl|rfl
 ·exact h.spots.typ hg h0
 ·exact h.inputs.typ hg h1
theorem span0_In:XF.In:=by
 have h:Yy 0:=⟨Dz,Dz⟩;exact ⟨⟨h,h⟩,⟨h,h⟩⟩
theorem optIn {x:Option K4} (h:∀ v,x=some v->XQ v=true):(x.getD XF).In:=by
 cases x with
 | none=>exact span0_In
 | some v=>exact span_In (h v rfl)
theorem admAt_ok {r:XU} {p:List Half} {s:X9} {v:K4} (h:XH r p s=some v):XQ v=true:=by
 unfold XH at h;split at h
 ·exact admit_spanOk h
 ·cases h
def ratFloor (r:Yk):Int:=if Xn r=true then r.n / r.d else 0
def ratCeil (r:Yk):Int:=if Xn r=true then -(-r.n / r.d) else 0
def Jp (w:K4) (u:Yk):Bool:=XQ w&&Xn u&&decide (Xp w.low u<=0)&&decide (Xp u w.high<=0)
def clampW (wish:Int):Int:=max (-1000) (min 1000 wish)
def pick (v:K4) (wish:Int):Yk :=
 if XQ v=true then
  (if Xp ⟨clampW wish,1⟩ v.low<0 then (if Xp ⟨ratCeil v.low,1⟩ v.high<=0 then ⟨ratCeil v.low,1⟩ else v.low)
  else if Xp ⟨clampW wish,1⟩ v.high > 0 then (if Xp ⟨ratFloor v.high,1⟩ v.low ≥ 0 then ⟨ratFloor v.high,1⟩ else v.high)
  else ⟨clampW wish,1⟩)
 else Y7
section
variable {v:K4} {wish:Int} (h:XQ v=true)
include h
end
def blkLs (L:List Zi):List Nat:=L.flatMap λ a=>blkL a.A
theorem blkLs_in {L:List Zi} {m:Nat} (h:m∈blkLs L):∃ a∈L,∃ p,a.A=some p/\p.block=m:=by
 obtain ⟨a,ha,hm⟩:=List.mem_flatMap.1 h;obtain ⟨p,hp,e⟩:=blkL_in hm;exact ⟨a,ha,p,hp,e⟩
theorem blkLs_mem {L:List Zi} {a:Zi} {p:Addr} (ha:a∈L) (hp:a.A=some p):p.block∈blkLs L :=
 List.mem_flatMap.2 ⟨a,ha,by rw [hp];simp [blkL]⟩
theorem ZB {L:List Zi} {g:Nat} (h:∀ a∈L,∀ p,a.A=some p->p.block≠g):g ∉ blkLs L:=by
 intro hm;obtain ⟨a,ha,p,hp,e⟩:=blkLs_in hm;exact h a ha p hp e
theorem blkLs_lo {L:List Zi} {B:Nat} (h:∀ a∈L,∀ p,a.A=some p->B<=p.block):∀ m∈blkLs L,B<=m:=by
 intro m hm;obtain ⟨a,ha,p,hp,rfl⟩:=blkLs_in hm;exact h a ha p hp
theorem Y4.kp {L:List Zi} {w w':World} (h:Y4 w w' L):Kp (blkLs L) w w' :=
 ⟨⟨h.os,h.tape,h.output,h.size,λ k hk=>absurd hk (Nat.not_lt_zero _)⟩,λ g hg hm=>h.block g hg (λ a ha p hp e=>hm (by rw [<- e];exact blkLs_mem ha hp))⟩
theorem Kp.only {L:List Zi} {w w':World} (h:Kp (blkLs L) w w'):Y4 w w' L :=
 ⟨h.base.os,h.base.tape,h.base.output,h.base.size,λ k hk hn=>h.block k hk (ZB hn)⟩
end Go.Proofs.YtbekjpkcicjcgaaGreat
