/-
 The inputs that a region admits. No program is named here.
 Conditions: none.
-/
import Derived.Test.YtabfdkpdppemaaaGreatGrZ
import Derived.Test.YtabfdkpdppemaaaGreatGrXc
import Derived.Test.YtabfdkpdppemaaaGreatGrU
namespace Go.Proofs.YtabfdkpdppemaaaGreat
open Go.RowKit
structure RoomB (r:XH):Prop where
 len:r.map.length=4
 m:∀ i,-20<=r.map.getD i 0/\r.map.getD i 0<=20
 div:1<=r.div/\r.div<=20
 bx : -100<=r.bx/\r.bx<=100
 by_ : -100<=r.by_/\r.by_<=100
 low : -1000<=r.low/\r.low<=1000
 high:r.low<=r.high/\r.high<=1000
theorem roomB {r:XH} (h:XT r=true):RoomB r:=by
 simp only [XT,J5,Bool.and_eq_true] at h;obtain ⟨⟨⟨⟨⟨⟨⟨⟨h1,_⟩,h2⟩,h3⟩,h4,h5⟩,_⟩,_⟩,_⟩,_⟩:=h;have hq:=h1;simp only [J0,Bool.and_eq_true] at hq;obtain ⟨a,b,c,d,e,ha,hb,hc,hd⟩:=map_four h1;refine ⟨by rw [e];rfl,λ i=>?_,XY.1 hq.1.2,XY.1 h2,XY.1 h3,XY.1 h4,XY.1 h5⟩;rw [e];match i with
 | 0=>simpa using ha
 | 1=>simpa using hb
 | 2=>simpa using hc
 | 3=>simpa using hd
 | _+4=>simp
theorem sh_ok {s:Xz} {dx dy:Int} {k:Nat} {t:Xz} (h:sh s dx dy k=some t):XA t=true:=by
 have key:∀ a b,Zn s a b=some t->XA t=true:=by
  intro a b h;unfold Zn at h;split at h
  ·unfold Yq at h;split at h
   ·cases h
   split at h
   ·rename_i h2
    cases h;exact h2
   ·cases h
  ·cases h
 unfold sh at h;split at h<;>exact key _ _ h
theorem shs_ok4 {s:Xz} {dx dy:Int}:∀ (k:Nat) (l:List Xz),shs s dx dy k=some l->l.length=k/\∀ t∈l,XA t=true
 | 0,l,h=>by cases h;exact ⟨rfl,λ t ht=>by cases ht⟩
 | k+1,l,h=>by
  rw [shs] at h;split at h
  ·rename_i l' t h1 h2
   cases h;obtain ⟨e1,e2⟩:=shs_ok4 k l' h1;refine ⟨by simp [e1],λ u hu=>?_⟩;rcases List.mem_append.1 hu with hu|hu
   ·exact e2 u hu
   ·rw [List.mem_singleton.1 hu];exact sh_ok h2
  ·cases h
theorem poss_ok4 {s:Xz} {dx dy:Int} {l:List Xz} (h:Xa s dx dy=some l):l.length=4/\∀ t∈l,XA t=true:=by
 unfold Xa at h;split at h
 ·exact shs_ok4 4 l h
 ·cases h
theorem possG {s:Xz} {dx dy:Int} (h:(Xa s dx dy).isSome=true):((Xa s dx dy).getD []).length=4/\∀ t∈(Xa s dx dy).getD [],XA t=true:=by
 obtain ⟨l,hl⟩:=Option.isSome_iff_exists.1 h;rw [hl];exact poss_ok4 hl
theorem spotIn {s:Xz} (h:XA s=true):s.In:=by
 obtain ⟨h1,h2,h3,_⟩:=ZQ.1 h;exact ⟨⟨by omega,by omega⟩,⟨by omega,by omega⟩,⟨by omega,by omega⟩⟩
def ratFloor (r:Y3):Int:=if Xy r=true then r.n / r.d else 0
def ratCeil (r:Y3):Int:=if Xy r=true then -(-r.n / r.d) else 0
def clampW (wish:Int):Int:=max (-1000) (min 1000 wish)
def pick (v:YT) (wish:Int):Y3 :=
 if XQ v=true then
  (if XK ⟨clampW wish,1⟩ v.low<0 then (if XK ⟨ratCeil v.low,1⟩ v.high<=0 then ⟨ratCeil v.low,1⟩ else v.low)
  else if XK ⟨clampW wish,1⟩ v.high > 0 then (if XK ⟨ratFloor v.high,1⟩ v.low ≥ 0 then ⟨ratFloor v.high,1⟩ else v.high)
  else ⟨clampW wish,1⟩)
 else ZS
section
variable {v:YT} {wish:Int} (h:XQ v=true)
include h
end
def blkL (A:Option Addr):List Nat:=match A with|some p=>[p.block]|none=>[]
theorem blkL_nin {A:Option Addr} {g:Nat} (h:∀ p,A=some p->p.block≠g):g ∉ blkL A:=by
 cases A with
 | none=>simp [blkL]
 | some p=>simp only [blkL,List.mem_singleton];exact λ e=>h p rfl e.symm
theorem blkL_in {A:Option Addr} {m:Nat} (h:m∈blkL A):∃ p,A=some p/\p.block=m:=by
 cases A with
 | none=>simp [blkL] at h
 | some p=>simp only [blkL,List.mem_singleton] at h;exact ⟨p,rfl,h.symm⟩
theorem Kp.grown {w w':World} {A:Option Addr} {n c:Nat} (hg:w.grownBy w' (Value.slice A n c).ownBlock):Kp (blkL A) w w':=by
 refine ⟨⟨hg.os,hg.tape,hg.output,hg.size,λ k hk=>absurd hk (Nat.not_lt_zero _)⟩,λ g hlt hm=>hg.block g hlt ?_⟩;cases A with
 | none=>intro e;cases e
 | some p =>
  intro e;injection e with e
  exact hm (by rw [e];simp [blkL])
theorem Kp.trans2 {M M':List Nat} {a w w':World} (h:Kp M a w) (k:Kp M' w w') (hm:∀ m∈M',m∈M∨a.heap.size<=m):Kp M a w' :=
 ⟨h.base.trans k.base,λ g hg hn=>(k.block g (Nat.lt_of_lt_of_le hg h.size) (λ q=>by rcases hm g q with r|r;exact hn r;omega)).trans (h.block g hg hn)⟩
theorem XI.nilN {α:Type} (T sz:Nat) (enc:α->List Value) (w:World) (base:Nat):XI T sz enc w base (.slice none ([]:List α).length 0) ([]:List α):=⟨none,0,rfl,World.ownsRow_nil _ _ _ _⟩
theorem one_slT {α:Type} {sz:Nat} {enc:α->List Value} {w:World} {g T:Nat} {y:α} (h:Xr w g T (enc y)):Sl sz enc w (some ⟨g,0,none⟩) [y]:=by
 intro _;refine ⟨g,0,rfl,h.lt,λ i hi j u hu=>?_⟩;obtain rfl:i=0:=by simp at hi;omega
 simp only [List.getElem_cons_zero] at hu;rw [show (0+0*sz+j)=j by omega,h.cell j];exact hu
structure PulW (w:World) (gm gq:Nat) (M:Option Addr) (cm:Nat) (m:List Int) (d:Int):Prop where
 bm:Xr w gm 23 [.slice M m.length cm]
 bq:Xr w gq 3 [.int .i64 d]
 sl:Sl 1 JA w M m
theorem PulW.below {w w':World} {gm gq:Nat} {M:Option Addr} {cm:Nat} {m:List Int} {d:Int} (h:PulW w gm gq M cm m d) (hb:Below w.heap.size w w'):PulW w' gm gq M cm m d:=⟨h.bm.bel hb,h.bq.bel hb,h.sl.below hb⟩
theorem PulW.alloc {w:World} {gm gq:Nat} {M:Option Addr} {cm:Nat} {m:List Int} {d:Int} (h:PulW w gm gq M cm m d) (o:Obj):PulW (w.alloc o) gm gq M cm m d:=h.below (Xc bR o)
theorem X5.otherT {w:World} {base g T:Nat} {x:List Half} {a:Kd} {vs:List Value} (h:X5 w base x a) (hg:Xr w g T vs) (h0:174≠T) (us:List Value) (o:Nat):X5 (w.setCells g o us) base x a:=⟨h.halves.otherC (h.halves.typ hg h0) us o⟩
theorem Yb.otherT {w:World} {base g T:Nat} {x:XH} {a:Y7} {vs:List Value} (h:Yb w base x a) (hg:Xr w g T vs) (h0:3≠T) (h1:174≠T) (us:List Value) (o:Nat):Yb (w.setCells g o us) base x a:=⟨h.map.otherC (h.map.typ hg h0) us o,h.noise.otherT hg h1 us o,h.limits.otherT hg h1 us o,h.apart⟩
theorem Zc.otherT {w:World} {base g T:Nat} {x:Watch} {a:WatchA} {vs:List Value} (h:Zc w base x a) (hg:Xr w g T vs) (h0:3≠T) (h1:174≠T) (us:List Value) (o:Nat):Zc (w.setCells g o us) base x a:=⟨h.room.otherT hg h0 h1 us o,h.reg.otherT hg h1 us o,h.log.otherC (h.log.typ hg h0) us o,h.apart⟩
theorem Zd.otherT {w:World} {base g T:Nat} {x:Track} {a:TrackA} {vs:List Value} (h:Zd w base x a) (hg:Xr w g T vs) (h0:30≠T) (h1:36≠T) (us:List Value) (o:Nat):Zd (w.setCells g o us) base x a:=⟨h.spots.otherC (h.spots.typ hg h0) us o,h.inputs.otherC (h.inputs.typ hg h1) us o,h.apart⟩
theorem ZK.otherT {w:World} {base g T:Nat} {x:Law} {a:LawA} {vs:List Value} (h:ZK w base x a) (hg:Xr w g T vs) (h0:109≠T) (us:List Value) (o:Nat):ZK (w.setCells g o us) base x a:=⟨h.lows.otherC (h.lows.typ hg h0) us o,h.highs.otherC (h.highs.typ hg h0) us o,h.apart⟩
structure LawMk (w:World) (x:Law) (a:LawA) (K:Int):Prop where
 lows:Sl 4 pieceC w a.lows.A (markPieces K x.lows.length)
 highs:Sl 4 pieceC w a.highs.A (markPieces (K+x.lows.length*4) x.highs.length)
theorem LawMk.below {w w':World} {x:Law} {a:LawA} {K:Int} (h:LawMk w x a K) (hb:Below w.heap.size w w'):LawMk w' x a K:=⟨h.lows.below hb,h.highs.below hb⟩
def blkLs (L:List Kd):List Nat:=L.flatMap λ a=>blkL a.A
theorem blkLs_in {L:List Kd} {m:Nat} (h:m∈blkLs L):∃ a∈L,∃ p,a.A=some p/\p.block=m:=by
 obtain ⟨a,ha,hm⟩:=List.mem_flatMap.1 h;obtain ⟨p,hp,e⟩:=blkL_in hm;exact ⟨a,ha,p,hp,e⟩
theorem blkLs_mem {L:List Kd} {a:Kd} {p:Addr} (ha:a∈L) (hp:a.A=some p):p.block∈blkLs L :=
 List.mem_flatMap.2 ⟨a,ha,by rw [hp];simp [blkL]⟩
theorem blkLs_nin {L:List Kd} {g:Nat} (h:∀ a∈L,∀ p,a.A=some p->p.block≠g):g ∉ blkLs L:=by
 intro hm;obtain ⟨a,ha,p,hp,e⟩:=blkLs_in hm;exact h a ha p hp e
theorem Zs.kp {L:List Kd} {w w':World} (h:Zs w w' L):Kp (blkLs L) w w' :=
 ⟨⟨h.os,h.tape,h.output,h.size,λ k hk=>absurd hk (Nat.not_lt_zero _)⟩,λ g hg hm=>h.block g hg (λ a ha p hp e=>hm (by rw [<- e];exact blkLs_mem ha hp))⟩
theorem Kp.only {L:List Kd} {w w':World} (h:Kp (blkLs L) w w'):Zs w w' L :=
 ⟨h.base.os,h.base.tape,h.base.output,h.base.size,λ k hk hn=>h.block k hk (blkLs_nin hn)⟩
end Go.Proofs.YtabfdkpdppemaaaGreat
