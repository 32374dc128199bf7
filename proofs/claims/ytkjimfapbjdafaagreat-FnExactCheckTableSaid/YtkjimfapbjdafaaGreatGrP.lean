/-
 What the functions that mark results and look whether the marks are held return.
 Conditions: the slices hold at most 2^20 elements.
-/
import Derived.Test.YtkjimfapbjdafaaGreatGrN
import Derived.Test.YtkjimfapbjdafaaGreatGrD
import Derived.Test.YtkjimfapbjdafaaGreatGrX
namespace Go.Proofs.YtkjimfapbjdafaaGreat
open Go.RowKit
structure Y6 (w w':World) (L:List ZS):Prop where
 os:w'.os=w.os
 tape:w'.tape=w.tape
 output:w'.output=w.output
 size:w.heap.size<=w'.heap.size
 block:∀ k,k<w.heap.size->(∀ a∈L,∀ p,a.A=some p->p.block≠k)->w'.heap[k]? = w.heap[k]?
theorem Y6.refl (w:World) (L:List ZS):Y6 w w L:=⟨rfl,rfl,rfl,Nat.le_refl _,λ _ _ _=>rfl⟩
theorem Y6.trans {a b c:World} {L:List ZS} (h:Y6 a b L) (k:Y6 b c L):Y6 a c L :=
 ⟨k.os.trans h.os,k.tape.trans h.tape,k.output.trans h.output,Nat.le_trans h.size k.size,λ i hi hn=>(k.block i (Nat.lt_of_lt_of_le hi h.size) hn).trans (h.block i hi hn)⟩
theorem Y6.mono {a b:World} {L L':List ZS} (h:Y6 a b L) (hs:∀ x∈L,x∈L'):Y6 a b L' :=
 ⟨h.os,h.tape,h.output,h.size,λ i hi hn=>h.block i hi (λ x hx=>hn x (hs x hx))⟩
theorem Y6.below {a b:World} {L:List ZS} {B:Nat} (h:Y6 a b L) (hB:B<=a.heap.size) (hL:∀ x∈L,∀ p,x.A=some p->B<=p.block):Below B a b :=
 ⟨h.os,h.tape,h.output,h.size,λ i hi=>h.block i (Nat.lt_of_lt_of_le hi hB) (λ x hx p hp e=>by have:=hL x hx p hp;omega)⟩
theorem Y6.setCells {w:World} {g c:Nat}:∀ (vs:List Value) (o:Nat) (W:World),Y6 w W [⟨some ⟨g,0,none⟩,c⟩]->Y6 w (W.setCells g o vs) [⟨some ⟨g,0,none⟩,c⟩]
 | [],_,_,h=>h
 | v :: r,o,W,h=>Y6.setCells r (o+1) _ (h.trans ⟨rfl,rfl,rfl,by simp [World.setCell],λ k _ hk=>heap_setCell_other W ⟨g,o,none⟩ k v (λ e=>by
  have:=hk _ (List.mem_singleton.2 rfl) _ rfl;simp only [ne_eq] at this;first|exact this e|exact this e.symm)⟩)
theorem XY.lo {α:Type} {T sz base n c:Nat} {enc:α->List Value} {w:World} {A:Option Addr} {xs:List α} (h:XY T sz enc w base (.slice A n c) xs):∀ p,A=some p->base<=p.block:=λ p hp=>(h.blk p hp).1
theorem XY.same {α:Type} {T sz base n:Nat} {enc:α->List Value} {w:World} {v:Value} {xs:List α} (h:XY T sz enc w base v xs) (hl:xs.length=n):∃ A c,v=.slice A n c/\XY T sz enc w base (.slice A n c) xs:=by
 obtain ⟨A,c,rfl,ho⟩:=h;subst hl;exact ⟨A,c,rfl,A,c,rfl,ho⟩
theorem Y6.cell {w w':World} {L:List ZS} (h:Y6 w w' L) {g:Nat} (hg:g<w.heap.size) (hn:∀ a∈L,∀ p,a.A=some p->p.block≠g):∀ o,w'.cell? ⟨g,o,none⟩=w.cell? ⟨g,o,none⟩ :=
 λ o=>World.cell?_of_block (w:=w) (a:=⟨g,o,none⟩) (h.block g hg hn)
theorem Blk.lo {lo hi B:Nat} {a:ZS} (h:Blk lo hi a) (hB:B<=lo):∀ p,a.A=some p->B<=p.block:=λ p hp=>by have:=h p hp;omega
theorem all1 {α:Type} {P:α->Prop} {a:α} (h:P a):∀ x∈[a],P x:=λ x hx=>by rw [List.mem_singleton.1 hx];exact h
def Kv (k:Int) (n:Nat):List Int:=(List.range n).map λ(i:Nat)=>k+i
structure RoomMk (w:World) (x:XT) (a:Yq) (K:Int):Prop where
 map:Sl 1 YQ w a.map.A (Kv K x.map.length)
 noise:Sl 3 Xr w a.noise.A (KX (K+x.map.length) x.noise.length)
 limits:Sl 3 Xr w a.limits.A (KX (K+x.map.length+x.noise.length*3) x.limits.length)
theorem RoomMk.below {w w':World} {x:XT} {a:Yq} {K:Int} (h:RoomMk w x a K) (hb:Below w.heap.size w w'):RoomMk w' x a K:=⟨h.map.below hb,h.noise.below hb,h.limits.below hb⟩
def BlkL (lo hi:Nat) (L:List ZS):Prop:=∀ a∈L,Blk lo hi a
theorem BlkL.ne {lo hi g:Nat} {L:List ZS} (h:BlkL lo hi L) (hg:g<lo∨hi<=g):∀ a∈L,∀ p,a.A=some p->p.block≠g:=by
 intro a ha p hp;have:=h a ha p hp;omega
theorem BlkL.lo {lo hi B:Nat} {L:List ZS} (h:BlkL lo hi L) (hB:B<=lo):∀ a∈L,∀ p,a.A=some p->B<=p.block:=by
 intro a ha p hp;have:=h a ha p hp;omega
theorem BlkL.apart {lo hi lo' hi':Nat} {L L':List ZS} (h:BlkL lo hi L) (h':BlkL lo' hi' L') (hle:hi<=lo'∨hi'<=lo):∀ a∈L,∀ b∈L',Jc a b:=by
 intro a ha b hb p q hp hq e;have:=h a ha p hp;have:=h' b hb q hq;omega
theorem BlkL.mono {lo hi lo' hi':Nat} {L:List ZS} (h:BlkL lo hi L) (h1:lo'<=lo) (h2:hi<=hi'):BlkL lo' hi' L:=by
 intro a ha p hp;have:=h a ha p hp;omega
theorem XY.blkL {α:Type} {T sz base n c:Nat} {enc:α->List Value} {w:World} {A:Option Addr} {xs:List α} (h:XY T sz enc w base (.slice A n c) xs):BlkL base w.heap.size [⟨A,c⟩]:=all1 h.blk
theorem XK.blkL {w:World} {base:Nat} {x:List Half} {a:ZS} (h:XK w base x a):BlkL base w.heap.size [a]:=all1 h.blk
theorem X1.blkL {w:World} {base:Nat} {x:XT} {a:Yq} (h:X1 w base x a):BlkL base w.heap.size [a.map,a.noise,a.limits]:=by
 intro b hb;simp only [List.mem_cons,List.not_mem_nil,or_false] at hb;obtain ⟨h0,h1,h2⟩:=h.blk;rcases hb with rfl|rfl|rfl<;>assumption
theorem Zh.blkL {w:World} {base:Nat} {x:Watch} {a:WatchA} (h:Zh w base x a):BlkL base w.heap.size [a.room.map,a.room.noise,a.room.limits,a.reg,a.log]:=by
 intro b hb;simp only [List.mem_cons,List.not_mem_nil,or_false] at hb;obtain ⟨h0,h1,h2,h3,h4⟩:=h.blk;rcases hb with rfl|rfl|rfl|rfl|rfl<;>assumption
theorem Zi.blkL {w:World} {base:Nat} {x:Track} {a:TrackA} (h:Zi w base x a):BlkL base w.heap.size [a.spots,a.inputs]:=by
 intro b hb;simp only [List.mem_cons,List.not_mem_nil,or_false] at hb;obtain ⟨h0,h1⟩:=h.blk;rcases hb with rfl|rfl<;>assumption
theorem Kn.blkL {w:World} {base:Nat} {x:Law} {a:LawA} (h:Kn w base x a):BlkL base w.heap.size [a.lows,a.highs]:=by
 intro b hb;simp only [List.mem_cons,List.not_mem_nil,or_false] at hb;obtain ⟨h0,h1⟩:=h.blk;rcases hb with rfl|rfl<;>assumption
theorem red3 {a b c:Int} (h:0<Xs [a,b,c]):Xs [a.tdiv (Xs [a,b,c]),b.tdiv (Xs [a,b,c]),c.tdiv (Xs [a,b,c])]=1:=by
 have e:=gcd3 a b c;rw [gcd3 (a.tdiv _)];simp only [natAbs_tdiv];generalize Xs [a,b,c]=g at *;have d1:g ∣ a.natAbs:=by rw [e];exact Nat.dvd_trans (Nat.gcd_dvd_left _ _) (Nat.gcd_dvd_left _ _)
 have d2:g ∣ b.natAbs:=by rw [e];exact Nat.dvd_trans (Nat.gcd_dvd_left _ _) (Nat.gcd_dvd_right _ _)
 have d3:g ∣ c.natAbs:=by rw [e];exact Nat.gcd_dvd_right _ _
 rw [Nat.gcd_div d1 d2,Nat.gcd_div (Nat.dvd_gcd d1 d2) d3,<- e];exact Nat.div_self h
theorem XK.otherT {w:World} {base g T:Nat} {x:List Half} {a:ZS} {vs:List Value} (h:XK w base x a) (hg:Xz w g T vs) (h0:175≠T) (us:List Value) (o:Nat):XK (w.setCells g o us) base x a:=⟨h.halves.otherC (h.halves.typ hg h0) us o⟩
theorem X1.otherT {w:World} {base g T:Nat} {x:XT} {a:Yq} {vs:List Value} (h:X1 w base x a) (hg:Xz w g T vs) (h0:3≠T) (h1:175≠T) (us:List Value) (o:Nat):X1 (w.setCells g o us) base x a:=⟨h.map.otherC (h.map.typ hg h0) us o,h.noise.otherT hg h1 us o,h.limits.otherT hg h1 us o,h.apart⟩
theorem Zh.otherT {w:World} {base g T:Nat} {x:Watch} {a:WatchA} {vs:List Value} (h:Zh w base x a) (hg:Xz w g T vs) (h0:3≠T) (h1:175≠T) (us:List Value) (o:Nat):Zh (w.setCells g o us) base x a:=⟨h.room.otherT hg h0 h1 us o,h.reg.otherT hg h1 us o,h.log.otherC (h.log.typ hg h0) us o,h.apart⟩
theorem Zi.otherT {w:World} {base g T:Nat} {x:Track} {a:TrackA} {vs:List Value} (h:Zi w base x a) (hg:Xz w g T vs) (h0:44≠T) (h1:70≠T) (us:List Value) (o:Nat):Zi (w.setCells g o us) base x a:=⟨h.spots.otherC (h.spots.typ hg h0) us o,h.inputs.otherC (h.inputs.typ hg h1) us o,h.apart⟩
theorem Kn.otherT {w:World} {base g T:Nat} {x:Law} {a:LawA} {vs:List Value} (h:Kn w base x a) (hg:Xz w g T vs) (h0:171≠T) (us:List Value) (o:Nat):Kn (w.setCells g o us) base x a:=⟨h.lows.otherC (h.lows.typ hg h0) us o,h.highs.otherC (h.highs.typ hg h0) us o,h.apart⟩
end Go.Proofs.YtkjimfapbjdafaaGreat
