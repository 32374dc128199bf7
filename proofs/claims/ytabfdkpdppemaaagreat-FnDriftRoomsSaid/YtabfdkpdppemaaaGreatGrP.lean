/-
 What the functions that mark results and look whether the marks are held return.
 Conditions: the slices hold at most 2^20 elements.
-/
import Derived.Test.YtabfdkpdppemaaaGreatGrN
namespace Go.Proofs.YtabfdkpdppemaaaGreat
open Go.RowKit
structure Zs (w w':World) (L:List Kd):Prop where
 os:w'.os=w.os
 tape:w'.tape=w.tape
 output:w'.output=w.output
 size:w.heap.size<=w'.heap.size
 block:∀ k,k<w.heap.size->(∀ a∈L,∀ p,a.A=some p->p.block≠k)->w'.heap[k]? = w.heap[k]?
theorem Zs.refl (w:World) (L:List Kd):Zs w w L:=⟨rfl,rfl,rfl,Nat.le_refl _,λ _ _ _=>rfl⟩
theorem Zs.trans {a b c:World} {L:List Kd} (h:Zs a b L) (k:Zs b c L):Zs a c L :=
 ⟨k.os.trans h.os,k.tape.trans h.tape,k.output.trans h.output,Nat.le_trans h.size k.size,λ i hi hn=>(k.block i (Nat.lt_of_lt_of_le hi h.size) hn).trans (h.block i hi hn)⟩
theorem Zs.mono {a b:World} {L L':List Kd} (h:Zs a b L) (hs:∀ x∈L,x∈L'):Zs a b L' :=
 ⟨h.os,h.tape,h.output,h.size,λ i hi hn=>h.block i hi (λ x hx=>hn x (hs x hx))⟩
theorem Zs.of_below {a b:World} (h:Below a.heap.size a b) (L:List Kd):Zs a b L:=⟨h.os,h.tape,h.output,h.size,λ i hi _=>h.block i hi⟩
theorem Zs.below {a b:World} {L:List Kd} {B:Nat} (h:Zs a b L) (hB:B<=a.heap.size) (hL:∀ x∈L,∀ p,x.A=some p->B<=p.block):Below B a b :=
 ⟨h.os,h.tape,h.output,h.size,λ i hi=>h.block i (Nat.lt_of_lt_of_le hi hB) (λ x hx p hp e=>by have:=hL x hx p hp;omega)⟩
theorem Zs.setCells {w:World} {g c:Nat}:∀ (vs:List Value) (o:Nat) (W:World),Zs w W [⟨some ⟨g,0,none⟩,c⟩]->Zs w (W.setCells g o vs) [⟨some ⟨g,0,none⟩,c⟩]
 | [],_,_,h=>h
 | v :: r,o,W,h=>Zs.setCells r (o+1) _ (h.trans ⟨rfl,rfl,rfl,by simp [World.setCell],λ k _ hk=>heap_setCell_other W ⟨g,o,none⟩ k v (λ e=>by
  have:=hk _ (List.mem_singleton.2 rfl) _ rfl;simp only [ne_eq] at this;first|exact this e|exact this e.symm)⟩)
theorem XI.far {α:Type} {T sz base n c:Nat} {enc:α->List Value} {w w':World} {A:Option Addr} {xs:List α} {L:List Kd} (h:XI T sz enc w base (.slice A n c) xs) (ho:Zs w w' L) (ha:∀ b∈L,Z4 ⟨A,c⟩ b):XI T sz enc w' base (.slice A n c) xs:=by
 obtain ⟨A',c',e,h1,h2⟩:=h;refine ⟨A',c',e,h1, ?_⟩;rcases h2 with h2|⟨g,cap',cur,hv,hg,hh,r⟩
 ·exact .inl h2
 ·refine .inr ⟨g,cap',cur,hv,hg,(ho.block g (XF hh) (λ b hb p hp=>?_)).trans hh,r⟩;injection hv with hv _ _
  injection e with e _ _
  exact λ e2=>ha b hb ⟨g,0,none⟩ p hv hp e2.symm
theorem XI.lo {α:Type} {T sz base n c:Nat} {enc:α->List Value} {w:World} {A:Option Addr} {xs:List α} (h:XI T sz enc w base (.slice A n c) xs):∀ p,A=some p->base<=p.block:=λ p hp=>(h.blk p hp).1
theorem XR.far {w w':World} {g:Nat} {vs:List Value} {L:List Kd} (h:XR w g vs) (ho:Zs w w' L) (hn:∀ a∈L,∀ p,a.A=some p->p.block≠g):XR w' g vs:=by
 have hb:=ho.block g h.1 hn;refine ⟨Nat.lt_of_lt_of_le h.1 ho.size,λ j u hu=>?_⟩;have h2:=h.2 j u hu;exact ⟨(World.cell?_of_block (w:=w) hb).trans h2.1,(World.frozen?_of_block (w:=w) hb).trans h2.2⟩
theorem Sl.far {α:Type} {sz c:Nat} {enc:α->List Value} {w w':World} {A:Option Addr} {xs:List α} {L:List Kd} (h:Sl sz enc w A xs) (ho:Zs w w' L) (ha:∀ b∈L,Z4 ⟨A,c⟩ b):Sl sz enc w' A xs:=by
 intro hn;obtain ⟨b,off,rfl,hlt,hc⟩:=h hn;refine ⟨b,off,rfl,Nat.lt_of_lt_of_le hlt ho.size,λ i hi j u hu=>?_⟩;exact (World.cell?_of_block (w:=w) (a:=⟨b,off+i*sz+j,none⟩) (ho.block b hlt (λ x hx p hp e=>ha x hx ⟨b,off,none⟩ p rfl hp e.symm))).trans (hc i hi j u hu)
theorem XI.same {α:Type} {T sz base n:Nat} {enc:α->List Value} {w:World} {v:Value} {xs:List α} (h:XI T sz enc w base v xs) (hl:xs.length=n):∃ A c,v=.slice A n c/\XI T sz enc w base (.slice A n c) xs:=by
 obtain ⟨A,c,rfl,ho⟩:=h;subst hl;exact ⟨A,c,rfl,A,c,rfl,ho⟩
theorem Zs.cell {w w':World} {L:List Kd} (h:Zs w w' L) {g:Nat} (hg:g<w.heap.size) (hn:∀ a∈L,∀ p,a.A=some p->p.block≠g):∀ o,w'.cell? ⟨g,o,none⟩=w.cell? ⟨g,o,none⟩ :=
 λ o=>World.cell?_of_block (w:=w) (a:=⟨g,o,none⟩) (h.block g hg hn)
theorem Blk.lo {lo hi B:Nat} {a:Kd} (h:Blk lo hi a) (hB:B<=lo):∀ p,a.A=some p->B<=p.block:=λ p hp=>by have:=h p hp;omega
theorem all1 {α:Type} {P:α->Prop} {a:α} (h:P a):∀ x∈[a],P x:=λ x hx=>by rw [List.mem_singleton.1 hx];exact h
def markInts (k:Int) (n:Nat):List Int:=(List.range n).map λ(i:Nat)=>k+i
structure RoomMk (w:World) (x:XH) (a:Y7) (K:Int):Prop where
 map:Sl 1 JA w a.map.A (markInts K x.map.length)
 noise:Sl 3 Xh w a.noise.A (markHalfs (K+x.map.length) x.noise.length)
 limits:Sl 3 Xh w a.limits.A (markHalfs (K+x.map.length+x.noise.length*3) x.limits.length)
theorem RoomMk.below {w w':World} {x:XH} {a:Y7} {K:Int} (h:RoomMk w x a K) (hb:Below w.heap.size w w'):RoomMk w' x a K:=⟨h.map.below hb,h.noise.below hb,h.limits.below hb⟩
def BlkL (lo hi:Nat) (L:List Kd):Prop:=∀ a∈L,Blk lo hi a
theorem BlkL.ne {lo hi g:Nat} {L:List Kd} (h:BlkL lo hi L) (hg:g<lo∨hi<=g):∀ a∈L,∀ p,a.A=some p->p.block≠g:=by
 intro a ha p hp;have:=h a ha p hp;omega
theorem BlkL.lo {lo hi B:Nat} {L:List Kd} (h:BlkL lo hi L) (hB:B<=lo):∀ a∈L,∀ p,a.A=some p->B<=p.block:=by
 intro a ha p hp;have:=h a ha p hp;omega
theorem BlkL.apart {lo hi lo' hi':Nat} {L L':List Kd} (h:BlkL lo hi L) (h':BlkL lo' hi' L') (hle:hi<=lo'∨hi'<=lo):∀ a∈L,∀ b∈L',Z4 a b:=by
 intro a ha b hb p q hp hq e;have:=h a ha p hp;have:=h' b hb q hq;omega
theorem BlkL.mono {lo hi lo' hi':Nat} {L:List Kd} (h:BlkL lo hi L) (h1:lo'<=lo) (h2:hi<=hi'):BlkL lo' hi' L:=by
 intro a ha p hp;have:=h a ha p hp;omega
theorem XI.blkL {α:Type} {T sz base n c:Nat} {enc:α->List Value} {w:World} {A:Option Addr} {xs:List α} (h:XI T sz enc w base (.slice A n c) xs):BlkL base w.heap.size [⟨A,c⟩]:=all1 h.blk
theorem X5.blkL {w:World} {base:Nat} {x:List Half} {a:Kd} (h:X5 w base x a):BlkL base w.heap.size [a]:=all1 h.blk
theorem Yb.blkL {w:World} {base:Nat} {x:XH} {a:Y7} (h:Yb w base x a):BlkL base w.heap.size [a.map,a.noise,a.limits]:=by
 intro b hb;simp only [List.mem_cons,List.not_mem_nil,or_false] at hb;obtain ⟨h0,h1,h2⟩:=h.blk;rcases hb with rfl|rfl|rfl<;>assumption
theorem Zc.blkL {w:World} {base:Nat} {x:Watch} {a:WatchA} (h:Zc w base x a):BlkL base w.heap.size [a.room.map,a.room.noise,a.room.limits,a.reg,a.log]:=by
 intro b hb;simp only [List.mem_cons,List.not_mem_nil,or_false] at hb;obtain ⟨h0,h1,h2,h3,h4⟩:=h.blk;rcases hb with rfl|rfl|rfl|rfl|rfl<;>assumption
theorem Zd.blkL {w:World} {base:Nat} {x:Track} {a:TrackA} (h:Zd w base x a):BlkL base w.heap.size [a.spots,a.inputs]:=by
 intro b hb;simp only [List.mem_cons,List.not_mem_nil,or_false] at hb;obtain ⟨h0,h1⟩:=h.blk;rcases hb with rfl|rfl<;>assumption
theorem ZK.blkL {w:World} {base:Nat} {x:Law} {a:LawA} (h:ZK w base x a):BlkL base w.heap.size [a.lows,a.highs]:=by
 intro b hb;simp only [List.mem_cons,List.not_mem_nil,or_false] at hb;obtain ⟨h0,h1⟩:=h.blk;rcases hb with rfl|rfl<;>assumption
end Go.Proofs.YtabfdkpdppemaaaGreat
