/-
 The functions on tables: what they return.
 Conditions: the slice of cells holds at most 2^20 ints.
-/
import Derived.Test.YtabfdkpdppemaaaGreatGrC
import Derived.StillTailTactics
namespace Go.Proofs.YtabfdkpdppemaaaGreat
open Go.RowKit
structure Tab where
 x0:Int
 y0:Int
 step:Int
 nx:Int
 ny:Int
 cells:List Int
def Tab.In (t:Tab):Prop:=Zi t.x0/\Zi t.y0/\Zi t.step/\Zi t.nx/\Zi t.ny
theorem XU.low {α:Type} {T sz:Nat} {enc:α->List Value} {w:World} {base:Nat} {v:Value} {xs:List α} (h:XU T sz enc w base v xs) {p:Addr} (hp:p.block<base) (u:Value):XU T sz enc (w.setCell p u) base v xs:=by
 obtain ⟨A,cap,rfl,ho⟩:=h;exact ⟨A,cap,rfl,ownsRow_setCell_below ho hp u⟩
structure Yg (w:World) (base:Nat) (x:List Half) (a:KL):Prop where
 halves:XU 174 3 Xh w base (.slice a.A (List.length x) a.c) x
theorem Yg.sl {w:World} {base:Nat} {x:List Half} {a:KL} (h:Yg w base x a):RegionSl w x a:=⟨h.halves.out XJ⟩
theorem Yg.below {w w':World} {base B:Nat} {x:List Half} {a:KL} (h:Yg w base x a) (hb:Below B w w') (hB:w.heap.size<=B):Yg w' base x a:=⟨h.halves.below hb hB⟩
theorem Yg.mono {w:World} {base base':Nat} {x:List Half} {a:KL} (h:Yg w base x a) (hb:base'<=base):Yg w base' x a:=⟨h.halves.mono hb⟩
theorem Yg.low {w:World} {base:Nat} {x:List Half} {a:KL} (h:Yg w base x a) {p:Addr} (hp:p.block<base) (u:Value):Yg (w.setCell p u) base x a:=⟨h.halves.low hp u⟩
theorem Yg.blk {w:World} {base:Nat} {x:List Half} {a:KL} (h:Yg w base x a):Blk base w.heap.size a:=h.halves.blk
structure Zt (w:World) (base:Nat) (x:XK) (a:Y9):Prop where
 map:XU 3 1 Z6 w base (.slice a.map.A (List.length x.map) a.map.c) x.map
 noise:Yg w base x.noise a.noise
 limits:Yg w base x.limits a.limits
 apart:List.Pairwise J9 [a.map,a.noise,a.limits]
theorem Zt.sl {w:World} {base:Nat} {x:XK} {a:Y9} (h:Zt w base x a):Y8 w x a:=⟨h.map.out Zd,h.noise.sl,h.limits.sl⟩
theorem Zt.below {w w':World} {base B:Nat} {x:XK} {a:Y9} (h:Zt w base x a) (hb:Below B w w') (hB:w.heap.size<=B):Zt w' base x a:=⟨h.map.below hb hB,h.noise.below hb hB,h.limits.below hb hB,h.apart⟩
theorem Zt.mono {w:World} {base base':Nat} {x:XK} {a:Y9} (h:Zt w base x a) (hb:base'<=base):Zt w base' x a:=⟨h.map.mono hb,h.noise.mono hb,h.limits.mono hb,h.apart⟩
theorem Zt.low {w:World} {base:Nat} {x:XK} {a:Y9} (h:Zt w base x a) {p:Addr} (hp:p.block<base) (u:Value):Zt (w.setCell p u) base x a:=⟨h.map.low hp u,h.noise.low hp u,h.limits.low hp u,h.apart⟩
theorem Zt.blk {w:World} {base:Nat} {x:XK} {a:Y9} (h:Zt w base x a):Blk base w.heap.size a.map/\Blk base w.heap.size a.noise/\Blk base w.heap.size a.limits:=⟨h.map.blk,h.noise.blk,h.limits.blk⟩
structure Ya (w:World) (base:Nat) (x:KX) (a:JJ):Prop where
 room:Zt w base x.room a.room
 reg:Yg w base x.reg a.reg
 log:XU 3 1 Z6 w base (.slice a.log.A (List.length x.log) a.log.c) x.log
 apart:List.Pairwise J9 [a.room.map,a.room.noise,a.room.limits,a.reg,a.log]
theorem Ya.sl {w:World} {base:Nat} {x:KX} {a:JJ} (h:Ya w base x a):WatchSl w x a:=⟨h.room.sl,h.reg.sl,h.log.out Zd⟩
theorem Ya.below {w w':World} {base B:Nat} {x:KX} {a:JJ} (h:Ya w base x a) (hb:Below B w w') (hB:w.heap.size<=B):Ya w' base x a:=⟨h.room.below hb hB,h.reg.below hb hB,h.log.below hb hB,h.apart⟩
theorem Ya.mono {w:World} {base base':Nat} {x:KX} {a:JJ} (h:Ya w base x a) (hb:base'<=base):Ya w base' x a:=⟨h.room.mono hb,h.reg.mono hb,h.log.mono hb,h.apart⟩
theorem Ya.low {w:World} {base:Nat} {x:KX} {a:JJ} (h:Ya w base x a) {p:Addr} (hp:p.block<base) (u:Value):Ya (w.setCell p u) base x a:=⟨h.room.low hp u,h.reg.low hp u,h.log.low hp u,h.apart⟩
theorem Ya.blk {w:World} {base:Nat} {x:KX} {a:JJ} (h:Ya w base x a):Blk base w.heap.size a.room.map/\Blk base w.heap.size a.room.noise/\Blk base w.heap.size a.room.limits/\Blk base w.heap.size a.reg/\Blk base w.heap.size a.log:=⟨h.room.blk.1,h.room.blk.2.1,h.room.blk.2.2,h.reg.blk,h.log.blk⟩
structure Ku (w:World) (base:Nat) (x:Track) (a:TrackA):Prop where
 spots:XU 30 3 J7 w base (.slice a.spots.A (List.length x.spots) a.spots.c) x.spots
 inputs:XU 36 2 ratioC w base (.slice a.inputs.A (List.length x.inputs) a.inputs.c) x.inputs
 apart:List.Pairwise J9 [a.spots,a.inputs]
theorem Ku.sl {w:World} {base:Nat} {x:Track} {a:TrackA} (h:Ku w base x a):TrackSl w x a:=⟨h.spots.out J2,h.inputs.out ratioC_len⟩
theorem Ku.below {w w':World} {base B:Nat} {x:Track} {a:TrackA} (h:Ku w base x a) (hb:Below B w w') (hB:w.heap.size<=B):Ku w' base x a:=⟨h.spots.below hb hB,h.inputs.below hb hB,h.apart⟩
theorem Ku.mono {w:World} {base base':Nat} {x:Track} {a:TrackA} (h:Ku w base x a) (hb:base'<=base):Ku w base' x a:=⟨h.spots.mono hb,h.inputs.mono hb,h.apart⟩
theorem Ku.low {w:World} {base:Nat} {x:Track} {a:TrackA} (h:Ku w base x a) {p:Addr} (hp:p.block<base) (u:Value):Ku (w.setCell p u) base x a:=⟨h.spots.low hp u,h.inputs.low hp u,h.apart⟩
theorem Ku.blk {w:World} {base:Nat} {x:Track} {a:TrackA} (h:Ku w base x a):Blk base w.heap.size a.spots/\Blk base w.heap.size a.inputs:=⟨h.spots.blk,h.inputs.blk⟩
structure Yx (w:World) (base:Nat) (x:Law) (a:LawA):Prop where
 lows:XU 109 4 J5 w base (.slice a.lows.A (List.length x.lows) a.lows.c) x.lows
 highs:XU 109 4 J5 w base (.slice a.highs.A (List.length x.highs) a.highs.c) x.highs
 apart:List.Pairwise J9 [a.lows,a.highs]
theorem Yx.sl {w:World} {base:Nat} {x:Law} {a:LawA} (h:Yx w base x a):LawSl w x a:=⟨h.lows.out Jt,h.highs.out Jt⟩
theorem Yx.below {w w':World} {base B:Nat} {x:Law} {a:LawA} (h:Yx w base x a) (hb:Below B w w') (hB:w.heap.size<=B):Yx w' base x a:=⟨h.lows.below hb hB,h.highs.below hb hB,h.apart⟩
theorem Yx.mono {w:World} {base base':Nat} {x:Law} {a:LawA} (h:Yx w base x a) (hb:base'<=base):Yx w base' x a:=⟨h.lows.mono hb,h.highs.mono hb,h.apart⟩
theorem Yx.low {w:World} {base:Nat} {x:Law} {a:LawA} (h:Yx w base x a) {p:Addr} (hp:p.block<base) (u:Value):Yx (w.setCell p u) base x a:=⟨h.lows.low hp u,h.highs.low hp u,h.apart⟩
theorem Yx.blk {w:World} {base:Nat} {x:Law} {a:LawA} (h:Yx w base x a):Blk base w.heap.size a.lows/\Blk base w.heap.size a.highs:=⟨h.lows.blk,h.highs.blk⟩
structure KM (w w':World) (L:List KL):Prop where
 os:w'.os=w.os
 tape:w'.tape=w.tape
 output:w'.output=w.output
 size:w.heap.size<=w'.heap.size
 block:∀ k,k<w.heap.size->(∀ a∈L,∀ p,a.A=some p->p.block≠k)->w'.heap[k]? = w.heap[k]?
theorem KM.refl (w:World) (L:List KL):KM w w L:=⟨rfl,rfl,rfl,Nat.le_refl _,λ _ _ _=>rfl⟩
theorem KM.trans {a b c:World} {L:List KL} (h:KM a b L) (k:KM b c L):KM a c L :=
 ⟨k.os.trans h.os,k.tape.trans h.tape,k.output.trans h.output,Nat.le_trans h.size k.size,λ i hi hn=>(k.block i (Nat.lt_of_lt_of_le hi h.size) hn).trans (h.block i hi hn)⟩
theorem KM.mono {a b:World} {L L':List KL} (h:KM a b L) (hs:∀ x∈L,x∈L'):KM a b L' :=
 ⟨h.os,h.tape,h.output,h.size,λ i hi hn=>h.block i hi (λ x hx=>hn x (hs x hx))⟩
theorem KM.of_below {a b:World} (h:Below a.heap.size a b) (L:List KL):KM a b L:=⟨h.os,h.tape,h.output,h.size,λ i hi _=>h.block i hi⟩
theorem KM.below {a b:World} {L:List KL} {B:Nat} (h:KM a b L) (hB:B<=a.heap.size) (hL:∀ x∈L,∀ p,x.A=some p->B<=p.block):Below B a b :=
 ⟨h.os,h.tape,h.output,h.size,λ i hi=>h.block i (Nat.lt_of_lt_of_le hi hB) (λ x hx p hp e=>by have:=hL x hx p hp;omega)⟩
theorem KM.setCells {w:World} {g c:Nat}:∀ (vs:List Value) (o:Nat) (W:World),KM w W [⟨some ⟨g,0,none⟩,c⟩]->KM w (W.setCells g o vs) [⟨some ⟨g,0,none⟩,c⟩]
 | [],_,_,h=>h
 | v :: r,o,W,h=>KM.setCells r (o+1) _ (h.trans ⟨rfl,rfl,rfl,by simp [World.setCell],λ k _ hk=>heap_setCell_other W ⟨g,o,none⟩ k v (λ e=>by
  have:=hk _ (List.mem_singleton.2 rfl) _ rfl;simp only [ne_eq] at this;first|exact this e|exact this e.symm)⟩)
theorem XU.far {α:Type} {T sz base n c:Nat} {enc:α->List Value} {w w':World} {A:Option Addr} {xs:List α} {L:List KL} (h:XU T sz enc w base (.slice A n c) xs) (ho:KM w w' L) (ha:∀ b∈L,J9 ⟨A,c⟩ b):XU T sz enc w' base (.slice A n c) xs:=by
 obtain ⟨A',c',e,h1,h2⟩:=h;refine ⟨A',c',e,h1, ?_⟩;rcases h2 with h2|⟨g,cap',cur,hv,hg,hh,r⟩
 ·exact .inl h2
 ·refine .inr ⟨g,cap',cur,hv,hg,(ho.block g (Yd hh) (λ b hb p hp=>?_)).trans hh,r⟩;injection hv with hv _ _
  injection e with e _ _
  exact λ e2=>ha b hb ⟨g,0,none⟩ p hv hp e2.symm
theorem XU.lo {α:Type} {T sz base n c:Nat} {enc:α->List Value} {w:World} {A:Option Addr} {xs:List α} (h:XU T sz enc w base (.slice A n c) xs):∀ p,A=some p->base<=p.block:=λ p hp=>(h.blk p hp).1
theorem Yk.far {w w':World} {g:Nat} {vs:List Value} {L:List KL} (h:Yk w g vs) (ho:KM w w' L) (hn:∀ a∈L,∀ p,a.A=some p->p.block≠g):Yk w' g vs:=by
 have hb:=ho.block g h.1 hn;refine ⟨Nat.lt_of_lt_of_le h.1 ho.size,λ j u hu=>?_⟩;have h2:=h.2 j u hu;exact ⟨(World.cell?_of_block (w:=w) hb).trans h2.1,(World.frozen?_of_block (w:=w) hb).trans h2.2⟩
theorem Sl.far {α:Type} {sz c:Nat} {enc:α->List Value} {w w':World} {A:Option Addr} {xs:List α} {L:List KL} (h:Sl sz enc w A xs) (ho:KM w w' L) (ha:∀ b∈L,J9 ⟨A,c⟩ b):Sl sz enc w' A xs:=by
 intro hn;obtain ⟨b,off,rfl,hlt,hc⟩:=h hn;refine ⟨b,off,rfl,Nat.lt_of_lt_of_le hlt ho.size,λ i hi j u hu=>?_⟩;exact (World.cell?_of_block (w:=w) (a:=⟨b,off+i*sz+j,none⟩) (ho.block b hlt (λ x hx p hp e=>ha x hx ⟨b,off,none⟩ p rfl hp e.symm))).trans (hc i hi j u hu)
theorem XU.same {α:Type} {T sz base n:Nat} {enc:α->List Value} {w:World} {v:Value} {xs:List α} (h:XU T sz enc w base v xs) (hl:xs.length=n):∃ A c,v=.slice A n c/\XU T sz enc w base (.slice A n c) xs:=by
 obtain ⟨A,c,rfl,ho⟩:=h;subst hl;exact ⟨A,c,rfl,A,c,rfl,ho⟩
theorem KM.cell {w w':World} {L:List KL} (h:KM w w' L) {g:Nat} (hg:g<w.heap.size) (hn:∀ a∈L,∀ p,a.A=some p->p.block≠g):∀ o,w'.cell? ⟨g,o,none⟩=w.cell? ⟨g,o,none⟩ :=
 λ o=>World.cell?_of_block (w:=w) (a:=⟨g,o,none⟩) (h.block g hg hn)
theorem Blk.lo {lo hi B:Nat} {a:KL} (h:Blk lo hi a) (hB:B<=lo):∀ p,a.A=some p->B<=p.block:=λ p hp=>by have:=h p hp;omega
theorem all1 {α:Type} {P:α->Prop} {a:α} (h:P a):∀ x∈[a],P x:=λ x hx=>by rw [List.mem_singleton.1 hx];exact h
def markInts (k:Int) (n:Nat):List Int:=(List.range n).map λ(i:Nat)=>k+i
structure RoomMk (w:World) (x:XK) (a:Y9) (K:Int):Prop where
 map:Sl 1 Z6 w a.map.A (markInts K x.map.length)
 noise:Sl 3 Xh w a.noise.A (markHalfs (K+x.map.length) x.noise.length)
 limits:Sl 3 Xh w a.limits.A (markHalfs (K+x.map.length+x.noise.length*3) x.limits.length)
theorem RoomMk.below {w w':World} {x:XK} {a:Y9} {K:Int} (h:RoomMk w x a K) (hb:Below w.heap.size w w'):RoomMk w' x a K:=⟨h.map.below hb,h.noise.below hb,h.limits.below hb⟩
def BlkL (lo hi:Nat) (L:List KL):Prop:=∀ a∈L,Blk lo hi a
theorem BlkL.ne {lo hi g:Nat} {L:List KL} (h:BlkL lo hi L) (hg:g<lo∨hi<=g):∀ a∈L,∀ p,a.A=some p->p.block≠g:=by
 intro a ha p hp;have:=h a ha p hp;omega
theorem BlkL.lo {lo hi B:Nat} {L:List KL} (h:BlkL lo hi L) (hB:B<=lo):∀ a∈L,∀ p,a.A=some p->B<=p.block:=by
 intro a ha p hp;have:=h a ha p hp;omega
theorem BlkL.apart {lo hi lo' hi':Nat} {L L':List KL} (h:BlkL lo hi L) (h':BlkL lo' hi' L') (hle:hi<=lo'∨hi'<=lo):∀ a∈L,∀ b∈L',J9 a b:=by
 intro a ha b hb p q hp hq e;have:=h a ha p hp;have:=h' b hb q hq;omega
theorem BlkL.mono {lo hi lo' hi':Nat} {L:List KL} (h:BlkL lo hi L) (h1:lo'<=lo) (h2:hi<=hi'):BlkL lo' hi' L:=by
 intro a ha p hp;have:=h a ha p hp;omega
theorem XU.blkL {α:Type} {T sz base n c:Nat} {enc:α->List Value} {w:World} {A:Option Addr} {xs:List α} (h:XU T sz enc w base (.slice A n c) xs):BlkL base w.heap.size [⟨A,c⟩]:=all1 h.blk
theorem Yg.blkL {w:World} {base:Nat} {x:List Half} {a:KL} (h:Yg w base x a):BlkL base w.heap.size [a]:=all1 h.blk
theorem Zt.blkL {w:World} {base:Nat} {x:XK} {a:Y9} (h:Zt w base x a):BlkL base w.heap.size [a.map,a.noise,a.limits]:=by
 intro b hb;simp only [List.mem_cons,List.not_mem_nil,or_false] at hb;obtain ⟨h0,h1,h2⟩:=h.blk;rcases hb with rfl|rfl|rfl<;>assumption
theorem Ya.blkL {w:World} {base:Nat} {x:KX} {a:JJ} (h:Ya w base x a):BlkL base w.heap.size [a.room.map,a.room.noise,a.room.limits,a.reg,a.log]:=by
 intro b hb;simp only [List.mem_cons,List.not_mem_nil,or_false] at hb;obtain ⟨h0,h1,h2,h3,h4⟩:=h.blk;rcases hb with rfl|rfl|rfl|rfl|rfl<;>assumption
theorem Ku.blkL {w:World} {base:Nat} {x:Track} {a:TrackA} (h:Ku w base x a):BlkL base w.heap.size [a.spots,a.inputs]:=by
 intro b hb;simp only [List.mem_cons,List.not_mem_nil,or_false] at hb;obtain ⟨h0,h1⟩:=h.blk;rcases hb with rfl|rfl<;>assumption
theorem Yx.blkL {w:World} {base:Nat} {x:Law} {a:LawA} (h:Yx w base x a):BlkL base w.heap.size [a.lows,a.highs]:=by
 intro b hb;simp only [List.mem_cons,List.not_mem_nil,or_false] at hb;obtain ⟨h0,h1⟩:=h.blk;rcases hb with rfl|rfl<;>assumption
end Go.Proofs.YtabfdkpdppemaaaGreat
