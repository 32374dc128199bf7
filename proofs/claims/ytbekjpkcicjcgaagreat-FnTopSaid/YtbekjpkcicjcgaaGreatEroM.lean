/-
 The half planes of a moved region; boxes. No program is named here.
 Conditions: none.
-/
import Derived.Test.YtbekjpkcicjcgaaGreatGrW
namespace Go.Proofs.YtbekjpkcicjcgaaGreat
open Go.RowKit
def Ks (f:Half->Option Half) (p:List Half):List Half:=p.map λ h=>(f h).getD Xa
def Zj (f:Half->Option Half) (p:List Half):Bool:=p.all λ h=>(f h).isSome
def Zw (f:Half->Option Half) (p:List Half):Bool:=decide (p.length=0)||(Zj f p&&Yt (Xk (Ks f p)))
def ZD (f:Half->Option Half) (p:List Half):List Half:=if p.length=0∨Zj f p=false then [] else X3 (Xk (Ks f p))
theorem mov_void {f:Half->Option Half} {p:List Half} (h:p.length=0):Zw f p=true/\ZD f p=[]:=by
 unfold Zw ZD;rw [decide_eq_true h,if_pos (.inl h)];exact ⟨rfl,rfl⟩
theorem mov_none {f:Half->Option Half} {p:List Half} {k:Nat} (h:k<p.length) (hn:f p[k]=none):Zw f p=false/\ZD f p=[]:=by
 have ha:Zj f p=false:=by
  unfold Zj;rw [List.all_eq_false];exact ⟨p[k],List.getElem_mem h,by rw [hn];decide⟩
 unfold Zw ZD;rw [ha,if_pos (.inr rfl),decide_eq_false Oz];exact ⟨rfl,rfl⟩
theorem mov_all {f:Half->Option Half} {p:List Half} (h:p.length≠0) (ha:Zj f p=true):Zw f p=Yt (Xk (Ks f p))/\ZD f p=X3 (Xk (Ks f p)):=by
 unfold Zw ZD;rw [ha,decide_eq_false h,if_neg (by intro h2;rcases h2 with h2|h2;exact h h2;cases h2)];exact ⟨rfl,rfl⟩
theorem movL_take {f:Half->Option Half} {p:List Half} {k:Nat} {g:Half} (h:k<p.length) (hg:f p[k]=some g):Ks f (p.take (k+1))=Ks f (p.take k)++[g]:=by
 unfold Ks;rw [Zx p k h,List.map_append];simp [hg]
theorem movAll_take {f:Half->Option Half} {p:List Half} {k:Nat} {g:Half} (h:k<p.length) (h1:Zj f (p.take k)=true) (hg:f p[k]=some g):Zj f (p.take (k+1))=true:=by
 unfold Zj at h1 ⊢;rw [Zx p k h,List.all_append,h1];simp [hg]
theorem movL_ok {f:Half->Option Half} {p:List Half} (hf:∀ h∈p,∀ g,f h=some g->Xs g=true) (ha:Zj f p=true):∀ g∈Ks f p,Xs g=true:=by
 intro g hg;unfold Ks at hg;obtain ⟨h,hh,rfl⟩:=List.mem_map.1 hg;unfold Zj at ha;have:=List.all_eq_true.1 ha h hh;cases e:f h with
 | none=>rw [e] at this;cases this
 | some g=>exact hf h hh g e
theorem movL_len (f:Half->Option Half) (p:List Half):(Ks f p).length=p.length:=by unfold Ks;rw [List.length_map]
theorem halfOf_ok {a b c:Int} {g:Half} (h:Zd a b c=some g):Xs g=true:=by
 unfold Zd at h;split at h
 ·cases h
 split at h
 ·rename_i h2
  cases h;exact h2
 ·cases h
theorem movR_ok {f:Half->Option Half} {p:List Half} (hf:∀ h∈p,∀ g,f h=some g->Xs g=true):Xc (ZD f p)=true:=by
 unfold ZD;split
 ·rfl
 ·rename_i h
  have ha:Zj f p=true:=by
   cases e:Zj f p
   ·exact absurd (.inr e) h
   ·rfl
  unfold X3;split
  ·rename_i h2
   unfold Yt at h2;exact regionOk_meet (movL_ok hf ha) (of_decide_eq_true h2)
  ·rfl
theorem eroH_ok {q:List Half} {h g:Half} (e:Z3 q h=some g):Xs g=true:=halfOf_ok e
structure EroB (h:Half) (r:XW):Prop where
 x : -250000000000000<=h.a*r.d/\h.a*r.d<=250000000000000
 y : -250000000000000<=h.b*r.d/\h.b*r.d<=250000000000000
 c : -500000000000000000<=h.c*r.d/\h.c*r.d<=500000000000000000
 n : -500000000000000000<=r.n/\r.n<=500000000000000000
 d:1<=r.d/\r.d<=5000000000
theorem eroB {h:Half} {q:List Half} (hh:Xs h=true) (hq:Xc q=true) (hne:q≠[]):EroB h (ZS q h.a h.b):=by
 obtain ⟨a1,a2,a3,_⟩:=Zk.1 hh;have R:=supR hq hne (a:=h.a) (b:=h.b) ⟨Oz,Oz⟩ ⟨Oz,Oz⟩;have d1:=R.d;have p:=JE (a:=h.a) (b:=(ZS q h.a h.b).d) (A:=50000) (B:=5000000000) ⟨Oz,Oz⟩ ⟨Oz,Oz⟩;have q2:=JE (a:=h.b) (b:=(ZS q h.a h.b).d) (A:=50000) (B:=5000000000) ⟨Oz,Oz⟩ ⟨Oz,Oz⟩;have r:=JE (a:=h.c) (b:=(ZS q h.a h.b).d) (A:=100000000) (B:=5000000000) ⟨Oz,Oz⟩ ⟨Oz,Oz⟩;exact ⟨⟨Oz,Oz⟩,⟨Oz,Oz⟩,⟨Oz,Oz⟩,R.n,R.d⟩
def ZY (x y:Int):List Half:=[⟨1,0,x⟩,⟨0,1,y⟩,⟨-1,0,x⟩,⟨0,-1,y⟩]
def JH (x y:Int):List Half:=XK (Xk (ZY x y))
theorem gcd_unit {a b c:Int} (h:a=1∨a = -1∨b=1∨b = -1):Xn [a,b,c]=1:=by
 obtain ⟨h1,h2,_⟩:=@gcdAll_dvd a b c;have k1:=Int.natAbs_dvd_natAbs.2 h1;have k2:=Int.natAbs_dvd_natAbs.2 h2;rcases h with rfl|rfl|rfl|rfl
 ·simp at k1;exact k1
 ·simp at k1;exact k1
 ·simp at k2;exact k2
 ·simp at k2;exact k2
theorem boxHs_ok {x y:Int} (hx:1<=x/\x<=100) (hy:1<=y/\y<=100):∀ h∈ZY x y,Xs h=true:=by
 intro h hh;simp only [ZY,List.mem_cons,List.not_mem_nil,or_false] at hh;rcases hh with rfl|rfl|rfl|rfl<;>refine Zk.2 ⟨⟨Sz,Sz⟩,⟨Sz,Sz⟩,⟨by simp only;omega,by simp only;omega⟩,Sz, ?_⟩
 ·exact gcd_unit (.inl rfl)
 ·exact gcd_unit (.inr (.inr (.inl rfl)))
 ·exact gcd_unit (.inr (.inl rfl))
 ·exact gcd_unit (.inr (.inr (.inr rfl)))
theorem box_len (x y:Int):(XK (Xk (ZY x y))).length<=40:=by
 have h1:=meetI_len (Xk (ZY x y));have h2:=meetL_len (ZY x y);have h3:(ZY x y).length=4:=rfl;omega
theorem boxR_ok {x y:Int} (hx:1<=x/\x<=100) (hy:1<=y/\y<=100):Xc (JH x y)=true:=regionOk_meet (boxHs_ok hx hy) (box_len x y)
theorem box_meet (x y:Int):Yt (Xk (ZY x y))=true/\X3 (Xk (ZY x y))=JH x y:=by
 have h:Yt (Xk (ZY x y))=true:=decide_eq_true (box_len x y);refine ⟨h, ?_⟩;unfold X3;rw [if_pos h];rfl
theorem boxR_ne {x y:Int} (hx:1<=x/\x<=100) (hy:1<=y/\y<=100):JH x y≠[]:=by
 have hok:=boxHs_ok hx hy;have gd:=ZU hok;have c:=Zc (hs:=Yx++ZY x y) (λ f hf=>(Jt (ZM hok f hf)).n);have hst:∀ f∈Xk (ZY x y),0<slk 0 0 1 f:=by
  intro f hf;have hm:=c.mem f hf;simp only [Yx,ZY,List.cons_append,List.nil_append,List.mem_cons,List.not_mem_nil,or_false] at hm;rcases hm with rfl|rfl|rfl|rfl|rfl|rfl|rfl|rfl<;>(unfold slk;simp only;omega)
 obtain ⟨e,he,hedge⟩:=edge_exists gd Dz hst;have hv:¬ voidB (Xk (ZY x y))=true:=λ h=>nvoid_of gd hst Dz ((J8 gd).1 h);unfold JH;rw [meetI_nvoid hv];intro h0;have:e∈(Xk (ZY x y)).filter (KO (Xk (ZY x y))):=List.mem_filter.2 ⟨he,(edge_iff gd (gd.nz e he)).2 hedge⟩;rw [h0] at this;cases this
structure Kd (w w':World) (L:List Kw):Prop where
 os:w'.os=w.os
 tape:w'.tape=w.tape
 output:w'.output=w.output
 size:w.heap.size<=w'.heap.size
 block:∀ k,k<w.heap.size->(∀ a∈L,∀ p,a.A=some p->p.block≠k)->w'.heap[k]? = w.heap[k]?
theorem Kd.refl (w:World) (L:List Kw):Kd w w L:=⟨rfl,rfl,rfl,Nat.le_refl _,λ _ _ _=>rfl⟩
theorem Kd.trans {a b c:World} {L:List Kw} (h:Kd a b L) (k:Kd b c L):Kd a c L :=
 ⟨k.os.trans h.os,k.tape.trans h.tape,k.output.trans h.output,Nat.le_trans h.size k.size,λ i hi hn=>(k.block i (Nat.lt_of_lt_of_le hi h.size) hn).trans (h.block i hi hn)⟩
theorem Kd.mono {a b:World} {L L':List Kw} (h:Kd a b L) (hs:∀ x∈L,x∈L'):Kd a b L' :=
 ⟨h.os,h.tape,h.output,h.size,λ i hi hn=>h.block i hi (λ x hx=>hn x (hs x hx))⟩
theorem Kd.of_below {a b:World} (h:Below a.heap.size a b) (L:List Kw):Kd a b L:=⟨h.os,h.tape,h.output,h.size,λ i hi _=>h.block i hi⟩
theorem Kd.below {a b:World} {L:List Kw} {B:Nat} (h:Kd a b L) (hB:B<=a.heap.size) (hL:∀ x∈L,∀ p,x.A=some p->B<=p.block):Below B a b :=
 ⟨h.os,h.tape,h.output,h.size,λ i hi=>h.block i (Nat.lt_of_lt_of_le hi hB) (λ x hx p hp e=>by have:=hL x hx p hp;omega)⟩
theorem Kd.setCells {w:World} {g c:Nat}:∀ (vs:List Value) (o:Nat) (W:World),Kd w W [⟨some ⟨g,0,none⟩,c⟩]->Kd w (W.setCells g o vs) [⟨some ⟨g,0,none⟩,c⟩]
 | [],_,_,h=>h
 | v :: r,o,W,h=>Kd.setCells r (o+1) _ (h.trans ⟨rfl,rfl,rfl,by simp [World.setCell],λ k _ hk=>heap_setCell_other W ⟨g,o,none⟩ k v (λ e=>by
  have:=hk _ (List.mem_singleton.2 rfl) _ rfl;simp only [ne_eq] at this;first|exact this e|exact this e.symm)⟩)
theorem XG.far {α:Type} {T sz base n c:Nat} {enc:α->List Value} {w w':World} {A:Option Addr} {xs:List α} {L:List Kw} (h:XG T sz enc w base (.slice A n c) xs) (ho:Kd w w' L) (ha:∀ b∈L,Apart ⟨A,c⟩ b):XG T sz enc w' base (.slice A n c) xs:=by
 obtain ⟨A',c',e,h1,h2⟩:=h;refine ⟨A',c',e,h1, ?_⟩;rcases h2 with h2|⟨g,cap',cur,hv,hg,hh,r⟩
 ·exact .inl h2
 ·refine .inr ⟨g,cap',cur,hv,hg,(ho.block g (XR hh) (λ b hb p hp=>?_)).trans hh,r⟩;injection hv with hv _ _
  injection e with e _ _
  exact λ e2=>ha b hb ⟨g,0,none⟩ p hv hp e2.symm
theorem XG.lo {α:Type} {T sz base n c:Nat} {enc:α->List Value} {w:World} {A:Option Addr} {xs:List α} (h:XG T sz enc w base (.slice A n c) xs):∀ p,A=some p->base<=p.block:=λ p hp=>(h.blk p hp).1
theorem Yd.far {w w':World} {g:Nat} {vs:List Value} {L:List Kw} (h:Yd w g vs) (ho:Kd w w' L) (hn:∀ a∈L,∀ p,a.A=some p->p.block≠g):Yd w' g vs:=by
 have hb:=ho.block g h.1 hn;refine ⟨Nat.lt_of_lt_of_le h.1 ho.size,λ j u hu=>?_⟩;have h2:=h.2 j u hu;exact ⟨(World.cell?_of_block (w:=w) hb).trans h2.1,(World.frozen?_of_block (w:=w) hb).trans h2.2⟩
theorem Sl.far {α:Type} {sz c:Nat} {enc:α->List Value} {w w':World} {A:Option Addr} {xs:List α} {L:List Kw} (h:Sl sz enc w A xs) (ho:Kd w w' L) (ha:∀ b∈L,Apart ⟨A,c⟩ b):Sl sz enc w' A xs:=by
 intro hn;obtain ⟨b,off,rfl,hlt,hc⟩:=h hn;refine ⟨b,off,rfl,Nat.lt_of_lt_of_le hlt ho.size,λ i hi j u hu=>?_⟩;exact (World.cell?_of_block (w:=w) (a:=⟨b,off+i*sz+j,none⟩) (ho.block b hlt (λ x hx p hp e=>ha x hx ⟨b,off,none⟩ p rfl hp e.symm))).trans (hc i hi j u hu)
theorem XG.same {α:Type} {T sz base n:Nat} {enc:α->List Value} {w:World} {v:Value} {xs:List α} (h:XG T sz enc w base v xs) (hl:xs.length=n):∃ A c,v=.slice A n c/\XG T sz enc w base (.slice A n c) xs:=by
 obtain ⟨A,c,rfl,ho⟩:=h;subst hl;exact ⟨A,c,rfl,A,c,rfl,ho⟩
theorem Kd.cell {w w':World} {L:List Kw} (h:Kd w w' L) {g:Nat} (hg:g<w.heap.size) (hn:∀ a∈L,∀ p,a.A=some p->p.block≠g):∀ o,w'.cell? ⟨g,o,none⟩=w.cell? ⟨g,o,none⟩ :=
 λ o=>World.cell?_of_block (w:=w) (a:=⟨g,o,none⟩) (h.block g hg hn)
theorem Blk.lo {lo hi B:Nat} {a:Kw} (h:Blk lo hi a) (hB:B<=lo):∀ p,a.A=some p->B<=p.block:=λ p hp=>by have:=h p hp;omega
theorem all1 {α:Type} {P:α->Prop} {a:α} (h:P a):∀ x∈[a],P x:=λ x hx=>by rw [List.mem_singleton.1 hx];exact h
def markInts (k:Int) (n:Nat):List Int:=(List.range n).map λ(i:Nat)=>k+i
structure RoomMk (w:World) (x:XD) (a:Y7) (K:Int):Prop where
 map:Sl 1 Kk w a.map.A (markInts K x.map.length)
 noise:Sl 3 Xe w a.noise.A (markHalfs (K+x.map.length) x.noise.length)
 limits:Sl 3 Xe w a.limits.A (markHalfs (K+x.map.length+x.noise.length*3) x.limits.length)
theorem RoomMk.below {w w':World} {x:XD} {a:Y7} {K:Int} (h:RoomMk w x a K) (hb:Below w.heap.size w w'):RoomMk w' x a K:=⟨h.map.below hb,h.noise.below hb,h.limits.below hb⟩
def BlkL (lo hi:Nat) (L:List Kw):Prop:=∀ a∈L,Blk lo hi a
theorem BlkL.ne {lo hi g:Nat} {L:List Kw} (h:BlkL lo hi L) (hg:g<lo∨hi<=g):∀ a∈L,∀ p,a.A=some p->p.block≠g:=by
 intro a ha p hp;have:=h a ha p hp;omega
theorem BlkL.lo {lo hi B:Nat} {L:List Kw} (h:BlkL lo hi L) (hB:B<=lo):∀ a∈L,∀ p,a.A=some p->B<=p.block:=by
 intro a ha p hp;have:=h a ha p hp;omega
theorem BlkL.apart {lo hi lo' hi':Nat} {L L':List Kw} (h:BlkL lo hi L) (h':BlkL lo' hi' L') (hle:hi<=lo'∨hi'<=lo):∀ a∈L,∀ b∈L',Apart a b:=by
 intro a ha b hb p q hp hq e;have:=h a ha p hp;have:=h' b hb q hq;omega
theorem BlkL.mono {lo hi lo' hi':Nat} {L:List Kw} (h:BlkL lo hi L) (h1:lo'<=lo) (h2:hi<=hi'):BlkL lo' hi' L:=by
 intro a ha p hp;have:=h a ha p hp;omega
theorem XG.blkL {α:Type} {T sz base n c:Nat} {enc:α->List Value} {w:World} {A:Option Addr} {xs:List α} (h:XG T sz enc w base (.slice A n c) xs):BlkL base w.heap.size [⟨A,c⟩]:=all1 h.blk
theorem X1.blkL {w:World} {base:Nat} {x:List Half} {a:Kw} (h:X1 w base x a):BlkL base w.heap.size [a]:=all1 h.blk
theorem Zb.blkL {w:World} {base:Nat} {x:XD} {a:Y7} (h:Zb w base x a):BlkL base w.heap.size [a.map,a.noise,a.limits]:=by
 intro b hb;simp only [List.mem_cons,List.not_mem_nil,or_false] at hb;obtain ⟨h0,h1,h2⟩:=h.blk;rcases hb with rfl|rfl|rfl<;>assumption
theorem Yn.blkL {w:World} {base:Nat} {x:Jv} {a:J3} (h:Yn w base x a):BlkL base w.heap.size [a.room.map,a.room.noise,a.room.limits,a.reg,a.log]:=by
 intro b hb;simp only [List.mem_cons,List.not_mem_nil,or_false] at hb;obtain ⟨h0,h1,h2,h3,h4⟩:=h.blk;rcases hb with rfl|rfl|rfl|rfl|rfl<;>assumption
theorem ZR.blkL {w:World} {base:Nat} {x:Track} {a:TrackA} (h:ZR w base x a):BlkL base w.heap.size [a.spots,a.inputs]:=by
 intro b hb;simp only [List.mem_cons,List.not_mem_nil,or_false] at hb;obtain ⟨h0,h1⟩:=h.blk;rcases hb with rfl|rfl<;>assumption
end Go.Proofs.YtbekjpkcicjcgaaGreat
