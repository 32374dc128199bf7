/-
 The half planes of a moved region; boxes. No program is named here.
 Conditions: none.
-/
import Derived.Test.YtbekjpkcicjcgaaGreatGrW
import Derived.Deep.QuietTactic
import Derived.BigQuiet
import Derived.Deep.DrawnRows
namespace Go.Proofs.YtbekjpkcicjcgaaGreat
open Go.RowKit
def Ks (f:Half->Option Half) (p:List Half):List Half:=p.map λ h=>(f h).getD Xa
def Zj (f:Half->Option Half) (p:List Half):Bool:=p.all λ h=>(f h).isSome
def Zw (f:Half->Option Half) (p:List Half):Bool:=decide (p.length=0)||(Zj f p&&Yt (Xk (Ks f p)))
def ZD (f:Half->Option Half) (p:List Half):List Half:=if p.length=0∨Zj f p=false then [] else X3 (Xk (Ks f p))
theorem mov_void {f:Half->Option Half} {p:List Half} (h:p.length=0):Zw f p=true/\ZD f p=[]:=by
 unfold Zw ZD;rw [decide_eq_true h,if_pos (.inl h)];exact ⟨rfl,rfl⟩
theorem mov_none {f:Half->Option Half} {p:List Half} {k:Nat} (h:k<p.length) (hn:f p[k]=none):Zw f p=false/\ZD f p=[]:=by
 have ha:Zj f p=false:=by
  unfold Zj;rw [List.all_eq_false];exact ⟨p[k],List.getElem_mem h,by rw [hn];decide⟩
 unfold Zw ZD;rw [ha,if_pos (.inr rfl),decide_eq_false Oz];exact ⟨rfl,rfl⟩
theorem mov_all {f:Half->Option Half} {p:List Half} (h:p.length≠0) (ha:Zj f p=true):Zw f p=Yt (Xk (Ks f p))/\ZD f p=X3 (Xk (Ks f p)):=by
 unfold Zw ZD;rw [ha,decide_eq_false h,if_neg (by intro h2;rcases h2 with h2|h2;exact h h2;cases h2)];exact ⟨rfl,rfl⟩
theorem movL_take {f:Half->Option Half} {p:List Half} {k:Nat} {g:Half} (h:k<p.length) (hg:f p[k]=some g):Ks f (p.take (k+1))=Ks f (p.take k)++[g]:=by
 unfold Ks;rw [Zx p k h,List.map_append];simp [hg]
theorem movAll_take {f:Half->Option Half} {p:List Half} {k:Nat} {g:Half} (h:k<p.length) (h1:Zj f (p.take k)=true) (hg:f p[k]=some g):Zj f (p.take (k+1))=true:=by
 unfold Zj at h1 ⊢;rw [Zx p k h,List.all_append,h1];simp [hg]
theorem movL_ok {f:Half->Option Half} {p:List Half} (hf:∀ h∈p,∀ g,f h=some g->Xs g=true) (ha:Zj f p=true):∀ g∈Ks f p,Xs g=true:=by
 intro g hg;unfold Ks at hg;obtain ⟨h,hh,rfl⟩:=List.mem_map.1 hg;unfold Zj at ha;have:=List.all_eq_true.1 ha h hh;cases e:f h with
 | none=>rw [e] at this;cases this
 | some g=>exact hf h hh g e
theorem movL_len (f:Half->Option Half) (p:List Half):(Ks f p).length=p.length:=by unfold Ks;rw [List.length_map]
theorem halfOf_ok {a b c:Int} {g:Half} (h:Zd a b c=some g):Xs g=true:=by
 unfold Zd at h;split at h
 ·cases h
 split at h
 ·rename_i h2
  cases h;exact h2
 ·cases h
theorem movR_ok {f:Half->Option Half} {p:List Half} (hf:∀ h∈p,∀ g,f h=some g->Xs g=true):Xc (ZD f p)=true:=by
 unfold ZD;split
 ·rfl
 ·rename_i h
  have ha:Zj f p=true:=by
   cases e:Zj f p
   ·exact absurd (.inr e) h
   ·rfl
  unfold X3;split
  ·rename_i h2
   unfold Yt at h2;exact regionOk_meet (movL_ok hf ha) (of_decide_eq_true h2)
  ·rfl
theorem eroH_ok {q:List Half} {h g:Half} (e:Z3 q h=some g):Xs g=true:=halfOf_ok e
structure EroB (h:Half) (r:XU):Prop where
 x : -250000000000000<=h.a*r.d/\h.a*r.d<=250000000000000
 y : -250000000000000<=h.b*r.d/\h.b*r.d<=250000000000000
 c : -500000000000000000<=h.c*r.d/\h.c*r.d<=500000000000000000
 n : -500000000000000000<=r.n/\r.n<=500000000000000000
 d:1<=r.d/\r.d<=5000000000
theorem eroB {h:Half} {q:List Half} (hh:Xs h=true) (hq:Xc q=true) (hne:q≠[]):EroB h (ZS q h.a h.b):=by
 obtain ⟨a1,a2,a3,_⟩:=Zk.1 hh;have R:=supR hq hne (a:=h.a) (b:=h.b) ⟨Oz,Oz⟩ ⟨Oz,Oz⟩;have d1:=R.d;have p:=JF (a:=h.a) (b:=(ZS q h.a h.b).d) (A:=50000) (B:=5000000000) ⟨Oz,Oz⟩ ⟨Oz,Oz⟩;have q2:=JF (a:=h.b) (b:=(ZS q h.a h.b).d) (A:=50000) (B:=5000000000) ⟨Oz,Oz⟩ ⟨Oz,Oz⟩;have r:=JF (a:=h.c) (b:=(ZS q h.a h.b).d) (A:=100000000) (B:=5000000000) ⟨Oz,Oz⟩ ⟨Oz,Oz⟩;exact ⟨⟨Oz,Oz⟩,⟨Oz,Oz⟩,⟨Oz,Oz⟩,R.n,R.d⟩
def ZY (x y:Int):List Half:=[⟨1,0,x⟩,⟨0,1,y⟩,⟨-1,0,x⟩,⟨0,-1,y⟩]
def JI (x y:Int):List Half:=XK (Xk (ZY x y))
theorem gcd_unit {a b c:Int} (h:a=1∨a = -1∨b=1∨b = -1):Xn [a,b,c]=1:=by
 obtain ⟨h1,h2,_⟩:=@gcdAll_dvd a b c;have k1:=Int.natAbs_dvd_natAbs.2 h1;have k2:=Int.natAbs_dvd_natAbs.2 h2;rcases h with rfl|rfl|rfl|rfl
 ·simp at k1;exact k1
 ·simp at k1;exact k1
 ·simp at k2;exact k2
 ·simp at k2;exact k2
theorem boxHs_ok {x y:Int} (hx:1<=x/\x<=100) (hy:1<=y/\y<=100):∀ h∈ZY x y,Xs h=true:=by
 intro h hh;simp only [ZY,List.mem_cons,List.not_mem_nil,or_false] at hh;rcases hh with rfl|rfl|rfl|rfl<;>refine Zk.2 ⟨⟨Sz,Sz⟩,⟨Sz,Sz⟩,⟨by simp only;omega,by simp only;omega⟩,Sz, ?_⟩
 ·exact gcd_unit (.inl rfl)
 ·exact gcd_unit (.inr (.inr (.inl rfl)))
 ·exact gcd_unit (.inr (.inl rfl))
 ·exact gcd_unit (.inr (.inr (.inr rfl)))
theorem box_len (x y:Int):(XK (Xk (ZY x y))).length<=40:=by
 have h1:=meetI_len (Xk (ZY x y));have h2:=meetL_len (ZY x y);have h3:(ZY x y).length=4:=rfl;omega
theorem boxR_ok {x y:Int} (hx:1<=x/\x<=100) (hy:1<=y/\y<=100):Xc (JI x y)=true:=regionOk_meet (boxHs_ok hx hy) (box_len x y)
theorem box_meet (x y:Int):Yt (Xk (ZY x y))=true/\X3 (Xk (ZY x y))=JI x y:=by
 have h:Yt (Xk (ZY x y))=true:=decide_eq_true (box_len x y);refine ⟨h, ?_⟩;unfold X3;rw [if_pos h];rfl
theorem boxR_ne {x y:Int} (hx:1<=x/\x<=100) (hy:1<=y/\y<=100):JI x y≠[]:=by
 have hok:=boxHs_ok hx hy;have gd:=ZU hok;have c:=Zc (hs:=Yx++ZY x y) (λ f hf=>(Ju (ZM hok f hf)).n);have hst:∀ f∈Xk (ZY x y),0<slk 0 0 1 f:=by
  intro f hf;have hm:=c.mem f hf;simp only [Yx,ZY,List.cons_append,List.nil_append,List.mem_cons,List.not_mem_nil,or_false] at hm;rcases hm with rfl|rfl|rfl|rfl|rfl|rfl|rfl|rfl<;>(unfold slk;simp only;omega)
 obtain ⟨e,he,hedge⟩:=edge_exists gd Dz hst;have hv:¬ voidB (Xk (ZY x y))=true:=λ h=>nvoid_of gd hst Dz ((J9 gd).1 h);unfold JI;rw [meetI_nvoid hv];intro h0;have:e∈(Xk (ZY x y)).filter (KO (Xk (ZY x y))):=List.mem_filter.2 ⟨he,(edge_iff gd (gd.nz e he)).2 hedge⟩;rw [h0] at this;cases this
structure Kd (w w':World) (L:List Kt):Prop where
 os:w'.os=w.os
 tape:w'.tape=w.tape
 output:w'.output=w.output
 size:w.heap.size<=w'.heap.size
 block:∀ k,k<w.heap.size->(∀ a∈L,∀ p,a.A=some p->p.block≠k)->w'.heap[k]? = w.heap[k]?
theorem Kd.refl (w:World) (L:List Kt):Kd w w L:=⟨rfl,rfl,rfl,Nat.le_refl _,λ _ _ _=>rfl⟩
theorem Kd.trans {a b c:World} {L:List Kt} (h:Kd a b L) (k:Kd b c L):Kd a c L :=
 ⟨k.os.trans h.os,k.tape.trans h.tape,k.output.trans h.output,Nat.le_trans h.size k.size,λ i hi hn=>(k.block i (Nat.lt_of_lt_of_le hi h.size) hn).trans (h.block i hi hn)⟩
theorem Kd.mono {a b:World} {L L':List Kt} (h:Kd a b L) (hs:∀ x∈L,x∈L'):Kd a b L' :=
 ⟨h.os,h.tape,h.output,h.size,λ i hi hn=>h.block i hi (λ x hx=>hn x (hs x hx))⟩
theorem Kd.of_below {a b:World} (h:Below a.heap.size a b) (L:List Kt):Kd a b L:=⟨h.os,h.tape,h.output,h.size,λ i hi _=>h.block i hi⟩
theorem Kd.below {a b:World} {L:List Kt} {B:Nat} (h:Kd a b L) (hB:B<=a.heap.size) (hL:∀ x∈L,∀ p,x.A=some p->B<=p.block):Below B a b :=
 ⟨h.os,h.tape,h.output,h.size,λ i hi=>h.block i (Nat.lt_of_lt_of_le hi hB) (λ x hx p hp e=>by have:=hL x hx p hp;omega)⟩
theorem Kd.setCells {w:World} {g c:Nat}:∀ (vs:List Value) (o:Nat) (W:World),Kd w W [⟨some ⟨g,0,none⟩,c⟩]->Kd w (W.setCells g o vs) [⟨some ⟨g,0,none⟩,c⟩]
 | [],_,_,h=>h
 | v :: r,o,W,h=>Kd.setCells r (o+1) _ (h.trans ⟨rfl,rfl,rfl,by simp [World.setCell],λ k _ hk=>heap_setCell_other W ⟨g,o,none⟩ k v (λ e=>by
  have:=hk _ (List.mem_singleton.2 rfl) _ rfl;simp only [ne_eq] at this;first|exact this e|exact this e.symm)⟩)
theorem XG.far {α:Type} {T sz base n c:Nat} {enc:α->List Value} {w w':World} {A:Option Addr} {xs:List α} {L:List Kt} (h:XG T sz enc w base (Sv A n c) xs) (ho:Kd w w' L) (ha:∀ b∈L,Apart ⟨A,c⟩ b):XG T sz enc w' base (Sv A n c) xs:=by
 obtain ⟨A',c',e,h1,h2⟩:=h;refine ⟨A',c',e,h1, ?_⟩;rcases h2 with h2|⟨g,cap',cur,hv,hg,hh,r⟩
 ·exact .inl h2
 ·refine .inr ⟨g,cap',cur,hv,hg,(ho.block g (XQ hh) (λ b hb p hp=>?_)).trans hh,r⟩;injection hv with hv _ _
  injection e with e _ _
  exact λ e2=>ha b hb ⟨g,0,none⟩ p hv hp e2.symm
theorem XG.lo {α:Type} {T sz base n c:Nat} {enc:α->List Value} {w:World} {A:Option Addr} {xs:List α} (h:XG T sz enc w base (Sv A n c) xs):∀ p,A=some p->base<=p.block:=λ p hp=>(h.blk p hp).1
theorem Yd.far {w w':World} {g:Nat} {vs:List Value} {L:List Kt} (h:Yd w g vs) (ho:Kd w w' L) (hn:∀ a∈L,∀ p,a.A=some p->p.block≠g):Yd w' g vs:=by
 have hb:=ho.block g h.1 hn;refine ⟨Nat.lt_of_lt_of_le h.1 ho.size,λ j u hu=>?_⟩;have h2:=h.2 j u hu;exact ⟨(World.cell?_of_block (w:=w) hb).trans h2.1,(World.frozen?_of_block (w:=w) hb).trans h2.2⟩
theorem Sl.far {α:Type} {sz c:Nat} {enc:α->List Value} {w w':World} {A:Option Addr} {xs:List α} {L:List Kt} (h:Sl sz enc w A xs) (ho:Kd w w' L) (ha:∀ b∈L,Apart ⟨A,c⟩ b):Sl sz enc w' A xs:=by
 intro hn;obtain ⟨b,off,rfl,hlt,hc⟩:=h hn;refine ⟨b,off,rfl,Nat.lt_of_lt_of_le hlt ho.size,λ i hi j u hu=>?_⟩;exact (World.cell?_of_block (w:=w) (a:=⟨b,off+i*sz+j,none⟩) (ho.block b hlt (λ x hx p hp e=>ha x hx ⟨b,off,none⟩ p rfl hp e.symm))).trans (hc i hi j u hu)
theorem XG.same {α:Type} {T sz base n:Nat} {enc:α->List Value} {w:World} {v:Value} {xs:List α} (h:XG T sz enc w base v xs) (hl:xs.length=n):∃ A c,v=Sv A n c/\XG T sz enc w base (Sv A n c) xs:=by
 obtain ⟨A,c,rfl,ho⟩:=h;subst hl;exact ⟨A,c,rfl,A,c,rfl,ho⟩
theorem Kd.cell {w w':World} {L:List Kt} (h:Kd w w' L) {g:Nat} (hg:g<w.heap.size) (hn:∀ a∈L,∀ p,a.A=some p->p.block≠g):∀ o,w'.cell? ⟨g,o,none⟩=w.cell? ⟨g,o,none⟩ :=
 λ o=>World.cell?_of_block (w:=w) (a:=⟨g,o,none⟩) (h.block g hg hn)
theorem Blk.lo {lo hi B:Nat} {a:Kt} (h:Blk lo hi a) (hB:B<=lo):∀ p,a.A=some p->B<=p.block:=λ p hp=>by have:=h p hp;omega
theorem all1 {α:Type} {P:α->Prop} {a:α} (h:P a):∀ x∈[a],P x:=λ x hx=>by rw [List.mem_singleton.1 hx];exact h
def markInts (k:Int) (n:Nat):List Int:=(List.range n).map λ(i:Nat)=>k+i
structure RoomMk (w:World) (x:XD) (a:Y7) (K:Int):Prop where
 map:Sl 1 Kk w a.map.A (markInts K x.map.length)
 noise:Sl 3 Xe w a.noise.A (markHalfs (K+x.map.length) x.noise.length)
 limits:Sl 3 Xe w a.limits.A (markHalfs (K+x.map.length+x.noise.length*3) x.limits.length)
theorem RoomMk.below {w w':World} {x:XD} {a:Y7} {K:Int} (h:RoomMk w x a K) (hb:Below w.heap.size w w'):RoomMk w' x a K:=⟨h.map.below hb,h.noise.below hb,h.limits.below hb⟩
def BlkL (lo hi:Nat) (L:List Kt):Prop:=∀ a∈L,Blk lo hi a
theorem BlkL.ne {lo hi g:Nat} {L:List Kt} (h:BlkL lo hi L) (hg:g<lo∨hi<=g):∀ a∈L,∀ p,a.A=some p->p.block≠g:=by
 intro a ha p hp;have:=h a ha p hp;omega
theorem BlkL.lo {lo hi B:Nat} {L:List Kt} (h:BlkL lo hi L) (hB:B<=lo):∀ a∈L,∀ p,a.A=some p->B<=p.block:=by
 intro a ha p hp;have:=h a ha p hp;omega
theorem BlkL.apart {lo hi lo' hi':Nat} {L L':List Kt} (h:BlkL lo hi L) (h':BlkL lo' hi' L') (hle:hi<=lo'∨hi'<=lo):∀ a∈L,∀ b∈L',Apart a b:=by
 intro a ha b hb p q hp hq e;have:=h a ha p hp;have:=h' b hb q hq;omega
theorem BlkL.mono {lo hi lo' hi':Nat} {L:List Kt} (h:BlkL lo hi L) (h1:lo'<=lo) (h2:hi<=hi'):BlkL lo' hi' L:=by
 intro a ha p hp;have:=h a ha p hp;omega
theorem XG.blkL {α:Type} {T sz base n c:Nat} {enc:α->List Value} {w:World} {A:Option Addr} {xs:List α} (h:XG T sz enc w base (Sv A n c) xs):BlkL base w.heap.size [⟨A,c⟩]:=all1 h.blk
theorem X1.blkL {w:World} {base:Nat} {x:List Half} {a:Kt} (h:X1 w base x a):BlkL base w.heap.size [a]:=all1 h.blk
theorem Zb.blkL {w:World} {base:Nat} {x:XD} {a:Y7} (h:Zb w base x a):BlkL base w.heap.size [a.map,a.noise,a.limits]:=by
 intro b hb;simp only [List.mem_cons,List.not_mem_nil,or_false] at hb;obtain ⟨h0,h1,h2⟩:=h.blk;rcases hb with rfl|rfl|rfl<;>assumption
theorem Yn.blkL {w:World} {base:Nat} {x:Jw} {a:J4} (h:Yn w base x a):BlkL base w.heap.size [a.room.map,a.room.noise,a.room.limits,a.reg,a.log]:=by
 intro b hb;simp only [List.mem_cons,List.not_mem_nil,or_false] at hb;obtain ⟨h0,h1,h2,h3,h4⟩:=h.blk;rcases hb with rfl|rfl|rfl|rfl|rfl<;>assumption
theorem ZR.blkL {w:World} {base:Nat} {x:Track} {a:TrackA} (h:ZR w base x a):BlkL base w.heap.size [a.spots,a.inputs]:=by
 intro b hb;simp only [List.mem_cons,List.not_mem_nil,or_false] at hb;obtain ⟨h0,h1⟩:=h.blk;rcases hb with rfl|rfl<;>assumption
theorem LawNew.blkL {w:World} {base:Nat} {x:Law} {a:LawA} (h:LawNew w base x a):BlkL base w.heap.size [a.lows,a.highs]:=by
 intro b hb;simp only [List.mem_cons,List.not_mem_nil,or_false] at hb;obtain ⟨h0,h1⟩:=h.blk;rcases hb with rfl|rfl<;>assumption
open Classical in
noncomputable def Wx (w t:World):World:=if Below w.heap.size w t then t else w
theorem Wx.below (w t:World):Below w.heap.size w (Wx w t):=by
 unfold Wx;split
 ·assumption
 ·exact Below.refl _ _
theorem Wx.of {w t:World} (h:Below w.heap.size w t):t=Wx w t:=by unfold Wx;rw [if_pos h]
theorem Wx.cell (w:World) {b:Nat} (h:b<w.heap.size):∀ (t:World) (o:Nat),(Wx w t).cell? ⟨b,o,none⟩=w.cell? ⟨b,o,none⟩ :=
 λ t o=>(Wx.below w t).cell (p:=⟨b,o,none⟩) h
theorem Wx.out {w w':World} (h:∃ t,w'=Wx w t):Below w.heap.size w w':=by
 obtain ⟨t,rfl⟩:=h;exact Wx.below _ _
def unl (L:Nat->Bool):Nat->Nat
 | 0=>0
 | n+1=>unl L n+(if L n=true then 0 else 1)
theorem unl_congr {L M:Nat->Bool}:∀ n:Nat,(∀ j,j<n->L j=M j)->unl L n=unl M n
 | 0,_=>rfl
 | n+1,h=>by simp only [unl,unl_congr n (λ j hj=>h j Oz),h n Oz]
theorem unl_step {L:Nat->Bool} {i:Nat} (hi:L i=false):∀ n:Nat,i<n->unl (λ j=>decide (j=i)||L j) n+1=unl L n
 | 0,h=>by omega
 | n+1,h=>by
  by_cases e:i=n
  ·subst e;have:=unl_congr (L:=λ j=>decide (j=i)||L j) (M:=L) i (λ j hj=>by simp [show j≠i by omega]);simp only [unl,this,hi];simp
  ·have:=unl_step hi n Oz;simp only [unl];have h3:(if (decide (n=i)||L n)=true then 0 else 1:Nat)=if L n=true then 0 else 1:=by simp [show n≠i by omega]
   rw [h3];omega
theorem unl_zero {L:Nat->Bool}:∀ n:Nat,unl L n=0->∀ j,j<n->L j=true
 | 0,_,j,h=>by omega
 | n+1,h,j,hj=>by
  simp only [unl] at h;by_cases e:L n=true
  ·rcases Nat.lt_or_ge j n with h1|h1
   ·exact unl_zero n Oz j h1
   ·have:j=n:=Oz
    rw [this];exact e
  ·rw [if_neg e] at h;omega
theorem unl_pos {L:Nat->Bool}:∀ n:Nat,(∃ j,j<n/\L j=false)->∃ j,j<n/\L j=false/\∀ k,k<j->L k=true
 | 0,⟨j,h,_⟩=>by omega
 | n+1,⟨j,h,hl⟩=>by
  by_cases e:∃ j,j<n/\L j=false
  ·obtain ⟨k,h1,h2,h3⟩:=unl_pos n e;exact ⟨k,Oz,h2,h3⟩
  ·refine ⟨j,h,hl,λ k hk=>?_⟩;cases hk2:L k
   ·exact absurd ⟨k,Oz,hk2⟩ e
   ·rfl
def orderB (l:List Oper):Bool:=(List.range l.length).all λ i=>match l[i]? with|some o=>o.after.all λ e=>!Region.binds .any e||decide (e.on<i)|none=>true
theorem getD_set_fun {listed:Array Bool} {i:Nat} (hi:i<listed.size):(λ j=>(listed.setIfInBounds i true).getD j false)=λ j=>decide (j=i)||listed.getD j false:=by
 funext j
 by_cases e:j=i
 ·subst e;simp [Array.getD_eq_getD_getElem?,hi]
 ·simp [Array.getD_eq_getD_getElem?,e,Array.getElem?_setIfInBounds_ne (Ne.symm e)]
theorem rep_false (m j:Nat):(Array.replicate m false).getD j false=false:=by
 rcases Nat.lt_or_ge j m with h|h<;>simp [h]
theorem wp_region_I {P:Program} {id:Nat} {Q:Exit->Act->World->Prop} {a:Act} {w:World} {l:List Oper} (hm:P.follows .mixedOrders=true) (B:orderB l=true)
 (I:(Nat->Bool)->Act->World->Prop) (h0:I (λ _=>false) a w.drew)
 (hs:∀ (L:Nat->Bool) (a:Act) (w:World) (i:Nat) (o:Oper),l[i]? = some o->L i=false->(∀ e∈o.after,Region.binds .any e=true->L e.on=true)->I L a w ->
  if Region.wanted o (yielded l.toArray a.tmps) then o.wp P a w (λ a' w'=>I (λ j=>decide (j=i)||L j) a' w') Q else I (λ j=>decide (j=i)||L j) (a.put o.dst undef) w)
 (he:∀ (L:Nat->Bool) (a:Act) (w:World),(∀ j,j<l.length->L j=true)->I L a w->Q .normal a w):(Code.region id l.toArray true).wp P Q a w:=by
 have fin:∀ (listed:Array Bool) (a:Act) (w:World),listed.size=l.length->Region.ready .any l.toArray listed=[]->I (λ j=>listed.getD j false) a w->Q .normal a w:=by
  intro listed a w X5 hr hI;refine he _ a w (λ j hj=>?_) hI;cases hl:listed.getD j false
  ·exfalso;obtain ⟨k,hk,hk0,hk1⟩:=unl_pos (L:=λ j=>listed.getD j false) l.length ⟨j,hj,hl⟩;have hmem:k∈Region.ready .any l.toArray listed:=by
    refine mem_ready.2 ⟨?_,l[k],by simp [hk],λ e he hb=>?_⟩
    ·have hk0':listed.getD k false=false:=hk0;rw [Array.getD_eq_getD_getElem?,Array.getElem?_eq_getElem Oz] at hk0' ⊢;simpa using hk0'
    ·have h1:=List.all_eq_true.1 B k (List.mem_range.2 hk);rw [List.getElem?_eq_getElem hk] at h1;have h2:=(Array.all_eq_true_iff_forall_mem.1 h1) e he;rw [hb] at h2;simp only [Bool.not_true,Bool.false_or,decide_eq_true_eq] at h2;exact hk1 _ h2
   rw [hr] at hmem;cases hmem
  ·rfl
 have go:∀ (f:Nat) (listed:Array Bool) (a:Act) (w:World),listed.size=l.length->unl (λ j=>listed.getD j false) l.length=f->I (λ j=>listed.getD j false) a w->wpAny P .any l.toArray Q f listed a w:=by
  intro f;induction f with
  | zero =>
   intro listed a w X5 hu hI;have hr:Region.ready .any l.toArray listed=[]:=by
    rcases h:Region.ready .any l.toArray listed with _|⟨k,r⟩
    ·rfl
    ·exfalso;have hk:k∈Region.ready .any l.toArray listed:=by rw [h];exact List.mem_cons_self
     obtain ⟨h1,o,ho,_⟩:=mem_ready.1 hk;have hkl:k<l.length:=by
      have:=(Array.getElem?_eq_some_iff.1 ho).1;simpa using this
     have h2:listed.getD k false=true:=unl_zero l.length hu k hkl;rw [Array.getD_eq_getD_getElem?,Array.getElem?_eq_getElem Oz] at h1 h2;simp only [Option.getD_some] at h1 h2;rw [h1] at h2;cases h2
   exact ⟨hr,fin listed a w X5 hr hI⟩
  | succ f ih =>
   intro listed a w X5 hu hI;refine ⟨λ hr=>fin listed a w X5 hr hI,λ i hi=>?_⟩;obtain ⟨h1,o,ho,hd⟩:=mem_ready.1 hi;have hil:i<l.length:=by
    have:=(Array.getElem?_eq_some_iff.1 ho).1;simpa using this
   have ho':l[i]? = some o:=by simpa using ho
   have hLi:listed.getD i false=false:=by
    rw [Array.getD_eq_getD_getElem?,Array.getElem?_eq_getElem Oz] at h1 ⊢;simpa using h1
   have hstep:=hs (λ j=>listed.getD j false) a w i o ho' hLi hd hI;have hset:=getD_set_fun (listed:=listed) (i:=i) Oz;have hcnt:unl (λ j=>(listed.setIfInBounds i true).getD j false) l.length=f:=by
    rw [hset];have:=unl_step (L:=λ j=>listed.getD j false) hLi l.length hil;omega
   have next:∀ a' w',I (λ j=>decide (j=i)||listed.getD j false) a' w'->wpAny P .any l.toArray Q f (listed.setIfInBounds i true) a' w':=by
    intro a' w' h;rw [<- hset] at h;exact ih (listed.setIfInBounds i true) a' w' (by simpa using X5) hcnt h
   unfold wpOp;rw [ho];simp only;split
   ·rename_i hw
    rw [if_pos hw] at hstep;exact .inl (Oper.wp_mono next hstep)
   ·rename_i hw
    rw [if_neg hw] at hstep;exact next _ _ hstep
 refine wp_region_any hm (go _ _ a _ Sz ?_ ?_)
 ·have hall:∀ n:Nat,unl (λ j=>(Array.replicate l.toArray.size false).getD j false) n=n:=by
   intro n;induction n with
   | zero=>rfl
   | succ n ih =>
    simp only [unl,ih];have h3:¬ ((λ j=>(Array.replicate l.toArray.size false).getD j false) n=true):=by
     show ¬ ((Array.replicate l.toArray.size false).getD n false=true);rw [rep_false];decide
    rw [if_neg h3]
  simpa using hall l.length
 ·have:(λ j=>(Array.replicate l.toArray.size false).getD j false)=λ _=>false:=by
   funext j
   exact rep_false _ _
  rw [this];exact h0
theorem wp_region_I0 {P:Program} {id:Nat} {Q:Exit->Act->World->Prop} {a:Act} {w:World} {l:List Oper} (hm:P.follows .mixedOrders=true) (B:orderB l=true)
 (I:Act->(Nat->Bool)->Act->World->Prop) (h0:I a (λ _=>false) a w.drew)
 (hs:∀ (L:Nat->Bool) (a':Act) (w:World) (i:Nat) (o:Oper),l[i]? = some o->L i=false->(∀ e∈o.after,Region.binds .any e=true->L e.on=true)->I a L a' w ->
  if Region.wanted o (yielded l.toArray a'.tmps) then o.wp P a' w (λ a'' w'=>I a (λ j=>decide (j=i)||L j) a'' w') Q else I a (λ j=>decide (j=i)||L j) (a'.put o.dst undef) w)
 (he:∀ (L:Nat->Bool) (a':Act) (w:World),(∀ j,j<l.length->L j=true)->I a L a' w->Q .normal a' w):(Code.region id l.toArray true).wp P Q a w :=
 wp_region_I hm B (I a) h0 hs he
structure X0 (a0 a:Act) (D:List Nat):Prop where
 size:a.tmps.size=a0.tmps.size
 defers:a.defers=a0.defers
 same:∀ k,k ∉ D->a.tmps[k]? = a0.tmps[k]?
theorem X0.refl (a:Act) (D:List Nat):X0 a a D:=⟨rfl,rfl,λ _ _=>rfl⟩
theorem X0.put {a0 a:Act} {D:List Nat} (h:X0 a0 a D) {k:Nat} (hk:k∈D) (v:Value):X0 a0 (a.put (some k) v) D:=by
 refine ⟨?_, ?_,λ j hj=>?_⟩
 ·simpa [Act.put] using h.size
 ·simpa [Act.put] using h.defers
 ·have:k≠j:=λ e=>hj (e ▸ hk);have h2:=h.same j hj;simpa [Act.put,Array.getElem?_setIfInBounds_ne this] using h2
theorem X0.none {a0 a:Act} {D:List Nat} (h:X0 a0 a D) (v:Value):X0 a0 (a.put none v) D:=h
theorem X0.eval {a0 a:Act} {D:List Nat} (h:X0 a0 a D) {k:Nat} (hk:k ∉ D):a.eval (.tmp k)=a0.eval (.tmp k):=by
 have:=h.same k hk;simp only [Act.eval,Array.getD_eq_getD_getElem?,this]
theorem X0.out {a0 a:Act} {D:List Nat} (h:X0 a0 a D) (_:∀ k∈D,k<a0.tmps.size):a=D.foldl (λ b k=>b.put (some k) (a.eval (.tmp k))) a0:=by
 have key:∀ (E:List Nat) (b:Act),b.tmps.size=a.tmps.size->b.defers=a.defers->(∀ k,k ∉ E->b.tmps[k]? = a.tmps[k]?)->E.foldl (λ b k=>b.put (some k) (a.eval (.tmp k))) b=a:=by
  intro E;induction E with
  | nil =>
   intro b h1 h2 h3;have:b.tmps=a.tmps:=Array.ext_getElem? (λ i=>h3 i Sz);cases a;cases b;simp only at this h2;subst this h2;rfl
  | cons k E ih =>
   intro b h1 h2 h3;refine ih _ (by simpa [Act.put] using h1) (by simpa [Act.put] using h2) (λ j hj=>?_);by_cases e:k=j
   ·subst e;rcases Nat.lt_or_ge k b.tmps.size with hlt|hge
    ·have hlt2:k<a.tmps.size:=Oz
     simp [Act.put,Act.eval,Array.getD_eq_getD_getElem?,hlt,hlt2]
    ·have hge2:a.tmps.size<=k:=Oz
     simp [Act.put,hge,hge2]
   ·have:=h3 j (by simp only [List.mem_cons,not_or];exact ⟨λ q=>e q.symm,hj⟩);simpa [Act.put,Array.getElem?_setIfInBounds_ne e] using this
 exact (key D a0 h.size.symm h.defers.symm (λ k hk=>(h.same k hk).symm)).symm
theorem Zy {a:Act} {j k:Nat} (h:k≠j) (v:Value):(a.put (some k) v).tmps[j]?.getD undef=a.tmps[j]?.getD undef:=by
 simp [Act.put,Array.getElem?_setIfInBounds_ne h]
theorem Xp {a:Act} {k:Nat} (h:k<a.tmps.size) (v:Value):(a.put (some k) v).tmps[k]?.getD undef=v:=by
 simp [Act.put,h]
theorem X0.get {a0 a:Act} {D:List Nat} (h:X0 a0 a D) {k:Nat} (hk:k ∉ D):a.tmps[k]?.getD undef=a0.tmps[k]?.getD undef:=by rw [h.same k hk]
theorem X0.lt {a0 a:Act} {D:List Nat} (h:X0 a0 a D) {k:Nat} (hk:k<a0.tmps.size):k<a.tmps.size:=by rw [h.size];exact hk
theorem X0.outG {a0 a:Act} {D:List Nat} (h:X0 a0 a D) (hD:∀ k∈D,k<a0.tmps.size):a=D.foldl (λ b k=>b.put (some k) (a.tmps[k]?.getD undef)) a0:=by
 have:=h.out hD;simpa only [Act.eval,Array.getD_eq_getD_getElem?] using this
def Xq (w:World) (g T:Nat) (vs:List Value):Prop:=w.heap[g]? = some (.cells vs.toArray T (0,0))
theorem Xq.has {w:World} {g T:Nat} {vs:List Value} (h:Xq w g T vs):Yd w g vs :=
 ⟨XQ h,λ j v hv=>⟨by rw [cell_of_row w g j vs.toArray T (0,0) h];simpa using hv,frozen_of_row w g j vs.toArray T h⟩⟩
theorem Xq.below {w w':World} {g T:Nat} {vs:List Value} (h:Xq w g T vs) (hb:Below w.heap.size w w'):Xq w' g T vs:=(hb.block g (XQ h)).trans h
theorem Xq.new (w:World) (vs:List Value) (T:Nat):Xq (w.alloc (.cells vs.toArray T)) w.heap.size T vs:=heap_alloc_new w _
theorem Xq.set_ {w:World} {g T:Nat} {vs:List Value} (h:Xq w g T vs) (j:Nat) (u:Value):Xq (w.setCell ⟨g,j,none⟩ u) g T (vs.set j u):=by
 have:=heap_setCell_same w g j vs.toArray T u h;unfold Xq;rw [this];simp
theorem Xq.cells {g T:Nat}:∀ (us vs pre:List Value) (w:World),us.length=vs.length->Xq w g T (pre++vs)->Xq (w.setCells g pre.length us) g T (pre++us)
 | [],vs,pre,w,h,hh=>by
  have:vs=[]:=List.eq_nil_of_length_eq_zero h.symm;subst this;exact hh
 | u :: us,[],pre,w,h,_=>by simp at h
 | u :: us,v :: vs,pre,w,h,hh=>by
  have h1:=hh.set_ pre.length u;have e:(pre++v :: vs).set pre.length u=(pre++[u])++vs:=Sz
  rw [e] at h1;have h2:=Xq.cells us vs (pre++[u]) _ (by simpa using h) h1;simpa [World.setCells] using h2
theorem Xq.store {g T:Nat} {us vs:List Value} {w:World} (h:Xq w g T vs) (hl:us.length=vs.length):Xq (w.setCells g 0 us) g T us:=by
 have:=Xq.cells us vs [] w hl (by simpa using h);simpa using this
theorem Xq.other {g g' T:Nat} {vs:List Value} {w:World} (h:Xq w g T vs) (hne:g'≠g) (us:List Value):∀ o:Nat,Xq (w.setCells g' o us) g T vs:=by
 induction us generalizing w with
 | nil=>intro o;exact h
 | cons u r ih =>
  intro o;exact ih (w:=w.setCell ⟨g',o,none⟩ u) ((heap_setCell_other w ⟨g',o,none⟩ g u (λ e=>hne (by first|exact e|exact e.symm))).trans h) (o+1)
theorem XG.typ {α:Type} {T sz base n c g T':Nat} {enc:α->List Value} {w:World} {A:Option Addr} {xs:List α} {vs:List Value} (h:XG T sz enc w base (Sv A n c) xs) (hg:Xq w g T' vs) (hne:T≠T'):∀ p,A=some p->p.block≠g:=by
 intro p hp e;obtain ⟨A',c',e1,h1,h2⟩:=h;injection e1 with e1 _ _
 subst e1;rcases h2 with ⟨h2,_⟩|⟨g',cap',cur,hv,_,hh,_⟩
 ·rw [hp] at h2;cases h2
 ·rw [hp] at hv;injection hv with hv _ _
  injection hv with hv
  subst hv;simp only at e;subst e;unfold Xq at hg;rw [hh] at hg;injection hg with hg
  injection hg with _ q _
  exact hne q
theorem XG.otherC {α:Type} {T sz base n c g:Nat} {enc:α->List Value} {w:World} {A:Option Addr} {xs:List α} (h:XG T sz enc w base (Sv A n c) xs) (hp:∀ p,A=some p->p.block≠g) (us:List Value):∀ o:Nat,XG T sz enc (w.setCells g o us) base (Sv A n c) xs:=by
 intro o;obtain ⟨A',c',e,h1,h2⟩:=h;refine ⟨A',c',e,h1, ?_⟩;rcases h2 with h2|⟨g',cap',cur,hv,hg,hh,r⟩
 ·exact .inl h2
 ·refine .inr ⟨g',cap',cur,hv,hg, ?_,r⟩;injection hv with hv _ _
  have hne:g≠g':=λ q=>hp ⟨g',0,none⟩ hv q.symm;have:=Xq.other (g:=g') (g':=g) (T:=T) (vs:=cur.toList) (w:=w) (by simpa [Xq] using hh) hne us o;simpa [Xq] using this
theorem X8 {L:Nat->Bool} {a:Act} {i j k s:Nat} {v u:Value} (h:L j=true->a.tmps[s]?.getD undef=v) (ne:k≠s) (hj:decide (j=i)=false):(decide (j=i)||L j)=true->(a.put (some k) u).tmps[s]?.getD undef=v :=
 λ hl=>(Zy ne u).trans (h (by rw [hj] at hl;exact hl))
theorem kpK {L:Nat->Bool} {i j:Nat} {p:Prop} (h:L j=true->p) (hj:decide (j=i)=false):(decide (j=i)||L j)=true->p :=
 λ hl=>h (by rw [hj] at hl;exact hl)
theorem knK {L:Nat->Bool} {i j:Nat} {p:Prop} (h:L j=false->p) (hj:decide (j=i)=false):(decide (j=i)||L j)=false->p :=
 λ hl=>h (by rw [hj] at hl;exact hl)
theorem Yg {L:Nat->Bool} {i a b:Nat} (h:L a=true->L b=true) (ha:decide (a=i)=false):(decide (a=i)||L a)=true->(decide (b=i)||L b)=true :=
 λ hl=>by rw [ha] at hl;rw [h hl,Bool.or_true]
theorem wanted_of {o oj:Oper} {ops:Array Oper} {tmps:Array Value} {j s:Nat} {b:Bool} (hg:o.guard=some (j,b)) (hj:ops[j]? = some oj) (hd:oj.dst=some s) (hv:tmps[s]?.getD undef=Bv b):Region.wanted o (yielded ops tmps)=true:=by
 unfold Region.wanted;rw [hg];cases h:tmps[s]? with
 | none=>rw [h] at hv;cases hv
 | some v =>
  rw [h] at hv;simp only [Option.getD_some] at hv;subst hv;simp [yielded,hj,hd,h]
theorem unwanted_of {o oj:Oper} {ops:Array Oper} {tmps:Array Value} {j s:Nat} {b c:Bool} (hg:o.guard=some (j,b)) (hj:ops[j]? = some oj) (hd:oj.dst=some s) (hv:tmps[s]?.getD undef=Bv c) (hne:c≠b):¬ Region.wanted o (yielded ops tmps)=true:=by
 unfold Region.wanted;rw [hg];cases h:tmps[s]? with
 | none=>rw [h] at hv;cases hv
 | some v =>
  rw [h] at hv;simp only [Option.getD_some] at hv;subst hv;simp [yielded,hj,hd,h,hne]
end Go.Proofs.YtbekjpkcicjcgaaGreat
