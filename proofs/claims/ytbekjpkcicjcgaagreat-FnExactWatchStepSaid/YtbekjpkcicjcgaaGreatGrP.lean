/-
 What the functions that mark results and look whether the marks are held return.
 Conditions: the slices hold at most 2^20 elements.
-/
import Derived.Test.YtbekjpkcicjcgaaGreatGrN
set_option maxHeartbeats 1000000
set_option maxRecDepth 100000
namespace Go.Proofs.YtbekjpkcicjcgaaGreat
open Go.RowKit
theorem heldHalfS_c (A:Option Addr) (n cap:Nat) (K:Int) (w:World) (hn:n<=1048576) (hK:0<=K) (hK2:K<=1000000000000) (hs:Sl 3 Xd w A (Zl K n)) :
 Calls Tryz.prog 128 #[.slice A n cap,.int .i64 K] w λ e w'=>e=.returned (.int .i64 (K+n*3))/\w=w':=by
 have hml:(Zl K n).length=n:=by simp [Zl]
 go_enter Tryz.func128,Tryz.ntmps128
 go_wp2
 go_loop [1,5] (λ kk i=>∃ k:Nat,k<=n/\i=.int .i64 k/\kk=.int .i64 (K+k*3)) (λ _ i=>n-(intOf i).toNat)
 case atStart=>exact ⟨0,Nat.zero_le _,rfl,Sz⟩
 case round =>
  obtain ⟨k,hk,rfl,rfl⟩:=hrel;by_cases hlt:k<n
  ·obtain ⟨b,off,rfl,hblt,hc⟩:=hs.at_ (k:=k) (by rw [hml];exact hlt);have hx:(Zl K n)[k]'(by rw [hml];exact hlt)=⟨K+k*3,K+k*3+1,K+k*3+1+1⟩:=by simp [Zl]
   rw [hx] at hc;have g0:=hc 0 _ rfl;have g1:=hc 1 _ rfl;have g2:=hc 2 _ rfl;clear hc hx hml;simp only [Nat.add_zero] at g0;go_wp2
   refine ⟨⟨k+1,by omega,by go_num, ?_⟩,by simp [intOf];omega⟩;congr 1;omega
  ·obtain rfl:k=n:=Oz
   go_wp2
   go_ret
   exact ⟨rfl,rfl⟩
structure Y4 (w w':World) (L:List Zi):Prop where
 os:w'.os=w.os
 tape:w'.tape=w.tape
 output:w'.output=w.output
 size:w.heap.size<=w'.heap.size
 block:∀ k,k<w.heap.size->(∀ a∈L,∀ p,a.A=some p->p.block≠k)->w'.heap[k]? = w.heap[k]?
theorem Y4.refl (w:World) (L:List Zi):Y4 w w L:=⟨rfl,rfl,rfl,Nat.le_refl _,λ _ _ _=>rfl⟩
theorem Y4.trans {a b c:World} {L:List Zi} (h:Y4 a b L) (k:Y4 b c L):Y4 a c L :=
 ⟨k.os.trans h.os,k.tape.trans h.tape,k.output.trans h.output,Nat.le_trans h.size k.size,λ i hi hn=>(k.block i (Nat.lt_of_lt_of_le hi h.size) hn).trans (h.block i hi hn)⟩
theorem Y4.mono {a b:World} {L L':List Zi} (h:Y4 a b L) (hs:∀ x∈L,x∈L'):Y4 a b L' :=
 ⟨h.os,h.tape,h.output,h.size,λ i hi hn=>h.block i hi (λ x hx=>hn x (hs x hx))⟩
theorem Y4.of_below {a b:World} (h:Below a.heap.size a b) (L:List Zi):Y4 a b L:=⟨h.os,h.tape,h.output,h.size,λ i hi _=>h.block i hi⟩
theorem Y4.below {a b:World} {L:List Zi} {B:Nat} (h:Y4 a b L) (hB:B<=a.heap.size) (hL:∀ x∈L,∀ p,x.A=some p->B<=p.block):Below B a b :=
 ⟨h.os,h.tape,h.output,h.size,λ i hi=>h.block i (Nat.lt_of_lt_of_le hi hB) (λ x hx p hp e=>by have:=hL x hx p hp;omega)⟩
theorem Y4.setCells {w:World} {g c:Nat}:∀ (vs:List Value) (o:Nat) (W:World),Y4 w W [⟨some ⟨g,0,none⟩,c⟩]->Y4 w (W.setCells g o vs) [⟨some ⟨g,0,none⟩,c⟩]
 | [],_,_,h=>h
 | v :: r,o,W,h=>Y4.setCells r (o+1) _ (h.trans ⟨rfl,rfl,rfl,by simp [World.setCell],λ k _ hk=>heap_setCell_other W ⟨g,o,none⟩ k v (λ e=>by
  have:=hk _ (List.mem_singleton.2 rfl) _ rfl;simp only [ne_eq] at this;first|exact this e|exact this e.symm)⟩)
theorem XI.far {α:Type} {T sz base n c:Nat} {enc:α->List Value} {w w':World} {A:Option Addr} {xs:List α} {L:List Zi} (h:XI T sz enc w base (.slice A n c) xs) (ho:Y4 w w' L) (ha:∀ b∈L,Kd ⟨A,c⟩ b):XI T sz enc w' base (.slice A n c) xs:=by
 obtain ⟨A',c',e,h1,h2⟩:=h;refine ⟨A',c',e,h1, ?_⟩;rcases h2 with h2|⟨g,cap',cur,hv,hg,hh,r⟩
 ·exact .inl h2
 ·refine .inr ⟨g,cap',cur,hv,hg,(ho.block g (YD hh) (λ b hb p hp=>?_)).trans hh,r⟩;injection hv with hv _ _
  injection e with e _ _
  exact λ e2=>ha b hb ⟨g,0,none⟩ p hv hp e2.symm
theorem XI.lo {α:Type} {T sz base n c:Nat} {enc:α->List Value} {w:World} {A:Option Addr} {xs:List α} (h:XI T sz enc w base (.slice A n c) xs):∀ p,A=some p->base<=p.block:=λ p hp=>(h.blk p hp).1
theorem XV.far {w w':World} {g:Nat} {vs:List Value} {L:List Zi} (h:XV w g vs) (ho:Y4 w w' L) (hn:∀ a∈L,∀ p,a.A=some p->p.block≠g):XV w' g vs:=by
 have hb:=ho.block g h.1 hn;refine ⟨Nat.lt_of_lt_of_le h.1 ho.size,λ j u hu=>?_⟩;have h2:=h.2 j u hu;exact ⟨(World.cell?_of_block (w:=w) hb).trans h2.1,(World.frozen?_of_block (w:=w) hb).trans h2.2⟩
theorem Sl.far {α:Type} {sz c:Nat} {enc:α->List Value} {w w':World} {A:Option Addr} {xs:List α} {L:List Zi} (h:Sl sz enc w A xs) (ho:Y4 w w' L) (ha:∀ b∈L,Kd ⟨A,c⟩ b):Sl sz enc w' A xs:=by
 intro hn;obtain ⟨b,off,rfl,hlt,hc⟩:=h hn;refine ⟨b,off,rfl,Nat.lt_of_lt_of_le hlt ho.size,λ i hi j u hu=>?_⟩;exact (World.cell?_of_block (w:=w) (a:=⟨b,off+i*sz+j,none⟩) (ho.block b hlt (λ x hx p hp e=>ha x hx ⟨b,off,none⟩ p rfl hp e.symm))).trans (hc i hi j u hu)
theorem XI.same {α:Type} {T sz base n:Nat} {enc:α->List Value} {w:World} {v:Value} {xs:List α} (h:XI T sz enc w base v xs) (hl:xs.length=n):∃ A c,v=.slice A n c/\XI T sz enc w base (.slice A n c) xs:=by
 obtain ⟨A,c,rfl,ho⟩:=h;subst hl;exact ⟨A,c,rfl,A,c,rfl,ho⟩
theorem Y4.cell {w w':World} {L:List Zi} (h:Y4 w w' L) {g:Nat} (hg:g<w.heap.size) (hn:∀ a∈L,∀ p,a.A=some p->p.block≠g):∀ o,w'.cell? ⟨g,o,none⟩=w.cell? ⟨g,o,none⟩ :=
 λ o=>World.cell?_of_block (w:=w) (a:=⟨g,o,none⟩) (h.block g hg hn)
theorem Blk.ne_ge {lo hi g:Nat} {a:Zi} (h:Blk lo hi a) (hg:hi<=g):∀ p,a.A=some p->p.block≠g:=λ p hp=>by have:=h p hp;omega
theorem Blk.lo {lo hi B:Nat} {a:Zi} (h:Blk lo hi a) (hB:B<=lo):∀ p,a.A=some p->B<=p.block:=λ p hp=>by have:=h p hp;omega
theorem all1 {α:Type} {P:α->Prop} {a:α} (h:P a):∀ x∈[a],P x:=λ x hx=>by rw [List.mem_singleton.1 hx];exact h
def Kh (k:Int) (n:Nat):List Int:=(List.range n).map λ(i:Nat)=>k+i
theorem markHalfS_g (A:Option Addr) (n cap:Nat) (xs:List Half) (K:Int) (base:Nat) (w:World) (hl:xs.length=n) (hn:n<=1048576) (hK:0<=K) (hK2:K<=1000000000000) (hv:XI 136 3 Xd w base (.slice A n cap) xs) :
 Calls Tryz.prog 127 #[.slice A n cap,.int .i64 K] w λ e w'=>e=.returned (.int .i64 (K+n*3))/\XI 136 3 Xd w' base (.slice A n cap) (Zl K n)/\Y4 w w' [⟨A,cap⟩]:=by
 obtain ⟨A',cap',he,hown⟩:=hv;injection he with e1 e2 e3
 subst e1 e3 hl;by_cases h0:xs.length=0
 ·have hx:xs=[]:=List.eq_nil_of_length_eq_zero h0;subst hx;simp only [List.length_nil];go_enter Tryz.func127,Tryz.ntmps127
  go_wp2
  go_loopw [1,5] (λ kk i wr=>i=.int .i64 0/\kk=.int .i64 K/\wr=w) (λ _ _ _=>0)
  case atStart=>exact ⟨rfl,rfl,rfl⟩
  case round =>
   obtain ⟨rfl,rfl,rfl⟩:=hrel;go_wp2
   go_ret
   exact ⟨YB Sz,⟨A,cap,rfl,hown⟩,Y4.refl _ _⟩
 ·obtain ⟨g,hA,hbg,hfill0,hback⟩:=own_filled Xx hown (Zl K xs.length) (by simp [Zl]) Oz;subst hA;have hml:(Zl K xs.length).length=xs.length:=by simp [Zl]
  go_enter Tryz.func127,Tryz.ntmps127
  go_wp2
  go_loopw [1,5] (λ kk i wr=>∃ k:Nat,k<=xs.length/\i=.int .i64 k/\kk=.int .i64 (K+k*3)/\ZG 136 3 Xd wr g (cap*3) (Zl K xs.length) k/\Y4 w wr [⟨some ⟨g,0,none⟩,cap⟩]) (λ _ i _=>xs.length-(intOf i).toNat)
  case atStart=>exact ⟨0,Nat.zero_le _,rfl,Sz,hfill0,Y4.refl _ _⟩
  case round =>
   obtain ⟨k,hk,rfl,rfl,hfill,hbw⟩:=hrel;by_cases hlt:k<xs.length
   ·have hm:=Nat.mul_le_mul_right 3 hlt;have hml2:=hfill.room;rw [hml] at hml2;obtain ⟨u0,c0⟩:=hfill.cell (m:=k*3) (by omega);have f0:=hfill.frozen (k*3);obtain ⟨u1,c1⟩:=hfill.cell (m:=k*3+1) (by omega);have f1:=hfill.frozen (k*3+1);obtain ⟨u2,c2⟩:=hfill.cell (m:=k*3+2) (by omega);have f2:=hfill.frozen (k*3+2);clear hm hml2;have hst:=hfill.stored Xx (by rw [hml];exact hlt) (vs:=Xd ⟨K+k*3,K+k*3+1,K+k*3+1+1⟩) (by simp [Zl]);have hst2:=Y4.setCells (Xd ⟨K+k*3,K+k*3+1,K+k*3+1+1⟩) (k*3) _ hbw;go_wp2
    refine ⟨⟨k+1,by omega,by go_num, ?_,hst,hst2⟩,by simp [intOf];omega⟩;congr 1;omega
   ·obtain rfl:k=xs.length:=Oz
    go_wp2
    go_ret
    refine ⟨rfl, ?_,hbw⟩;obtain ⟨A2,c2,e2,o2⟩:=hback _ hfill;rw [hml] at e2 o2;injection e2 with e3 _ e4
    subst e3 e4;exact ⟨_,_,by rw [hml],by rw [hml];exact o2⟩
theorem markIntS_g (A:Option Addr) (n cap:Nat) (xs:List Int) (K:Int) (base:Nat) (w:World) (hl:xs.length=n) (hn:n<=1048576) (hK:0<=K) (hK2:K<=1000000000000) (hv:XI 3 1 Zm w base (.slice A n cap) xs) :
 Calls Tryz.prog 81 #[.slice A n cap,.int .i64 K] w λ e w'=>e=.returned (.int .i64 (K+n))/\XI 3 1 Zm w' base (.slice A n cap) (Kh K n)/\Y4 w w' [⟨A,cap⟩]:=by
 obtain ⟨A',cap',he,hown⟩:=hv;injection he with e1 e2 e3
 subst e1 e3 hl;by_cases h0:xs.length=0
 ·have hx:xs=[]:=List.eq_nil_of_length_eq_zero h0;subst hx;simp only [List.length_nil];go_enter Tryz.func81,Tryz.ntmps81
  go_wp2
  go_loopw [1,5] (λ kk i wr=>i=.int .i64 0/\kk=.int .i64 K/\wr=w) (λ _ _ _=>0)
  case atStart=>exact ⟨rfl,rfl,rfl⟩
  case round =>
   obtain ⟨rfl,rfl,rfl⟩:=hrel;go_wp2
   go_ret
   exact ⟨YB Sz,⟨A,cap,rfl,hown⟩,Y4.refl _ _⟩
 ·obtain ⟨g,hA,hbg,hfill0,hback⟩:=own_filled Zg hown (Kh K xs.length) (by simp [Kh]) Oz;subst hA;have hml:(Kh K xs.length).length=xs.length:=by simp [Kh]
  go_enter Tryz.func81,Tryz.ntmps81
  go_wp2
  go_loopw [1,5] (λ kk i wr=>∃ k:Nat,k<=xs.length/\i=.int .i64 k/\kk=.int .i64 (K+k)/\ZG 3 1 Zm wr g (cap*1) (Kh K xs.length) k/\Y4 w wr [⟨some ⟨g,0,none⟩,cap⟩]) (λ _ i _=>xs.length-(intOf i).toNat)
  case atStart=>exact ⟨0,Nat.zero_le _,rfl,Sz,hfill0,Y4.refl _ _⟩
  case round =>
   obtain ⟨k,hk,rfl,rfl,hfill,hbw⟩:=hrel;by_cases hlt:k<xs.length
   ·have hm:=Nat.mul_le_mul_right 1 hlt;have hml2:=hfill.room;rw [hml] at hml2;obtain ⟨u0,c0⟩:=hfill.cell (m:=k) (by omega);have f0:=hfill.frozen (k);clear hm hml2;have hst:=hfill.stored Zg (by rw [hml];exact hlt) (vs:=Zm (K+k)) (by simp [Kh]);have hst2:=Y4.setCells (Zm (K+k)) (k*1) _ hbw;rw [Nat.mul_one] at hst hst2;go_wp2
    refine ⟨⟨k+1,by omega,by go_num, ?_,hst,hst2⟩,by simp [intOf];omega⟩;congr 1;omega
   ·obtain rfl:k=xs.length:=Oz
    go_wp2
    go_ret
    refine ⟨rfl, ?_,hbw⟩;obtain ⟨A2,c2,e2,o2⟩:=hback _ hfill;rw [hml] at e2 o2;injection e2 with e3 _ e4
    subst e3 e4;exact ⟨_,_,by rw [hml],by rw [hml];exact o2⟩
theorem heldIntS_c (A:Option Addr) (n cap:Nat) (K:Int) (w:World) (hn:n<=1048576) (hK:0<=K) (hK2:K<=1000000000000) (hs:Sl 1 Zm w A (Kh K n)) :
 Calls Tryz.prog 84 #[.slice A n cap,.int .i64 K] w λ e w'=>e=.returned (.int .i64 (K+n))/\w=w':=by
 have hml:(Kh K n).length=n:=by simp [Kh]
 go_enter Tryz.func84,Tryz.ntmps84
 go_wp2
 go_loop [1,5] (λ kk i=>∃ k:Nat,k<=n/\i=.int .i64 k/\kk=.int .i64 (K+k)) (λ _ i=>n-(intOf i).toNat)
 case atStart=>exact ⟨0,Nat.zero_le _,rfl,Sz⟩
 case round =>
  obtain ⟨k,hk,rfl,rfl⟩:=hrel;by_cases hlt:k<n
  ·obtain ⟨b,off,rfl,hblt,hc⟩:=hs.at_ (k:=k) (by rw [hml];exact hlt);have hx:(Kh K n)[k]'(by rw [hml];exact hlt)=K+k:=by simp [Kh]
   rw [hx] at hc;have g0:=hc 0 _ rfl;clear hc hx hml;simp only [Nat.mul_one,Nat.add_zero] at g0;go_wp2
   refine ⟨⟨k+1,by omega,by go_num, ?_⟩,by simp [intOf];omega⟩;congr 1;omega
  ·obtain rfl:k=n:=Oz
   go_wp2
   go_ret
   exact ⟨rfl,rfl⟩
theorem markRegion_g (x:List Half) (a:Zi) (K:Int) (base:Nat) (w:World) (hn:x.length<=1048576) (hK:0<=K) (hK2:K<=1000000000000) (hv:XK w base x a) :
 Calls Tryz.prog 80 #[Yi x a,.int .i64 K] w λ e w'=>e=.returned (.int .i64 (K+x.length*3))/\XI 136 3 Xd w' base (.slice a.A x.length a.c) (Zl K x.length)/\Y4 w w' [a]:=by
 obtain ⟨hv⟩:=hv;have c1:=λ W h=>markHalfS_g a.A x.length a.c x K base W rfl hn hK hK2 h;go_enter Tryz.func80,Tryz.ntmps80
 go_wp2_with (fail)
 refine (c1 _ (XI.alloc hv _)).mono ?_;rintro e w1 ⟨rfl,N1,o1⟩;go_wp2
 go_ret
 exact ⟨rfl,N1,(Y4.of_below (Xc bR _) _).trans o1⟩
theorem heldRegion_c (n:Nat) (a:Zi) (K:Int) (w:World) (hn:n<=1048576) (hK:0<=K) (hK2:K<=1000000000000) (hs:Sl 3 Xd w a.A (Zl K n)) :
 Calls Tryz.prog 83 #[.agg #[.slice a.A n a.c],.int .i64 K] w λ e w'=>e=.returned (.int .i64 (K+n*3))/\Below w.heap.size w w':=by
 have c1:=λ W h=>heldHalfS_c a.A n a.c K W hn hK hK2 h;have hng:¬ (K+(n:Int)*3<0):=Oz
 go_enter Tryz.func83,Tryz.ntmps83
 go_wp2_with (fail)
 refine (c1 _ (hs.alloc _)).mono ?_;rintro e w1 ⟨rfl,rfl⟩;go_wp2
 go_ret
 refine ⟨rfl, ?_⟩;exact Xl
structure RoomMk (w:World) (x:XU) (a:Yn) (K:Int):Prop where
 map:Sl 1 Zm w a.map.A (Kh K x.map.length)
 noise:Sl 3 Xd w a.noise.A (Zl (K+x.map.length) x.noise.length)
 limits:Sl 3 Xd w a.limits.A (Zl (K+x.map.length+x.noise.length*3) x.limits.length)
theorem RoomMk.below {w w':World} {x:XU} {a:Yn} {K:Int} (h:RoomMk w x a K) (hb:Below w.heap.size w w'):RoomMk w' x a K:=⟨h.map.below hb,h.noise.below hb,h.limits.below hb⟩
theorem markRoom_g (x:XU) (a:Yn) (K:Int) (base:Nat) (w:World) (hn:Xy x<=1048576) (hK:0<=K) (hK2:K<=1000000) (hv:Yr w base x a) :
 Calls Tryz.prog 79 #[Ya x a,.int .i64 K] w λ e w'=>e=.returned (.int .i64 (K+x.map.length+x.noise.length*3+x.limits.length*3))/\RoomMk w' x a K/\Y4 w w' [a.map,a.noise,a.limits]:=by
 obtain ⟨map,div,bx,by_,low,high,noise,limits⟩:=x;simp only [Xy] at hn;obtain ⟨N1,N2,N3,hap⟩:=hv;simp only [List.pairwise_cons,List.mem_cons,List.not_mem_nil,or_false] at hap;obtain ⟨p1,p2,_⟩:=hap;have p12:=p1 _ (.inl rfl);have p13:=p1 _ (.inr rfl);have p23:=p2 _ rfl;clear p1 p2;simp only at N1 N2 N3 ⊢;have c1:=λ W h=>markIntS_g a.map.A map.length a.map.c map K base W rfl (by omega) hK (by omega) h;have c2:=λ W h=>markRegion_g noise a.noise (K+map.length) base W (by omega) (by omega) (by omega) h;have c3:=λ W h=>markRegion_g limits a.limits (K+map.length+noise.length*3) base W (by omega) (by omega) (by omega) h;have b0:=Xc (Below.refl w.heap.size w) (.cells #[.slice a.map.A map.length a.map.c,.int .i64 div,.int .i64 bx,.int .i64 by_,.int .i64 low,.int .i64 high,.slice a.noise.A noise.length a.noise.c,.slice a.limits.A limits.length a.limits.c] 28);have H0:XV (w.alloc (.cells #[.slice a.map.A map.length a.map.c,.int .i64 div,.int .i64 bx,.int .i64 by_,.int .i64 low,.int .i64 high,.slice a.noise.A noise.length a.noise.c,.slice a.limits.A limits.length a.limits.c] 28)) w.heap.size [.slice a.map.A map.length a.map.c,.int .i64 div,.int .i64 bx,.int .i64 by_,.int .i64 low,.int .i64 high,.slice a.noise.A noise.length a.noise.c,.slice a.limits.A limits.length a.limits.c]:=XV.new _ _ _;have k1:∀ p,a.map.A=some p->p.block≠w.heap.size:=N1.blk.ne_ge XE;have k2:∀ p,a.noise.A=some p->p.block≠w.heap.size:=N2.blk.ne_ge XE;have N1':=N1.below b0 XE;have N2':=N2.below b0 XE;have N3':=N3.below b0 XE;have B0:=Y4.of_below b0 [a.map,a.noise,a.limits];clear N1 N2 N3 b0 hn;go_enter Tryz.func79,Tryz.ntmps79
 go_wp2_with (fail)
 refine (c1 _ N1').mono ?_;rintro e w1 ⟨rfl,M1,o1⟩;have H1:=H0.far o1 (all1 k1);have O1:=B0.trans (o1.mono (by intro x hx;simp only [List.mem_singleton] at hx;subst hx;simp));have R2:XK w1 base noise a.noise:=⟨N2'.halves.far o1 (all1 p12.symm)⟩;have R3:XK w1 base limits a.limits:=⟨N3'.halves.far o1 (all1 p13.symm)⟩;have lH1:=H1.1;clear N1' N2' N3' o1 B0 H0 c1;obtain ⟨cH1_0,fH1_0⟩:=H1.2 0 _ rfl;obtain ⟨cH1_1,fH1_1⟩:=H1.2 1 _ rfl;obtain ⟨cH1_2,fH1_2⟩:=H1.2 2 _ rfl;obtain ⟨cH1_3,fH1_3⟩:=H1.2 3 _ rfl;obtain ⟨cH1_4,fH1_4⟩:=H1.2 4 _ rfl;obtain ⟨cH1_5,fH1_5⟩:=H1.2 5 _ rfl;obtain ⟨cH1_6,fH1_6⟩:=H1.2 6 _ rfl;obtain ⟨cH1_7,fH1_7⟩:=H1.2 7 _ rfl;go_wp2_with (fail)
 refine (c2 _ R2).mono ?_;rintro e w2 ⟨rfl,M2,o2⟩;have H2:=H1.far o2 (all1 k2);have O2:=O1.trans (o2.mono (by intro x hx;simp only [List.mem_singleton] at hx;subst hx;simp));have S1:=(M1.out Zg).far (c:=a.map.c) o2 (all1 p12);have R3:XK w2 base limits a.limits:=⟨R3.halves.far o2 (all1 p23.symm)⟩;have lH2:=H2.1;clear M1 o2 O1 R2 c2 cH1_0 cH1_1 cH1_2 cH1_3 cH1_4 cH1_5 cH1_6 cH1_7 fH1_0 fH1_1 fH1_2 fH1_3 fH1_4 fH1_5 fH1_6 fH1_7 H1 lH1;obtain ⟨cH2_0,fH2_0⟩:=H2.2 0 _ rfl;obtain ⟨cH2_1,fH2_1⟩:=H2.2 1 _ rfl;obtain ⟨cH2_2,fH2_2⟩:=H2.2 2 _ rfl;obtain ⟨cH2_3,fH2_3⟩:=H2.2 3 _ rfl;obtain ⟨cH2_4,fH2_4⟩:=H2.2 4 _ rfl;obtain ⟨cH2_5,fH2_5⟩:=H2.2 5 _ rfl;obtain ⟨cH2_6,fH2_6⟩:=H2.2 6 _ rfl;obtain ⟨cH2_7,fH2_7⟩:=H2.2 7 _ rfl;go_wp2_with (fail)
 refine (c3 _ R3).mono ?_;rintro e w3 ⟨rfl,M3,o3⟩;have O3:=O2.trans (o3.mono (by intro x hx;simp only [List.mem_singleton] at hx;subst hx;simp));have S1:=S1.far (c:=a.map.c) o3 (all1 p13);have S2:=(M2.out Xx).far (c:=a.noise.c) o3 (all1 p23);have S3:=M3.out Xx;clear M2 o3 O2 R3 c3 cH2_0 cH2_1 cH2_2 cH2_3 cH2_4 cH2_5 cH2_6 cH2_7 fH2_0 fH2_1 fH2_2 fH2_3 fH2_4 fH2_5 fH2_6 fH2_7 H2 lH2 M3;go_wp2
 go_ret
 exact ⟨rfl,⟨S1,S2,S3⟩,O3⟩
theorem heldRoom_c (x:XU) (a:Yn) (K:Int) (w:World) (hn:Xy x<=1048576) (hK:0<=K) (hK2:K<=1000000) (hs:RoomMk w x a K) :
 Calls Tryz.prog 82 #[Ya x a,.int .i64 K] w λ e w'=>e=.returned (.int .i64 (K+x.map.length+x.noise.length*3+x.limits.length*3))/\Below w.heap.size w w':=by
 obtain ⟨map,div,bx,by_,low,high,noise,limits⟩:=x;simp only [Xy] at hn;obtain ⟨s1,s2,s3⟩:=hs;simp only at s1 s2 s3 ⊢;have c1:=λ W h=>heldIntS_c a.map.A map.length a.map.c K W Oz hK Oz h;have c2:=λ W h=>heldRegion_c noise.length a.noise (K+map.length) W Oz Oz Oz h;have c3:=λ W h=>heldRegion_c limits.length a.limits (K+map.length+noise.length*3) W Oz Oz Oz h;have n1:¬ (K+(map.length:Int)<0):=Oz
 have n2:¬ (K+(map.length:Int)+(noise.length:Int)*3<0):=Oz
 have n3:¬ (K+(map.length:Int)+(noise.length:Int)*3+(limits.length:Int)*3<0):=Oz
 go_enter Tryz.func82,Tryz.ntmps82
 go_wp2_with (fail)
 refine (c1 _ (s1.alloc _)).mono ?_;rintro e w1 ⟨rfl,rfl⟩;go_wp2_with (fail)
 refine (c2 _ (s2.alloc _)).mono ?_;rintro e w2 ⟨rfl,hb2⟩;have r2:=Xh hb2;have l2:w.heap.size<w2.heap.size:=blt hb2 (by simp);go_wp2_with (fail)
 refine (c3 _ ((s3.alloc _).below hb2)).mono ?_;rintro e w3 ⟨rfl,hb3⟩;go_wp2
 go_ret
 refine ⟨rfl, ?_⟩;exact Xl
def BlkL (lo hi:Nat) (L:List Zi):Prop:=∀ a∈L,Blk lo hi a
theorem BlkL.ne {lo hi g:Nat} {L:List Zi} (h:BlkL lo hi L) (hg:g<lo∨hi<=g):∀ a∈L,∀ p,a.A=some p->p.block≠g:=by
 intro a ha p hp;have:=h a ha p hp;omega
theorem BlkL.lo {lo hi B:Nat} {L:List Zi} (h:BlkL lo hi L) (hB:B<=lo):∀ a∈L,∀ p,a.A=some p->B<=p.block:=by
 intro a ha p hp;have:=h a ha p hp;omega
theorem BlkL.apart {lo hi lo' hi':Nat} {L L':List Zi} (h:BlkL lo hi L) (h':BlkL lo' hi' L') (hle:hi<=lo'∨hi'<=lo):∀ a∈L,∀ b∈L',Kd a b:=by
 intro a ha b hb p q hp hq e;have:=h a ha p hp;have:=h' b hb q hq;omega
theorem BlkL.mono {lo hi lo' hi':Nat} {L:List Zi} (h:BlkL lo hi L) (h1:lo'<=lo) (h2:hi<=hi'):BlkL lo' hi' L:=by
 intro a ha p hp;have:=h a ha p hp;omega
theorem XI.blkL {α:Type} {T sz base n c:Nat} {enc:α->List Value} {w:World} {A:Option Addr} {xs:List α} (h:XI T sz enc w base (.slice A n c) xs):BlkL base w.heap.size [⟨A,c⟩]:=all1 h.blk
theorem XI.far1 {α:Type} {T sz base n c:Nat} {enc:α->List Value} {w w':World} {A:Option Addr} {xs:List α} {L:List Zi} (h:XI T sz enc w base (.slice A n c) xs) (ho:Y4 w w' L) (hap:∀ a∈[(⟨A,c⟩:Zi)],∀ b∈L,Kd a b):XI T sz enc w' base (.slice A n c) xs :=
 h.far ho (hap _ (List.mem_singleton.2 rfl))
theorem XK.blkL {w:World} {base:Nat} {x:List Half} {a:Zi} (h:XK w base x a):BlkL base w.heap.size [a]:=all1 h.blk
theorem XK.far1 {w w':World} {base:Nat} {x:List Half} {a:Zi} {L:List Zi} (h:XK w base x a) (ho:Y4 w w' L) (hap:∀ c∈[a],∀ b∈L,Kd c b):XK w' base x a :=
 ⟨h.halves.far ho (λ b hb=>hap a Sz b hb)⟩
theorem Yr.blkL {w:World} {base:Nat} {x:XU} {a:Yn} (h:Yr w base x a):BlkL base w.heap.size [a.map,a.noise,a.limits]:=by
 intro b hb;simp only [List.mem_cons,List.not_mem_nil,or_false] at hb;obtain ⟨h0,h1,h2⟩:=h.blk;rcases hb with rfl|rfl|rfl<;>assumption
theorem Yr.far1 {w w':World} {base:Nat} {x:XU} {a:Yn} {L:List Zi} (h:Yr w base x a) (ho:Y4 w w' L) (hap:∀ c∈[a.map,a.noise,a.limits],∀ b∈L,Kd c b):Yr w' base x a :=
 ⟨h.map.far ho (λ b hb=>hap a.map Sz b hb),h.noise.far1 ho (λ c hc b hb=>hap c (by simp only [List.mem_cons,List.not_mem_nil,or_false] at hc ⊢;grind) b hb),h.limits.far1 ho (λ c hc b hb=>hap c (by simp only [List.mem_cons,List.not_mem_nil,or_false] at hc ⊢;grind) b hb),h.apart⟩
theorem XA.blkL {w:World} {base:Nat} {x:ZE} {a:ZF} (h:XA w base x a):BlkL base w.heap.size [a.room.map,a.room.noise,a.room.limits,a.reg,a.log]:=by
 intro b hb;simp only [List.mem_cons,List.not_mem_nil,or_false] at hb;obtain ⟨h0,h1,h2,h3,h4⟩:=h.blk;rcases hb with rfl|rfl|rfl|rfl|rfl<;>assumption
theorem XA.far1 {w w':World} {base:Nat} {x:ZE} {a:ZF} {L:List Zi} (h:XA w base x a) (ho:Y4 w w' L) (hap:∀ c∈[a.room.map,a.room.noise,a.room.limits,a.reg,a.log],∀ b∈L,Kd c b):XA w' base x a :=
 ⟨h.room.far1 ho (λ c hc b hb=>hap c (by simp only [List.mem_cons,List.not_mem_nil,or_false] at hc ⊢;grind) b hb),h.reg.far1 ho (λ c hc b hb=>hap c (by simp only [List.mem_cons,List.not_mem_nil,or_false] at hc ⊢;grind) b hb),h.log.far ho (λ b hb=>hap a.log Sz b hb),h.apart⟩
theorem Y3.blkL {w:World} {base:Nat} {x:Track} {a:JS} (h:Y3 w base x a):BlkL base w.heap.size [a.spots,a.inputs]:=by
 intro b hb;simp only [List.mem_cons,List.not_mem_nil,or_false] at hb;obtain ⟨h0,h1⟩:=h.blk;rcases hb with rfl|rfl<;>assumption
theorem Y3.far1 {w w':World} {base:Nat} {x:Track} {a:JS} {L:List Zi} (h:Y3 w base x a) (ho:Y4 w w' L) (hap:∀ c∈[a.spots,a.inputs],∀ b∈L,Kd c b):Y3 w' base x a :=
 ⟨h.spots.far ho (λ b hb=>hap a.spots Sz b hb),h.inputs.far ho (λ b hb=>hap a.inputs Sz b hb),h.apart⟩
end Go.Proofs.YtbekjpkcicjcgaaGreat
