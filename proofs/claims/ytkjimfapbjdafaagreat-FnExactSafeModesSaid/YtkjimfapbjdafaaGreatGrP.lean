/-
 What the functions that mark results and look whether the marks are held return.
 Conditions: the slices hold at most 2^20 elements.
-/
import Derived.Test.YtkjimfapbjdafaaGreatGrA
import Derived.Test.YtkjimfapbjdafaaGreatGrN
section
namespace Go.Proofs.YtkjimfapbjdafaaGreat
open Go.RowKit
end Go.Proofs.YtkjimfapbjdafaaGreat
end
section
namespace Go.Proofs.YtkjimfapbjdafaaGreat
open Go.RowKit
/-- Nothing is changed but the blocks of these slices. -/
structure Y8 (w w':World) (L:List ZR):Prop where
 os:w'.os=w.os
 tape:w'.tape=w.tape
 output:w'.output=w.output
 size:w.heap.size≤w'.heap.size
 block:∀ k,k<w.heap.size→(∀ a∈L,∀ p,a.A=some p→p.block≠k)→w'.heap[k]? = w.heap[k]?
theorem Y8.refl (w:World) (L:List ZR):Y8 w w L:=⟨rfl,rfl,rfl,Nat.le_refl _,fun _ _ _=>rfl⟩
theorem Y8.trans {a b c:World} {L:List ZR} (h:Y8 a b L) (k:Y8 b c L):Y8 a c L :=
 ⟨k.os.trans h.os,k.tape.trans h.tape,k.output.trans h.output,Nat.le_trans h.size k.size,fun i hi hn=>(k.block i (Nat.lt_of_lt_of_le hi h.size) hn).trans (h.block i hi hn)⟩
theorem Y8.mono {a b:World} {L L':List ZR} (h:Y8 a b L) (hs:∀ x∈L,x∈L'):Y8 a b L' :=
 ⟨h.os,h.tape,h.output,h.size,fun i hi hn=>h.block i hi (fun x hx=>hn x (hs x hx))⟩
theorem Y8.of_below {a b:World} (h:Below a.heap.size a b) (L:List ZR):Y8 a b L:=⟨h.os,h.tape,h.output,h.size,fun i hi _=>h.block i hi⟩
theorem Y8.below {a b:World} {L:List ZR} {B:Nat} (h:Y8 a b L) (hB:B≤a.heap.size) (hL:∀ x∈L,∀ p,x.A=some p→B≤p.block):Below B a b :=
 ⟨h.os,h.tape,h.output,h.size,fun i hi=>h.block i (Nat.lt_of_lt_of_le hi hB) (fun x hx p hp e=>by have:=hL x hx p hp;omega)⟩
theorem Y8.setCells {w:World} {g c:Nat}:∀ (vs:List Value) (o:Nat) (W:World),Y8 w W [⟨some ⟨g,0,none⟩,c⟩]→Y8 w (W.setCells g o vs) [⟨some ⟨g,0,none⟩,c⟩]
 | [],_,_,h=>h
 | v :: r,o,W,h=>Y8.setCells r (o+1) _ (h.trans ⟨rfl,rfl,rfl,by simp [World.setCell],fun k _ hk=>heap_setCell_other W ⟨g,o,none⟩ k v (fun e=>by
  have:=hk _ (List.mem_singleton.2 rfl) _ rfl
  simp only [ne_eq] at this
  first|exact this e|exact this e.symm)⟩)
theorem XY.far {α:Type} {T sz base n c:Nat} {enc:α→List Value} {w w':World} {A:Option Addr} {xs:List α} {L:List ZR} (h:XY T sz enc w base (.slice A n c) xs) (ho:Y8 w w' L) (ha:∀ b∈L,Jb ⟨A,c⟩ b):XY T sz enc w' base (.slice A n c) xs:=by
 obtain ⟨A',c',e,h1,h2⟩:=h
 refine ⟨A',c',e,h1, ?_⟩
 rcases h2 with h2|⟨g,cap',cur,hv,hg,hh,r⟩
 ·exact .inl h2
 ·refine .inr ⟨g,cap',cur,hv,hg,(ho.block g (XX hh) (fun b hb p hp=>?_)).trans hh,r⟩
  injection hv with hv _ _
  injection e with e _ _
  exact fun e2=>ha b hb ⟨g,0,none⟩ p hv hp e2.symm
theorem XY.lo {α:Type} {T sz base n c:Nat} {enc:α→List Value} {w:World} {A:Option Addr} {xs:List α} (h:XY T sz enc w base (.slice A n c) xs):∀ p,A=some p→base≤p.block:=fun p hp=>(h.blk p hp).1
theorem X3.far {w w':World} {g:Nat} {vs:List Value} {L:List ZR} (h:X3 w g vs) (ho:Y8 w w' L) (hn:∀ a∈L,∀ p,a.A=some p→p.block≠g):X3 w' g vs:=by
 have hb:=ho.block g h.1 hn
 refine ⟨Nat.lt_of_lt_of_le h.1 ho.size,fun j u hu=>?_⟩
 have h2:=h.2 j u hu
 exact ⟨(World.cell?_of_block (w:=w) hb).trans h2.1,(World.frozen?_of_block (w:=w) hb).trans h2.2⟩
theorem Sl.far {α:Type} {sz c:Nat} {enc:α→List Value} {w w':World} {A:Option Addr} {xs:List α} {L:List ZR} (h:Sl sz enc w A xs) (ho:Y8 w w' L) (ha:∀ b∈L,Jb ⟨A,c⟩ b):Sl sz enc w' A xs:=by
 intro hn
 obtain ⟨b,off,rfl,hlt,hc⟩:=h hn
 refine ⟨b,off,rfl,Nat.lt_of_lt_of_le hlt ho.size,fun i hi j u hu=>?_⟩
 exact (World.cell?_of_block (w:=w) (a:=⟨b,off+i*sz+j,none⟩) (ho.block b hlt (fun x hx p hp e=>ha x hx ⟨b,off,none⟩ p rfl hp e.symm))).trans (hc i hi j u hu)
theorem XY.same {α:Type} {T sz base n:Nat} {enc:α→List Value} {w:World} {v:Value} {xs:List α} (h:XY T sz enc w base v xs) (hl:xs.length=n):∃ A c,v=.slice A n c∧XY T sz enc w base (.slice A n c) xs:=by
 obtain ⟨A,c,rfl,ho⟩:=h
 subst hl
 exact ⟨A,c,rfl,A,c,rfl,ho⟩
theorem Y8.cell {w w':World} {L:List ZR} (h:Y8 w w' L) {g:Nat} (hg:g<w.heap.size) (hn:∀ a∈L,∀ p,a.A=some p→p.block≠g):∀ o,w'.cell? ⟨g,o,none⟩=w.cell? ⟨g,o,none⟩ :=
 fun o=>World.cell?_of_block (w:=w) (a:=⟨g,o,none⟩) (h.block g hg hn)
theorem Blk.ne_ge {lo hi g:Nat} {a:ZR} (h:Blk lo hi a) (hg:hi≤g):∀ p,a.A=some p→p.block≠g:=fun p hp=>by have:=h p hp;omega
theorem Blk.lo {lo hi B:Nat} {a:ZR} (h:Blk lo hi a) (hB:B≤lo):∀ p,a.A=some p→B≤p.block:=fun p hp=>by have:=h p hp;omega
theorem all1 {α:Type} {P:α→Prop} {a:α} (h:P a):∀ x∈[a],P x:=fun x hx=>by rw [List.mem_singleton.1 hx];exact h
def Kw (k:Int) (n:Nat):List Int:=(List.range n).map fun (i:Nat)=>k+i
set_option maxRecDepth 100000 in
theorem markHalfS_g (A:Option Addr) (n cap:Nat) (xs:List Half) (K:Int) (base:Nat) (w:World) (hl:xs.length=n) (hn:n≤1048576) (hK:0≤K) (hK2:K≤1000000000000) (hv:XY 175 3 Xr w base (.slice A n cap) xs) :
 Calls Tryz.prog 93 #[.slice A n cap,.int .i64 K] w fun e w'=>e=.returned (.int .i64 (K+n*3))∧XY 175 3 Xr w' base (.slice A n cap) (KW K n)∧Y8 w w' [⟨A,cap⟩]:=by
 obtain ⟨A',cap',he,hown⟩:=hv
 injection he with e1 e2 e3
 subst e1 e3 hl
 by_cases h0:xs.length=0
 ·have hx:xs=[]:=List.eq_nil_of_length_eq_zero h0
  subst hx
  simp only [List.length_nil]
  go_enter Tryz.func93,Tryz.ntmps93
  go_wp2
  go_loopw [1,5] (fun kk i wr=>i=.int .i64 0∧kk=.int .i64 K∧wr=w) (fun _ _ _=>0)
  case atStart=>exact ⟨rfl,rfl,rfl⟩
  case round =>
   obtain ⟨rfl,rfl,rfl⟩:=hrel
   go_wp2
   go_ret
   exact ⟨YF (by simp),⟨A,cap,rfl,hown⟩,Y8.refl _ _⟩
 ·obtain ⟨g,hA,hbg,hfill0,hback⟩:=own_filled Xz hown (KW K xs.length) (by simp [KW]) (by omega)
  subst hA
  have hml:(KW K xs.length).length=xs.length:=by simp [KW]
  go_enter Tryz.func93,Tryz.ntmps93
  go_wp2
  go_loopw [1,5] (fun kk i wr=>∃ k:Nat,k≤xs.length∧i=.int .i64 k∧kk=.int .i64 (K+k*3)∧ZA 175 3 Xr wr g (cap*3) (KW K xs.length) k∧Y8 w wr [⟨some ⟨g,0,none⟩,cap⟩]) (fun _ i _=>xs.length-(intOf i).toNat)
  case atStart=>exact ⟨0,Nat.zero_le _,rfl,by simp,hfill0,Y8.refl _ _⟩
  case round =>
   obtain ⟨k,hk,rfl,rfl,hfill,hbw⟩:=hrel
   by_cases hlt:k<xs.length
   ·have hm:=Nat.mul_le_mul_right 3 hlt
    have hml2:=hfill.room
    rw [hml] at hml2
    obtain ⟨u0,c0⟩:=hfill.cell (m:=k*3) (by omega)
    have f0:=hfill.frozen (k*3)
    obtain ⟨u1,c1⟩:=hfill.cell (m:=k*3+1) (by omega)
    have f1:=hfill.frozen (k*3+1)
    obtain ⟨u2,c2⟩:=hfill.cell (m:=k*3+2) (by omega)
    have f2:=hfill.frozen (k*3+2)
    clear hm hml2
    have hst:=hfill.stored Xz (by rw [hml];exact hlt) (vs:=Xr ⟨K+k*3,K+k*3+1,K+k*3+1+1⟩) (by simp [KW])
    have hst2:=Y8.setCells (Xr ⟨K+k*3,K+k*3+1,K+k*3+1+1⟩) (k*3) _ hbw
    go_wp2
    refine ⟨⟨k+1,by omega,by go_num, ?_,hst,hst2⟩,by simp [intOf];omega⟩
    congr 1;omega
   ·obtain rfl:k=xs.length:=by omega
    go_wp2
    go_ret
    refine ⟨rfl, ?_,hbw⟩
    obtain ⟨A2,c2,e2,o2⟩:=hback _ hfill
    rw [hml] at e2 o2
    injection e2 with e3 _ e4
    subst e3 e4
    exact ⟨_,_,by rw [hml],by rw [hml];exact o2⟩
set_option maxRecDepth 100000 in
theorem markIntS_g (A:Option Addr) (n cap:Nat) (xs:List Int) (K:Int) (base:Nat) (w:World) (hl:xs.length=n) (hn:n≤1048576) (hK:0≤K) (hK2:K≤1000000000000) (hv:XY 3 1 YP w base (.slice A n cap) xs) :
 Calls Tryz.prog 30 #[.slice A n cap,.int .i64 K] w fun e w'=>e=.returned (.int .i64 (K+n))∧XY 3 1 YP w' base (.slice A n cap) (Kw K n)∧Y8 w w' [⟨A,cap⟩]:=by
 obtain ⟨A',cap',he,hown⟩:=hv
 injection he with e1 e2 e3
 subst e1 e3 hl
 by_cases h0:xs.length=0
 ·have hx:xs=[]:=List.eq_nil_of_length_eq_zero h0
  subst hx
  simp only [List.length_nil]
  go_enter Tryz.func30,Tryz.ntmps30
  go_wp2
  go_loopw [1,5] (fun kk i wr=>i=.int .i64 0∧kk=.int .i64 K∧wr=w) (fun _ _ _=>0)
  case atStart=>exact ⟨rfl,rfl,rfl⟩
  case round =>
   obtain ⟨rfl,rfl,rfl⟩:=hrel
   go_wp2
   go_ret
   exact ⟨YF (by simp),⟨A,cap,rfl,hown⟩,Y8.refl _ _⟩
 ·obtain ⟨g,hA,hbg,hfill0,hback⟩:=own_filled Yv hown (Kw K xs.length) (by simp [Kw]) (by omega)
  subst hA
  have hml:(Kw K xs.length).length=xs.length:=by simp [Kw]
  go_enter Tryz.func30,Tryz.ntmps30
  go_wp2
  go_loopw [1,5] (fun kk i wr=>∃ k:Nat,k≤xs.length∧i=.int .i64 k∧kk=.int .i64 (K+k)∧ZA 3 1 YP wr g (cap*1) (Kw K xs.length) k∧Y8 w wr [⟨some ⟨g,0,none⟩,cap⟩]) (fun _ i _=>xs.length-(intOf i).toNat)
  case atStart=>exact ⟨0,Nat.zero_le _,rfl,by simp,hfill0,Y8.refl _ _⟩
  case round =>
   obtain ⟨k,hk,rfl,rfl,hfill,hbw⟩:=hrel
   by_cases hlt:k<xs.length
   ·have hm:=Nat.mul_le_mul_right 1 hlt
    have hml2:=hfill.room
    rw [hml] at hml2
    obtain ⟨u0,c0⟩:=hfill.cell (m:=k) (by omega)
    have f0:=hfill.frozen (k)
    clear hm hml2
    have hst:=hfill.stored Yv (by rw [hml];exact hlt) (vs:=YP (K+k)) (by simp [Kw])
    have hst2:=Y8.setCells (YP (K+k)) (k*1) _ hbw
    rw [Nat.mul_one] at hst hst2
    go_wp2
    refine ⟨⟨k+1,by omega,by go_num, ?_,hst,hst2⟩,by simp [intOf];omega⟩
    congr 1;omega
   ·obtain rfl:k=xs.length:=by omega
    go_wp2
    go_ret
    refine ⟨rfl, ?_,hbw⟩
    obtain ⟨A2,c2,e2,o2⟩:=hback _ hfill
    rw [hml] at e2 o2
    injection e2 with e3 _ e4
    subst e3 e4
    exact ⟨_,_,by rw [hml],by rw [hml];exact o2⟩
set_option maxRecDepth 100000 in
theorem heldIntS_c (A:Option Addr) (n cap:Nat) (K:Int) (w:World) (hn:n≤1048576) (hK:0≤K) (hK2:K≤1000000000000) (hs:Sl 1 YP w A (Kw K n)) :
 Calls Tryz.prog 31 #[.slice A n cap,.int .i64 K] w fun e w'=>e=.returned (.int .i64 (K+n))∧w=w':=by
 have hml:(Kw K n).length=n:=by simp [Kw]
 go_enter Tryz.func31,Tryz.ntmps31
 go_wp2
 go_loop [1,5] (fun kk i=>∃ k:Nat,k≤n∧i=.int .i64 k∧kk=.int .i64 (K+k)) (fun _ i=>n-(intOf i).toNat)
 case atStart=>exact ⟨0,Nat.zero_le _,rfl,by simp⟩
 case round =>
  obtain ⟨k,hk,rfl,rfl⟩:=hrel
  by_cases hlt:k<n
  ·obtain ⟨b,off,rfl,hblt,hc⟩:=hs.at_ (k:=k) (by rw [hml];exact hlt)
   have hx:(Kw K n)[k]'(by rw [hml];exact hlt)=K+k:=by simp [Kw]
   rw [hx] at hc
   have g0:=hc 0 _ rfl
   clear hc hx hml
   simp only [Nat.mul_one,Nat.add_zero] at g0
   go_wp2
   refine ⟨⟨k+1,by omega,by go_num, ?_⟩,by simp [intOf];omega⟩
   congr 1;omega
  ·obtain rfl:k=n:=by omega
   go_wp2
   go_ret
   exact ⟨rfl,rfl⟩
theorem markRegion_g (x:List Half) (a:ZR) (K:Int) (base:Nat) (w:World) (hn:x.length≤1048576) (hK:0≤K) (hK2:K≤1000000000000) (hv:XL w base x a) :
 Calls Tryz.prog 29 #[Yu x a,.int .i64 K] w fun e w'=>e=.returned (.int .i64 (K+x.length*3))∧XY 175 3 Xr w' base (.slice a.A x.length a.c) (KW K x.length)∧Y8 w w' [a]:=by
 obtain ⟨hv⟩:=hv
 have c1:=fun W h=>markHalfS_g a.A x.length a.c x K base W rfl hn hK hK2 h
 go_enter Tryz.func29,Tryz.ntmps29
 go_wp2_with (fail)
 refine (c1 _ (XY.alloc hv _)).mono ?_
 rintro e w1 ⟨rfl,N1,o1⟩
 go_wp2
 go_ret
 exact ⟨rfl,N1,(Y8.of_below (Xm bR _) _).trans o1⟩
/-- The slices of a room hold marks. -/
structure RoomMk (w:World) (x:XN) (a:Yr) (K:Int):Prop where
 map:Sl 1 YP w a.map.A (Kw K x.map.length)
 noise:Sl 3 Xr w a.noise.A (KW (K+x.map.length) x.noise.length)
 limits:Sl 3 Xr w a.limits.A (KW (K+x.map.length+x.noise.length*3) x.limits.length)
theorem RoomMk.below {w w':World} {x:XN} {a:Yr} {K:Int} (h:RoomMk w x a K) (hb:Below w.heap.size w w'):RoomMk w' x a K:=⟨h.map.below hb,h.noise.below hb,h.limits.below hb⟩
set_option maxRecDepth 100000 in
set_option maxHeartbeats 1000000 in
theorem markRoom_g (x:XN) (a:Yr) (K:Int) (base:Nat) (w:World) (hn:Xk x≤1048576) (hK:0≤K) (hK2:K≤1000000) (hv:X0 w base x a) :
 Calls Tryz.prog 27 #[XH x a,.int .i64 K] w fun e w'=>e=.returned (.int .i64 (K+x.map.length+x.noise.length*3+x.limits.length*3))∧RoomMk w' x a K∧Y8 w w' [a.map,a.noise,a.limits]:=by
 obtain ⟨map,div,bx,by_,low,high,noise,limits⟩:=x
 simp only [Xk] at hn
 obtain ⟨N1,N2,N3,hap⟩:=hv
 simp only [List.pairwise_cons,List.mem_cons,List.not_mem_nil,or_false] at hap
 obtain ⟨p1,p2,_⟩:=hap
 have p12:=p1 _ (.inl rfl)
 have p13:=p1 _ (.inr rfl)
 have p23:=p2 _ rfl
 clear p1 p2
 simp only at N1 N2 N3 ⊢
 have c1:=fun W h=>markIntS_g a.map.A map.length a.map.c map K base W rfl (by omega) hK (by omega) h
 have c2:=fun W h=>markRegion_g noise a.noise (K+map.length) base W (by omega) (by omega) (by omega) h
 have c3:=fun W h=>markRegion_g limits a.limits (K+map.length+noise.length*3) base W (by omega) (by omega) (by omega) h
 have b0:=Xm (Below.refl w.heap.size w) (.cells #[.slice a.map.A map.length a.map.c,.int .i64 div,.int .i64 bx,.int .i64 by_,.int .i64 low,.int .i64 high,.slice a.noise.A noise.length a.noise.c,.slice a.limits.A limits.length a.limits.c] 39)
 have H0:X3 (w.alloc (.cells #[.slice a.map.A map.length a.map.c,.int .i64 div,.int .i64 bx,.int .i64 by_,.int .i64 low,.int .i64 high,.slice a.noise.A noise.length a.noise.c,.slice a.limits.A limits.length a.limits.c] 39)) w.heap.size [.slice a.map.A map.length a.map.c,.int .i64 div,.int .i64 bx,.int .i64 by_,.int .i64 low,.int .i64 high,.slice a.noise.A noise.length a.noise.c,.slice a.limits.A limits.length a.limits.c]:=X3.new _ _ _
 have k1:∀ p,a.map.A=some p→p.block≠w.heap.size:=N1.blk.ne_ge Xu
 have k2:∀ p,a.noise.A=some p→p.block≠w.heap.size:=N2.blk.ne_ge Xu
 have N1':=N1.below b0 Xu
 have N2':=N2.below b0 Xu
 have N3':=N3.below b0 Xu
 have B0:=Y8.of_below b0 [a.map,a.noise,a.limits]
 clear N1 N2 N3 b0 hn
 go_enter Tryz.func27,Tryz.ntmps27
 go_wp2_with (fail)
 refine (c1 _ N1').mono ?_
 rintro e w1 ⟨rfl,M1,o1⟩
 have H1:=H0.far o1 (all1 k1)
 have O1:=B0.trans (o1.mono (by intro x hx;simp only [List.mem_singleton] at hx;subst hx;simp))
 have R2:XL w1 base noise a.noise:=⟨N2'.halves.far o1 (all1 p12.symm)⟩
 have R3:XL w1 base limits a.limits:=⟨N3'.halves.far o1 (all1 p13.symm)⟩
 have lH1:=H1.1
 clear N1' N2' N3' o1 B0 H0 c1
 obtain ⟨cH1_0,fH1_0⟩:=H1.2 0 _ rfl
 obtain ⟨cH1_1,fH1_1⟩:=H1.2 1 _ rfl
 obtain ⟨cH1_2,fH1_2⟩:=H1.2 2 _ rfl
 obtain ⟨cH1_3,fH1_3⟩:=H1.2 3 _ rfl
 obtain ⟨cH1_4,fH1_4⟩:=H1.2 4 _ rfl
 obtain ⟨cH1_5,fH1_5⟩:=H1.2 5 _ rfl
 obtain ⟨cH1_6,fH1_6⟩:=H1.2 6 _ rfl
 obtain ⟨cH1_7,fH1_7⟩:=H1.2 7 _ rfl
 go_wp2_with (fail)
 refine (c2 _ R2).mono ?_
 rintro e w2 ⟨rfl,M2,o2⟩
 have H2:=H1.far o2 (all1 k2)
 have O2:=O1.trans (o2.mono (by intro x hx;simp only [List.mem_singleton] at hx;subst hx;simp))
 have S1:=(M1.out Yv).far (c:=a.map.c) o2 (all1 p12)
 have R3:XL w2 base limits a.limits:=⟨R3.halves.far o2 (all1 p23.symm)⟩
 have lH2:=H2.1
 clear M1 o2 O1 R2 c2 cH1_0 cH1_1 cH1_2 cH1_3 cH1_4 cH1_5 cH1_6 cH1_7 fH1_0 fH1_1 fH1_2 fH1_3 fH1_4 fH1_5 fH1_6 fH1_7 H1 lH1
 obtain ⟨cH2_0,fH2_0⟩:=H2.2 0 _ rfl
 obtain ⟨cH2_1,fH2_1⟩:=H2.2 1 _ rfl
 obtain ⟨cH2_2,fH2_2⟩:=H2.2 2 _ rfl
 obtain ⟨cH2_3,fH2_3⟩:=H2.2 3 _ rfl
 obtain ⟨cH2_4,fH2_4⟩:=H2.2 4 _ rfl
 obtain ⟨cH2_5,fH2_5⟩:=H2.2 5 _ rfl
 obtain ⟨cH2_6,fH2_6⟩:=H2.2 6 _ rfl
 obtain ⟨cH2_7,fH2_7⟩:=H2.2 7 _ rfl
 go_wp2_with (fail)
 refine (c3 _ R3).mono ?_
 rintro e w3 ⟨rfl,M3,o3⟩
 have O3:=O2.trans (o3.mono (by intro x hx;simp only [List.mem_singleton] at hx;subst hx;simp))
 have S1:=S1.far (c:=a.map.c) o3 (all1 p13)
 have S2:=(M2.out Xz).far (c:=a.noise.c) o3 (all1 p23)
 have S3:=M3.out Xz
 clear M2 o3 O2 R3 c3 cH2_0 cH2_1 cH2_2 cH2_3 cH2_4 cH2_5 cH2_6 cH2_7 fH2_0 fH2_1 fH2_2 fH2_3 fH2_4 fH2_5 fH2_6 fH2_7 H2 lH2 M3
 go_wp2
 go_ret
 exact ⟨rfl,⟨S1,S2,S3⟩,O3⟩
end Go.Proofs.YtkjimfapbjdafaaGreat
end
section
namespace Go.Proofs.YtkjimfapbjdafaaGreat
open Go.RowKit
def BlkL (lo hi:Nat) (L:List ZR):Prop:=∀ a∈L,Blk lo hi a
theorem BlkL.ne {lo hi g:Nat} {L:List ZR} (h:BlkL lo hi L) (hg:g<lo∨hi≤g):∀ a∈L,∀ p,a.A=some p→p.block≠g:=by
 intro a ha p hp
 have:=h a ha p hp
 omega
theorem BlkL.lo {lo hi B:Nat} {L:List ZR} (h:BlkL lo hi L) (hB:B≤lo):∀ a∈L,∀ p,a.A=some p→B≤p.block:=by
 intro a ha p hp
 have:=h a ha p hp
 omega
theorem BlkL.apart {lo hi lo' hi':Nat} {L L':List ZR} (h:BlkL lo hi L) (h':BlkL lo' hi' L') (hle:hi≤lo'∨hi'≤lo):∀ a∈L,∀ b∈L',Jb a b:=by
 intro a ha b hb p q hp hq e
 have:=h a ha p hp
 have:=h' b hb q hq
 omega
theorem BlkL.mono {lo hi lo' hi':Nat} {L:List ZR} (h:BlkL lo hi L) (h1:lo'≤lo) (h2:hi≤hi'):BlkL lo' hi' L:=by
 intro a ha p hp
 have:=h a ha p hp
 omega
theorem XY.blkL {α:Type} {T sz base n c:Nat} {enc:α→List Value} {w:World} {A:Option Addr} {xs:List α} (h:XY T sz enc w base (.slice A n c) xs):BlkL base w.heap.size [⟨A,c⟩]:=all1 h.blk
theorem XY.far1 {α:Type} {T sz base n c:Nat} {enc:α→List Value} {w w':World} {A:Option Addr} {xs:List α} {L:List ZR} (h:XY T sz enc w base (.slice A n c) xs) (ho:Y8 w w' L) (hap:∀ a∈[(⟨A,c⟩:ZR)],∀ b∈L,Jb a b):XY T sz enc w' base (.slice A n c) xs :=
 h.far ho (hap _ (List.mem_singleton.2 rfl))
theorem XL.blkL {w:World} {base:Nat} {x:List Half} {a:ZR} (h:XL w base x a):BlkL base w.heap.size [a]:=all1 h.blk
theorem XL.far1 {w w':World} {base:Nat} {x:List Half} {a:ZR} {L:List ZR} (h:XL w base x a) (ho:Y8 w w' L) (hap:∀ c∈[a],∀ b∈L,Jb c b):XL w' base x a :=
 ⟨h.halves.far ho (fun b hb=>hap a (by simp) b hb)⟩
theorem X0.blkL {w:World} {base:Nat} {x:XN} {a:Yr} (h:X0 w base x a):BlkL base w.heap.size [a.map,a.noise,a.limits]:=by
 intro b hb
 simp only [List.mem_cons,List.not_mem_nil,or_false] at hb
 obtain ⟨h0,h1,h2⟩:=h.blk
 rcases hb with rfl|rfl|rfl<;>assumption
theorem X0.far1 {w w':World} {base:Nat} {x:XN} {a:Yr} {L:List ZR} (h:X0 w base x a) (ho:Y8 w w' L) (hap:∀ c∈[a.map,a.noise,a.limits],∀ b∈L,Jb c b):X0 w' base x a :=
 ⟨h.map.far ho (fun b hb=>hap a.map (by simp) b hb),h.noise.far1 ho (fun c hc b hb=>hap c (by simp only [List.mem_cons,List.not_mem_nil,or_false] at hc ⊢;grind) b hb),h.limits.far1 ho (fun c hc b hb=>hap c (by simp only [List.mem_cons,List.not_mem_nil,or_false] at hc ⊢;grind) b hb),h.apart⟩
theorem Zh.blkL {w:World} {base:Nat} {x:Watch} {a:JP} (h:Zh w base x a):BlkL base w.heap.size [a.room.map,a.room.noise,a.room.limits,a.reg,a.log]:=by
 intro b hb
 simp only [List.mem_cons,List.not_mem_nil,or_false] at hb
 obtain ⟨h0,h1,h2,h3,h4⟩:=h.blk
 rcases hb with rfl|rfl|rfl|rfl|rfl<;>assumption
theorem Zh.far1 {w w':World} {base:Nat} {x:Watch} {a:JP} {L:List ZR} (h:Zh w base x a) (ho:Y8 w w' L) (hap:∀ c∈[a.room.map,a.room.noise,a.room.limits,a.reg,a.log],∀ b∈L,Jb c b):Zh w' base x a :=
 ⟨h.room.far1 ho (fun c hc b hb=>hap c (by simp only [List.mem_cons,List.not_mem_nil,or_false] at hc ⊢;grind) b hb),h.reg.far1 ho (fun c hc b hb=>hap c (by simp only [List.mem_cons,List.not_mem_nil,or_false] at hc ⊢;grind) b hb),h.log.far ho (fun b hb=>hap a.log (by simp) b hb),h.apart⟩
theorem Zi.blkL {w:World} {base:Nat} {x:Track} {a:JQ} (h:Zi w base x a):BlkL base w.heap.size [a.spots,a.inputs]:=by
 intro b hb
 simp only [List.mem_cons,List.not_mem_nil,or_false] at hb
 obtain ⟨h0,h1⟩:=h.blk
 rcases hb with rfl|rfl<;>assumption
theorem Zi.far1 {w w':World} {base:Nat} {x:Track} {a:JQ} {L:List ZR} (h:Zi w base x a) (ho:Y8 w w' L) (hap:∀ c∈[a.spots,a.inputs],∀ b∈L,Jb c b):Zi w' base x a :=
 ⟨h.spots.far ho (fun b hb=>hap a.spots (by simp) b hb),h.inputs.far ho (fun b hb=>hap a.inputs (by simp) b hb),h.apart⟩
theorem Ko.blkL {w:World} {base:Nat} {x:Law} {a:LawA} (h:Ko w base x a):BlkL base w.heap.size [a.lows,a.highs]:=by
 intro b hb
 simp only [List.mem_cons,List.not_mem_nil,or_false] at hb
 obtain ⟨h0,h1⟩:=h.blk
 rcases hb with rfl|rfl<;>assumption
theorem Ko.far1 {w w':World} {base:Nat} {x:Law} {a:LawA} {L:List ZR} (h:Ko w base x a) (ho:Y8 w w' L) (hap:∀ c∈[a.lows,a.highs],∀ b∈L,Jb c b):Ko w' base x a :=
 ⟨h.lows.far ho (fun b hb=>hap a.lows (by simp) b hb),h.highs.far ho (fun b hb=>hap a.highs (by simp) b hb),h.apart⟩
end Go.Proofs.YtkjimfapbjdafaaGreat
end
