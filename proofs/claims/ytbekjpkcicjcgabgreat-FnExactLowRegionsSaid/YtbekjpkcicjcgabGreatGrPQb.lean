/-
 What the functions that mark results and look whether the marks are held return.
 Conditions: the slices hold at most 2^20 elements.
-/
import Derived.Test.YtbekjpkcicjcgabGreatGrAQb
import Derived.Test.YtbekjpkcicjcgabGreatGrXa
set_option maxRecDepth 100000
namespace Go.Proofs.YtbekjpkcicjcgabGreat
open Go.RowKit
theorem heldHalfS_c (A:Option Addr) (n cap:Nat) (K:Int) (w:World) (hn:n<=1048576) (hK:0<=K) (hK2:K<=1000000000000) (hs:Sl 3 Xe w A (YZ K n)) :
 Calls Tryz.prog 69 #[.slice A n cap,.int .i64 K] w λ e w'=>e=.returned (.int .i64 (K+n*3))/\w=w':=by
 have hml:(YZ K n).length=n:=by simp [YZ]
 go_enter Tryz.func69,Tryz.ntmps69
 go_wp2
 go_loop [1,5] (λ kk i=>∃ k:Nat,k<=n/\i=.int .i64 k/\kk=.int .i64 (K+k*3)) (λ _ i=>n-(intOf i).toNat)
 case atStart=>exact ⟨0,Nat.zero_le _,rfl,by simp⟩
 case round =>
  obtain ⟨k,hk,rfl,rfl⟩:=hrel;by_cases hlt:k<n
  ·obtain ⟨b,off,rfl,hblt,hc⟩:=hs.at_ (k:=k) (by rw [hml];exact hlt);have hx:(YZ K n)[k]'(by rw [hml];exact hlt)=⟨K+k*3,K+k*3+1,K+k*3+1+1⟩:=by simp [YZ]
   rw [hx] at hc;have g0:=hc 0 _ rfl;have g1:=hc 1 _ rfl;have g2:=hc 2 _ rfl;clear hc hx hml;simp only [Nat.add_zero] at g0;go_wp2
   refine ⟨⟨k+1,by omega,by go_num, ?_⟩,by simp [intOf];omega⟩;congr 1;omega
  ·obtain rfl:k=n:=by omega
   go_wp2
   go_ret
   exact ⟨rfl,rfl⟩
theorem Blk.ne_ge {lo hi g:Nat} {a:ZC} (h:Blk lo hi a) (hg:hi<=g):∀ p,a.A=some p->p.block≠g:=λ p hp=>by have:=h p hp;omega
theorem markHalfS_g (A:Option Addr) (n cap:Nat) (xs:List Half) (K:Int) (base:Nat) (w:World) (hl:xs.length=n) (hn:n<=1048576) (hK:0<=K) (hK2:K<=1000000000000) (hv:XI 85 3 Xe w base (.slice A n cap) xs) :
 Calls Tryz.prog 67 #[.slice A n cap,.int .i64 K] w λ e w'=>e=.returned (.int .i64 (K+n*3))/\XI 85 3 Xe w' base (.slice A n cap) (YZ K n)/\X9 w w' [⟨A,cap⟩]:=by
 obtain ⟨A',cap',he,hown⟩:=hv;injection he with e1 e2 e3
 subst e1 e3 hl;by_cases h0:xs.length=0
 ·have hx:xs=[]:=List.eq_nil_of_length_eq_zero h0;subst hx;simp only [List.length_nil];go_enter Tryz.func67,Tryz.ntmps67
  go_wp2
  go_loopw [1,5] (λ kk i wr=>i=.int .i64 0/\kk=.int .i64 K/\wr=w) (λ _ _ _=>0)
  case atStart=>exact ⟨rfl,rfl,rfl⟩
  case round =>
   obtain ⟨rfl,rfl,rfl⟩:=hrel;go_wp2
   go_ret
   exact ⟨YH (by simp),⟨A,cap,rfl,hown⟩,X9.refl _ _⟩
 ·obtain ⟨g,hA,hbg,hfill0,hback⟩:=own_filled Xu hown (YZ K xs.length) (by simp [YZ]) (by omega);subst hA;have hml:(YZ K xs.length).length=xs.length:=by simp [YZ]
  go_enter Tryz.func67,Tryz.ntmps67
  go_wp2
  go_loopw [1,5] (λ kk i wr=>∃ k:Nat,k<=xs.length/\i=.int .i64 k/\kk=.int .i64 (K+k*3)/\Zb 85 3 Xe wr g (cap*3) (YZ K xs.length) k/\X9 w wr [⟨some ⟨g,0,none⟩,cap⟩]) (λ _ i _=>xs.length-(intOf i).toNat)
  case atStart=>exact ⟨0,Nat.zero_le _,rfl,by simp,hfill0,X9.refl _ _⟩
  case round =>
   obtain ⟨k,hk,rfl,rfl,hfill,hbw⟩:=hrel;by_cases hlt:k<xs.length
   ·have hm:=Nat.mul_le_mul_right 3 hlt;have hml2:=hfill.room;rw [hml] at hml2;obtain ⟨u0,c0⟩:=hfill.cell (m:=k*3) (by omega);have f0:=hfill.frozen (k*3);obtain ⟨u1,c1⟩:=hfill.cell (m:=k*3+1) (by omega);have f1:=hfill.frozen (k*3+1);obtain ⟨u2,c2⟩:=hfill.cell (m:=k*3+2) (by omega);have f2:=hfill.frozen (k*3+2);clear hm hml2;have hst:=hfill.stored Xu (by rw [hml];exact hlt) (vs:=Xe ⟨K+k*3,K+k*3+1,K+k*3+1+1⟩) (by simp [YZ]);have hst2:=X9.setCells (Xe ⟨K+k*3,K+k*3+1,K+k*3+1+1⟩) (k*3) _ hbw;go_wp2
    refine ⟨⟨k+1,by omega,by go_num, ?_,hst,hst2⟩,by simp [intOf];omega⟩;congr 1;omega
   ·obtain rfl:k=xs.length:=by omega
    go_wp2
    go_ret
    refine ⟨rfl, ?_,hbw⟩;obtain ⟨A2,c2,e2,o2⟩:=hback _ hfill;rw [hml] at e2 o2;injection e2 with e3 _ e4
    subst e3 e4;exact ⟨_,_,by rw [hml],by rw [hml];exact o2⟩
theorem markIntS_g (A:Option Addr) (n cap:Nat) (xs:List Int) (K:Int) (base:Nat) (w:World) (hl:xs.length=n) (hn:n<=1048576) (hK:0<=K) (hK2:K<=1000000000000) (hv:XI 3 1 KX w base (.slice A n cap) xs) :
 Calls Tryz.prog 66 #[.slice A n cap,.int .i64 K] w λ e w'=>e=.returned (.int .i64 (K+n))/\XI 3 1 KX w' base (.slice A n cap) (JS K n)/\X9 w w' [⟨A,cap⟩]:=by
 obtain ⟨A',cap',he,hown⟩:=hv;injection he with e1 e2 e3
 subst e1 e3 hl;by_cases h0:xs.length=0
 ·have hx:xs=[]:=List.eq_nil_of_length_eq_zero h0;subst hx;simp only [List.length_nil];go_enter Tryz.func66,Tryz.ntmps66
  go_wp2
  go_loopw [1,5] (λ kk i wr=>i=.int .i64 0/\kk=.int .i64 K/\wr=w) (λ _ _ _=>0)
  case atStart=>exact ⟨rfl,rfl,rfl⟩
  case round =>
   obtain ⟨rfl,rfl,rfl⟩:=hrel;go_wp2
   go_ret
   exact ⟨YH (by simp),⟨A,cap,rfl,hown⟩,X9.refl _ _⟩
 ·obtain ⟨g,hA,hbg,hfill0,hback⟩:=own_filled Zc hown (JS K xs.length) (by simp [JS]) (by omega);subst hA;have hml:(JS K xs.length).length=xs.length:=by simp [JS]
  go_enter Tryz.func66,Tryz.ntmps66
  go_wp2
  go_loopw [1,5] (λ kk i wr=>∃ k:Nat,k<=xs.length/\i=.int .i64 k/\kk=.int .i64 (K+k)/\Zb 3 1 KX wr g (cap*1) (JS K xs.length) k/\X9 w wr [⟨some ⟨g,0,none⟩,cap⟩]) (λ _ i _=>xs.length-(intOf i).toNat)
  case atStart=>exact ⟨0,Nat.zero_le _,rfl,by simp,hfill0,X9.refl _ _⟩
  case round =>
   obtain ⟨k,hk,rfl,rfl,hfill,hbw⟩:=hrel;by_cases hlt:k<xs.length
   ·have hm:=Nat.mul_le_mul_right 1 hlt;have hml2:=hfill.room;rw [hml] at hml2;obtain ⟨u0,c0⟩:=hfill.cell (m:=k) (by omega);have f0:=hfill.frozen (k);clear hm hml2;have hst:=hfill.stored Zc (by rw [hml];exact hlt) (vs:=KX (K+k)) (by simp [JS]);have hst2:=X9.setCells (KX (K+k)) (k*1) _ hbw;rw [Nat.mul_one] at hst hst2;go_wp2
    refine ⟨⟨k+1,by omega,by go_num, ?_,hst,hst2⟩,by simp [intOf];omega⟩;congr 1;omega
   ·obtain rfl:k=xs.length:=by omega
    go_wp2
    go_ret
    refine ⟨rfl, ?_,hbw⟩;obtain ⟨A2,c2,e2,o2⟩:=hback _ hfill;rw [hml] at e2 o2;injection e2 with e3 _ e4
    subst e3 e4;exact ⟨_,_,by rw [hml],by rw [hml];exact o2⟩
theorem markRegion_g (x:List Half) (a:ZC) (K:Int) (base:Nat) (w:World) (hn:x.length<=1048576) (hK:0<=K) (hK2:K<=1000000000000) (hv:XJ w base x a) :
 Calls Tryz.prog 25 #[Yr x a,.int .i64 K] w λ e w'=>e=.returned (.int .i64 (K+x.length*3))/\XI 85 3 Xe w' base (.slice a.A x.length a.c) (YZ K x.length)/\X9 w w' [a]:=by
 obtain ⟨hv⟩:=hv;have c1:=λ W h=>markHalfS_g a.A x.length a.c x K base W rfl hn hK hK2 h;go_enter Tryz.func25,Tryz.ntmps25
 go_wp2_with (fail)
 refine (c1 _ (XI.alloc hv _)).mono ?_;rintro e w1 ⟨rfl,N1,o1⟩;go_wp2
 go_ret
 exact ⟨rfl,N1,(X9.of_below (Xa bR _) _).trans o1⟩
set_option maxHeartbeats 1000000 in
theorem markRoom_g (x:XK) (a:Yq) (K:Int) (base:Nat) (w:World) (hn:XA x<=1048576) (hK:0<=K) (hK2:K<=1000000) (hv:Yi w base x a) :
 Calls Tryz.prog 24 #[Ye x a,.int .i64 K] w λ e w'=>e=.returned (.int .i64 (K+x.map.length+x.noise.length*3+x.limits.length*3))/\RoomMk w' x a K/\X9 w w' [a.map,a.noise,a.limits]:=by
 obtain ⟨map,div,bx,by_,low,high,noise,limits⟩:=x;simp only [XA] at hn;obtain ⟨N1,N2,N3,hap⟩:=hv;simp only [List.pairwise_cons,List.mem_cons,List.not_mem_nil,or_false] at hap;obtain ⟨p1,p2,_⟩:=hap;have p12:=p1 _ (.inl rfl);have p13:=p1 _ (.inr rfl);have p23:=p2 _ rfl;clear p1 p2;simp only at N1 N2 N3 ⊢;have c1:=λ W h=>markIntS_g a.map.A map.length a.map.c map K base W rfl (by omega) hK (by omega) h;have c2:=λ W h=>markRegion_g noise a.noise (K+map.length) base W (by omega) (by omega) (by omega) h;have c3:=λ W h=>markRegion_g limits a.limits (K+map.length+noise.length*3) base W (by omega) (by omega) (by omega) h;have b0:=Xa (Below.refl w.heap.size w) (.cells #[.slice a.map.A map.length a.map.c,.int .i64 div,.int .i64 bx,.int .i64 by_,.int .i64 low,.int .i64 high,.slice a.noise.A noise.length a.noise.c,.slice a.limits.A limits.length a.limits.c] 28);have H0:X0 (w.alloc (.cells #[.slice a.map.A map.length a.map.c,.int .i64 div,.int .i64 bx,.int .i64 by_,.int .i64 low,.int .i64 high,.slice a.noise.A noise.length a.noise.c,.slice a.limits.A limits.length a.limits.c] 28)) w.heap.size [.slice a.map.A map.length a.map.c,.int .i64 div,.int .i64 bx,.int .i64 by_,.int .i64 low,.int .i64 high,.slice a.noise.A noise.length a.noise.c,.slice a.limits.A limits.length a.limits.c]:=X0.new _ _ _;have k1:∀ p,a.map.A=some p->p.block≠w.heap.size:=N1.blk.ne_ge Xs;have k2:∀ p,a.noise.A=some p->p.block≠w.heap.size:=N2.blk.ne_ge Xs;have N1':=N1.below b0 Xs;have N2':=N2.below b0 Xs;have N3':=N3.below b0 Xs;have B0:=X9.of_below b0 [a.map,a.noise,a.limits];clear N1 N2 N3 b0 hn;go_enter Tryz.func24,Tryz.ntmps24
 go_wp2_with (fail)
 refine (c1 _ N1').mono ?_;rintro e w1 ⟨rfl,M1,o1⟩;have H1:=H0.far o1 (all1 k1);have O1:=B0.trans (o1.mono (by intro x hx;simp only [List.mem_singleton] at hx;subst hx;simp));have R2:XJ w1 base noise a.noise:=⟨N2'.halves.far o1 (all1 p12.symm)⟩;have R3:XJ w1 base limits a.limits:=⟨N3'.halves.far o1 (all1 p13.symm)⟩;have lH1:=H1.1;clear N1' N2' N3' o1 B0 H0 c1;obtain ⟨cH1_0,fH1_0⟩:=H1.2 0 _ rfl;obtain ⟨cH1_1,fH1_1⟩:=H1.2 1 _ rfl;obtain ⟨cH1_2,fH1_2⟩:=H1.2 2 _ rfl;obtain ⟨cH1_3,fH1_3⟩:=H1.2 3 _ rfl;obtain ⟨cH1_4,fH1_4⟩:=H1.2 4 _ rfl;obtain ⟨cH1_5,fH1_5⟩:=H1.2 5 _ rfl;obtain ⟨cH1_6,fH1_6⟩:=H1.2 6 _ rfl;obtain ⟨cH1_7,fH1_7⟩:=H1.2 7 _ rfl;go_wp2_with (fail)
 refine (c2 _ R2).mono ?_;rintro e w2 ⟨rfl,M2,o2⟩;have H2:=H1.far o2 (all1 k2);have O2:=O1.trans (o2.mono (by intro x hx;simp only [List.mem_singleton] at hx;subst hx;simp));have S1:=(M1.out Zc).far (c:=a.map.c) o2 (all1 p12);have R3:XJ w2 base limits a.limits:=⟨R3.halves.far o2 (all1 p23.symm)⟩;have lH2:=H2.1;clear M1 o2 O1 R2 c2 cH1_0 cH1_1 cH1_2 cH1_3 cH1_4 cH1_5 cH1_6 cH1_7 fH1_0 fH1_1 fH1_2 fH1_3 fH1_4 fH1_5 fH1_6 fH1_7 H1 lH1;obtain ⟨cH2_0,fH2_0⟩:=H2.2 0 _ rfl;obtain ⟨cH2_1,fH2_1⟩:=H2.2 1 _ rfl;obtain ⟨cH2_2,fH2_2⟩:=H2.2 2 _ rfl;obtain ⟨cH2_3,fH2_3⟩:=H2.2 3 _ rfl;obtain ⟨cH2_4,fH2_4⟩:=H2.2 4 _ rfl;obtain ⟨cH2_5,fH2_5⟩:=H2.2 5 _ rfl;obtain ⟨cH2_6,fH2_6⟩:=H2.2 6 _ rfl;obtain ⟨cH2_7,fH2_7⟩:=H2.2 7 _ rfl;go_wp2_with (fail)
 refine (c3 _ R3).mono ?_;rintro e w3 ⟨rfl,M3,o3⟩;have O3:=O2.trans (o3.mono (by intro x hx;simp only [List.mem_singleton] at hx;subst hx;simp));have S1:=S1.far (c:=a.map.c) o3 (all1 p13);have S2:=(M2.out Xu).far (c:=a.noise.c) o3 (all1 p23);have S3:=M3.out Xu;clear M2 o3 O2 R3 c3 cH2_0 cH2_1 cH2_2 cH2_3 cH2_4 cH2_5 cH2_6 cH2_7 fH2_0 fH2_1 fH2_2 fH2_3 fH2_4 fH2_5 fH2_6 fH2_7 H2 lH2 M3;go_wp2
 go_ret
 exact ⟨rfl,⟨S1,S2,S3⟩,O3⟩
theorem XI.far1 {α:Type} {T sz base n c:Nat} {enc:α->List Value} {w w':World} {A:Option Addr} {xs:List α} {L:List ZC} (h:XI T sz enc w base (.slice A n c) xs) (ho:X9 w w' L) (hap:∀ a∈[(⟨A,c⟩:ZC)],∀ b∈L,Jf a b):XI T sz enc w' base (.slice A n c) xs :=
 h.far ho (hap _ (List.mem_singleton.2 rfl))
theorem XJ.far1 {w w':World} {base:Nat} {x:List Half} {a:ZC} {L:List ZC} (h:XJ w base x a) (ho:X9 w w' L) (hap:∀ c∈[a],∀ b∈L,Jf c b):XJ w' base x a :=
 ⟨h.halves.far ho (λ b hb=>hap a (by simp) b hb)⟩
theorem Yi.far1 {w w':World} {base:Nat} {x:XK} {a:Yq} {L:List ZC} (h:Yi w base x a) (ho:X9 w w' L) (hap:∀ c∈[a.map,a.noise,a.limits],∀ b∈L,Jf c b):Yi w' base x a :=
 ⟨h.map.far ho (λ b hb=>hap a.map (by simp) b hb),h.noise.far1 ho (λ c hc b hb=>hap c (by simp only [List.mem_cons,List.not_mem_nil,or_false] at hc ⊢;grind) b hb),h.limits.far1 ho (λ c hc b hb=>hap c (by simp only [List.mem_cons,List.not_mem_nil,or_false] at hc ⊢;grind) b hb),h.apart⟩
theorem YM.far1 {w w':World} {base:Nat} {x:Watch} {a:JY} {L:List ZC} (h:YM w base x a) (ho:X9 w w' L) (hap:∀ c∈[a.room.map,a.room.noise,a.room.limits,a.reg,a.log],∀ b∈L,Jf c b):YM w' base x a :=
 ⟨h.room.far1 ho (λ c hc b hb=>hap c (by simp only [List.mem_cons,List.not_mem_nil,or_false] at hc ⊢;grind) b hb),h.reg.far1 ho (λ c hc b hb=>hap c (by simp only [List.mem_cons,List.not_mem_nil,or_false] at hc ⊢;grind) b hb),h.log.far ho (λ b hb=>hap a.log (by simp) b hb),h.apart⟩
theorem YN.far1 {w w':World} {base:Nat} {x:Track} {a:JZ} {L:List ZC} (h:YN w base x a) (ho:X9 w w' L) (hap:∀ c∈[a.spots,a.inputs],∀ b∈L,Jf c b):YN w' base x a :=
 ⟨h.spots.far ho (λ b hb=>hap a.spots (by simp) b hb),h.inputs.far ho (λ b hb=>hap a.inputs (by simp) b hb),h.apart⟩
theorem XS.far1 {w w':World} {base:Nat} {x:KS} {a:KW} {L:List ZC} (h:XS w base x a) (ho:X9 w w' L) (hap:∀ c∈[a.lows,a.highs],∀ b∈L,Jf c b):XS w' base x a :=
 ⟨h.lows.far ho (λ b hb=>hap a.lows (by simp) b hb),h.highs.far ho (λ b hb=>hap a.highs (by simp) b hb),h.apart⟩
end Go.Proofs.YtbekjpkcicjcgabGreat
