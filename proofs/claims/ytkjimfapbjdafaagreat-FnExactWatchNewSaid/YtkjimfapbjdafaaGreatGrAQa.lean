/-
 Words on memory that the contracts of this claim use: a slice that reads as a list of structs, a slice of the call's own.
 Conditions: none.
-/
import Derived.Test.YtkjimfapbjdafaaGreatRows
import Derived.WalkKit
import Derived.WalkSpells
import Derived.WalkLawsBesides
import Derived.Deep.Draws
import Derived.Lib.Hide
import Derived.Deep.Slices
import Derived.Deep.Fields
import Derived.ChangeSame
import Derived.ArgAppend
import Derived.Lib.SliceRun
import Derived.Deep.RegionHeld3
import Derived.Deep.DeepMust
import Derived.Deep.DeepCutAuto
import Derived.ProofKit
import Derived.OpenShut
import Derived.ChangeOld
import Derived.Below
import Derived.Test.YtkjimfapbjdafaaGreatGrV
set_option maxRecDepth 100000
namespace Go.Proofs.YtkjimfapbjdafaaGreat
open Go.RowKit
section
variable {α:Type} {sz:Nat} {enc:α->List Value} {w w':World} {A:Option Addr} {xs:List α}
end
section
variable {α:Type} {T sz:Nat} {enc:α->List Value} {w w':World} {v:Value} {xs:List α} {base:Nat}
end
section
variable {α:Type} {T sz:Nat} {enc:α->List Value} {w w':World} {g N k:Nat} {xs:List α}
end
theorem own_filled {α:Type} {T sz:Nat} {enc:α->List Value} (YT:∀ x,(enc x).length=sz) {w:World} {base cap:Nat} {A:Option Addr} {xs:List α} (h:w.ownsRow base T sz (.slice A xs.length cap) xs.length (xs.flatMap enc))
 (ys:List α) (hl:ys.length=xs.length) (h0:0<xs.length) :
 ∃ g,A=some ⟨g,0,none⟩/\base<=g/\Kg T sz enc w g (cap*sz) ys 0/\∀ w',Kg T sz enc w' g (cap*sz) ys xs.length->XI T sz enc w' base (.slice (some ⟨g,0,none⟩) xs.length cap) ys:=by
 obtain ⟨h1,h2⟩:=h;rcases h2 with ⟨_,h2⟩|⟨g,cap',cur,hv,hg,hh,hcap,hmax,hsize,htake⟩
 ·omega
 ·injection hv with hA _ hc
  subst hc;refine ⟨g,hA,hg,⟨cur,hh,hsize, ?_,λ _ _ h0=>absurd h0 (Nat.not_lt_zero _)⟩,λ w' hf=>?_⟩
  ·rw [hl];exact Nat.mul_le_mul_right _ hcap
  ·rw [<- hl] at hf hcap ⊢;exact hf.newCap YT hg hcap hmax
section
variable {w w':World} {g:Nat} {vs:List Value}
end
theorem Zr.of_below {a b:World} (h:Below a.heap.size a b) (L:List ZY):Zr a b L:=⟨h.os,h.tape,h.output,h.size,λ i hi _=>h.block i hi⟩
theorem XI.far {α:Type} {T sz base n c:Nat} {enc:α->List Value} {w w':World} {A:Option Addr} {xs:List α} {L:List ZY} (h:XI T sz enc w base (.slice A n c) xs) (ho:Zr w w' L) (ha:∀ b∈L,JX ⟨A,c⟩ b):XI T sz enc w' base (.slice A n c) xs:=by
 obtain ⟨A',c',e,h1,h2⟩:=h;refine ⟨A',c',e,h1, ?_⟩;rcases h2 with h2|⟨g,cap',cur,hv,hg,hh,r⟩
 ·exact .inl h2
 ·refine .inr ⟨g,cap',cur,hv,hg,(ho.block g (Yu hh) (λ b hb p hp=>?_)).trans hh,r⟩;injection hv with hv _ _
  injection e with e _ _
  exact λ e2=>ha b hb ⟨g,0,none⟩ p hv hp e2.symm
theorem YI.far {w w':World} {g:Nat} {vs:List Value} {L:List ZY} (h:YI w g vs) (ho:Zr w w' L) (hn:∀ a∈L,∀ p,a.A=some p->p.block≠g):YI w' g vs:=by
 have hb:=ho.block g h.1 hn;refine ⟨Nat.lt_of_lt_of_le h.1 ho.size,λ j u hu=>?_⟩;have h2:=h.2 j u hu;exact ⟨(World.cell?_of_block (w:=w) hb).trans h2.1,(World.frozen?_of_block (w:=w) hb).trans h2.2⟩
theorem Sl.far {α:Type} {sz c:Nat} {enc:α->List Value} {w w':World} {A:Option Addr} {xs:List α} {L:List ZY} (h:Sl sz enc w A xs) (ho:Zr w w' L) (ha:∀ b∈L,JX ⟨A,c⟩ b):Sl sz enc w' A xs:=by
 intro hn;obtain ⟨b,off,rfl,hlt,hc⟩:=h hn;refine ⟨b,off,rfl,Nat.lt_of_lt_of_le hlt ho.size,λ i hi j u hu=>?_⟩;exact (World.cell?_of_block (w:=w) (a:=⟨b,off+i*sz+j,none⟩) (ho.block b hlt (λ x hx p hp e=>ha x hx ⟨b,off,none⟩ p rfl hp e.symm))).trans (hc i hi j u hu)
theorem Blk.ne_ge {lo hi g:Nat} {a:ZY} (h:Blk lo hi a) (hg:hi<=g):∀ p,a.A=some p->p.block≠g:=λ p hp=>by have:=h p hp;omega
theorem markHalfS_g (A:Option Addr) (n cap:Nat) (xs:List Half) (K:Int) (base:Nat) (w:World) (hl:xs.length=n) (hn:n<=1048576) (hK:0<=K) (hK2:K<=1000000000000) (hv:XI 175 3 Xk w base (.slice A n cap) xs) :
 Calls Tryz.prog 93 #[.slice A n cap,.int .i64 K] w λ e w'=>e=.returned (.int .i64 (K+n*3))/\XI 175 3 Xk w' base (.slice A n cap) (Kt K n)/\Zr w w' [⟨A,cap⟩]:=by
 obtain ⟨A',cap',he,hown⟩:=hv;injection he with e1 e2 e3
 subst e1 e3 hl;by_cases h0:xs.length=0
 ·have hx:xs=[]:=List.eq_nil_of_length_eq_zero h0;subst hx;simp only [List.length_nil];go_enter Tryz.func93,Tryz.ntmps93
  go_wp2
  go_loopw [1,5] (λ kk i wr=>i=.int .i64 0/\kk=.int .i64 K/\wr=w) (λ _ _ _=>0)
  case atStart=>exact ⟨rfl,rfl,rfl⟩
  case round =>
   obtain ⟨rfl,rfl,rfl⟩:=hrel;go_wp2
   go_ret
   exact ⟨Zo (by simp),⟨A,cap,rfl,hown⟩,Zr.refl _ _⟩
 ·obtain ⟨g,hA,hbg,hfill0,hback⟩:=own_filled XD hown (Kt K xs.length) (by simp [Kt]) (by omega);subst hA;have hml:(Kt K xs.length).length=xs.length:=by simp [Kt]
  go_enter Tryz.func93,Tryz.ntmps93
  go_wp2
  go_loopw [1,5] (λ kk i wr=>∃ k:Nat,k<=xs.length/\i=.int .i64 k/\kk=.int .i64 (K+k*3)/\Kg 175 3 Xk wr g (cap*3) (Kt K xs.length) k/\Zr w wr [⟨some ⟨g,0,none⟩,cap⟩]) (λ _ i _=>xs.length-(intOf i).toNat)
  case atStart=>exact ⟨0,Nat.zero_le _,rfl,by simp,hfill0,Zr.refl _ _⟩
  case round =>
   obtain ⟨k,hk,rfl,rfl,hfill,hbw⟩:=hrel;by_cases hlt:k<xs.length
   ·have hm:=Nat.mul_le_mul_right 3 hlt;have hml2:=hfill.room;rw [hml] at hml2;obtain ⟨u0,c0⟩:=hfill.cell (m:=k*3) (by omega);have f0:=hfill.frozen (k*3);obtain ⟨u1,c1⟩:=hfill.cell (m:=k*3+1) (by omega);have f1:=hfill.frozen (k*3+1);obtain ⟨u2,c2⟩:=hfill.cell (m:=k*3+2) (by omega);have f2:=hfill.frozen (k*3+2);clear hm hml2;have hst:=hfill.stored XD (by rw [hml];exact hlt) (vs:=Xk ⟨K+k*3,K+k*3+1,K+k*3+1+1⟩) (by simp [Kt]);have hst2:=Zr.setCells (Xk ⟨K+k*3,K+k*3+1,K+k*3+1+1⟩) (k*3) _ hbw;go_wp2
    refine ⟨⟨k+1,by omega,by go_num, ?_,hst,hst2⟩,by simp [intOf];omega⟩;congr 1;omega
   ·obtain rfl:k=xs.length:=by omega
    go_wp2
    go_ret
    refine ⟨rfl, ?_,hbw⟩;obtain ⟨A2,c2,e2,o2⟩:=hback _ hfill;rw [hml] at e2 o2;injection e2 with e3 _ e4
    subst e3 e4;exact ⟨_,_,by rw [hml],by rw [hml];exact o2⟩
theorem markIntS_g (A:Option Addr) (n cap:Nat) (xs:List Int) (K:Int) (base:Nat) (w:World) (hl:xs.length=n) (hn:n<=1048576) (hK:0<=K) (hK2:K<=1000000000000) (hv:XI 3 1 Y6 w base (.slice A n cap) xs) :
 Calls Tryz.prog 30 #[.slice A n cap,.int .i64 K] w λ e w'=>e=.returned (.int .i64 (K+n))/\XI 3 1 Y6 w' base (.slice A n cap) (K6 K n)/\Zr w w' [⟨A,cap⟩]:=by
 obtain ⟨A',cap',he,hown⟩:=hv;injection he with e1 e2 e3
 subst e1 e3 hl;by_cases h0:xs.length=0
 ·have hx:xs=[]:=List.eq_nil_of_length_eq_zero h0;subst hx;simp only [List.length_nil];go_enter Tryz.func30,Tryz.ntmps30
  go_wp2
  go_loopw [1,5] (λ kk i wr=>i=.int .i64 0/\kk=.int .i64 K/\wr=w) (λ _ _ _=>0)
  case atStart=>exact ⟨rfl,rfl,rfl⟩
  case round =>
   obtain ⟨rfl,rfl,rfl⟩:=hrel;go_wp2
   go_ret
   exact ⟨Zo (by simp),⟨A,cap,rfl,hown⟩,Zr.refl _ _⟩
 ·obtain ⟨g,hA,hbg,hfill0,hback⟩:=own_filled YQ hown (K6 K xs.length) (by simp [K6]) (by omega);subst hA;have hml:(K6 K xs.length).length=xs.length:=by simp [K6]
  go_enter Tryz.func30,Tryz.ntmps30
  go_wp2
  go_loopw [1,5] (λ kk i wr=>∃ k:Nat,k<=xs.length/\i=.int .i64 k/\kk=.int .i64 (K+k)/\Kg 3 1 Y6 wr g (cap*1) (K6 K xs.length) k/\Zr w wr [⟨some ⟨g,0,none⟩,cap⟩]) (λ _ i _=>xs.length-(intOf i).toNat)
  case atStart=>exact ⟨0,Nat.zero_le _,rfl,by simp,hfill0,Zr.refl _ _⟩
  case round =>
   obtain ⟨k,hk,rfl,rfl,hfill,hbw⟩:=hrel;by_cases hlt:k<xs.length
   ·have hm:=Nat.mul_le_mul_right 1 hlt;have hml2:=hfill.room;rw [hml] at hml2;obtain ⟨u0,c0⟩:=hfill.cell (m:=k) (by omega);have f0:=hfill.frozen (k);clear hm hml2;have hst:=hfill.stored YQ (by rw [hml];exact hlt) (vs:=Y6 (K+k)) (by simp [K6]);have hst2:=Zr.setCells (Y6 (K+k)) (k*1) _ hbw;rw [Nat.mul_one] at hst hst2;go_wp2
    refine ⟨⟨k+1,by omega,by go_num, ?_,hst,hst2⟩,by simp [intOf];omega⟩;congr 1;omega
   ·obtain rfl:k=xs.length:=by omega
    go_wp2
    go_ret
    refine ⟨rfl, ?_,hbw⟩;obtain ⟨A2,c2,e2,o2⟩:=hback _ hfill;rw [hml] at e2 o2;injection e2 with e3 _ e4
    subst e3 e4;exact ⟨_,_,by rw [hml],by rw [hml];exact o2⟩
theorem J2 (x:List Half) (a:ZY) (K:Int) (base:Nat) (w:World) (hn:x.length<=1048576) (hK:0<=K) (hK2:K<=1000000000000) (hv:XT w base x a) :
 Calls Tryz.prog 29 #[Zb x a,.int .i64 K] w λ e w'=>e=.returned (.int .i64 (K+x.length*3))/\XI 175 3 Xk w' base (.slice a.A x.length a.c) (Kt K x.length)/\Zr w w' [a]:=by
 obtain ⟨hv⟩:=hv;have c1:=λ W h=>markHalfS_g a.A x.length a.c x K base W rfl hn hK hK2 h;go_enter Tryz.func29,Tryz.ntmps29
 go_wp2_with (fail)
 refine (c1 _ (XI.alloc hv _)).mono ?_;rintro e w1 ⟨rfl,N1,o1⟩;go_wp2
 go_ret
 exact ⟨rfl,N1,(Zr.of_below (Xd bR _) _).trans o1⟩
set_option maxHeartbeats 1000000 in
theorem markRoom_g (x:X3) (a:YO) (K:Int) (base:Nat) (w:World) (hn:Xs x<=1048576) (hK:0<=K) (hK2:K<=1000000) (hv:Yq w base x a) :
 Calls Tryz.prog 27 #[XN x a,.int .i64 K] w λ e w'=>e=.returned (.int .i64 (K+x.map.length+x.noise.length*3+x.limits.length*3))/\RoomMk w' x a K/\Zr w w' [a.map,a.noise,a.limits]:=by
 obtain ⟨map,div,bx,by_,low,high,noise,limits⟩:=x;simp only [Xs] at hn;obtain ⟨N1,N2,N3,hap⟩:=hv;simp only [List.pairwise_cons,List.mem_cons,List.not_mem_nil,or_false] at hap;obtain ⟨p1,p2,_⟩:=hap;have p12:=p1 _ (.inl rfl);have p13:=p1 _ (.inr rfl);have p23:=p2 _ rfl;clear p1 p2;simp only at N1 N2 N3 ⊢;have c1:=λ W h=>markIntS_g a.map.A map.length a.map.c map K base W rfl (by omega) hK (by omega) h;have c2:=λ W h=>J2 noise a.noise (K+map.length) base W (by omega) (by omega) (by omega) h;have c3:=λ W h=>J2 limits a.limits (K+map.length+noise.length*3) base W (by omega) (by omega) (by omega) h;have b0:=Xd (Below.refl w.heap.size w) (.cells #[.slice a.map.A map.length a.map.c,.int .i64 div,.int .i64 bx,.int .i64 by_,.int .i64 low,.int .i64 high,.slice a.noise.A noise.length a.noise.c,.slice a.limits.A limits.length a.limits.c] 39);have H0:YI (w.alloc (.cells #[.slice a.map.A map.length a.map.c,.int .i64 div,.int .i64 bx,.int .i64 by_,.int .i64 low,.int .i64 high,.slice a.noise.A noise.length a.noise.c,.slice a.limits.A limits.length a.limits.c] 39)) w.heap.size [.slice a.map.A map.length a.map.c,.int .i64 div,.int .i64 bx,.int .i64 by_,.int .i64 low,.int .i64 high,.slice a.noise.A noise.length a.noise.c,.slice a.limits.A limits.length a.limits.c]:=YI.new _ _ _;have k1:∀ p,a.map.A=some p->p.block≠w.heap.size:=N1.blk.ne_ge Xh;have k2:∀ p,a.noise.A=some p->p.block≠w.heap.size:=N2.blk.ne_ge Xh;have N1':=N1.below b0 Xh;have N2':=N2.below b0 Xh;have N3':=N3.below b0 Xh;have B0:=Zr.of_below b0 [a.map,a.noise,a.limits];clear N1 N2 N3 b0 hn;go_enter Tryz.func27,Tryz.ntmps27
 go_wp2_with (fail)
 refine (c1 _ N1').mono ?_;rintro e w1 ⟨rfl,M1,o1⟩;have H1:=H0.far o1 (all1 k1);have O1:=B0.trans (o1.mono (by intro x hx;simp only [List.mem_singleton] at hx;subst hx;simp));have R2:XT w1 base noise a.noise:=⟨N2'.halves.far o1 (all1 p12.symm)⟩;have R3:XT w1 base limits a.limits:=⟨N3'.halves.far o1 (all1 p13.symm)⟩;have lH1:=H1.1;clear N1' N2' N3' o1 B0 H0 c1;obtain ⟨cH1_0,fH1_0⟩:=H1.2 0 _ rfl;obtain ⟨cH1_1,fH1_1⟩:=H1.2 1 _ rfl;obtain ⟨cH1_2,fH1_2⟩:=H1.2 2 _ rfl;obtain ⟨cH1_3,fH1_3⟩:=H1.2 3 _ rfl;obtain ⟨cH1_4,fH1_4⟩:=H1.2 4 _ rfl;obtain ⟨cH1_5,fH1_5⟩:=H1.2 5 _ rfl;obtain ⟨cH1_6,fH1_6⟩:=H1.2 6 _ rfl;obtain ⟨cH1_7,fH1_7⟩:=H1.2 7 _ rfl;go_wp2_with (fail)
 refine (c2 _ R2).mono ?_;rintro e w2 ⟨rfl,M2,o2⟩;have H2:=H1.far o2 (all1 k2);have O2:=O1.trans (o2.mono (by intro x hx;simp only [List.mem_singleton] at hx;subst hx;simp));have S1:=(M1.out YQ).far (c:=a.map.c) o2 (all1 p12);have R3:XT w2 base limits a.limits:=⟨R3.halves.far o2 (all1 p23.symm)⟩;have lH2:=H2.1;clear M1 o2 O1 R2 c2 cH1_0 cH1_1 cH1_2 cH1_3 cH1_4 cH1_5 cH1_6 cH1_7 fH1_0 fH1_1 fH1_2 fH1_3 fH1_4 fH1_5 fH1_6 fH1_7 H1 lH1;obtain ⟨cH2_0,fH2_0⟩:=H2.2 0 _ rfl;obtain ⟨cH2_1,fH2_1⟩:=H2.2 1 _ rfl;obtain ⟨cH2_2,fH2_2⟩:=H2.2 2 _ rfl;obtain ⟨cH2_3,fH2_3⟩:=H2.2 3 _ rfl;obtain ⟨cH2_4,fH2_4⟩:=H2.2 4 _ rfl;obtain ⟨cH2_5,fH2_5⟩:=H2.2 5 _ rfl;obtain ⟨cH2_6,fH2_6⟩:=H2.2 6 _ rfl;obtain ⟨cH2_7,fH2_7⟩:=H2.2 7 _ rfl;go_wp2_with (fail)
 refine (c3 _ R3).mono ?_;rintro e w3 ⟨rfl,M3,o3⟩;have O3:=O2.trans (o3.mono (by intro x hx;simp only [List.mem_singleton] at hx;subst hx;simp));have S1:=S1.far (c:=a.map.c) o3 (all1 p13);have S2:=(M2.out XD).far (c:=a.noise.c) o3 (all1 p23);have S3:=M3.out XD;clear M2 o3 O2 R3 c3 cH2_0 cH2_1 cH2_2 cH2_3 cH2_4 cH2_5 cH2_6 cH2_7 fH2_0 fH2_1 fH2_2 fH2_3 fH2_4 fH2_5 fH2_6 fH2_7 H2 lH2 M3;go_wp2
 go_ret
 exact ⟨rfl,⟨S1,S2,S3⟩,O3⟩
theorem XI.far1 {α:Type} {T sz base n c:Nat} {enc:α->List Value} {w w':World} {A:Option Addr} {xs:List α} {L:List ZY} (h:XI T sz enc w base (.slice A n c) xs) (ho:Zr w w' L) (hap:∀ a∈[(⟨A,c⟩:ZY)],∀ b∈L,JX a b):XI T sz enc w' base (.slice A n c) xs :=
 h.far ho (hap _ (List.mem_singleton.2 rfl))
theorem XT.far1 {w w':World} {base:Nat} {x:List Half} {a:ZY} {L:List ZY} (h:XT w base x a) (ho:Zr w w' L) (hap:∀ c∈[a],∀ b∈L,JX c b):XT w' base x a :=
 ⟨h.halves.far ho (λ b hb=>hap a (by simp) b hb)⟩
theorem Yq.far1 {w w':World} {base:Nat} {x:X3} {a:YO} {L:List ZY} (h:Yq w base x a) (ho:Zr w w' L) (hap:∀ c∈[a.map,a.noise,a.limits],∀ b∈L,JX c b):Yq w' base x a :=
 ⟨h.map.far ho (λ b hb=>hap a.map (by simp) b hb),h.noise.far1 ho (λ c hc b hb=>hap c (by simp only [List.mem_cons,List.not_mem_nil,or_false] at hc ⊢;grind) b hb),h.limits.far1 ho (λ c hc b hb=>hap c (by simp only [List.mem_cons,List.not_mem_nil,or_false] at hc ⊢;grind) b hb),h.apart⟩
theorem Yy.far1 {w w':World} {base:Nat} {x:Jf} {a:Jn} {L:List ZY} (h:Yy w base x a) (ho:Zr w w' L) (hap:∀ c∈[a.room.map,a.room.noise,a.room.limits,a.reg,a.log],∀ b∈L,JX c b):Yy w' base x a :=
 ⟨h.room.far1 ho (λ c hc b hb=>hap c (by simp only [List.mem_cons,List.not_mem_nil,or_false] at hc ⊢;grind) b hb),h.reg.far1 ho (λ c hc b hb=>hap c (by simp only [List.mem_cons,List.not_mem_nil,or_false] at hc ⊢;grind) b hb),h.log.far ho (λ b hb=>hap a.log (by simp) b hb),h.apart⟩
theorem YG.far1 {w w':World} {base:Nat} {x:Track} {a:TrackA} {L:List ZY} (h:YG w base x a) (ho:Zr w w' L) (hap:∀ c∈[a.spots,a.inputs],∀ b∈L,JX c b):YG w' base x a :=
 ⟨h.spots.far ho (λ b hb=>hap a.spots (by simp) b hb),h.inputs.far ho (λ b hb=>hap a.inputs (by simp) b hb),h.apart⟩
theorem Jg.far1 {w w':World} {base:Nat} {x:Law} {a:LawA} {L:List ZY} (h:Jg w base x a) (ho:Zr w w' L) (hap:∀ c∈[a.lows,a.highs],∀ b∈L,JX c b):Jg w' base x a :=
 ⟨h.lows.far ho (λ b hb=>hap a.lows (by simp) b hb),h.highs.far ho (λ b hb=>hap a.highs (by simp) b hb),h.apart⟩
theorem Xy.neT {w:World} {g g' T T':Nat} {vs vs':List Value} (h:Xy w g T vs) (h':Xy w g' T' vs') (hne:T≠T'):g≠g':=by
 intro e;subst e;rw [Xy] at h h';rw [h] at h';simp at h';exact hne h'.2
end Go.Proofs.YtkjimfapbjdafaaGreat
namespace Go.Proofs.YtkjimfapbjdafaaGreat
open Go.RowKit Go.ChangeShapes Go.WideShapes Go.ChangeAt Go.Deep
section
variable {H:Type} {enc:TypeId × Value->H} {P:Program} {w:World} {base:Nat} {spare:Nat->Bool} {held:Bool}
end
theorem openRoom {H:Type} {enc:TypeId × Value->H} {W:World} {base b0:Nat} {spare:Nat->Bool} {held:Bool} {r:Reach} {v:Value} {d:DataW H} {p:List MemPlace}
 (hv:Value.okWide Tryz.prog W r b0 27 v) (h:DataW.Trod enc Tryz.prog W base spare held 27 v d p) :
 ∃ (x:X3) (a:YO),Zu x/\v=XN x a/\(List.length x.map<=9223372036854775807/\List.length x.noise<=9223372036854775807/\List.length x.limits<=9223372036854775807)/\YH W x a:=by
 obtain ⟨cs,rfl,_⟩:=okWide_struct Tryz.underlying27 hv;obtain ⟨fuel,hf⟩:=h;obtain ⟨x,a,h1,h2,h3,h4⟩:=openRoomC (cs:=cs.toList) (by simpa [Value.cells] using hf);refine ⟨x,a,h1, ?_,h3,h4⟩;cases cs;simp only at h2;rw [h2]
end Go.Proofs.YtkjimfapbjdafaaGreat
namespace Go.Proofs.YtkjimfapbjdafaaGreat
open Go.RowKit
theorem XT.neT {w:World} {base g T:Nat} {x:List Half} {a:ZY} {vs:List Value} (h:XT w base x a) (hg:Xy w g T vs) (h0:175≠T):∀ c∈[a],∀ p,c.A=some p->p.block≠g:=by
 intro c hc;simp only [List.mem_cons,List.not_mem_nil,or_false] at hc;subst hc;exact h.halves.typ hg h0
theorem Yq.neT {w:World} {base g T:Nat} {x:X3} {a:YO} {vs:List Value} (h:Yq w base x a) (hg:Xy w g T vs) (h0:3≠T) (h1:175≠T):∀ c∈[a.map,a.noise,a.limits],∀ p,c.A=some p->p.block≠g:=by
 intro c hc;simp only [List.mem_cons,List.not_mem_nil,or_false] at hc;rcases hc with rfl|rfl|rfl
 ·exact h.map.typ hg h0
 ·exact h.noise.halves.typ hg h1
 ·exact h.limits.halves.typ hg h1
theorem Yy.neT {w:World} {base g T:Nat} {x:Jf} {a:Jn} {vs:List Value} (h:Yy w base x a) (hg:Xy w g T vs) (h0:3≠T) (h1:175≠T):∀ c∈[a.room.map,a.room.noise,a.room.limits,a.reg,a.log],∀ p,c.A=some p->p.block≠g:=by
 intro c hc;simp only [List.mem_cons,List.not_mem_nil,or_false] at hc;rcases hc with rfl|rfl|rfl|rfl|rfl
 ·exact h.room.map.typ hg h0
 ·exact h.room.noise.halves.typ hg h1
 ·exact h.room.limits.halves.typ hg h1
 ·exact h.reg.halves.typ hg h1
 ·exact h.log.typ hg h0
theorem YG.neT {w:World} {base g T:Nat} {x:Track} {a:TrackA} {vs:List Value} (h:YG w base x a) (hg:Xy w g T vs) (h0:44≠T) (h1:70≠T):∀ c∈[a.spots,a.inputs],∀ p,c.A=some p->p.block≠g:=by
 intro c hc;simp only [List.mem_cons,List.not_mem_nil,or_false] at hc;rcases hc with rfl|rfl
 ·exact h.spots.typ hg h0
 ·exact h.inputs.typ hg h1
theorem Jg.neT {w:World} {base g T:Nat} {x:Law} {a:LawA} {vs:List Value} (h:Jg w base x a) (hg:Xy w g T vs) (h0:171≠T):∀ c∈[a.lows,a.highs],∀ p,c.A=some p->p.block≠g:=by
 intro c hc;simp only [List.mem_cons,List.not_mem_nil,or_false] at hc;rcases hc with rfl|rfl
 ·exact h.lows.typ hg h0
 ·exact h.highs.typ hg h0
structure LawMk (w:World) (x:Law) (a:LawA) (K:Int):Prop where
 lows:Sl 4 pieceC w a.lows.A (markPieces K x.lows.length)
 highs:Sl 4 pieceC w a.highs.A (markPieces (K+x.lows.length*4) x.highs.length)
theorem LawMk.below {w w':World} {x:Law} {a:LawA} {K:Int} (h:LawMk w x a K) (hb:Below w.heap.size w w'):LawMk w' x a K:=⟨h.lows.below hb,h.highs.below hb⟩
def blkLs (L:List ZY):List Nat:=L.flatMap λ a=>blkL a.A
theorem blkLs_in {L:List ZY} {m:Nat} (h:m∈blkLs L):∃ a∈L,∃ p,a.A=some p/\p.block=m:=by
 obtain ⟨a,ha,hm⟩:=List.mem_flatMap.1 h;obtain ⟨p,hp,e⟩:=KK hm;exact ⟨a,ha,p,hp,e⟩
theorem blkLs_mem {L:List ZY} {a:ZY} {p:Addr} (ha:a∈L) (hp:a.A=some p):p.block∈blkLs L :=
 List.mem_flatMap.2 ⟨a,ha,by rw [hp];simp [blkL]⟩
theorem XQ {L:List ZY} {g:Nat} (h:∀ a∈L,∀ p,a.A=some p->p.block≠g):g ∉ blkLs L:=by
 intro hm;obtain ⟨a,ha,p,hp,e⟩:=blkLs_in hm;exact h a ha p hp e
theorem Zr.kp {L:List ZY} {w w':World} (h:Zr w w' L):Kp (blkLs L) w w' :=
 ⟨⟨h.os,h.tape,h.output,h.size,λ k hk=>absurd hk (Nat.not_lt_zero _)⟩,λ g hg hm=>h.block g hg (λ a ha p hp e=>hm (by rw [<- e];exact blkLs_mem ha hp))⟩
theorem Kp.only {L:List ZY} {w w':World} (h:Kp (blkLs L) w w'):Zr w w' L :=
 ⟨h.base.os,h.base.tape,h.base.output,h.base.size,λ k hk hn=>h.block k hk (XQ hn)⟩
theorem JB {L:List ZY} {B:Nat} (h:∀ a∈L,∀ p,a.A=some p->B<=p.block):∀ m∈blkLs L,B<=m:=by
 intro m hm;obtain ⟨a,ha,p,hp,rfl⟩:=blkLs_in hm;exact h a ha p hp
end Go.Proofs.YtkjimfapbjdafaaGreat
