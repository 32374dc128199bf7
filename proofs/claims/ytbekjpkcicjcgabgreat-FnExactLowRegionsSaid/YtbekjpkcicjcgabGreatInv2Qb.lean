/-
 What was made stays, beside a box of another type that is written.
 Conditions: none.
-/
import Derived.Deep.RegionHeld3
import Derived.Deep.DeepMust
import Derived.Deep.DeepCutAuto
import Derived.Test.YtbekjpkcicjcgabGreatGrQQb
import Derived.Test.YtbekjpkcicjcgabGreatV4
set_option maxHeartbeats 1000000
set_option maxRecDepth 100000
namespace Go.Proofs.YtbekjpkcicjcgabGreat
open Go.RowKit
theorem XJ.neT {w:World} {base g T:Nat} {x:List Half} {a:ZC} {vs:List Value} (h:XJ w base x a) (hg:Xv w g T vs) (h0:85≠T):∀ c∈[a],∀ p,c.A=some p->p.block≠g:=by
 intro c hc;simp only [List.mem_cons,List.not_mem_nil,or_false] at hc;subst hc;exact h.halves.typ hg h0
theorem Yi.neT {w:World} {base g T:Nat} {x:XK} {a:Yq} {vs:List Value} (h:Yi w base x a) (hg:Xv w g T vs) (h0:3≠T) (h1:85≠T):∀ c∈[a.map,a.noise,a.limits],∀ p,c.A=some p->p.block≠g:=by
 intro c hc;simp only [List.mem_cons,List.not_mem_nil,or_false] at hc;rcases hc with rfl|rfl|rfl
 ·exact h.map.typ hg h0
 ·exact h.noise.halves.typ hg h1
 ·exact h.limits.halves.typ hg h1
theorem YM.neT {w:World} {base g T:Nat} {x:Watch} {a:JY} {vs:List Value} (h:YM w base x a) (hg:Xv w g T vs) (h0:3≠T) (h1:85≠T):∀ c∈[a.room.map,a.room.noise,a.room.limits,a.reg,a.log],∀ p,c.A=some p->p.block≠g:=by
 intro c hc;simp only [List.mem_cons,List.not_mem_nil,or_false] at hc;rcases hc with rfl|rfl|rfl|rfl|rfl
 ·exact h.room.map.typ hg h0
 ·exact h.room.noise.halves.typ hg h1
 ·exact h.room.limits.halves.typ hg h1
 ·exact h.reg.halves.typ hg h1
 ·exact h.log.typ hg h0
theorem YN.neT {w:World} {base g T:Nat} {x:Track} {a:JZ} {vs:List Value} (h:YN w base x a) (hg:Xv w g T vs) (h0:30≠T) (h1:45≠T):∀ c∈[a.spots,a.inputs],∀ p,c.A=some p->p.block≠g:=by
 intro c hc;simp only [List.mem_cons,List.not_mem_nil,or_false] at hc;rcases hc with rfl|rfl
 ·exact h.spots.typ hg h0
 ·exact h.inputs.typ hg h1
theorem XS.neT {w:World} {base g T:Nat} {x:KS} {a:KW} {vs:List Value} (h:XS w base x a) (hg:Xv w g T vs) (h0:49≠T):∀ c∈[a.lows,a.highs],∀ p,c.A=some p->p.block≠g:=by
 intro c hc;simp only [List.mem_cons,List.not_mem_nil,or_false] at hc;rcases hc with rfl|rfl
 ·exact h.lows.typ hg h0
 ·exact h.highs.typ hg h0
theorem newAp2 {α β:Type} {T sz base n c T' sz' base' n' c':Nat} {enc:α->List Value} {enc':β->List Value} {w:World} {A B:Option Addr} {xs:List α} {ys:List β} (h1:XI T sz enc w base (.slice A n c) xs) (h2:XI T' sz' enc' w base' (.slice B n' c') ys) (hne:T≠T'):∀ p,A=some p->p.block ∉ blkL B:=by
 intro p hp hm;obtain ⟨q,hq,e⟩:=Yh hm;obtain ⟨vs,hv⟩:=newTyb h2 q hq;exact h1.typ hv hne p hp e.symm
theorem markPieceS_g (A:Option Addr) (n cap:Nat) (xs:List Xm) (K:Int) (base:Nat) (w:World) (hl:xs.length=n) (hn:n<=1048576) (hK:0<=K) (hK2:K<=1000000000000) (hv:XI 49 4 Yy w base (.slice A n cap) xs) :
 Calls Tryz.prog 68 #[.slice A n cap,.int .i64 K] w λ e w'=>e=.returned (.int .i64 (K+n*4))/\XI 49 4 Yy w' base (.slice A n cap) (Kq K n)/\X9 w w' [⟨A,cap⟩]:=by
 obtain ⟨A',cap',he,hown⟩:=hv;injection he with e1 e2 e3
 subst e1 e3 hl;by_cases h0:xs.length=0
 ·have hx:xs=[]:=List.eq_nil_of_length_eq_zero h0;subst hx;simp only [List.length_nil];go_enter Tryz.func68,Tryz.ntmps68
  go_wp2
  go_loopw [1,5] (λ kk i wr=>i=.int .i64 0/\kk=.int .i64 K/\wr=w) (λ _ _ _=>0)
  case atStart=>exact ⟨rfl,rfl,rfl⟩
  case round =>
   obtain ⟨rfl,rfl,rfl⟩:=hrel;go_wp2
   go_ret
   exact ⟨YH (by simp),⟨A,cap,rfl,hown⟩,X9.refl _ _⟩
 ·obtain ⟨g,hA,hbg,hfill0,hback⟩:=own_filled Zv hown (Kq K xs.length) (by simp [Kq]) (by omega);subst hA;have hml:(Kq K xs.length).length=xs.length:=by simp [Kq]
  go_enter Tryz.func68,Tryz.ntmps68
  go_wp2
  go_loopw [1,5] (λ kk i wr=>∃ k:Nat,k<=xs.length/\i=.int .i64 k/\kk=.int .i64 (K+k*4)/\Zb 49 4 Yy wr g (cap*4) (Kq K xs.length) k/\X9 w wr [⟨some ⟨g,0,none⟩,cap⟩]) (λ _ i _=>xs.length-(intOf i).toNat)
  case atStart=>exact ⟨0,Nat.zero_le _,rfl,by simp,hfill0,X9.refl _ _⟩
  case round =>
   obtain ⟨k,hk,rfl,rfl,hfill,hbw⟩:=hrel;by_cases hlt:k<xs.length
   ·have hm:=Nat.mul_le_mul_right 4 hlt;have hml2:=hfill.room;rw [hml] at hml2;obtain ⟨u0,c0⟩:=hfill.cell (m:=k*4) (by omega);have f0:=hfill.frozen (k*4);obtain ⟨u1,c1⟩:=hfill.cell (m:=k*4+1) (by omega);have f1:=hfill.frozen (k*4+1);obtain ⟨u2,c2⟩:=hfill.cell (m:=k*4+2) (by omega);have f2:=hfill.frozen (k*4+2);obtain ⟨u3,c3⟩:=hfill.cell (m:=k*4+3) (by omega);have f3:=hfill.frozen (k*4+3);clear hm hml2;have hst:=hfill.stored Zv (by rw [hml];exact hlt) (vs:=Yy ⟨K+k*4,K+k*4+1,K+k*4+1+1,K+k*4+1+1+1⟩) (by simp [Kq]);have hst2:=X9.setCells (Yy ⟨K+k*4,K+k*4+1,K+k*4+1+1,K+k*4+1+1+1⟩) (k*4) _ hbw;go_wp2
    refine ⟨⟨k+1,by omega,by go_num, ?_,hst,hst2⟩,by simp [intOf];omega⟩;congr 1;omega
   ·obtain rfl:k=xs.length:=by omega
    go_wp2
    go_ret
    refine ⟨rfl, ?_,hbw⟩;obtain ⟨A2,c2,e2,o2⟩:=hback _ hfill;rw [hml] at e2 o2;injection e2 with e3 _ e4
    subst e3 e4;exact ⟨_,_,by rw [hml],by rw [hml];exact o2⟩
theorem markLaw_g (x:KS) (a:KW) (K:Int) (base:Nat) (w:World) (hn:YJ x<=1048576) (hK:0<=K) (hK2:K<=1000000000) (hv:XS w base x a) :
 Calls Tryz.prog 26 #[lawV x a,.int .i64 K] w λ e w'=>e=.returned (.int .i64 (K+x.lows.length*4+x.highs.length*4))/\LawMk w' x a K/\X9 w w' [a.lows,a.highs]:=by
 obtain ⟨lows,highs⟩:=x;simp only [YJ] at hn;obtain ⟨N1,N2,hap⟩:=hv;simp only [List.pairwise_cons,List.mem_cons,List.not_mem_nil,or_false] at hap;obtain ⟨p1,_⟩:=hap;have p12:=p1 _ rfl;clear p1;simp only at N1 N2 ⊢;have c1:=λ W h=>markPieceS_g a.lows.A lows.length a.lows.c lows K base W rfl (by omega) hK (by omega) h;have c2:=λ W h=>markPieceS_g a.highs.A highs.length a.highs.c highs (K+lows.length*4) base W rfl (by omega) (by omega) (by omega) h;have b0:=Xa (Below.refl w.heap.size w) (.cells #[.slice a.lows.A lows.length a.lows.c,.slice a.highs.A highs.length a.highs.c] 36);have H0:X0 (w.alloc (.cells #[.slice a.lows.A lows.length a.lows.c,.slice a.highs.A highs.length a.highs.c] 36)) w.heap.size [.slice a.lows.A lows.length a.lows.c,.slice a.highs.A highs.length a.highs.c]:=X0.new _ _ _;have k1:∀ p,a.lows.A=some p->p.block≠w.heap.size:=N1.blk.ne_ge Xs;have N1':=N1.below b0 Xs;have N2':=N2.below b0 Xs;have B0:=X9.of_below b0 [a.lows,a.highs];clear N1 N2 b0 hn;go_enter Tryz.func26,Tryz.ntmps26
 go_wp2_with (fail)
 refine (c1 _ N1').mono ?_;rintro e w1 ⟨rfl,M1,o1⟩;have H1:=H0.far o1 (all1 k1);have O1:=B0.trans (o1.mono (by intro x hx;simp only [List.mem_singleton] at hx;subst hx;simp));have R2:=N2'.far o1 (all1 p12.symm);have lH1:=H1.1;clear N1' N2' o1 B0 H0 c1;obtain ⟨cH1_0,fH1_0⟩:=H1.2 0 _ rfl;obtain ⟨cH1_1,fH1_1⟩:=H1.2 1 _ rfl;go_wp2_with (fail)
 refine (c2 _ R2).mono ?_;rintro e w2 ⟨rfl,M2,o2⟩;have O2:=O1.trans (o2.mono (by intro x hx;simp only [List.mem_singleton] at hx;subst hx;simp));have S1:=(M1.out Zv).far (c:=a.lows.c) o2 (all1 p12);have S2:=M2.out Zv;clear M1 o2 O1 R2 c2 M2;go_wp2
 go_ret
 exact ⟨rfl,⟨S1,S2⟩,O2⟩
theorem blkLs_lo {L:List ZC} {B:Nat} (h:∀ a∈L,∀ p,a.A=some p->B<=p.block):∀ m∈blkLs L,B<=m:=by
 intro m hm;obtain ⟨a,ha,p,hp,rfl⟩:=blkLs_in hm;exact h a ha p hp
section
variable {w w':World} {base:Nat} {es:List Ju} {rs:List (List Half)}
theorem ZM.kpX {M:List Nat} (h:ZM w base es rs) (k:Kp M w w') (hM:∀ m∈M,(∀ vs,¬ Xv w m 85 vs)∨∀ i,i<rs.length->∀ p,(es.getD i Y5).A=some p->p.block≠m):ZM w' base es rs :=
 ⟨h.len,λ i hi=>⟨(h.new i hi).1,(h.new i hi).2.kpN k (λ p hp hm=>by
  obtain ⟨vs,hv⟩:=newTyb (h.new i hi).2 p hp;rcases hM _ hm with h1|h1
  ·exact h1 vs hv
  ·exact h1 i hi p hp rfl)⟩,h.apart⟩
end
theorem sPieces_c (A:Option Addr) (xs:List Xm) (cap:Nat) (w:World) (hn:xs.length<=1048576) (hin:∀ q∈xs,q.In) (hs:Sl 4 Yy w A xs) :
 Calls Tryz.prog 99 #[.slice A xs.length cap] w λ e w'=>e=.returned (.bool (YB xs))/\Below w.heap.size w w':=by
 have c1:=λ W=>XQ (xs.length:Int) 1 40 W;have HI:=Lib.hid hin;clear hin;go_enter Tryz.func99,Tryz.ntmps99
 go_wp2
 go_loopw [4,7] (λ _ i wr=>∃ k:Nat,k<=xs.length/\i=.int .i64 k/\Hid ((xs.take k).all XM=true)/\Below w.heap.size w wr) (λ _ i _=>xs.length-(intOf i).toNat)
 case atStart=>exact ⟨0,Nat.zero_le _,rfl,rfl,Below.refl _ _⟩
 case round =>
  obtain ⟨k,hk,rfl,hall,hbw⟩:=hrel;by_cases hlt:k<xs.length
  ·obtain ⟨b,off,rfl,hblt,hc⟩:=(hs.below hbw).at_ hlt;have g0:=hc 0 _ rfl;have g1:=hc 1 _ rfl;have g2:=hc 2 _ rfl;have g3:=hc 3 _ rfl;have c2:=λ W=>sPieceOk_c xs[k] W (HI.out _ (List.getElem_mem hlt));have hyes:=Lib.hid (λ(h:XM xs[k]=true)=>show (xs.take (k+1)).all XM=true from by rw [Y8 xs k hlt,List.all_append,hall.out];simp [h]);have hno:=Lib.hid (λ(h:XM xs[k]=false)=>show YB xs=false from by
    have:xs.all XM=false:=by rw [List.all_eq_false];exact ⟨_,List.getElem_mem hlt,by simp [h]⟩
    simp [YB,this])
   clear hc hall;simp only [Nat.add_zero] at g0;generalize xs[k]=q at *;cases hq:XM q
   ·rw [hq] at c2;have hfin:=Lib.hid (hno.out hq);clear hyes hno;go_wp2_with (fail)
    refine (c2 _).mono ?_;rintro e w1 ⟨rfl,hb1⟩;go_wp2
    go_ret
    refine ⟨Xi hfin.out.symm, ?_⟩;exact Xn
   ·rw [hq] at c2;have hfin:=Lib.hid (hyes.out hq);clear hyes hno;go_wp2_with (fail)
    refine (c2 _).mono ?_;rintro e w1 ⟨rfl,hb1⟩;go_wp2
    go_roundw
    case rel =>
     refine ⟨k+1,by omega,by go_num,hfin, ?_⟩;exact Xn
    case measure=>simp [intOf];omega
  ·obtain rfl:k=xs.length:=by omega
   rw [List.take_length] at hall;have hfin:=Lib.hid (show YB xs=Zo (xs.length:Int) 1 40 by unfold YB;rw [hall.out];rfl);clear hall;go_wp2_with (fail)
   refine (c1 _).mono ?_;rintro e w' ⟨rfl,rfl⟩;go_wp2
   go_ret
   exact ⟨Xi hfin.out.symm,hbw⟩
theorem sLawOk_c (x:KS) (a:KW) (w:World) (hn:YJ x<=1048576) (hin:LawIn x) (hs:J3 w x a) :
 Calls Tryz.prog 55 #[lawV x a] w λ e w'=>e=.returned (.bool (Yd x))/\Below w.heap.size w w':=by
 simp only [YJ] at hn;have c0:=λ W h=>sPieces_c a.lows.A x.lows a.lows.c W (by omega) hin.lows h;have c1:=λ W h=>sPieces_c a.highs.A x.highs a.highs.c W (by omega) hin.highs h;cases e0:YB x.lows
 ·rw [e0] at c0;have hv:=Lib.hid (show Yd x=false by simp [Yd,e0]);go_enter Tryz.func55,Tryz.ntmps55
  go_wp2_with (fail)
  refine (c0 _ (Sl.below hs.lows (by exact Xn))).mono ?_;rintro e w1 ⟨rfl,hb1⟩;go_wp2
  go_ret
  refine ⟨Xi hv.out.symm, ?_⟩;exact Xn
 ·rw [e0] at c0;have hv:=Lib.hid (show Yd x=YB x.highs by simp [Yd,e0]);generalize YB x.highs=q at *;go_enter Tryz.func55,Tryz.ntmps55
  go_wp2_with (fail)
  refine (c0 _ (Sl.below hs.lows (by exact Xn))).mono ?_;rintro e w1 ⟨rfl,hb1⟩;have r1:=Xt hb1;have l1:w.heap.size<w1.heap.size:=XN hb1;go_wp2_with (fail)
  refine (c1 _ (Sl.below hs.highs (by exact Xn))).mono ?_;rintro e w2 ⟨rfl,hb2⟩;go_wp2
  go_ret
  refine ⟨Xi hv.out.symm, ?_⟩;exact Xn
end Go.Proofs.YtbekjpkcicjcgabGreat
