/-
 The first greatest (or least) one of the values of pieces: of the program (extreme) and of the reference (l12Best).
 Conditions: the slice reads as a list of at most 2^20 pieces.
-/
import Derived.Deep.RegionHeld3
import Derived.Deep.DeepMust
import Derived.Deep.DeepCutAuto
import Derived.Test.YtkjimfapbjdafaaGreatCnr
namespace Go.Proofs.YtkjimfapbjdafaaGreat
open Go.RowKit
def XU:Ya:=⟨0,0,0⟩
def farNum (xs:List Ya) (a b:Int) (k:Nat):Int:=a*(xs.getD k XU).x+b*(xs.getD k XU).y
def farDen (xs:List Ya) (k:Nat):Int:=(xs.getD k XU).d
def KN (xs:List Ya) (a b:Int):Nat->Int × Int × Int
 | 0=>(-1,0,0)
 | k+1=>if (KN xs a b k).1<0∨0<KY (farNum xs a b k) (farDen xs k) (KN xs a b k).2.1 (KN xs a b k).2.2 then ((k:Int),farNum xs a b k,farDen xs k) else KN xs a b k
theorem far_get {xs:List Ya} {k:Nat} (h:k<xs.length):xs.getD k XU=xs[k]:=by
 rw [List.getD_eq_getElem?_getD,List.getElem?_eq_getElem h];rfl
theorem farAt_yes {xs:List Ya} {a b:Int} {k:Nat} (h:(KN xs a b k).1<0∨0<KY (farNum xs a b k) (farDen xs k) (KN xs a b k).2.1 (KN xs a b k).2.2):KN xs a b (k+1)=((k:Int),farNum xs a b k,farDen xs k):=by
 rw [KN,if_pos h]
theorem farAt_no {xs:List Ya} {a b:Int} {k:Nat} (h:¬((KN xs a b k).1<0∨0<KY (farNum xs a b k) (farDen xs k) (KN xs a b k).2.1 (KN xs a b k).2.2)):KN xs a b (k+1)=KN xs a b k:=by
 rw [KN,if_neg h]
def farR (p:Int × Int × Int):YA:=if p.1<0 then Z8 else Yh p.2.1 p.2.2
theorem farR_new (k:Nat) (n d:Int):farR ((k:Int),n,d)=Yh n d:=if_neg (by simp only;omega)
theorem far5B {q:Ya} {a b:Int} (hq:Xu q=true) (ha : -50000<=a/\a<=50000) (hb : -50000<=b/\b<=50000) :
 (-250000000000000000<=a*q.x/\a*q.x<=250000000000000000)/\(-250000000000000000<=b*q.y/\b*q.y<=250000000000000000)/\(1<=q.d/\q.d<=5000000000):=by
 obtain ⟨h1,h2,h3,_⟩:=JM.1 hq;have p:=JC (a:=a) (b:=q.x) (A:=50000) (B:=5000000000000) ⟨by omega,by omega⟩ ⟨by omega,by omega⟩;have r:=JC (a:=b) (b:=q.y) (A:=50000) (B:=5000000000000) ⟨by omega,by omega⟩ ⟨by omega,by omega⟩;exact ⟨⟨by omega,by omega⟩,⟨by omega,by omega⟩,h1⟩
theorem far5_bd {xs:List Ya} {a b:Int} (ha : -50000<=a/\a<=50000) (hb : -50000<=b/\b<=50000) (hok:∀ j,j<xs.length->Xu (xs.getD j XU)=true):∀ k:Nat,k<=xs.length ->
 (-1<=(KN xs a b k).1/\(KN xs a b k).1<(k:Int))/\(-500000000000000000<=(KN xs a b k).2.1/\(KN xs a b k).2.1<=500000000000000000)/\(k=0/\KN xs a b k=(-1,0,0)∨0<k/\0<=(KN xs a b k).1/\1<=(KN xs a b k).2.2)/\(0<=(KN xs a b k).2.2/\(KN xs a b k).2.2<=5000000000)
 | 0,_=>by simp [KN]
 | k+1,hk=>by
  obtain ⟨h1,h2,h3,h4⟩:=far5_bd ha hb hok k (by omega);obtain ⟨p1,p2,p3⟩:=far5B (hok k (by omega)) ha hb;rw [KN];split
  ·simp only [farNum,farDen];exact ⟨⟨by omega,by omega⟩,⟨by omega,by omega⟩,.inr ⟨by omega,by omega,by omega⟩,⟨by omega,by omega⟩⟩
  ·rename_i hn
   rcases h3 with ⟨rfl,h3⟩|h3
   ·exfalso;apply hn;left;rw [h3];decide
   ·exact ⟨⟨by omega,by omega⟩,h2,.inr ⟨by omega,by omega,by omega⟩,h4⟩
def supF (p:List Half) (a b:Int):Int × Int × Int:=KN (Yk p) a b (Yk p).length
def KU (p:List Half) (a b:Int):YA:=Yh (supF p a b).2.1 (supF p a b).2.2
theorem cor_ok {p:List Half} (hr:Xf p=true):∀ j,j<(Yk p).length->Xu ((Yk p).getD j XU)=true:=by
 intro j hj;rw [far_get hj,corners_at p j (by rw [Kz] at hj;exact hj)];exact (reg_corner hr (by rw [Kz] at hj;exact hj)).ok
structure SupB (p:List Half) (a b:Int):Prop where
 i:0<=(supF p a b).1
 n : -500000000000000000<=(supF p a b).2.1/\(supF p a b).2.1<=500000000000000000
 d:1<=(supF p a b).2.2/\(supF p a b).2.2<=5000000000
theorem supB {p:List Half} {a b:Int} (hr:Xf p=true) (hne:p≠[]) (ha : -50000<=a/\a<=50000) (hb : -50000<=b/\b<=50000):SupB p a b:=by
 have hl:0<(Yk p).length:=by rw [Kz];exact List.length_pos_iff.2 hne
 obtain ⟨h1,h2,h3,h4⟩:=far5_bd ha hb (cor_ok hr) (Yk p).length Xh;refine ⟨?_,h2, ?_, ?_⟩<;>unfold supF<;>omega
structure SupR (p:List Half) (a b:Int):Prop where
 ok:Xr (KU p a b)=true
 n : -500000000000000000<=(KU p a b).n/\(KU p a b).n<=500000000000000000
 d:1<=(KU p a b).d/\(KU p a b).d<=5000000000
 g:Nat.gcd (KU p a b).n.natAbs (KU p a b).d.natAbs=1
theorem supR {p:List Half} {a b:Int} (hr:Xf p=true) (hne:p≠[]) (ha : -50000<=a/\a<=50000) (hb : -50000<=b/\b<=50000):SupR p a b:=by
 have B:=supB hr hne ha hb;have hn:=B.n;have hd:=B.d;obtain ⟨ok,k,hk,e1,e2⟩:=ZF (n:=(supF p a b).2.1) (d:=(supF p a b).2.2) ⟨by omega,by omega⟩ ⟨by omega,by omega⟩;obtain ⟨⟨q1,_⟩,_,q3⟩:=ZJ.1 ok;change Xr (KU p a b)=true at ok
 change (supF p a b).2.1=k*(KU p a b).n at e1
 change (supF p a b).2.2=k*(KU p a b).d at e2
 change 1<=(KU p a b).d at q1
 have g1:(KU p a b).d<=k*(KU p a b).d:=by
  have:=Int.mul_le_mul_of_nonneg_right (show (1:Int)<=k by omega) (show (0:Int)<=(KU p a b).d by omega);omega
 have g2 : -500000000000000000<=(KU p a b).n/\(KU p a b).n<=500000000000000000:=by
  rcases Int.le_total 0 (KU p a b).n with h|h
  ·have:=Int.mul_le_mul_of_nonneg_right (show (1:Int)<=k by omega) h;constructor<;>omega
  ·have:=Int.mul_le_mul_of_nonpos_right (show (1:Int)<=k by omega) h;constructor<;>omega
 exact ⟨ok,g2,⟨q1,by omega⟩,q3⟩
theorem SupR.in_ {p:List Half} {a b:Int} (h:SupR p a b):(KU p a b).In:=⟨⟨by have:=h.n;omega,by have:=h.n;omega⟩,⟨by have:=h.d;omega,by have:=h.d;omega⟩⟩
def ZO (p:List Half) (h:Half):Option Half:=Ke (h.a*(KU p h.a h.b).d) (h.b*(KU p h.a h.b).d) (h.c*(KU p h.a h.b).d-(KU p h.a h.b).n)
theorem ratio_less {c n d:Int} (hc : -100000000<=c/\c<=100000000) (hn : -500000000000000000<=n/\n<=500000000000000000) (hd:1<=d/\d<=5000000000) (hg:Nat.gcd n.natAbs d.natAbs=1):Yh (c*d-n) d=⟨c*d-n,d⟩:=by
 have m:=JC (a:=c) (b:=d) (A:=100000000) (B:=5000000000) ⟨by omega,by omega⟩ ⟨by omega,by omega⟩;obtain ⟨ok,k,hk,e1,e2⟩:=ZF (n:=c*d-n) (d:=d) ⟨by omega,by omega⟩ ⟨by omega,by omega⟩;have k1:k ∣ d:=⟨_,e2⟩;have k2:k ∣ n:=by
  have:n=c*d-(c*d-n):=by omega
  rw [this];exact Int.dvd_sub (Int.dvd_trans k1 (Int.dvd_mul_left c d)) ⟨_,e1⟩
 have k3:k.natAbs ∣ 1:=by
  rw [<- hg];exact Nat.dvd_gcd (Int.natAbs_dvd_natAbs.2 k2) (Int.natAbs_dvd_natAbs.2 k1)
 have:k=1:=by have:=Nat.dvd_one.1 k3;omega
 subst this;generalize Yh (c*d-n) d=r at *;obtain ⟨x,y⟩:=r;simp only at e1 e2;rw [Int.one_mul] at e1 e2;rw [<- e1,<- e2]
theorem ero_none {a b c n d:Int} (hab:¬(a=0/\b=0)) (hd:50000<d) (hg:Nat.gcd n.natAbs d.natAbs=1):Ke (a*d) (b*d) (c*d-n)=none:=by
 unfold Ke;split
 ·rfl
 split
 ·rename_i h0 hok
  exfalso;obtain ⟨h1,h2,_⟩:=Kd.1 hok;simp only [redHalf] at h1 h2;obtain ⟨d1,d2,d3⟩:=@gcdAll_dvd (a*d) (b*d) (c*d-n);generalize XJ [a*d,b*d,c*d-n]=g at *;have hco:Nat.gcd g d.natAbs=1:=by
   have q1:((Nat.gcd g d.natAbs:Nat):Int) ∣ c*d-n:=Int.dvd_trans (Int.natCast_dvd_natCast.2 (Nat.gcd_dvd_left _ _)) d3;have q2:((Nat.gcd g d.natAbs:Nat):Int) ∣ d:=Int.ofNat_dvd_left.2 (Nat.gcd_dvd_right _ _);have q3:((Nat.gcd g d.natAbs:Nat):Int) ∣ n:=by
    have:n=c*d-(c*d-n):=by omega
    rw [this];exact Int.dvd_sub (Int.dvd_trans q2 (Int.dvd_mul_left c d)) q1
   have:=Nat.dvd_gcd (Int.ofNat_dvd_left.1 q3) (Int.ofNat_dvd_left.1 q2);rw [hg] at this;exact Nat.dvd_one.1 this
  have key:∀ x:Int,(g:Int) ∣ x*d->x≠0->50000<((x*d).tdiv (g:Int)).natAbs:=by
   intro x hx hx0;have:g ∣ x.natAbs:=by
    have h:=Int.ofNat_dvd_left.1 hx;rw [Int.natAbs_mul] at h;exact Nat.Coprime.dvd_of_dvd_mul_right hco h
   obtain ⟨y,hy⟩:=Int.ofNat_dvd_left.2 this;have hg0:g≠0:=by rintro rfl;apply h0;simp
   rw [hy,Int.mul_assoc,Int.mul_tdiv_cancel_left _ (by omega),Int.natAbs_mul];have hy0:y≠0:=by rintro rfl;rw [Int.mul_zero] at hy;exact hx0 hy
   have:=Nat.mul_le_mul (show 1<=y.natAbs by omega) (Nat.le_refl d.natAbs);omega
  rcases Classical.em (a=0) with ha|ha
  ·have:=key b d2 (λ h=>hab ⟨ha,h⟩);omega
  ·have:=key a d1 ha;omega
 ·rfl
section
variable {α:Type} {X:α->α->Int} {D:α->α->α->Int} {L:List α}
end
theorem farR5_in {p:Int × Int × Int} (h1 : -500000000000000000<=p.2.1/\p.2.1<=500000000000000000) (h2:0<=p.2.2) (h3:p.2.2<=5000000000) (h4:p.1<0∨1<=p.2.2):(farR p).In:=by
 unfold farR;split
 ·exact ⟨⟨by decide,by decide⟩,⟨by decide,by decide⟩⟩
 ·exact ratioOf_in ⟨by omega,by omega⟩ ⟨by omega,by omega⟩
theorem sup_far {p:List Half} {a b:Int} (h:0<=(supF p a b).1):KU p a b=farR (supF p a b):=by
 unfold farR KU;rw [if_neg (by omega)]
set_option maxRecDepth 100000 in
set_option maxHeartbeats 8000000 in
theorem sFarL_c (p:List Half) (a':ZY) (a b:Int) (w:World) (hr:Xf p=true) (hne:p≠[]) (ha : -50000<=a/\a<=50000) (hb : -50000<=b/\b<=50000) (hs:Sl 3 Xk w a'.A p) :
 Calls Tryz.prog 236 #[Zb p a',.int .i64 a,.int .i64 b] w λ e w'=>e=.returned (.tuple #[.int .i64 (supF p a b).1,X7 (KU p a b)])/\Below w.heap.size w w':=by
 obtain ⟨A,cap⟩:=a';simp only at hs;have hB:=supB hr hne ha hb;have cc:=λ W h=>sCorners_c p ⟨A,cap⟩ W hr h;have hlen:(Yk p).length<=40:=by rw [Kz];exact YX hr
 have hok:=Lib.hid (cor_ok hr);have hbd:=Lib.hid (far5_bd ha hb (cor_ok hr));rw [sup_far hB.i];clear hB hr hne;unfold supF;generalize Yk p=C at *;obtain ⟨W,hW⟩:∃ W,W=((w.alloc (.cells #[.slice A p.length cap] 37)).alloc (.cells #[.int .i64 0,.int .i64 0] 70)).alloc (.cells #[.int .i64 0,.int .i64 0] 70):=⟨_,rfl⟩;have HP:YI W w.heap.size [.slice A p.length cap]:=by rw [hW];exact Zp
 have HR0:YI W (w.heap.size+1) [.int .i64 0,.int .i64 0]:=by rw [hW];exact Zp
 have HT0:YI W (w.heap.size+1+1) [.int .i64 0,.int .i64 0]:=by rw [hW];exact Zp
 have b0:Below w.heap.size w W:=by rw [hW];exact XA
 have hz:W.heap.size=w.heap.size+1+1+1:=by rw [hW];simp
 have hs0:=hs.below b0;have hW':=Lib.hid hW;clear hW hs;go_enter Tryz.func236,Tryz.ntmps236
 go_upto_region 3 with fail
 rw [<- hW'.out];clear hW';have lP:=HP.1;obtain ⟨cHP_0,fHP_0⟩:=HP.2 0 _ rfl;go_wp2_with (fail)
 refine (cc _ hs0).mono ?_;rintro e w1 ⟨v,rfl,N0,hb1⟩;obtain ⟨A2,cap2,rfl,_⟩:=N0.sl Zt;have HR1:=HR0.below hb1;have HT1:=HT0.below hb1;have bw:=b0.trans (hb1.mono b0.size);have hz1:=hb1.size;clear HP HR0 HT0 cHP_0 fHP_0 lP hb1 b0 hs0 cc;rw [hz] at N0 hz1;clear hz W;go_wp2
 go_loopw [8,10,11,12,17] (λ v _ _ _ i wr=>∃ k:Nat,k<=C.length/\i=.int .i64 k/\v=.int .i64 (KN C a b k).1/\YI wr (w.heap.size+1+1) [.int .i64 (farR (KN C a b k)).n,.int .i64 (farR (KN C a b k)).d]/\YI wr (w.heap.size+1) [.int .i64 0,.int .i64 0]/\XI 44 3 Zm wr (w.heap.size+1+1+1) (.slice A2 C.length cap2) C/\Below w.heap.size w wr) (λ _ _ _ _ i _=>C.length-(intOf i).toNat)
 case atStart=>exact ⟨0,Nat.zero_le _,rfl,rfl,HT1,HR1,N0,bw⟩
 case round =>
  clear HT1 HR1 N0 bw hz1;obtain ⟨k,hk,rfl,rfl,HB,HR,N,hbr⟩:=hrel;obtain ⟨⟨bb1,bb2⟩,⟨bb3,bb4⟩,bb5,bb6,bb7⟩:=hbd.out k hk;by_cases hlt:k<C.length
  ·obtain ⟨g,off,hA,hblt,hc⟩:=(N.out Zt).at_ hlt;subst hA;have g0:=hc 0 _ rfl;have g1:=hc 1 _ rfl;have g2:=hc 2 _ rfl;have hq:=hok.out k hlt;rw [far_get hlt] at hq;have hyes:=Lib.hid (λ h=>@farAt_yes C a b k h);have hno:=Lib.hid (λ h=>@farAt_no C a b k h);have i1:(k:Int)<(C.length:Int):=by omega
   clear hc;simp only [farNum,farDen,Hid,far_get hlt] at hyes hno;simp only [Nat.add_zero] at g0;generalize C[k]=q at *;generalize KN C a b k=st at *;obtain ⟨⟨p1,p2⟩,⟨p3,p4⟩,⟨p5,p6⟩⟩:=far5B hq ha hb;have vin:=ratioOf_in (n:=a*q.x+b*q.y) (d:=q.d) ⟨by omega,by omega⟩ ⟨by omega,by omega⟩;have bb8:st.1<0∨1<=st.2.2:=by
    rcases bb5 with ⟨_,h⟩|⟨_,_,h⟩
    ·rw [h];left;decide
    ·right;exact h
   have rin:=farR5_in (p:=st) ⟨bb3,bb4⟩ bb6 bb7 bb8;have c2:=λ W=>sRatioOf_c (a*q.x+b*q.y) q.d W ⟨by omega,by omega⟩ ⟨by omega,by omega⟩;have c3:=λ W=>sRatioCmp_c (Yh (a*q.x+b*q.y) q.d) (farR st) W vin rin;have ceq:¬st.1<0->XC (Yh (a*q.x+b*q.y) q.d) (farR st)=KY (a*q.x+b*q.y) q.d st.2.1 st.2.2:=λ h=>by
    unfold farR;rw [if_neg h];exact ratioCmp_of ⟨by omega,by omega⟩ ⟨by omega,by omega⟩ ⟨by omega,by omega⟩ ⟨by omega,by omega⟩
   have hnew:=Lib.hid (farR_new k (a*q.x+b*q.y) q.d);have cmb:=cmpF_bd (a*q.x+b*q.y) q.d st.2.1 st.2.2;clear vin rin bb5;replace hyes:=Lib.hid hyes;replace hno:=Lib.hid hno;generalize KY (a*q.x+b*q.y) q.d st.2.1 st.2.2=cm at *;obtain ⟨cm1,cm2⟩:=cmb;generalize Yh (a*q.x+b*q.y) q.d=v at *;generalize hRR:farR st=R at *;replace hRR:=Lib.hid hRR;go_wp2_with (fail)
   refine (c2 _).mono ?_;rintro e w2 ⟨rfl,hb2⟩;have ba:=Xd (Below.refl wr.heap.size wr) (.cells #[.int .i64 q.x,.int .i64 q.y,.int .i64 q.d] 44);have bx:Below wr.heap.size wr w2:=ba.trans (hb2.mono (by simp));have by_:=Xd bx (.cells #[.int .i64 v.n,.int .i64 v.d] 70);have HB2:=HB.below by_;have HR2:=HR.below by_;have N2:=N.below by_ Xh;have HV:=YI.new w2 #[.int .i64 v.n,.int .i64 v.d] 70;have BW:=hbr.trans (by_.mono hbr.size);have lB:=HB.1;have hs2:=bx.size;have nv:w2.heap.size≠w.heap.size+1+1:=by omega
   have nv2:w2.heap.size≠w.heap.size+1:=by omega
   clear hb2 ba bx by_ hbr N HB HR c2 g0 g1 g2 hs2 lB hblt;go_upto_region 7 with fail
   generalize hW:w2.alloc (.cells #[.int .i64 v.n,.int .i64 v.d] 70)=w3 at *;clear hW;generalize hgv:w2.heap.size=gv at *;clear hgv;have lV:=HV.1;have lB:=HB2.1;by_cases hb0:st.1<0
   ·have hbest:=Lib.hid (hyes.out (.inl hb0));clear hyes hno c3 ceq;obtain ⟨cHV_0,fHV_0⟩:=HV.2 0 _ rfl;obtain ⟨cHV_1,fHV_1⟩:=HV.2 1 _ rfl;obtain ⟨cHB2_0,fHB2_0⟩:=HB2.2 0 _ rfl;obtain ⟨cHB2_1,fHB2_1⟩:=HB2.2 1 _ rfl;go_wp2
    go_roundw
    case rel =>
     refine ⟨k+1,by omega,by go_num,by rw [hbest.out], ?_, ?_, ?_, ?_⟩
     ·rw [hbest.out,hnew.out];exact YI.stored HB2 [_,_] rfl
     ·exact (HR2.set_ (by simp) _).set_ (by simp) _
     ·exact (N2.set_ (by simp) _).set_ (by simp) _
     ·exact (BW.setCell (by simp only;omega) _).setCell (by simp only;omega) _
    case measure=>simp [intOf];omega
   ·rw [ceq (by omega)] at c3;clear ceq;by_cases hp:0<cm
    ·have hbest:=Lib.hid (hyes.out (.inr hp));clear hyes hno;obtain ⟨cHV_0,fHV_0⟩:=HV.2 0 _ rfl;obtain ⟨cHV_1,fHV_1⟩:=HV.2 1 _ rfl;obtain ⟨cHB2_0,fHB2_0⟩:=HB2.2 0 _ rfl;obtain ⟨cHB2_1,fHB2_1⟩:=HB2.2 1 _ rfl;go_wp2_with (fail)
     refine (c3 _).mono ?_;rintro e w4 ⟨rfl,hb4⟩;clear cHV_0 cHV_1 cHB2_0 cHB2_1 fHV_0 fHV_1 fHB2_0 fHB2_1;have HV3:=HV.below hb4;have HB3:=HB2.below hb4;have HR3:=HR2.below hb4;have N3:=N2.below hb4 Xh;have BW3:=BW.trans (hb4.mono BW.size);obtain ⟨cHV3_0,fHV3_0⟩:=HV3.2 0 _ rfl;obtain ⟨cHV3_1,fHV3_1⟩:=HV3.2 1 _ rfl;obtain ⟨cHB3_0,fHB3_0⟩:=HB3.2 0 _ rfl;obtain ⟨cHB3_1,fHB3_1⟩:=HB3.2 1 _ rfl;have lV3:=HV3.1;have lB3:=HB3.1;clear HV HB2 BW hb4 c3 HR2 N2;go_wp2
     go_roundw
     case rel =>
      refine ⟨k+1,by omega,by go_num,by rw [hbest.out], ?_, ?_, ?_, ?_⟩
      ·rw [hbest.out,hnew.out];exact YI.stored HB3 [_,_] rfl
      ·exact (HR3.set_ (by simp) _).set_ (by simp) _
      ·exact (N3.set_ (by simp) _).set_ (by simp) _
      ·exact (BW3.setCell (by simp only;omega) _).setCell (by simp only;omega) _
     case measure=>simp [intOf];omega
    ·have hbest:=Lib.hid (hno.out (by omega));clear hyes hno;obtain ⟨cHV_0,fHV_0⟩:=HV.2 0 _ rfl;obtain ⟨cHV_1,fHV_1⟩:=HV.2 1 _ rfl;obtain ⟨cHB2_0,fHB2_0⟩:=HB2.2 0 _ rfl;obtain ⟨cHB2_1,fHB2_1⟩:=HB2.2 1 _ rfl;go_wp2_with (fail)
     refine (c3 _).mono ?_;rintro e w4 ⟨rfl,hb4⟩;have HB3:=HB2.below hb4;have HR3:=HR2.below hb4;have N3:=N2.below hb4 Xh;have BW3:=BW.trans (hb4.mono BW.size);clear c3 HV HB2 N2 BW HR2 hb4;go_wp2
     go_roundw
     case rel =>
      refine ⟨k+1,by omega,by go_num,by rw [hbest.out], ?_,HR3,N3,BW3⟩;rw [hbest.out,hRR.out];exact HB3
     case measure=>simp [intOf];omega
  ·obtain rfl:k=C.length:=by omega
   clear N hbd hok bb5;have lB:=HB.1;have lR:=HR.1;obtain ⟨cHB_0,fHB_0⟩:=HB.2 0 _ rfl;obtain ⟨cHB_1,fHB_1⟩:=HB.2 1 _ rfl;obtain ⟨cHR_0,fHR_0⟩:=HR.2 0 _ rfl;obtain ⟨cHR_1,fHR_1⟩:=HR.2 1 _ rfl;go_upto_region 11 with fail
   go_region
   all_goals
    go_wp2
    refine bodyPost_ret (v:=.tuple #[.int .i64 (KN C a b C.length).1,.agg #[.int .i64 (farR (KN C a b C.length)).n,.int .i64 (farR (KN C a b C.length)).d]]) (by simp [results,Tryz.results236,go_sem, *]) rfl ⟨rfl, ?_⟩;exact XA
end Go.Proofs.YtkjimfapbjdafaaGreat
