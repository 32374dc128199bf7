/-
 The farthest corner of a valid region in a direction, of the reference.
 Conditions: a valid region that is not void; whole numbers of at most 50000.
-/
import Derived.Test.YtbekjpkcicjcgaaGreatGeo9
import Derived.Test.YtbekjpkcicjcgaaGreatCnr
namespace Go.Proofs.YtbekjpkcicjcgaaGreat
open Go.RowKit
theorem farR5_in {p:Int × Int × Int} (h1 : -500000000000000000<=p.2.1/\p.2.1<=500000000000000000) (h2:0<=p.2.2) (h3:p.2.2<=5000000000) (h4:p.1<0∨1<=p.2.2):(farR p).In:=by
 unfold farR;split
 ·exact ⟨⟨Dz,Dz⟩,⟨Dz,Dz⟩⟩
 ·exact ratioOf_in ⟨Oz,Oz⟩ ⟨Oz,Oz⟩
theorem sup_far {p:List Half} {a b:Int} (h:0<=(Jz p a b).1):ZO p a b=farR (Jz p a b):=by
 unfold farR ZO;rw [if_neg Oz]
set_option maxRecDepth 100000 in
set_option maxHeartbeats 8000000 in
theorem sFarL_c (p:List Half) (a':Zi) (a b:Int) (w:World) (hr:Xb p=true) (hne:p≠[]) (ha : -50000<=a/\a<=50000) (hb : -50000<=b/\b<=50000) (hs:Sl 3 Xd w a'.A p) :
 Calls Tryz.prog 199 #[Yi p a',.int .i64 a,.int .i64 b] w λ e w'=>e=.returned (.tuple #[.int .i64 (Jz p a b).1,Xv (ZO p a b)])/\Below w.heap.size w w':=by
 obtain ⟨A,cap⟩:=a';simp only at hs;have hB:=supB hr hne ha hb;have cc:=λ W h=>sCorners_c p ⟨A,cap⟩ W hr h;have hlen:(XN p).length<=40:=by rw [Zo];exact Zt hr
 have hok:=Lib.hid (cor_ok hr);have hbd:=Lib.hid (far5_bd ha hb (cor_ok hr));rw [sup_far hB.i];clear hB hr hne;unfold Jz;generalize XN p=C at *;obtain ⟨W,hW⟩:∃ W,W=((w.alloc (.cells #[.slice A p.length cap] 26)).alloc (.cells #[.int .i64 0,.int .i64 0] 46)).alloc (.cells #[.int .i64 0,.int .i64 0] 46):=⟨_,rfl⟩;have HP:XV W w.heap.size [.slice A p.length cap]:=by rw [hW];exact Ys
 have HR0:XV W (w.heap.size+1) [.int .i64 0,.int .i64 0]:=by rw [hW];exact Ys
 have HT0:XV W (w.heap.size+1+1) [.int .i64 0,.int .i64 0]:=by rw [hW];exact Ys
 have b0:Below w.heap.size w W:=by rw [hW];exact Xl
 have hz:W.heap.size=w.heap.size+1+1+1:=by rw [hW];simp
 have hs0:=hs.below b0;have hW':=Lib.hid hW;clear hW hs;go_enter Tryz.func199,Tryz.ntmps199
 go_upto_region 3 with fail
 rw [<- hW'.out];clear hW';have lP:=HP.1;obtain ⟨cHP_0,fHP_0⟩:=HP.2 0 _ rfl;go_wp2_with (fail)
 refine (cc _ hs0).mono ?_;rintro e w1 ⟨v,rfl,N0,hb1⟩;obtain ⟨A2,cap2,rfl,_⟩:=N0.sl Jg;have HR1:=HR0.below hb1;have HT1:=HT0.below hb1;have bw:=b0.trans (hb1.mono b0.size);have hz1:=hb1.size;clear HP HR0 HT0 cHP_0 fHP_0 lP hb1 b0 hs0 cc;rw [hz] at N0 hz1;clear hz W;go_wp2
 go_loopw [8,10,11,12,17] (λ v _ _ _ i wr=>∃ k:Nat,k<=C.length/\i=.int .i64 k/\v=.int .i64 (ZD C a b k).1/\XV wr (w.heap.size+1+1) [.int .i64 (farR (ZD C a b k)).n,.int .i64 (farR (ZD C a b k)).d]/\XV wr (w.heap.size+1) [.int .i64 0,.int .i64 0]/\XI 30 3 spotC wr (w.heap.size+1+1+1) (.slice A2 C.length cap2) C/\Below w.heap.size w wr) (λ _ _ _ _ i _=>C.length-(intOf i).toNat)
 case atStart=>exact ⟨0,Nat.zero_le _,rfl,rfl,HT1,HR1,N0,bw⟩
 case round =>
  clear HT1 HR1 N0 bw hz1;obtain ⟨k,hk,rfl,rfl,HB,HR,N,hbr⟩:=hrel;obtain ⟨⟨bb1,bb2⟩,⟨bb3,bb4⟩,bb5,bb6,bb7⟩:=hbd.out k hk;by_cases hlt:k<C.length
  ·obtain ⟨g,off,hA,hblt,hc⟩:=(N.out Jg).at_ hlt;subst hA;have g0:=hc 0 _ rfl;have g1:=hc 1 _ rfl;have g2:=hc 2 _ rfl;have hq:=hok.out k hlt;rw [far_get hlt] at hq;have hyes:=Lib.hid (λ h=>@farAt_yes C a b k h);have hno:=Lib.hid (λ h=>@farAt_no C a b k h);have i1:(k:Int)<(C.length:Int):=Oz
   clear hc;simp only [JP,farDen,Hid,far_get hlt] at hyes hno;simp only [Nat.add_zero] at g0;generalize C[k]=q at *;generalize ZD C a b k=st at *;obtain ⟨⟨p1,p2⟩,⟨p3,p4⟩,⟨p5,p6⟩⟩:=far5B hq ha hb;have vin:=ratioOf_in (n:=a*q.x+b*q.y) (d:=q.d) ⟨Oz,Oz⟩ ⟨Oz,Oz⟩;have bb8:st.1<0∨1<=st.2.2:=by
    rcases bb5 with ⟨_,h⟩|⟨_,_,h⟩
    ·rw [h];left;decide
    ·right;exact h
   have rin:=farR5_in (p:=st) ⟨bb3,bb4⟩ bb6 bb7 bb8;have c2:=λ W=>J3 (a*q.x+b*q.y) q.d W ⟨Oz,Oz⟩ ⟨Oz,Oz⟩;have c3:=λ W=>KO (XD (a*q.x+b*q.y) q.d) (farR st) W vin rin;have ceq:¬st.1<0->Xp (XD (a*q.x+b*q.y) q.d) (farR st)=ZR (a*q.x+b*q.y) q.d st.2.1 st.2.2:=λ h=>by
    unfold farR;rw [if_neg h];exact ratioCmp_of ⟨Oz,Oz⟩ ⟨Oz,Oz⟩ ⟨Oz,Oz⟩ ⟨Oz,Oz⟩
   have hnew:=Lib.hid (farR_new k (a*q.x+b*q.y) q.d);have cmb:=cmpF_bd (a*q.x+b*q.y) q.d st.2.1 st.2.2;clear vin rin bb5;replace hyes:=Lib.hid hyes;replace hno:=Lib.hid hno;generalize ZR (a*q.x+b*q.y) q.d st.2.1 st.2.2=cm at *;obtain ⟨cm1,cm2⟩:=cmb;generalize XD (a*q.x+b*q.y) q.d=v at *;generalize hRR:farR st=R at *;replace hRR:=Lib.hid hRR;go_wp2_with (fail)
   refine (c2 _).mono ?_;rintro e w2 ⟨rfl,hb2⟩;have ba:=Xc (Below.refl wr.heap.size wr) (.cells #[.int .i64 q.x,.int .i64 q.y,.int .i64 q.d] 30);have bx:Below wr.heap.size wr w2:=ba.trans (hb2.mono Sz);have by_:=Xc bx (.cells #[.int .i64 v.n,.int .i64 v.d] 46);have HB2:=HB.below by_;have HR2:=HR.below by_;have N2:=N.below by_ XE;have HV:=XV.new w2 #[.int .i64 v.n,.int .i64 v.d] 46;have BW:=hbr.trans (by_.mono hbr.size);have lB:=HB.1;have hs2:=bx.size;have nv:w2.heap.size≠w.heap.size+1+1:=Oz
   have nv2:w2.heap.size≠w.heap.size+1:=Oz
   clear hb2 ba bx by_ hbr N HB HR c2 g0 g1 g2 hs2 lB hblt;go_upto_region 7 with fail
   generalize hW:w2.alloc (.cells #[.int .i64 v.n,.int .i64 v.d] 46)=w3 at *;clear hW;generalize hgv:w2.heap.size=gv at *;clear hgv;have lV:=HV.1;have lB:=HB2.1;by_cases hb0:st.1<0
   ·have hbest:=Lib.hid (hyes.out (.inl hb0));clear hyes hno c3 ceq;obtain ⟨cHV_0,fHV_0⟩:=HV.2 0 _ rfl;obtain ⟨cHV_1,fHV_1⟩:=HV.2 1 _ rfl;obtain ⟨cHB2_0,fHB2_0⟩:=HB2.2 0 _ rfl;obtain ⟨cHB2_1,fHB2_1⟩:=HB2.2 1 _ rfl;go_wp2
    go_roundw
    case rel =>
     refine ⟨k+1,by omega,by go_num,by rw [hbest.out], ?_, ?_, ?_, ?_⟩
     ·rw [hbest.out,hnew.out];exact XV.stored HB2 [_,_] rfl
     ·exact (HR2.set_ Sz _).set_ Sz _
     ·exact (N2.set_ Sz _).set_ Sz _
     ·exact (BW.setCell (by simp only;omega) _).setCell (by simp only;omega) _
    case measure=>simp [intOf];omega
   ·rw [ceq Oz] at c3;clear ceq;by_cases hp:0<cm
    ·have hbest:=Lib.hid (hyes.out (.inr hp));clear hyes hno;obtain ⟨cHV_0,fHV_0⟩:=HV.2 0 _ rfl;obtain ⟨cHV_1,fHV_1⟩:=HV.2 1 _ rfl;obtain ⟨cHB2_0,fHB2_0⟩:=HB2.2 0 _ rfl;obtain ⟨cHB2_1,fHB2_1⟩:=HB2.2 1 _ rfl;go_wp2_with (fail)
     refine (c3 _).mono ?_;rintro e w4 ⟨rfl,hb4⟩;clear cHV_0 cHV_1 cHB2_0 cHB2_1 fHV_0 fHV_1 fHB2_0 fHB2_1;have HV3:=HV.below hb4;have HB3:=HB2.below hb4;have HR3:=HR2.below hb4;have N3:=N2.below hb4 XE;have BW3:=BW.trans (hb4.mono BW.size);obtain ⟨cHV3_0,fHV3_0⟩:=HV3.2 0 _ rfl;obtain ⟨cHV3_1,fHV3_1⟩:=HV3.2 1 _ rfl;obtain ⟨cHB3_0,fHB3_0⟩:=HB3.2 0 _ rfl;obtain ⟨cHB3_1,fHB3_1⟩:=HB3.2 1 _ rfl;have lV3:=HV3.1;have lB3:=HB3.1;clear HV HB2 BW hb4 c3 HR2 N2;go_wp2
     go_roundw
     case rel =>
      refine ⟨k+1,by omega,by go_num,by rw [hbest.out], ?_, ?_, ?_, ?_⟩
      ·rw [hbest.out,hnew.out];exact XV.stored HB3 [_,_] rfl
      ·exact (HR3.set_ Sz _).set_ Sz _
      ·exact (N3.set_ Sz _).set_ Sz _
      ·exact (BW3.setCell (by simp only;omega) _).setCell (by simp only;omega) _
     case measure=>simp [intOf];omega
    ·have hbest:=Lib.hid (hno.out (by omega));clear hyes hno;obtain ⟨cHV_0,fHV_0⟩:=HV.2 0 _ rfl;obtain ⟨cHV_1,fHV_1⟩:=HV.2 1 _ rfl;obtain ⟨cHB2_0,fHB2_0⟩:=HB2.2 0 _ rfl;obtain ⟨cHB2_1,fHB2_1⟩:=HB2.2 1 _ rfl;go_wp2_with (fail)
     refine (c3 _).mono ?_;rintro e w4 ⟨rfl,hb4⟩;have HB3:=HB2.below hb4;have HR3:=HR2.below hb4;have N3:=N2.below hb4 XE;have BW3:=BW.trans (hb4.mono BW.size);clear c3 HV HB2 N2 BW HR2 hb4;go_wp2
     go_roundw
     case rel =>
      refine ⟨k+1,by omega,by go_num,by rw [hbest.out], ?_,HR3,N3,BW3⟩;rw [hbest.out,hRR.out];exact HB3
     case measure=>simp [intOf];omega
  ·obtain rfl:k=C.length:=Oz
   clear N hbd hok bb5;have lB:=HB.1;have lR:=HR.1;obtain ⟨cHB_0,fHB_0⟩:=HB.2 0 _ rfl;obtain ⟨cHB_1,fHB_1⟩:=HB.2 1 _ rfl;obtain ⟨cHR_0,fHR_0⟩:=HR.2 0 _ rfl;obtain ⟨cHR_1,fHR_1⟩:=HR.2 1 _ rfl;go_upto_region 11 with fail
   go_region
   all_goals
    go_wp2
    refine bodyPost_ret (v:=.tuple #[.int .i64 (ZD C a b C.length).1,.agg #[.int .i64 (farR (ZD C a b C.length)).n,.int .i64 (farR (ZD C a b C.length)).d]]) (by simp [results,Tryz.results199,go_sem, *]) rfl ⟨rfl, ?_⟩;exact Xl
end Go.Proofs.YtbekjpkcicjcgaaGreat
