/-
 Whether a region contains a point: of the program.
 Conditions: valid half planes, valid points.
-/
import Derived.Test.YtbekjpkcicjcgabGreatGrVQa
import Derived.Deep.RegionHeld3
import Derived.Deep.DeepMust
import Derived.Deep.DeepCutAuto
set_option maxHeartbeats 4000000
set_option maxRecDepth 100000
namespace Go.Proofs.YtbekjpkcicjcgabGreat
open Go.RowKit
def valS (h:Half) (s:XW):Int:=h.a*s.x+h.b*s.y-h.c*s.d
def holdsH (s:XW) (h:Half):Bool:=decide (valS h s<=0)
def Zl (p:List Half) (s:XW):Bool:=!decide (p.length=0)&&p.all (holdsH s)
def withinB (p q:List Half):Bool:=(XD p).all (Zl q)
theorem holds_no {p:List Half} {s:XW} {k:Nat} (h:k<p.length) (hb:0<sgn (valS p[k] s)):Zl p s=false:=by
 unfold Zl;have:p.all (holdsH s)=false:=by
  rw [List.all_eq_false];refine ⟨p[k],List.getElem_mem h, ?_⟩;unfold holdsH;have:¬ valS p[k] s<=0:=λ h2=>by have:=sgn_le.2 h2;omega
  rw [decide_eq_false this];decide
 rw [this,Bool.and_false]
theorem holds_step {p:List Half} {s:XW} {k:Nat} (h:k<p.length) (h1:(p.take k).all (holdsH s)=true) (hb:¬ 0<sgn (valS p[k] s)):(p.take (k+1)).all (holdsH s)=true:=by
 rw [List.take_add_one,List.getElem?_eq_getElem h,List.all_append,h1];have:valS p[k] s<=0:=sgn_le.1 (by omega);simp [holdsH,this]
theorem valS_bd {h:Half} {s:XW} (hh:Xq h=true) (hs:XP s=true):(-250000000000000000<=h.a*s.x/\h.a*s.x<=250000000000000000)/\(-250000000000000000<=h.b*s.y/\h.b*s.y<=250000000000000000)/\(-500000000000000000<=h.c*s.d/\h.c*s.d<=500000000000000000):=by
 obtain ⟨h1,h2,h3,_⟩:=ZO.1 hs;obtain ⟨a1,a2,a3,_⟩:=Zm.1 hh;have p:=JE (a:=h.a) (b:=s.x) (A:=50000) (B:=5000000000000) ⟨by omega,by omega⟩ ⟨by omega,by omega⟩;have q:=JE (a:=h.b) (b:=s.y) (A:=50000) (B:=5000000000000) ⟨by omega,by omega⟩ ⟨by omega,by omega⟩;have r:=JE (a:=h.c) (b:=s.d) (A:=100000000) (B:=5000000000) ⟨by omega,by omega⟩ ⟨by omega,by omega⟩;exact ⟨⟨by omega,by omega⟩,⟨by omega,by omega⟩,⟨by omega,by omega⟩⟩
theorem spot_In {s:XW} (hs:XP s=true):s.In:=by
 obtain ⟨h1,h2,h3,_⟩:=ZO.1 hs;exact ⟨⟨by omega,by omega⟩,⟨by omega,by omega⟩,⟨by omega,by omega⟩⟩
theorem iSignOf_c (n:Int) (w:World) :
 Calls Tryz.prog 117 #[.int .i64 n] w λ e w'=>e=.returned (.int .i64 (sgn n))/\Below w.heap.size w w':=by
 rcases (show n<0∨n=0∨0<n by omega) with h|h|h
 ·rw [sgn_of_neg h];go_enter Tryz.func117,Tryz.ntmps117
  go_wp2
  go_ret
  refine ⟨rfl, ?_⟩;exact Xn
 ·subst h;rw [sgn_zero];go_enter Tryz.func117,Tryz.ntmps117
  go_wp2
  go_ret
  refine ⟨rfl, ?_⟩;exact Xn
 ·rw [sgn_of_pos h];go_enter Tryz.func117,Tryz.ntmps117
  go_wp2
  go_ret
  refine ⟨rfl, ?_⟩;exact Xn
theorem iSideOf_c (h:Half) (s:XW) (w:World) (hh:Xq h=true) (hs:XP s=true) :
 Calls Tryz.prog 84 #[Yf h,spotV s] w λ e w'=>e=.returned (.int .i64 (sgn (valS h s)))/\Below w.heap.size w w':=by
 have k1:=λ W=>JF h W (hIn (KE hh));have k2:=λ W=>iSpotOk_c s W (spot_In hs);have k3:=λ W=>iSignOf_c (valS h s) W;obtain ⟨⟨b1,b2⟩,⟨b3,b4⟩,⟨b5,b6⟩⟩:=valS_bd hh hs;rw [hh] at k1;rw [hs] at k2;clear hh hs;change ∀ W,Calls _ _ #[.int .i64 (h.a*s.x+h.b*s.y-h.c*s.d)] W _ at k3
 generalize sgn (valS h s)=v at *;go_enter Tryz.func84,Tryz.ntmps84
 go_wp2_with (fail)
 refine (k1 _).mono ?_;rintro e w3 ⟨rfl,hb_w3⟩;have r_w3:=Xt hb_w3;have l_w3_0:w.heap.size<w3.heap.size:=XN hb_w3;have l_w3_1:w.heap.size+1<w3.heap.size:=XN hb_w3;go_wp2_with (fail)
 refine (k2 _).mono ?_;rintro e w4 ⟨rfl,hb_w4⟩;have r_w4:=Xt hb_w4;have l_w4_0:w.heap.size<w4.heap.size:=XN hb_w4;have l_w4_1:w.heap.size+1<w4.heap.size:=XN hb_w4;go_wp2_with (fail)
 refine (k3 _).mono ?_;rintro e w5 ⟨rfl,hb_w5⟩;have r_w5:=Xt hb_w5;have l_w5_0:w.heap.size<w5.heap.size:=XN hb_w5;have l_w5_1:w.heap.size+1<w5.heap.size:=XN hb_w5;go_wp2
 go_ret
 refine ⟨rfl, ?_⟩;exact Xn
theorem iHolds_c (p:List Half) (a:ZC) (s:XW) (w:World) (hl:p.length<=1000000) (hok:∀ h∈p,Xq h=true) (hs:XP s=true) (hsl:Sl 3 Xe w a.A p) :
 Calls Tryz.prog 45 #[Yr p a,spotV s] w λ e w'=>e=.returned (.bool (Zl p s))/\Below w.heap.size w w':=by
 obtain ⟨A,cap⟩:=a;simp only at hsl;obtain ⟨W,hW⟩:∃ W,W=(w.alloc (.cells #[.slice A p.length cap] 26)).alloc (.cells #[.int .i64 s.x,.int .i64 s.y,.int .i64 s.d] 30):=⟨_,rfl⟩;have HA:X0 W w.heap.size [.slice A p.length cap]:=by rw [hW];exact ZQ
 have HB:X0 W (w.heap.size+1) [.int .i64 s.x,.int .i64 s.y,.int .i64 s.d]:=by rw [hW];exact ZQ
 have b0:Below w.heap.size w W:=by rw [hW];exact Xn
 have hs0:=hsl.below b0;have hW':=Lib.hid hW;have hok':=Lib.hid hok;clear hW hsl hok;go_enter Tryz.func45,Tryz.ntmps45
 go_upto_region 1 with fail
 rw [<- hW'.out];clear hW';obtain ⟨cHA_0,fHA_0⟩:=HA.2 0 _ rfl;go_wp2
 go_loopw [6,10] (λ _ i wr=>∃ k:Nat,k<=p.length/\i=.int .i64 k/\(p.take k).all (holdsH s)=true/\Below W.heap.size W wr) (λ _ i _=>p.length-(intOf i).toNat)
 case atStart=>exact ⟨0,Nat.zero_le _,rfl,rfl,Below.refl _ _⟩
 case round =>
  obtain ⟨k,hk,rfl,hall,hbw⟩:=hrel;have H1:=HA.below hbw;have H2:=HB.below hbw;have hS:=hs0.below hbw;have bw:=b0.trans (hbw.mono b0.size);by_cases hlt:k<p.length
  ·obtain ⟨b,off,hA,hblt,hc⟩:=hS.at_ hlt;have g0:=hc 0 _ rfl;have g1:=hc 1 _ rfl;have g2:=hc 2 _ rfl;simp only [Nat.add_zero] at g0;subst hA;have c1:=λ W=>iSideOf_c p[k] s W (hok'.out _ (List.getElem_mem hlt)) hs;have hn:=Lib.hid (λ h=>@holds_no p s k hlt h);have hy:=Lib.hid (λ h=>@holds_step p s k hlt hall h);clear hc hall;generalize sgn (valS p[k] s)=sg at *;generalize p[k]=h at *;have H1x:=H1.alloc (.cells #[.int .i64 h.a,.int .i64 h.b,.int .i64 h.c] 85);have H2x:=H2.alloc (.cells #[.int .i64 h.a,.int .i64 h.b,.int .i64 h.c] 85);have bx:=hbw.alloc hbw.size (.cells #[.int .i64 h.a,.int .i64 h.b,.int .i64 h.c] 85);obtain ⟨cH2x_0,fH2x_0⟩:=H2x.2 0 _ rfl;obtain ⟨cH2x_1,fH2x_1⟩:=H2x.2 1 _ rfl;obtain ⟨cH2x_2,fH2x_2⟩:=H2x.2 2 _ rfl;have l2:=H2x.1;have e20:wr.cell? ⟨w.heap.size+1,0,none⟩=some (.int .i64 s.x):=(H2.2 0 _ rfl).1;have e21:wr.cell? ⟨w.heap.size+1,1,none⟩=some (.int .i64 s.y):=(H2.2 1 _ rfl).1;have e22:wr.cell? ⟨w.heap.size+1,2,none⟩=some (.int .i64 s.d):=(H2.2 2 _ rfl).1;have lr:=H2.1;by_cases hp:0<sg
   ·have hv:=Lib.hid (hn.out hp);go_wp2_with (fail)
    refine (c1 _).mono ?_;rintro e w3 ⟨rfl,hb3⟩;go_wp2
    go_ret
    exact ⟨by rw [hv.out];rfl,b0.trans ((Xg bx hb3).mono b0.size)⟩
   ·have hv:=Lib.hid (hy.out hp);go_wp2_with (fail)
    refine (c1 _).mono ?_;rintro e w3 ⟨rfl,hb3⟩;go_wp2
    go_roundw
    case rel=>exact ⟨k+1,by omega,by go_num,hv.out,Xg bx hb3⟩
    case measure=>simp [intOf];omega
  ·obtain rfl:k=p.length:=by omega
   rw [List.take_length] at hall;have hv:=Lib.hid (show Zl p s = !decide (p.length=0) by unfold Zl;rw [hall,Bool.and_true]);have cv:=λ W=>Jc p ⟨A,cap⟩ W;obtain ⟨cH1_0,fH1_0⟩:=H1.2 0 _ rfl;have l1:=H1.1;generalize decide (p.length=0)=vd at *;clear hall hs0 hS;go_wp2_with (fail)
   refine (cv _).mono ?_;rintro e w3 ⟨rfl,hb3⟩;go_wp2
   go_ret
   exact ⟨by rw [hv.out];rfl,Xg bw hb3⟩
theorem within_no {C:List XW} {q:List Half} {k:Nat} (h:k<C.length) (hb:Zl q C[k]=false):C.all (Zl q)=false:=by
 rw [List.all_eq_false];exact ⟨_,List.getElem_mem h,by rw [hb];decide⟩
theorem within_step {C:List XW} {q:List Half} {k:Nat} (h:k<C.length) (h1:(C.take k).all (Zl q)=true) (hb:Zl q C[k]=true):(C.take (k+1)).all (Zl q)=true:=by
 rw [List.take_add_one,List.getElem?_eq_getElem h,List.all_append,h1];simp [hb]
theorem iWithin_c (p q:List Half) (a b:ZC) (w:World) (hp:Xc p=true) (hq:Xc q=true) (hsp:Sl 3 Xe w a.A p) (hsq:Sl 3 Xe w b.A q) :
 Calls Tryz.prog 43 #[Yr p a,Yr q b] w λ e w'=>e=.returned (.bool (withinB p q))/\Below w.heap.size w w':=by
 have hdef:=Lib.hid (show withinB p q=(XD p).all (Zl q) from rfl);have hlp:=Z4 hp;have hlq:=Z4 hq;have hcl:(XD p).length<=40:=by rw [YY];exact hlp
 have hco:=Lib.hid (corners_ok hp);obtain ⟨W,hW⟩:∃ W,W=(w.alloc (.cells #[.slice a.A p.length a.c] 26)).alloc (.cells #[.slice b.A q.length b.c] 26):=⟨_,rfl⟩;have HA:X0 W w.heap.size [.slice a.A p.length a.c]:=by rw [hW];exact ZQ
 have HB:X0 W (w.heap.size+1) [.slice b.A q.length b.c]:=by rw [hW];exact ZQ
 have b0:Below w.heap.size w W:=by rw [hW];exact Xn
 have sp:=hsp.below b0;have sq:=hsq.below b0;have hW':=Lib.hid hW;have kc:=iCorners_c p a W hp sp;clear hW hsp hsq;obtain ⟨cHA_0,fHA_0⟩:=HA.2 0 _ rfl;have lA:=HA.1;generalize XD p=C at *;go_enter Tryz.func43,Tryz.ntmps43
 go_upto_region 1 with fail
 rw [<- hW'.out];clear hW';go_wp2_with (fail)
 refine kc.mono ?_;rintro e w1 ⟨v,rfl,N,hb1⟩;obtain ⟨Ac,cc,rfl,SC⟩:=N.sl spotC_len;have HB1:=HB.below hb1;have SQ:=sq.below hb1;have b1:=Xg b0 hb1;clear N HA HB sp sq hb1 cHA_0 fHA_0 lA kc b0;go_wp2
 go_loopw [6,10] (λ _ i wr=>∃ k:Nat,k<=C.length/\i=.int .i64 k/\(C.take k).all (Zl q)=true/\Below w1.heap.size w1 wr) (λ _ i _=>C.length-(intOf i).toNat)
 case atStart=>exact ⟨0,Nat.zero_le _,rfl,rfl,Below.refl _ _⟩
 case round =>
  obtain ⟨k,hk,rfl,hall,hbw⟩:=hrel;have bw:=b1.trans (hbw.mono b1.size);by_cases hlt:k<C.length
  ·obtain ⟨bb,off,rfl,hblt,hc⟩:=(SC.below hbw).at_ hlt;have g0:=hc 0 _ rfl;have g1:=hc 1 _ rfl;have g2:=hc 2 _ rfl;simp only [Nat.add_zero] at g0;have c1:=λ W h=>iHolds_c q b C[k] W (by omega) (Z1 hq) (hco.out _ (List.getElem_mem hlt)) h;have hn:=Lib.hid (λ h=>@within_no C q k hlt h);have hy:=Lib.hid (λ h=>@within_step C q k hlt hall h);clear hc hall;generalize Zl q C[k]=hv at *;generalize C[k]=s at *;have H1x:=(HB1.below hbw).alloc (.cells #[.int .i64 s.x,.int .i64 s.y,.int .i64 s.d] 30);have SQx:=(SQ.below hbw).alloc (.cells #[.int .i64 s.x,.int .i64 s.y,.int .i64 s.d] 30);have bx:=hbw.alloc hbw.size (.cells #[.int .i64 s.x,.int .i64 s.y,.int .i64 s.d] 30);have TX:=X0.new wr #[.int .i64 s.x,.int .i64 s.y,.int .i64 s.d] 30;go_upto_region 4 with fail
   clear g0 g1 g2 hblt;generalize wr.alloc (.cells #[.int .i64 s.x,.int .i64 s.y,.int .i64 s.d] 30)=wx at *;generalize wr.heap.size=gx at *;obtain ⟨cH1x_0,fH1x_0⟩:=H1x.2 0 _ rfl;obtain ⟨cTX_0,fTX_0⟩:=TX.2 0 _ rfl;obtain ⟨cTX_1,fTX_1⟩:=TX.2 1 _ rfl;obtain ⟨cTX_2,fTX_2⟩:=TX.2 2 _ rfl;have l1:=H1x.1;have lx:=TX.1;cases hv
   ·have hv:=Lib.hid (hn.out rfl);go_wp2_with (fail)
    refine (c1 _ SQx).mono ?_;rintro e w3 ⟨rfl,hb3⟩;go_wp2
    go_ret
    exact ⟨by rw [hdef.out,hv.out];rfl,b1.trans ((Xg bx hb3).mono b1.size)⟩
   ·have hv:=Lib.hid (hy.out rfl);go_wp2_with (fail)
    refine (c1 _ SQx).mono ?_;rintro e w3 ⟨rfl,hb3⟩;go_wp2
    go_roundw
    case rel=>exact ⟨k+1,by omega,by go_num,hv.out,Xg bx hb3⟩
    case measure=>simp [intOf];omega
  ·obtain rfl:k=C.length:=by omega
   rw [List.take_length] at hall;have hv:=Lib.hid hall;clear hall;go_wp2
   go_ret
   exact ⟨by rw [hdef.out,hv.out];rfl,bw⟩
theorem iIsWithin_c (p q:List Half) (a b:ZC) (w:World) (hp:Xc p=true) (hq:Xc q=true) (hsp:Sl 3 Xe w a.A p) (hsq:Sl 3 Xe w b.A q) (hna:a.A=none->a.c=0) (hnb:b.A=none->b.c=0) :
 Calls Tryz.prog 9 #[Yr p a,Yr q b] w λ e w'=>e=.returned (.bool (withinB p q))/\Below w.heap.size w w':=by
 have hlp:=Z4 hp;have hlq:=Z4 hq;have k1:=λ W h=>KL p a W (by omega) (λ h hh=>hIn (KE (Z1 hp h hh))) h hna;have k2:=λ W h=>KL q b W (by omega) (λ h hh=>hIn (KE (Z1 hq h hh))) h hnb;have k3:=λ W h1 h2=>iWithin_c p q a b W hp hq h1 h2;rw [hp] at k1;rw [hq] at k2;generalize withinB p q=r at *;obtain ⟨W,hW⟩:∃ W,W=(w.alloc (.cells #[.slice a.A p.length a.c] 26)).alloc (.cells #[.slice b.A q.length b.c] 26):=⟨_,rfl⟩;have HA:X0 W w.heap.size [.slice a.A p.length a.c]:=by rw [hW];exact ZQ
 have HB:X0 W (w.heap.size+1) [.slice b.A q.length b.c]:=by rw [hW];exact ZQ
 have b0:Below w.heap.size w W:=by rw [hW];exact Xn
 have sp:=hsp.below b0;have sq:=hsq.below b0;have hW':=Lib.hid hW;clear hW hsp hsq hp hq;obtain ⟨cHA_0,fHA_0⟩:=HA.2 0 _ rfl;obtain ⟨cHB_0,fHB_0⟩:=HB.2 0 _ rfl;have lA:=HA.1;have lB:=HB.1;go_enter Tryz.func9,Tryz.ntmps9
 go_upto_region 1 with fail
 rw [<- hW'.out];clear hW';go_wp2_with (fail)
 refine (k1 _ sp).mono ?_;rintro e w3 ⟨rfl,hb_w3⟩;have r_w3:=Xt hb_w3;have l_w3_0:w.heap.size<w3.heap.size:=XN hb_w3;have l_w3_1:w.heap.size+1<w3.heap.size:=XN hb_w3;go_wp2_with (fail)
 refine (k2 _ (sq.below (by exact Xn))).mono ?_;rintro e w4 ⟨rfl,hb_w4⟩;have r_w4:=Xt hb_w4;have l_w4_0:w.heap.size<w4.heap.size:=XN hb_w4;have l_w4_1:w.heap.size+1<w4.heap.size:=XN hb_w4;go_wp2_with (fail)
 refine (k3 _ (sp.below (by exact Xn)) (sq.below (by exact Xn))).mono ?_;rintro e w5 ⟨rfl,hb_w5⟩;have r_w5:=Xt hb_w5;have l_w5_0:w.heap.size<w5.heap.size:=XN hb_w5;have l_w5_1:w.heap.size+1<w5.heap.size:=XN hb_w5;go_wp2
 go_ret
 refine ⟨rfl, ?_⟩;exact Xn
end Go.Proofs.YtbekjpkcicjcgabGreat
