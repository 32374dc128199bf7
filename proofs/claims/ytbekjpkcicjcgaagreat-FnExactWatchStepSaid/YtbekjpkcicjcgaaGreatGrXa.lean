/-
 Whether a region contains a point: of the program.
 Conditions: valid half planes, valid points.
-/
import Derived.Test.YtbekjpkcicjcgaaGreatGeo9
import Derived.Test.YtbekjpkcicjcgaaGreatCnr
import Derived.Test.YtbekjpkcicjcgaaGreatGrU
set_option maxHeartbeats 4000000
set_option maxRecDepth 100000
namespace Go.Proofs.YtbekjpkcicjcgaaGreat
open Go.RowKit
def valS (h:Half) (s:X9):Int:=h.a*s.x+h.b*s.y-h.c*s.d
def J9 (s:X9) (h:Half):Bool:=decide (valS h s<=0)
def ZM (p:List Half) (s:X9):Bool:=!decide (p.length=0)&&p.all (J9 s)
def Yx (p q:List Half):Bool:=(XN p).all (ZM q)
theorem holds_no {p:List Half} {s:X9} {k:Nat} (h:k<p.length) (hb:0<sgn (valS p[k] s)):ZM p s=false:=by
 unfold ZM;have:p.all (J9 s)=false:=by
  rw [List.all_eq_false];refine ⟨p[k],List.getElem_mem h, ?_⟩;unfold J9;have:¬ valS p[k] s<=0:=λ h2=>by have:=sgn_le.2 h2;omega
  rw [decide_eq_false this];decide
 rw [this,Bool.and_false]
theorem holds_step {p:List Half} {s:X9} {k:Nat} (h:k<p.length) (h1:(p.take k).all (J9 s)=true) (hb:¬ 0<sgn (valS p[k] s)):(p.take (k+1)).all (J9 s)=true:=by
 rw [List.take_add_one,List.getElem?_eq_getElem h,List.all_append,h1];have:valS p[k] s<=0:=sgn_le.1 Oz;simp [J9,this]
theorem valS_bd {h:Half} {s:X9} (hh:Xt h=true) (hs:X7 s=true):(-250000000000000000<=h.a*s.x/\h.a*s.x<=250000000000000000)/\(-250000000000000000<=h.b*s.y/\h.b*s.y<=250000000000000000)/\(-500000000000000000<=h.c*s.d/\h.c*s.d<=500000000000000000):=by
 obtain ⟨h1,h2,h3,_⟩:=J0.1 hs;obtain ⟨a1,a2,a3,_⟩:=Y0.1 hh;have p:=Jd (a:=h.a) (b:=s.x) (A:=50000) (B:=5000000000000) ⟨Oz,Oz⟩ ⟨Oz,Oz⟩;have q:=Jd (a:=h.b) (b:=s.y) (A:=50000) (B:=5000000000000) ⟨Oz,Oz⟩ ⟨Oz,Oz⟩;have r:=Jd (a:=h.c) (b:=s.d) (A:=100000000) (B:=5000000000) ⟨Oz,Oz⟩ ⟨Oz,Oz⟩;exact ⟨⟨Oz,Oz⟩,⟨Oz,Oz⟩,⟨Oz,Oz⟩⟩
theorem spot_In {s:X9} (hs:X7 s=true):s.In:=by
 obtain ⟨h1,h2,h3,_⟩:=J0.1 hs;exact ⟨⟨Oz,Oz⟩,⟨Oz,Oz⟩,⟨Oz,Oz⟩⟩
theorem iSignOf_c (n:Int) (w:World) :
 Calls Tryz.prog 147 #[.int .i64 n] w λ e w'=>e=.returned (.int .i64 (sgn n))/\Below w.heap.size w w':=by
 rcases (show n<0∨n=0∨0<n by omega) with h|h|h
 ·rw [sgn_of_neg h];go_enter Tryz.func147,Tryz.ntmps147
  go_wp2
  go_ret
  refine ⟨rfl, ?_⟩;exact Xl
 ·subst h;rw [sgn_zero];go_enter Tryz.func147,Tryz.ntmps147
  go_wp2
  go_ret
  refine ⟨rfl, ?_⟩;exact Xl
 ·rw [sgn_of_pos h];go_enter Tryz.func147,Tryz.ntmps147
  go_wp2
  go_ret
  refine ⟨rfl, ?_⟩;exact Xl
theorem iSideOf_c (h:Half) (s:X9) (w:World) (hh:Xt h=true) (hs:X7 s=true) :
 Calls Tryz.prog 101 #[X3 h,YK s] w λ e w'=>e=.returned (.int .i64 (sgn (valS h s)))/\Below w.heap.size w w':=by
 have k1:=λ W=>JD h W (hIn (KS hh));have k2:=λ W=>iSpotOk_c s W (spot_In hs);have k3:=λ W=>iSignOf_c (valS h s) W;obtain ⟨⟨b1,b2⟩,⟨b3,b4⟩,⟨b5,b6⟩⟩:=valS_bd hh hs;rw [hh] at k1;rw [hs] at k2;clear hh hs;change ∀ W,Calls _ _ #[.int .i64 (h.a*s.x+h.b*s.y-h.c*s.d)] W _ at k3
 generalize sgn (valS h s)=v at *;go_enter Tryz.func101,Tryz.ntmps101
 go_wp2_with (fail)
 refine (k1 _).mono ?_;rintro e w3 ⟨rfl,hb_w3⟩;have r_w3:=Xh hb_w3;have l_w3_0:w.heap.size<w3.heap.size:=Xo hb_w3;have l_w3_1:w.heap.size+1<w3.heap.size:=Xo hb_w3;go_wp2_with (fail)
 refine (k2 _).mono ?_;rintro e w4 ⟨rfl,hb_w4⟩;have r_w4:=Xh hb_w4;have l_w4_0:w.heap.size<w4.heap.size:=Xo hb_w4;have l_w4_1:w.heap.size+1<w4.heap.size:=Xo hb_w4;go_wp2_with (fail)
 refine (k3 _).mono ?_;rintro e w5 ⟨rfl,hb_w5⟩;have r_w5:=Xh hb_w5;have l_w5_0:w.heap.size<w5.heap.size:=Xo hb_w5;have l_w5_1:w.heap.size+1<w5.heap.size:=Xo hb_w5;go_wp2
 go_ret
 refine ⟨rfl, ?_⟩;exact Xl
theorem iHolds_c (p:List Half) (a:Zi) (s:X9) (w:World) (hl:p.length<=1000000) (hok:∀ h∈p,Xt h=true) (hs:X7 s=true) (hsl:Sl 3 Xd w a.A p) :
 Calls Tryz.prog 46 #[Yi p a,YK s] w λ e w'=>e=.returned (.bool (ZM p s))/\Below w.heap.size w w':=by
 obtain ⟨A,cap⟩:=a;simp only at hsl;obtain ⟨W,hW⟩:∃ W,W=(w.alloc (.cells #[.slice A p.length cap] 26)).alloc (.cells #[.int .i64 s.x,.int .i64 s.y,.int .i64 s.d] 30):=⟨_,rfl⟩;have HA:XV W w.heap.size [.slice A p.length cap]:=by rw [hW];exact Ys
 have HB:XV W (w.heap.size+1) [.int .i64 s.x,.int .i64 s.y,.int .i64 s.d]:=by rw [hW];exact Ys
 have b0:Below w.heap.size w W:=by rw [hW];exact Xl
 have hs0:=hsl.below b0;have hW':=Lib.hid hW;have hok':=Lib.hid hok;clear hW hsl hok;go_enter Tryz.func46,Tryz.ntmps46
 go_upto_region 1 with fail
 rw [<- hW'.out];clear hW';obtain ⟨cHA_0,fHA_0⟩:=HA.2 0 _ rfl;go_wp2
 go_loopw [6,10] (λ _ i wr=>∃ k:Nat,k<=p.length/\i=.int .i64 k/\(p.take k).all (J9 s)=true/\Below W.heap.size W wr) (λ _ i _=>p.length-(intOf i).toNat)
 case atStart=>exact ⟨0,Nat.zero_le _,rfl,rfl,Below.refl _ _⟩
 case round =>
  obtain ⟨k,hk,rfl,hall,hbw⟩:=hrel;have H1:=HA.below hbw;have H2:=HB.below hbw;have hS:=hs0.below hbw;have bw:=b0.trans (hbw.mono b0.size);by_cases hlt:k<p.length
  ·obtain ⟨b,off,hA,hblt,hc⟩:=hS.at_ hlt;have g0:=hc 0 _ rfl;have g1:=hc 1 _ rfl;have g2:=hc 2 _ rfl;simp only [Nat.add_zero] at g0;subst hA;have c1:=λ W=>iSideOf_c p[k] s W (hok'.out _ (List.getElem_mem hlt)) hs;have hn:=Lib.hid (λ h=>@holds_no p s k hlt h);have hy:=Lib.hid (λ h=>@holds_step p s k hlt hall h);clear hc hall;generalize sgn (valS p[k] s)=sg at *;generalize p[k]=h at *;have H1x:=H1.alloc (.cells #[.int .i64 h.a,.int .i64 h.b,.int .i64 h.c] 136);have H2x:=H2.alloc (.cells #[.int .i64 h.a,.int .i64 h.b,.int .i64 h.c] 136);have bx:=hbw.alloc hbw.size (.cells #[.int .i64 h.a,.int .i64 h.b,.int .i64 h.c] 136);obtain ⟨cH2x_0,fH2x_0⟩:=H2x.2 0 _ rfl;obtain ⟨cH2x_1,fH2x_1⟩:=H2x.2 1 _ rfl;obtain ⟨cH2x_2,fH2x_2⟩:=H2x.2 2 _ rfl;have l2:=H2x.1;have e20:wr.cell? ⟨w.heap.size+1,0,none⟩=some (.int .i64 s.x):=(H2.2 0 _ rfl).1;have e21:wr.cell? ⟨w.heap.size+1,1,none⟩=some (.int .i64 s.y):=(H2.2 1 _ rfl).1;have e22:wr.cell? ⟨w.heap.size+1,2,none⟩=some (.int .i64 s.d):=(H2.2 2 _ rfl).1;have lr:=H2.1;by_cases hp:0<sg
   ·have hv:=Lib.hid (hn.out hp);go_wp2_with (fail)
    refine (c1 _).mono ?_;rintro e w3 ⟨rfl,hb3⟩;go_wp2
    go_ret
    exact ⟨by rw [hv.out];rfl,b0.trans ((Xe bx hb3).mono b0.size)⟩
   ·have hv:=Lib.hid (hy.out hp);go_wp2_with (fail)
    refine (c1 _).mono ?_;rintro e w3 ⟨rfl,hb3⟩;go_wp2
    go_roundw
    case rel=>exact ⟨k+1,by omega,by go_num,hv.out,Xe bx hb3⟩
    case measure=>simp [intOf];omega
  ·obtain rfl:k=p.length:=Oz
   rw [List.take_length] at hall;have hv:=Lib.hid (show ZM p s = !decide (p.length=0) by unfold ZM;rw [hall,Bool.and_true]);have cv:=λ W=>KJ p ⟨A,cap⟩ W;obtain ⟨cH1_0,fH1_0⟩:=H1.2 0 _ rfl;have l1:=H1.1;generalize decide (p.length=0)=vd at *;clear hall hs0 hS;go_wp2_with (fail)
   refine (cv _).mono ?_;rintro e w3 ⟨rfl,hb3⟩;go_wp2
   go_ret
   exact ⟨by rw [hv.out];rfl,Xe bw hb3⟩
theorem within_no {C:List X9} {q:List Half} {k:Nat} (h:k<C.length) (hb:ZM q C[k]=false):C.all (ZM q)=false:=by
 rw [List.all_eq_false];exact ⟨_,List.getElem_mem h,by rw [hb];decide⟩
theorem within_step {C:List X9} {q:List Half} {k:Nat} (h:k<C.length) (h1:(C.take k).all (ZM q)=true) (hb:ZM q C[k]=true):(C.take (k+1)).all (ZM q)=true:=by
 rw [List.take_add_one,List.getElem?_eq_getElem h,List.all_append,h1];simp [hb]
theorem iWithin_c (p q:List Half) (a b:Zi) (w:World) (hp:Xb p=true) (hq:Xb q=true) (hsp:Sl 3 Xd w a.A p) (hsq:Sl 3 Xd w b.A q) :
 Calls Tryz.prog 42 #[Yi p a,Yi q b] w λ e w'=>e=.returned (.bool (Yx p q))/\Below w.heap.size w w':=by
 have hdef:=Lib.hid (show Yx p q=(XN p).all (ZM q) from rfl);have hlp:=Zt hp;have hlq:=Zt hq;have hcl:(XN p).length<=40:=by rw [Zo];exact hlp
 have hco:=Lib.hid (corners_ok hp);obtain ⟨W,hW⟩:∃ W,W=(w.alloc (.cells #[.slice a.A p.length a.c] 26)).alloc (.cells #[.slice b.A q.length b.c] 26):=⟨_,rfl⟩;have HA:XV W w.heap.size [.slice a.A p.length a.c]:=by rw [hW];exact Ys
 have HB:XV W (w.heap.size+1) [.slice b.A q.length b.c]:=by rw [hW];exact Ys
 have b0:Below w.heap.size w W:=by rw [hW];exact Xl
 have sp:=hsp.below b0;have sq:=hsq.below b0;have hW':=Lib.hid hW;have kc:=iCorners_c p a W hp sp;clear hW hsp hsq;obtain ⟨cHA_0,fHA_0⟩:=HA.2 0 _ rfl;have lA:=HA.1;generalize XN p=C at *;go_enter Tryz.func42,Tryz.ntmps42
 go_upto_region 1 with fail
 rw [<- hW'.out];clear hW';go_wp2_with (fail)
 refine kc.mono ?_;rintro e w1 ⟨v,rfl,N,hb1⟩;obtain ⟨Ac,cc,rfl,SC⟩:=N.sl Jg;have HB1:=HB.below hb1;have SQ:=sq.below hb1;have b1:=Xe b0 hb1;clear N HA HB sp sq hb1 cHA_0 fHA_0 lA kc b0;go_wp2
 go_loopw [6,10] (λ _ i wr=>∃ k:Nat,k<=C.length/\i=.int .i64 k/\(C.take k).all (ZM q)=true/\Below w1.heap.size w1 wr) (λ _ i _=>C.length-(intOf i).toNat)
 case atStart=>exact ⟨0,Nat.zero_le _,rfl,rfl,Below.refl _ _⟩
 case round =>
  obtain ⟨k,hk,rfl,hall,hbw⟩:=hrel;have bw:=b1.trans (hbw.mono b1.size);by_cases hlt:k<C.length
  ·obtain ⟨bb,off,rfl,hblt,hc⟩:=(SC.below hbw).at_ hlt;have g0:=hc 0 _ rfl;have g1:=hc 1 _ rfl;have g2:=hc 2 _ rfl;simp only [Nat.add_zero] at g0;have c1:=λ W h=>iHolds_c q b C[k] W (by omega) (Jb hq) (hco.out _ (List.getElem_mem hlt)) h;have hn:=Lib.hid (λ h=>@within_no C q k hlt h);have hy:=Lib.hid (λ h=>@within_step C q k hlt hall h);clear hc hall;generalize ZM q C[k]=hv at *;generalize C[k]=s at *;have H1x:=(HB1.below hbw).alloc (.cells #[.int .i64 s.x,.int .i64 s.y,.int .i64 s.d] 30);have SQx:=(SQ.below hbw).alloc (.cells #[.int .i64 s.x,.int .i64 s.y,.int .i64 s.d] 30);have bx:=hbw.alloc hbw.size (.cells #[.int .i64 s.x,.int .i64 s.y,.int .i64 s.d] 30);have TX:=XV.new wr #[.int .i64 s.x,.int .i64 s.y,.int .i64 s.d] 30;go_upto_region 4 with fail
   clear g0 g1 g2 hblt;generalize wr.alloc (.cells #[.int .i64 s.x,.int .i64 s.y,.int .i64 s.d] 30)=wx at *;generalize wr.heap.size=gx at *;obtain ⟨cH1x_0,fH1x_0⟩:=H1x.2 0 _ rfl;obtain ⟨cTX_0,fTX_0⟩:=TX.2 0 _ rfl;obtain ⟨cTX_1,fTX_1⟩:=TX.2 1 _ rfl;obtain ⟨cTX_2,fTX_2⟩:=TX.2 2 _ rfl;have l1:=H1x.1;have lx:=TX.1;cases hv
   ·have hv:=Lib.hid (hn.out rfl);go_wp2_with (fail)
    refine (c1 _ SQx).mono ?_;rintro e w3 ⟨rfl,hb3⟩;go_wp2
    go_ret
    exact ⟨by rw [hdef.out,hv.out];rfl,b1.trans ((Xe bx hb3).mono b1.size)⟩
   ·have hv:=Lib.hid (hy.out rfl);go_wp2_with (fail)
    refine (c1 _ SQx).mono ?_;rintro e w3 ⟨rfl,hb3⟩;go_wp2
    go_roundw
    case rel=>exact ⟨k+1,by omega,by go_num,hv.out,Xe bx hb3⟩
    case measure=>simp [intOf];omega
  ·obtain rfl:k=C.length:=Oz
   rw [List.take_length] at hall;have hv:=Lib.hid hall;clear hall;go_wp2
   go_ret
   exact ⟨by rw [hdef.out,hv.out];rfl,bw⟩
theorem getD_el {α:Type} {l:List α} {k:Nat} (h:k<l.length) (d:α):l.getD k d=l[k]:=by rw [List.getD_eq_getElem?_getD,List.getElem?_eq_getElem h,Option.getD_some]
theorem holds_stop {p:List Half} {s:X9} {k:Nat} (h:k<p.length) (hb:decide (sgn (valS (p.getD k Xa) s) > 0)=true):ZM p s=false:=by
 rw [getD_el h] at hb;exact holds_no h (of_decide_eq_true hb)
theorem holds_next {p:List Half} {s:X9} {k:Nat} (h:k<p.length) (h1:(p.take k).all (J9 s)=true) (hb:decide (sgn (valS (p.getD k Xa) s) > 0)=false):(p.take (k+1)).all (J9 s)=true:=by
 rw [getD_el h] at hb;exact holds_step h h1 (of_decide_eq_false hb)
theorem holds_end {p:List Half} {s:X9} (h1:p.all (J9 s)=true):ZM p s=decide ((p.length:Int) > 0):=by
 unfold ZM;rw [h1,Bool.and_true];by_cases h:p.length=0
 ·rw [decide_eq_true h,decide_eq_false Oz];rfl
 ·rw [decide_eq_false h,decide_eq_true Oz];rfl
theorem within_stop {C:List X9} {q:List Half} {k:Nat} (h:k<C.length) (hb:ZM q (C.getD k sp0)=false):C.all (ZM q)=false:=by
 rw [getD_el h] at hb;exact within_no h hb
theorem within_next {C:List X9} {q:List Half} {k:Nat} (h:k<C.length) (h1:(C.take k).all (ZM q)=true) (hb:ZM q (C.getD k sp0)=true):(C.take (k+1)).all (ZM q)=true:=by
 rw [getD_el h] at hb;exact within_step h h1 hb
theorem within_void {p q:List Half} (h:p.length=0):Yx p q=true:=by
 unfold Yx;have:XN p=[]:=List.length_eq_zero_iff.1 (by rw [Zo];exact h);rw [this];rfl
theorem getD_mem {α:Type} {l:List α} {k:Nat} (h:k<l.length) (d:α):l.getD k d∈l:=by rw [getD_el h];exact List.getElem_mem h
theorem sSide_c (h:Half) (s:X9) (w:World) (hh:Xt h=true) (hs:X7 s=true) :
 Calls Tryz.prog 214 #[X3 h,YK s] w λ x w'=>x=.returned (Vi (sgn (valS h s)))/\Below w.heap.size w w':=by
 obtain ⟨⟨k1,k2⟩,⟨k3,k4⟩,⟨k5,k6⟩⟩:=valS_bd hh hs;refine YN Tryz.func214 rfl (n:=29) Tryz.ntmps214 Sz ?_;intro a0 R F ha;have s0:a0.tmps[0]?.getD undef=X3 h:=ha 0 _ rfl;have s1:a0.tmps[1]?.getD undef=YK s:=ha 1 _ rfl;clear ha;have O:=Below.refl w.heap.size w;have S:=Nat.le_refl w.heap.size;refine wp_seq ?_;refine Yt [2,3,4] [Pz w.heap.size,Pz (w.heap.size+1),V0] [some (.cells [Vi h.a,Vi h.b,Vi h.c].toArray 136),some (.cells [Vi s.x,Vi s.y,Vi s.d].toArray 30),none] [0,1,2] [2,3,4] [0,1,2] (by kernel_rfl) (by rw [R];decide) (ec ?_ (ec ?_ (ec ?_ .nil))) ?_
 ·intro a w' I hs N Q D;simp [go_sem,I.g rfl s0];rw [hs];exact D
 ·intro a w' I hs N Q D;simp [go_sem,I.g rfl s1];rw [hs];exact D
 ·intro a w' I hs N Q D;simp [go_sem];exact D
 intro a1 w2 I K hb hO;replace R:=I.size.trans R;replace F:=I.defers.trans F;have s2:a1.tmps[2]?.getD undef=Pz w.heap.size:=K 0 Dz;have s3:a1.tmps[3]?.getD undef=Pz (w.heap.size+1):=K 1 Dz;have b3:Xz w2 w.heap.size 136 [Vi h.a,Vi h.b,Vi h.c]:=hO 0 _ rfl;have b4:Xz w2 (w.heap.size+1) 30 [Vi s.x,Vi s.y,Vi s.d]:=hO 1 _ rfl;have hG:=b4.lt;replace O:=Xe O hb;have zw2:=Nat.le_trans S hb.size;replace S:=Nat.le_refl w2.heap.size;clear I K hb hO s0 s1;refine Xk (wp_seq ?_);refine Xj [6,7,8,9,10,11,12,13,14,15,16,17,18,19,20,21,22,5] [some (Pz w.heap.size),some (Vi h.a),some (Pz (w.heap.size+1)),some (Vi s.x),some (Vi (h.a*s.x)),some (.pointer (some ⟨w.heap.size,1,none⟩)),some (Vi h.b),some (.pointer (some ⟨(w.heap.size+1),1,none⟩)),some (Vi s.y),some (Vi (h.b*s.y)),some (Vi ((h.a*s.x)+(h.b*s.y))),some (.pointer (some ⟨w.heap.size,2,none⟩)),some (Vi h.c),some (.pointer (some ⟨(w.heap.size+1),2,none⟩)),some (Vi s.d),some (Vi (h.c*s.d)),some (Vi (((h.a*s.x)+(h.b*s.y))-(h.c*s.d))),some (Vi (((h.a*s.x)+(h.b*s.y))-(h.c*s.d)))] (Yc 18) [6,7,8,9,10,11,12,13,14,15,16,17,18,19,20,21,22,5] [] (λ _ _ _=>True) ?_ (e4 ?_ ?_ ?_ ?_ (e4 ?_ ?_ ?_ ?_ (e4 ?_ ?_ ?_ ?_ (e4 ?_ ?_ ?_ ?_ (e2 ?_ ?_ .nil))))) ?_
 ·exact λ _ _=>trivial
 ·intro T M P H _ _ D;simp [go_sem,H.f.g rfl s2];exact (D _ _ H.k rfl trivial)
 ·intro T M P H _ _ D;simp [go_sem,(gS M 6 (H.d 0 rfl rfl)),(b3.k0 H.k).cell];exact (D _ _ H.k rfl trivial)
 ·intro T M P H _ _ D;simp [go_sem,H.f.g rfl s3];exact (D _ _ H.k rfl trivial)
 ·intro T M P H _ _ D;simp [go_sem,(gS M 8 (H.d 2 rfl rfl)),(b4.k0 H.k).cell];exact (D _ _ H.k rfl trivial)
 ·exact λ T M P H _ _ D=>YV rfl (ev (H.d 1 rfl rfl)) (ev (H.d 3 rfl rfl)) Oz (D _ _ H.k rfl trivial)
 ·intro T M P H _ _ D;simp [go_sem,H.f.g rfl s2];exact (D _ _ H.k rfl trivial)
 ·intro T M P H _ _ D;simp [go_sem,(gS M 11 (H.d 5 rfl rfl)),(b3.k0 H.k).cell];exact (D _ _ H.k rfl trivial)
 ·intro T M P H _ _ D;simp [go_sem,H.f.g rfl s3];exact (D _ _ H.k rfl trivial)
 ·intro T M P H _ _ D;simp [go_sem,(gS M 13 (H.d 7 rfl rfl)),(b4.k0 H.k).cell];exact (D _ _ H.k rfl trivial)
 ·exact λ T M P H _ _ D=>YV rfl (ev (H.d 6 rfl rfl)) (ev (H.d 8 rfl rfl)) Oz (D _ _ H.k rfl trivial)
 ·exact λ T M P H _ _ D=>Z2 rfl (ev (H.d 4 rfl rfl)) (ev (H.d 9 rfl rfl)) Oz (D _ _ H.k rfl trivial)
 ·intro T M P H _ _ D;simp [go_sem,H.f.g rfl s2];exact (D _ _ H.k rfl trivial)
 ·intro T M P H _ _ D;simp [go_sem,(gS M 17 (H.d 11 rfl rfl)),(b3.k0 H.k).cell];exact (D _ _ H.k rfl trivial)
 ·intro T M P H _ _ D;simp [go_sem,H.f.g rfl s3];exact (D _ _ H.k rfl trivial)
 ·intro T M P H _ _ D;simp [go_sem,(gS M 19 (H.d 13 rfl rfl)),(b4.k0 H.k).cell];exact (D _ _ H.k rfl trivial)
 ·exact λ T M P H _ _ D=>YV rfl (ev (H.d 12 rfl rfl)) (ev (H.d 14 rfl rfl)) Oz (D _ _ H.k rfl trivial)
 ·exact λ T M P H _ _ D=>wp_sub rfl (ev (H.d 10 rfl rfl)) (ev (H.d 15 rfl rfl)) Oz (D _ _ H.k rfl trivial)
 ·exact KE 16 rfl rfl rfl rfl
 intro L a5 w6 U I J K V;replace R:=I.Z R;replace F:=I.E F;have s5:=gS a5 5 (K 17 _ rfl);replace S:=Nat.le_trans S J.size;replace O:=J.below0 O;clear I J K U V s2 s3 b3 b4;refine Xk (wp_seq (wp_block (wp_seq ?_)));refine Xj [24,25,23] [some (Vi (((h.a*s.x)+(h.b*s.y))-(h.c*s.d))),some (Bv (decide (((h.a*s.x)+(h.b*s.y))-(h.c*s.d)<0))),some (Bv (decide (((h.a*s.x)+(h.b*s.y))-(h.c*s.d)<0)))] (Yc 3) [24,25,23] [] (λ _ _ _=>True) ?_ (e2 ?_ ?_ (en rfl ?_ .nil)) ?_
 ·exact λ _ _=>trivial
 ·exact Z1 s5 rfl rfl rfl
 ·exact λ T M P H _ _ D=>Yl rfl (ev (H.d 0 rfl rfl)) rfl rfl rfl (D _ _ H.k rfl trivial)
 ·exact KE 1 rfl rfl rfl rfl
 intro L a7 w8 U I J K V;replace R:=I.Z R;replace F:=I.E F;replace s5:=I.G s5;have s23:=gS a7 23 (K 2 _ rfl);replace S:=Nat.le_trans S J.size;replace O:=J.below0 O;clear I J K U V;refine Xk ?_;rcases Bool.eq_false_or_eq_true (decide (((h.a*s.x)+(h.b*s.y))-(h.c*s.d)<0)) with q9|q9
 ·refine wp_cond_true (ev (vb s23 q9)) ?_;refine wp_seq ?_;refine Xj [4] [some (Vi (-1))] (Yc 1) [4] [] (λ _ _ _=>True) ?_ (en rfl ?_ .nil) ?_
  ·exact λ _ _=>trivial
  ·exact JB rfl rfl
  intro L a10 w11 U I J K V;replace R:=I.Z R;replace F:=I.E F;have s4:=gS a10 4 (K 0 _ rfl);replace S:=Nat.le_trans S J.size;replace O:=J.below0 O;clear I J K U V s5 s23;refine Xk (wp_ret ?_);refine Jj (Y6 ?_);refine bodyPost_ret (v:=Vi (-1)) (by simp [results,Tryz.results214,go_sem,s4]) F ?_;exact ⟨by rw [show sgn (valS h s) = -1 by unfold sgn valS;rw [if_pos (KZ q9)]],O⟩
 ·refine wp_cond_false (ev (vb s23 q9)) ?_;refine wp_seq ?_;refine Xj [27,28,26] [some (Vi (((h.a*s.x)+(h.b*s.y))-(h.c*s.d))),some (Bv (decide (((h.a*s.x)+(h.b*s.y))-(h.c*s.d) > 0))),some (Bv (decide (((h.a*s.x)+(h.b*s.y))-(h.c*s.d) > 0)))] (Yc 3) [27,28,26] [] (λ _ _ _=>True) ?_ (e2 ?_ ?_ (en rfl ?_ .nil)) ?_
  ·exact λ _ _=>trivial
  ·exact Z1 s5 rfl rfl rfl
  ·exact λ T M P H _ _ D=>Yl rfl (ev (H.d 0 rfl rfl)) rfl rfl rfl (D _ _ H.k rfl trivial)
  ·exact KE 1 rfl rfl rfl rfl
  intro L a12 w13 U I J K V;replace R:=I.Z R;replace F:=I.E F;have s26:=gS a12 26 (K 2 _ rfl);replace S:=Nat.le_trans S J.size;replace O:=J.below0 O;clear I J K U V s5 s23;refine Xk ?_;rcases Bool.eq_false_or_eq_true (decide (((h.a*s.x)+(h.b*s.y))-(h.c*s.d) > 0)) with q14|q14
  ·refine wp_cond_true (ev (vb s26 q14)) ?_;refine wp_seq ?_;refine Xj [4] [some (Vi 1)] (Yc 1) [4] [] (λ _ _ _=>True) ?_ (en rfl ?_ .nil) ?_
   ·exact λ _ _=>trivial
   ·exact JB rfl rfl
   intro L a15 w16 U I J K V;replace R:=I.Z R;replace F:=I.E F;have s4:=gS a15 4 (K 0 _ rfl);replace S:=Nat.le_trans S J.size;replace O:=J.below0 O;clear I J K U V s26;refine Xk (wp_ret ?_);refine Jj (Y6 ?_);refine bodyPost_ret (v:=Vi 1) (by simp [results,Tryz.results214,go_sem,s4]) F ?_;exact ⟨by rw [show sgn (valS h s)=1 by unfold sgn valS;rw [if_neg (YT q9),if_pos (KZ q14)]],O⟩
  ·refine wp_cond_false (ev (vb s26 q14)) ?_;refine wp_skip ?_;refine J8 (Xk (wp_seq ?_));refine Xj [4] [some V0] (Yc 1) [4] [] (λ _ _ _=>True) ?_ (en rfl ?_ .nil) ?_
   ·exact λ _ _=>trivial
   ·exact JB rfl rfl
   intro L a17 w18 U I J K V;replace R:=I.Z R;replace F:=I.E F;have s4:=gS a17 4 (K 0 _ rfl);replace S:=Nat.le_trans S J.size;replace O:=J.below0 O;clear I J K U V s26;refine Xk (wp_ret ?_);refine bodyPost_ret (v:=V0) (by simp [results,Tryz.results214,go_sem,s4]) F ?_;exact ⟨by rw [show sgn (valS h s)=0 by unfold sgn valS;rw [if_neg (YT q9),if_neg (YT q14)]],O⟩
theorem sHas_c (p:List Half) (a:Zi) (s:X9) (w:World) (hl:p.length<=1000000) (hok:∀ h∈p,Xt h=true) (hs:X7 s=true) (hsl:Sl 3 Xd w a.A p) :
 Calls Tryz.prog 210 #[.agg #[Sv a.A p.length a.c],YK s] w λ x w'=>x=.returned (Bv (ZM p s))/\Below w.heap.size w w':=by
 refine YN Tryz.func210 rfl (n:=23) Tryz.ntmps210 Sz ?_;intro a0 R F ha;have s0:a0.tmps[0]?.getD undef=.agg #[Sv a.A p.length a.c]:=ha 0 _ rfl;have s1:a0.tmps[1]?.getD undef=YK s:=ha 1 _ rfl;clear ha;have O:=Below.refl w.heap.size w;have S:=Nat.le_refl w.heap.size;refine wp_seq ?_;refine Yt [2,3,4] [Pz w.heap.size,Pz (w.heap.size+1),Bf] [some (.cells [Sv a.A p.length a.c].toArray 26),some (.cells [Vi s.x,Vi s.y,Vi s.d].toArray 30),none] [0,1,2] [2,3,4] [0,1,2] (by kernel_rfl) (by rw [R];decide) (ec ?_ (ec ?_ (ec ?_ .nil))) ?_
 ·intro a w' I hs N Q D;simp [go_sem,I.g rfl s0];rw [hs];exact D
 ·intro a w' I hs N Q D;simp [go_sem,I.g rfl s1];rw [hs];exact D
 ·intro a w' I hs N Q D;simp [go_sem];exact D
 intro a1 w2 I K hb hO;replace R:=I.size.trans R;replace F:=I.defers.trans F;have s2:a1.tmps[2]?.getD undef=Pz w.heap.size:=K 0 Dz;have s3:a1.tmps[3]?.getD undef=Pz (w.heap.size+1):=K 1 Dz;have b3:Xz w2 w.heap.size 26 [Sv a.A p.length a.c]:=hO 0 _ rfl;have b4:Xz w2 (w.heap.size+1) 30 [Vi s.x,Vi s.y,Vi s.d]:=hO 1 _ rfl;have hG:=b4.lt;replace O:=Xe O hb;have zw2:=Nat.le_trans S hb.size;replace S:=Nat.le_refl w2.heap.size;clear I K hb hO s0 s1;refine Xk (wp_seq (wp_seq ?_));refine Xj [7,8,9,10] [some (Pz w.heap.size),some (Sv a.A p.length a.c),some (Vi (p.length:Int)),some V0] (Yc 4) [7,8,9,10] [] (λ _ _ _=>True) ?_ (e4 ?_ ?_ ?_ ?_ .nil) ?_
 ·exact λ _ _=>trivial
 ·intro T M P H _ _ D;simp [go_sem,H.f.g rfl s2];exact (D _ _ H.k rfl trivial)
 ·intro T M P H _ _ D;simp [go_sem,(gS M 7 (H.d 0 rfl rfl)),(b3.k0 H.k).cell];exact (D _ _ H.k rfl trivial)
 ·intro T M P H _ _ D;simp [go_sem,(gS M 8 (H.d 1 rfl rfl))];exact (D _ _ H.k rfl trivial)
 ·exact oMCT rfl rfl
 intro L a5 w6 U I J K V;replace R:=I.Z R;replace F:=I.E F;obtain ⟨s2,s3⟩:=I.G2 s2 s3;have s8:=gS a5 8 (K 1 _ rfl);have s9:=gS a5 9 (K 2 _ rfl);have s10:=gS a5 10 (K 3 _ rfl);replace b3:=b3.k0 J;replace b4:=b4.k0 J;replace S:=Nat.le_trans S J.size;replace O:=J.below0 O;clear I J K U V;refine Xk (wp_block ?_);refine wp_loop (λ al wl=>al.tmps.size=23/\al.defers=[]/\∃ (k:Nat),(k<=p.length)/\((p.take k).all (J9 s)=true)/\al.tmps[2]?.getD undef=Pz w.heap.size/\al.tmps[3]?.getD undef=Pz (w.heap.size+1)/\al.tmps[8]?.getD undef=Sv a.A p.length a.c/\al.tmps[9]?.getD undef=Vi (p.length:Int)/\al.tmps[10]?.getD undef=Vi (k:Int)/\Xz wl w.heap.size 26 [Sv a.A p.length a.c]/\Xz wl (w.heap.size+1) 30 [Vi s.x,Vi s.y,Vi s.d]/\Below w.heap.size w wl/\w2.heap.size<=wl.heap.size) (λ al _=>(p.length-(intOf (al.tmps[10]?.getD undef)).toNat)) ?_ ?_
 ·exact ⟨R,F,(0),(Nat.zero_le _),(rfl),s2,s3,s8,s9,s10,b3,b4,O,Oz⟩
 clear R F O S s2 s3 s8 s9 s10 b3 b4;rintro a7 w8 ⟨R,F,k,hk,hall,s2,s3,s8,s9,s10,b3,b4,O,S⟩;have zw8:=S;replace S:=Nat.le_refl w8.heap.size;have hmu:(p.length-(intOf (a7.tmps[10]?.getD undef)).toNat)=(p.length-(intOf ((Vi (k:Int)))).toNat):=by rw [s10]
 refine wp_seq ?_;refine Xj [11] [some (Bv (decide ((k:Int)<(p.length:Int))))] (Yc 1) [11] [] (λ _ _ _=>True) ?_ (en rfl ?_ .nil) ?_
 ·exact λ _ _=>trivial
 ·exact λ T M P H _ _ D=>Yl rfl (ev (H.f.g rfl s10)) (ev (H.f.g rfl s9)) rfl rfl (D _ _ H.k rfl trivial)
 intro L a9 w10 U I J K V;replace R:=I.Z R;replace F:=I.E F;obtain ⟨s2,s3,s8,s9,s10⟩:=I.G5 s2 s3 s8 s9 s10;have s11:=gS a9 11 (K 0 _ rfl);replace b3:=b3.k0 J;replace b4:=b4.k0 J;replace S:=Nat.le_trans S J.size;replace O:=J.below0 O;clear I J K U V;refine Xk (wp_seq ?_);rcases Bool.eq_false_or_eq_true (decide ((k:Int)<(p.length:Int))) with q11|q11
 ·have hkl:k<p.length:=by have:=KZ q11;omega
  obtain ⟨bp,op,ep,fp⟩:=ElS.open_ (hsl.below O) Oz;refine wp_cond_true (ev (vb s11 q11)) ?_;refine wp_skip (Xk (wp_seq (wp_block (wp_seq ?_))));have X:=Xf.x 6 2 3 w10 136 [V0,V0,V0] (λ _ vs=>vs=[Vi ((p.getD k Xa).a),Vi ((p.getD k Xa).b),Vi ((p.getD k Xa).c)]) (λ _ _ h=>h);refine Xr X [12,13,6,0] [some (.pointer (some ⟨bp,op+k*3,none⟩)),some (X3 (p.getD k Xa)),none,none] (Yc 4) [12,13,6] [] ?_ (e4 ?_ ?_ ?_ ?_ .nil) ?_
  ·exact λ _ h=>Cz
  ·intro T M P H _ _ D;simp [go_sem,H.f.g rfl s8,H.f.g rfl s10,hkl,ep];exact (D _ _ H.k rfl (X.q rfl H.x))
  ·intro T M P H _ _ D;have hE:=fp.kp H.k Sz;simp [go_sem,(gS M 12 (H.d 0 rfl rfl)),(hE.at_ Xa (i:=k) Oz 0 (p:=op+k*3) Oz rfl),(hE.at_ Xa (i:=k) Oz 1 (p:=op+k*3+1) Oz rfl),(hE.at_ Xa (i:=k) Oz 2 (p:=op+k*3+2) Oz rfl)];exact (D _ _ H.k rfl (X.q rfl H.x))
  ·intro T M P H _ _ D;have x0:=H.x;simp [go_sem];exact D _ _ (H.k.alloc _) trivial (λ _=>by rw [show ZV T 2 3=false from H.t 3 rfl];exact Yg.new (s:=6) (H.f.lt (by rw [R];decide)) H.k.size [V0,V0,V0])
  ·intro T M P H _ _ D;have x0:=H.x;obtain ⟨g,eg,hg,y,_⟩:=x0 (H.r 2 rfl);have Y:=y H.n;simp [go_sem,(gS M 13 (H.d 1 rfl rfl)),eg,Y.cell,Y.frz];exact D undef _ (H.k.store (.inl hg) [Vi ((p.getD k Xa).a),Vi ((p.getD k Xa).b),Vi ((p.getD k Xa).c)] 0) trivial (λ _=>Yg.set eg hg Y (us:=[Vi ((p.getD k Xa).a),Vi ((p.getD k Xa).b),Vi ((p.getD k Xa).c)]) rfl rfl)
  intro L a12 w13 U I J K V;have x0:=V;replace R:=I.Z R;replace F:=I.E F;obtain ⟨s2,s3,s8,s9,s10⟩:=I.G5 s2 s3 s8 s9 s10;replace b3:=b3.k0 J;replace b4:=b4.k0 J;obtain ⟨g14,s6,lg14,-,b14⟩:=x0 (U 2 Dz);obtain ⟨_,b14,rfl⟩:=b14 (U 3 Dz);have ug14:=b14.lt;have zw10:=S;have zw13:=J.size;replace S:=Nat.le_refl w13.heap.size;replace O:=J.below0 O;clear I J K U x0 X s11 fp;refine Xk (wp_seq ?_);refine Xj [14,15,16,17] [some (X3 (p.getD k Xa)),some (YK s),some (Vi (sgn (valS (p.getD k Xa) s))),some (Bv (decide (sgn (valS (p.getD k Xa) s) > 0)))] (Yc 4) [14,15,16,17] [] (λ _ _ _=>True) ?_ (e4 ?_ ?_ ?_ ?_ .nil) ?_
  ·exact λ _ _=>trivial
  ·intro T M P H _ _ D;simp [go_sem,H.f.g rfl s6,(b14.k0 H.k).cell];exact (D _ _ H.k rfl trivial)
  ·intro T M P H _ _ D;simp [go_sem,H.f.g rfl s3,(b4.k0 H.k).cell];exact (D _ _ H.k rfl trivial)
  ·intro T M P H _ _ D;simp [go_sem,(gS M 14 (H.d 0 rfl rfl)),(gS M 15 (H.d 1 rfl rfl))];refine (sSide_c (p.getD k Xa) s P (hok _ (getD_mem hkl Xa)) hs).mono ?_;rintro x wx ⟨rfl,hb⟩;exact (D _ _ (H.k.call hb) rfl trivial)
  ·exact λ T M P H _ _ D=>Yl rfl (ev (H.d 2 rfl rfl)) rfl rfl rfl (D _ _ H.k rfl trivial)
  intro L a15 w16 U I J K V;replace R:=I.Z R;replace F:=I.E F;obtain ⟨s2,s3,s8,s9,s10⟩:=I.G5 s2 s3 s8 s9 s10;have s17:=gS a15 17 (K 3 _ rfl);replace b3:=b3.k0 J;replace b4:=b4.k0 J;replace S:=Nat.le_trans S J.size;replace O:=J.below0 O;clear I J K U V s6 b14;refine Xk ?_;rcases Bool.eq_false_or_eq_true (decide (sgn (valS (p.getD k Xa) s) > 0)) with q17|q17
  ·refine wp_cond_true (ev (vb s17 q17)) ?_;refine wp_seq ?_;refine Xj [4] [some Bf] (Yc 1) [4] [] (λ _ _ _=>True) ?_ (en rfl ?_ .nil) ?_
   ·exact λ _ _=>trivial
   ·exact JB rfl rfl
   intro L a18 w19 U I J K V;replace R:=I.Z R;replace F:=I.E F;have s4:=gS a18 4 (K 0 _ rfl);replace S:=Nat.le_trans S J.size;replace O:=J.below0 O;clear I J K U V s2 s3 s8 s9 s10 s17 b3 b4;refine Xk (wp_ret ?_);refine Jj (Y6 (Y6 (Jj (Y6 ?_))));refine bodyPost_ret (v:=Bf) (by simp [results,Tryz.results210,go_sem,s4]) F ?_;exact ⟨by rw [holds_stop hkl q17],O⟩
  ·refine wp_cond_false (ev (vb s17 q17)) ?_;refine wp_skip ?_;refine J8 (Xk ?_);refine Xj [18,10] [some (Vi ((k:Int)+1)),some (Vi ((k:Int)+1))] (Yc 2) [18,10] [] (λ L aa P=>(L 1=false->aa.tmps[10]?.getD undef=Vi (k:Int))) ?_ (e2 ?_ ?_ .nil) ?_
   ·exact λ _ h=>(λ _=>s10)
   ·intro T M P H _ _ D;have x0:=H.x;exact Z2 rfl (ev (x0 (H.t 1 rfl))) rfl Oz (D _ _ H.k rfl (λ h=>(Xg Dz _).trans (x0 h)))
   ·intro T M P H _ _ D;have x0:=H.x;exact XR rfl (ev (H.d 0 rfl rfl)) (D _ _ H.k rfl (λ h=>by simp [ZV] at h))
   intro L a20 w21 U I J K V;have x0:=V;replace R:=I.Z R;replace F:=I.E F;obtain ⟨s2,s3,s8,s9⟩:=I.G4 s2 s3 s8 s9;have s10:=gS a20 10 (K 1 _ rfl);replace b3:=b3.k0 J;replace b4:=b4.k0 J;replace S:=Nat.le_trans S J.size;replace O:=J.below0 O;clear I J K U x0 s17;refine Xk ?_;refine ⟨?_, ?_⟩
   ·exact ⟨R,F,(k+1),Oz,(holds_next hkl hall q17),s2,s3,s8,s9,s10,b3,b4,O,Oz⟩
   ·show (p.length-(intOf (a20.tmps[10]?.getD undef)).toNat)<_;rw [s10,hmu];simp only [intOf];omega
 ·have ek:k=p.length:=by have:=YT q11;omega
  rw [ek,List.take_length] at hall;refine wp_cond_false (ev (vb s11 q11)) ?_;refine wp_exit ?_;refine th_e (th_e (ib_x (Xk (wp_seq ?_))));refine Xj [19,20,21,22,4] [some (Pz w.heap.size),some (Sv a.A p.length a.c),some (Vi (p.length:Int)),some (Bv (decide ((p.length:Int) > 0))),some (Bv (decide ((p.length:Int) > 0)))] (Yc 5) [19,20,21,22,4] [] (λ _ _ _=>True) ?_ (e4 ?_ ?_ ?_ ?_ (en rfl ?_ .nil)) ?_
  ·exact λ _ _=>trivial
  ·intro T M P H _ _ D;simp [go_sem,H.f.g rfl s2];exact (D _ _ H.k rfl trivial)
  ·intro T M P H _ _ D;simp [go_sem,(gS M 19 (H.d 0 rfl rfl)),(b3.k0 H.k).cell];exact (D _ _ H.k rfl trivial)
  ·intro T M P H _ _ D;simp [go_sem,(gS M 20 (H.d 1 rfl rfl))];exact (D _ _ H.k rfl trivial)
  ·exact λ T M P H _ _ D=>Yl rfl (ev (H.d 2 rfl rfl)) rfl rfl rfl (D _ _ H.k rfl trivial)
  ·exact KE 3 rfl rfl rfl rfl
  intro L a22 w23 U I J K V;replace R:=I.Z R;replace F:=I.E F;have s4:=gS a22 4 (K 4 _ rfl);replace S:=Nat.le_trans S J.size;replace O:=J.below0 O;clear I J K U V s2 s3 s8 s9 s10 s11 b3 b4;refine Xk (wp_ret ?_);refine bodyPost_ret (v:=Bv (decide ((p.length:Int) > 0))) (by simp [results,Tryz.results210,go_sem,s4]) F ?_;exact ⟨by rw [holds_end hall],O⟩
theorem sWithinL_c (p q:List Half) (a b:Zi) (w:World) (hp:Xb p=true) (hq:Xb q=true) (hsp:Sl 3 Xd w a.A p) (hsq:Sl 3 Xd w b.A q) :
 Calls Tryz.prog 196 #[.agg #[Sv a.A p.length a.c],.agg #[Sv b.A q.length b.c]] w λ x w'=>x=.returned (Bv (Yx p q))/\Below w.heap.size w w':=by
 refine YN Tryz.func196 rfl (n:=21) Tryz.ntmps196 Sz ?_;intro a0 R F ha;have s0:a0.tmps[0]?.getD undef=.agg #[Sv a.A p.length a.c]:=ha 0 _ rfl;have s1:a0.tmps[1]?.getD undef=.agg #[Sv b.A q.length b.c]:=ha 1 _ rfl;clear ha;have O:=Below.refl w.heap.size w;have S:=Nat.le_refl w.heap.size;refine wp_seq ?_;refine Yt [2,3,4] [Pz w.heap.size,Pz (w.heap.size+1),Bf] [some (.cells [Sv a.A p.length a.c].toArray 26),some (.cells [Sv b.A q.length b.c].toArray 26),none] [0,1,2] [2,3,4] [0,1,2] (by kernel_rfl) (by rw [R];decide) (ec ?_ (ec ?_ (ec ?_ .nil))) ?_
 ·intro a w' I hs N Q D;simp [go_sem,I.g rfl s0];rw [hs];exact D
 ·intro a w' I hs N Q D;simp [go_sem,I.g rfl s1];rw [hs];exact D
 ·intro a w' I hs N Q D;simp [go_sem];exact D
 intro a1 w2 I K hb hO;replace R:=I.size.trans R;replace F:=I.defers.trans F;have s2:a1.tmps[2]?.getD undef=Pz w.heap.size:=K 0 Dz;have s3:a1.tmps[3]?.getD undef=Pz (w.heap.size+1):=K 1 Dz;have b3:Xz w2 w.heap.size 26 [Sv a.A p.length a.c]:=hO 0 _ rfl;have b4:Xz w2 (w.heap.size+1) 26 [Sv b.A q.length b.c]:=hO 1 _ rfl;have hG:=b4.lt;replace O:=Xe O hb;have zw2:=Nat.le_trans S hb.size;replace S:=Nat.le_refl w2.heap.size;clear I K hb hO s0 s1;refine Xk (wp_seq (wp_seq ?_));refine Xj [7,8] [some (.agg #[Sv a.A p.length a.c]),some (Bv (decide (p.length=0)))] (Yc 2) [7,8] [] (λ _ _ _=>True) ?_ (e2 ?_ ?_ .nil) ?_
 ·exact λ _ _=>trivial
 ·intro T M P H _ _ D;simp [go_sem,H.f.g rfl s2,(b3.k0 H.k).cell];exact (D _ _ H.k rfl trivial)
 ·intro T M P H _ _ D;simp [go_sem,(gS M 7 (H.d 0 rfl rfl))];refine (Yh p a P).mono ?_;rintro x wx ⟨rfl,hb⟩;exact (D _ _ (H.k.call hb) rfl trivial)
 intro L a5 w6 U I J K V;replace R:=I.Z R;replace F:=I.E F;obtain ⟨s2,s3⟩:=I.G2 s2 s3;have s8:=gS a5 8 (K 1 _ rfl);replace b3:=b3.k0 J;replace b4:=b4.k0 J;replace S:=Nat.le_trans S J.size;replace O:=J.below0 O;clear I J K U V;refine Xk ?_;rcases Bool.eq_false_or_eq_true (decide (p.length=0)) with q7|q7
 ·refine wp_cond_true (ev (vb s8 q7)) ?_;refine wp_seq ?_;refine Xj [4] [some Bt] (Yc 1) [4] [] (λ _ _ _=>True) ?_ (en rfl ?_ .nil) ?_
  ·exact λ _ _=>trivial
  ·exact JB rfl rfl
  intro L a8 w9 U I J K V;replace R:=I.Z R;replace F:=I.E F;have s4:=gS a8 4 (K 0 _ rfl);replace S:=Nat.le_trans S J.size;replace O:=J.below0 O;clear I J K U V s2 s3 s8 b3 b4;refine Xk (wp_ret (Y6 ?_));refine bodyPost_ret (v:=Bt) (by simp [results,Tryz.results196,go_sem,s4]) F ?_;exact ⟨by rw [within_void (KZ q7)],O⟩
 ·refine wp_cond_false (ev (vb s8 q7)) ?_;refine wp_skip (Xk (wp_seq (wp_seq ?_)));have X:=Xf.e 10 1 (λ P v=>∃ A1 c1,v=Sv A1 ((XN p).length) c1/\XI 30 3 spotC P w6.heap.size (Sv A1 (XN p).length c1) (XN p)) (λ hb _ h=>by obtain ⟨A1',c1',e,f1'⟩:=h;exact ⟨A1',c1',e,f1'.below hb XE⟩);refine Xr X [9,10,11,12] [some (.agg #[Sv a.A p.length a.c]),none,some (Vi (((XN p).length:Nat):Int)),some V0] (Yc 4) [9,10,11,12] [] ?_ (e4 ?_ ?_ ?_ ?_ .nil) ?_
  ·exact λ _ h=>Cz
  ·intro T M P H _ _ D;simp [go_sem,H.f.g rfl s2,(b3.k0 H.k).cell];exact (D _ _ H.k rfl (X.q rfl H.x))
  ·intro T M P H _ _ D;have x0:=H.x;simp [go_sem,(gS M 9 (H.d 0 rfl rfl))];have hBi:=H.k.below0 O;refine (sCorners_c p a P hp (hsp.below hBi)).mono ?_;rintro x wx ⟨_,rfl,⟨A1,c1,rfl,f0⟩,hb⟩;have f1:=XI.mono (show XI 30 3 spotC wx P.heap.size (Sv A1 (XN p).length c1) (XN p) from ⟨_,_,rfl,f0⟩) H.k.size;exact (D _ _ (H.k.call hb) trivial (λ _=>⟨A1,c1,H.f.s R,f1⟩))
  ·intro T M P H _ _ D;have x0:=H.x;obtain ⟨A1,c1,ee1,f1⟩:=x0 (H.r 1 rfl);simp [go_sem,ee1];exact (D _ _ H.k rfl (X.q rfl H.x))
  ·exact oMCX rfl rfl λ _ _ _ _=>X.q rfl
  intro L a10 w11 U I J K V;have x0:=V;replace R:=I.Z R;replace F:=I.E F;replace s3:=I.G s3;have s11:=gS a10 11 (K 2 _ rfl);have s12:=gS a10 12 (K 3 _ rfl);replace b4:=b4.k0 J;obtain ⟨A1,c1,s10,N1⟩:=x0 (U 1 Dz);have i1:∀ p,A1=some p->p.block<w11.heap.size:=λ p hp=>(N1.blk p hp).2;have zw6:=S;have zw11:=J.size;replace S:=Nat.le_refl w11.heap.size;replace O:=J.below0 O;clear I J K U x0 X s2 s8 b3;refine Xk (wp_block ?_);refine wp_loop (λ al wl=>al.tmps.size=21/\al.defers=[]/\∃ (k:Nat),(k<=(XN p).length)/\(((XN p).take k).all (ZM q)=true)/\al.tmps[3]?.getD undef=Pz (w.heap.size+1)/\al.tmps[11]?.getD undef=Vi (((XN p).length:Nat):Int)/\al.tmps[12]?.getD undef=Vi (k:Int)/\al.tmps[10]?.getD undef=Sv A1 ((XN p).length) c1/\Xz wl (w.heap.size+1) 26 [Sv b.A q.length b.c]/\XI 30 3 spotC wl w6.heap.size (Sv A1 (XN p).length c1) (XN p)/\Below w.heap.size w wl/\w11.heap.size<=wl.heap.size) (λ al _=>((XN p).length-(intOf (al.tmps[12]?.getD undef)).toNat)) ?_ ?_
  ·exact ⟨R,F,(0),(Nat.zero_le _),(rfl),s3,s11,s12,s10,b4,N1,O,Oz⟩
  clear R F O S s3 s11 s12 s10 b4 N1;rintro a12 w13 ⟨R,F,k,hk,hall,s3,s11,s12,s10,b4,N1,O,S⟩;have zw13:=S;replace S:=Nat.le_refl w13.heap.size;have hmu:((XN p).length-(intOf (a12.tmps[12]?.getD undef)).toNat)=((XN p).length-(intOf ((Vi (k:Int)))).toNat):=by rw [s12]
  refine wp_seq ?_;refine Xj [13] [some (Bv (decide ((k:Int)<(((XN p).length:Nat):Int))))] (Yc 1) [13] [] (λ _ _ _=>True) ?_ (en rfl ?_ .nil) ?_
  ·exact λ _ _=>trivial
  ·exact λ T M P H _ _ D=>Yl rfl (ev (H.f.g rfl s12)) (ev (H.f.g rfl s11)) rfl rfl (D _ _ H.k rfl trivial)
  intro L a14 w15 U I J K V;replace R:=I.Z R;replace F:=I.E F;obtain ⟨s3,s11,s12,s10⟩:=I.G4 s3 s11 s12 s10;have s13:=gS a14 13 (K 0 _ rfl);replace b4:=b4.k0 J;replace N1:=N1.below J.toBelow XE;replace S:=Nat.le_trans S J.size;replace O:=J.below0 O;clear I J K U V;refine Xk (wp_seq ?_);rcases Bool.eq_false_or_eq_true (decide ((k:Int)<(((XN p).length:Nat):Int))) with q16|q16
  ·have hkl:k<(XN p).length:=by have:=KZ q16;omega
   have hcl:(XN p).length<=40:=by rw [Zo];exact Zt hp
   obtain ⟨bc,oc,ec_,fc⟩:=ElS.open_ (N1.out Jg) Oz;refine wp_cond_true (ev (vb s13 q16)) ?_;refine wp_skip (Xk (wp_seq (wp_block (wp_seq ?_))));have X:=Xf.x 6 2 3 w15 30 [V0,V0,V0] (λ _ vs=>vs=[Vi (((XN p).getD k sp0).x),Vi (((XN p).getD k sp0).y),Vi (((XN p).getD k sp0).d)]) (λ _ _ h=>h);refine Xr X [14,15,6,0] [some (.pointer (some ⟨bc,oc+k*3,none⟩)),some (YK ((XN p).getD k sp0)),none,none] (Yc 4) [14,15,6] [] ?_ (e4 ?_ ?_ ?_ ?_ .nil) ?_
   ·exact λ _ h=>Cz
   ·intro T M P H _ _ D;simp [go_sem,H.f.g rfl s10,H.f.g rfl s12,hkl,ec_];exact (D _ _ H.k rfl (X.q rfl H.x))
   ·intro T M P H _ _ D;have hE:=fc.kp H.k Sz;simp [go_sem,(gS M 14 (H.d 0 rfl rfl)),(hE.at_ sp0 (i:=k) Oz 0 (p:=oc+k*3) Oz rfl),(hE.at_ sp0 (i:=k) Oz 1 (p:=oc+k*3+1) Oz rfl),(hE.at_ sp0 (i:=k) Oz 2 (p:=oc+k*3+2) Oz rfl)];exact (D _ _ H.k rfl (X.q rfl H.x))
   ·intro T M P H _ _ D;have x0:=H.x;simp [go_sem];exact D _ _ (H.k.alloc _) trivial (λ _=>by rw [show ZV T 2 3=false from H.t 3 rfl];exact Yg.new (s:=6) (H.f.lt (by rw [R];decide)) H.k.size [V0,V0,V0])
   ·intro T M P H _ _ D;have x0:=H.x;obtain ⟨g,eg,hg,y,_⟩:=x0 (H.r 2 rfl);have Y:=y H.n;simp [go_sem,(gS M 15 (H.d 1 rfl rfl)),eg,Y.cell,Y.frz];exact D undef _ (H.k.store (.inl hg) [Vi (((XN p).getD k sp0).x),Vi (((XN p).getD k sp0).y),Vi (((XN p).getD k sp0).d)] 0) trivial (λ _=>Yg.set eg hg Y (us:=[Vi (((XN p).getD k sp0).x),Vi (((XN p).getD k sp0).y),Vi (((XN p).getD k sp0).d)]) rfl rfl)
   intro L a17 w18 U I J K V;have x0:=V;replace R:=I.Z R;replace F:=I.E F;obtain ⟨s3,s11,s12,s10⟩:=I.G4 s3 s11 s12 s10;replace b4:=b4.k0 J;obtain ⟨g19,s6,lg19,-,b19⟩:=x0 (U 2 Dz);obtain ⟨_,b19,rfl⟩:=b19 (U 3 Dz);have ug19:=b19.lt;replace N1:=N1.below J.toBelow XE;have zw15:=S;have zw18:=J.size;replace S:=Nat.le_refl w18.heap.size;replace O:=J.below0 O;clear I J K U x0 X s13 fc;refine Xk (wp_seq ?_);refine Xj [16,17,18,19] [some (.agg #[Sv b.A q.length b.c]),some (YK ((XN p).getD k sp0)),some (Bv (ZM q ((XN p).getD k sp0))),some (Bv (!(ZM q ((XN p).getD k sp0))))] (Yc 4) [16,17,18,19] [] (λ _ _ _=>True) ?_ (e4 ?_ ?_ ?_ ?_ .nil) ?_
   ·exact λ _ _=>trivial
   ·intro T M P H _ _ D;simp [go_sem,H.f.g rfl s3,(b4.k0 H.k).cell];exact (D _ _ H.k rfl trivial)
   ·intro T M P H _ _ D;simp [go_sem,H.f.g rfl s6,(b19.k0 H.k).cell];exact (D _ _ H.k rfl trivial)
   ·intro T M P H _ _ D;simp [go_sem,(gS M 16 (H.d 0 rfl rfl)),(gS M 17 (H.d 1 rfl rfl))];have hBi:=H.k.below0 O;refine (sHas_c q b ((XN p).getD k sp0) P (by have:=Zt hq;omega) (Jb hq) (corners_ok hp _ (getD_mem hkl sp0)) (hsq.below hBi)).mono ?_;rintro x wx ⟨rfl,hb⟩;exact (D _ _ (H.k.call hb) rfl trivial)
   ·exact Jc 2 rfl rfl rfl rfl
   intro L a20 w21 U I J K V;replace R:=I.Z R;replace F:=I.E F;obtain ⟨s3,s11,s12,s10⟩:=I.G4 s3 s11 s12 s10;have s19:=gS a20 19 (K 3 _ rfl);replace b4:=b4.k0 J;replace N1:=N1.below J.toBelow XE;replace S:=Nat.le_trans S J.size;replace O:=J.below0 O;clear I J K U V s6 b19;refine Xk ?_;rcases Bool.eq_false_or_eq_true (!(ZM q ((XN p).getD k sp0))) with q22|q22
   ·refine wp_cond_true (ev (vb s19 q22)) ?_;refine wp_seq ?_;refine Xj [4] [some Bf] (Yc 1) [4] [] (λ _ _ _=>True) ?_ (en rfl ?_ .nil) ?_
    ·exact λ _ _=>trivial
    ·exact JB rfl rfl
    intro L a23 w24 U I J K V;replace R:=I.Z R;replace F:=I.E F;have s4:=gS a23 4 (K 0 _ rfl);replace S:=Nat.le_trans S J.size;replace O:=J.below0 O;clear I J K U V s3 s11 s12 s10 s19 b4 N1 i1;refine Xk (wp_ret ?_);refine Jj (Y6 (Y6 (Jj (Y6 ?_))));refine bodyPost_ret (v:=Bf) (by simp [results,Tryz.results196,go_sem,s4]) F ?_;exact ⟨by unfold Yx;rw [within_stop hkl (Jw q22)],O⟩
   ·refine wp_cond_false (ev (vb s19 q22)) ?_;refine wp_skip ?_;refine J8 (Xk ?_);refine Xj [20,12] [some (Vi ((k:Int)+1)),some (Vi ((k:Int)+1))] (Yc 2) [20,12] [] (λ L aa P=>(L 1=false->aa.tmps[12]?.getD undef=Vi (k:Int))) ?_ (e2 ?_ ?_ .nil) ?_
    ·exact λ _ h=>(λ _=>s12)
    ·intro T M P H _ _ D;have x0:=H.x;exact Z2 rfl (ev (x0 (H.t 1 rfl))) rfl Oz (D _ _ H.k rfl (λ h=>(Xg Dz _).trans (x0 h)))
    ·intro T M P H _ _ D;have x0:=H.x;exact XR rfl (ev (H.d 0 rfl rfl)) (D _ _ H.k rfl (λ h=>by simp [ZV] at h))
    intro L a25 w26 U I J K V;have x0:=V;replace R:=I.Z R;replace F:=I.E F;obtain ⟨s3,s11,s10⟩:=I.G3 s3 s11 s10;have s12:=gS a25 12 (K 1 _ rfl);replace b4:=b4.k0 J;replace N1:=N1.below J.toBelow XE;replace S:=Nat.le_trans S J.size;replace O:=J.below0 O;clear I J K U x0 s19;refine Xk ?_;refine ⟨?_, ?_⟩
    ·exact ⟨R,F,(k+1),Oz,(within_next hkl hall (Yu q22)),s3,s11,s12,s10,b4,N1,O,Oz⟩
    ·show ((XN p).length-(intOf (a25.tmps[12]?.getD undef)).toNat)<_;rw [s12,hmu];simp only [intOf];omega
  ·have ek:k=(XN p).length:=by have:=YT q16;omega
   rw [ek,List.take_length] at hall;refine wp_cond_false (ev (vb s13 q16)) ?_;refine wp_exit ?_;refine th_e (th_e (ib_x (Xk (wp_seq ?_))));refine Xj [4] [some Bt] (Yc 1) [4] [] (λ _ _ _=>True) ?_ (en rfl ?_ .nil) ?_
   ·exact λ _ _=>trivial
   ·exact JB rfl rfl
   intro L a27 w28 U I J K V;replace R:=I.Z R;replace F:=I.E F;have s4:=gS a27 4 (K 0 _ rfl);replace S:=Nat.le_trans S J.size;replace O:=J.below0 O;clear I J K U V s3 s11 s12 s10 s13 b4 N1 i1;refine Xk (wp_ret ?_);refine bodyPost_ret (v:=Bt) (by simp [results,Tryz.results196,go_sem,s4]) F ?_;exact ⟨by unfold Yx;rw [hall],O⟩
theorem sIsWithin_c (p q:List Half) (a b:Zi) (w:World) (hlp:p.length<=1048576) (hip:∀ h∈p,h.In) (hlq:q.length<=1048576) (hiq:∀ h∈q,h.In) (hsp:Sl 3 Xd w a.A p) (hsq:Sl 3 Xd w b.A q) (hna:a.A=none->a.c=0) (hnb:b.A=none->b.c=0) :
 Calls Tryz.prog 173 #[.agg #[Sv a.A p.length a.c],.agg #[Sv b.A q.length b.c]] w λ x w'=>x=.returned (Bv (Xb p&&Xb q&&Yx p q))/\Below w.heap.size w w':=by
 refine YN Tryz.func173 rfl (n:=16) Tryz.ntmps173 Sz ?_;intro a0 R F ha;have s0:a0.tmps[0]?.getD undef=.agg #[Sv a.A p.length a.c]:=ha 0 _ rfl;have s1:a0.tmps[1]?.getD undef=.agg #[Sv b.A q.length b.c]:=ha 1 _ rfl;clear ha;have O:=Below.refl w.heap.size w;have S:=Nat.le_refl w.heap.size;refine wp_seq ?_;refine Yt [2,3,4] [Pz w.heap.size,Pz (w.heap.size+1),Bf] [some (.cells [Sv a.A p.length a.c].toArray 26),some (.cells [Sv b.A q.length b.c].toArray 26),none] [0,1,2] [2,3,4] [0,1,2] (by kernel_rfl) (by rw [R];decide) (ec ?_ (ec ?_ (ec ?_ .nil))) ?_
 ·intro a w' I hs N Q D;simp [go_sem,I.g rfl s0];rw [hs];exact D
 ·intro a w' I hs N Q D;simp [go_sem,I.g rfl s1];rw [hs];exact D
 ·intro a w' I hs N Q D;simp [go_sem];exact D
 intro a1 w2 I K hb hO;replace R:=I.size.trans R;replace F:=I.defers.trans F;have s2:a1.tmps[2]?.getD undef=Pz w.heap.size:=K 0 Dz;have s3:a1.tmps[3]?.getD undef=Pz (w.heap.size+1):=K 1 Dz;have b3:Xz w2 w.heap.size 26 [Sv a.A p.length a.c]:=hO 0 _ rfl;have b4:Xz w2 (w.heap.size+1) 26 [Sv b.A q.length b.c]:=hO 1 _ rfl;have hG:=b4.lt;replace O:=Xe O hb;have zw2:=Nat.le_trans S hb.size;replace S:=Nat.le_refl w2.heap.size;clear I K hb hO s0 s1;refine Xk (wp_seq ?_);refine Xj [5,6,7,8,9,10,11,12,13,14,15,4] [some (.agg #[Sv a.A p.length a.c]),some (Bv (Xb p)),some (Bv (Xb p)),some ((bif Xb p then (.agg #[Sv b.A q.length b.c]:Value) else undef)),some ((bif Xb p then (Bv (Xb q):Value) else undef)),some (Bv (Xb p&&Xb q)),some (Bv (Xb p&&Xb q)),some ((bif (Xb p&&Xb q) then (.agg #[Sv a.A p.length a.c]:Value) else undef)),some ((bif (Xb p&&Xb q) then (.agg #[Sv b.A q.length b.c]:Value) else undef)),some ((bif (Xb p&&Xb q) then (Bv (Yx p q):Value) else undef)),some (Bv ((Xb p&&Xb q)&&Yx p q)),some (Bv ((Xb p&&Xb q)&&Yx p q))] (Yc 12) [5,6,7,8,9,10,11,12,13,14,15,4] [] (λ _ _ _=>True) ?_ (e2 ?_ ?_ (en rfl ?_ (eg ?_ (eg ?_ (e2 ?_ ?_ (eg ?_ (eg ?_ (eg ?_ (e2 ?_ ?_ .nil))))))))) ?_
 ·exact λ _ _=>trivial
 ·intro T M P H _ _ D;simp [go_sem,H.f.g rfl s2,(b3.k0 H.k).cell];exact (D _ _ H.k rfl trivial)
 ·intro T M P H _ _ D;simp [go_sem,(gS M 5 (H.d 0 rfl rfl))];have hBi:=H.k.below0 O;refine (XY p a P hlp hip (hsp.below hBi) hna).mono ?_;rintro x wx ⟨rfl,hb⟩;exact (D _ _ (H.k.call hb) rfl trivial)
 ·exact Ks 1 rfl rfl rfl rfl
 ·intro T M P H _ _ D;refine wgt rfl rfl rfl (H.d 2 rfl rfl) (λ qg=>D _ _ H.k (Xq qg).symm trivial) λ qg=>?_;simp [go_sem,H.f.g rfl s3,(b4.k0 H.k).cell];exact (D _ _ H.k (Xu qg).symm trivial)
 ·intro T M P H _ _ D;refine wgt rfl rfl rfl (H.d 2 rfl rfl) (λ qg=>D _ _ H.k (Xq qg).symm trivial) λ qg=>?_;simp [go_sem,(show M.tmps[8]?.getD undef=_ from (H.d 3 rfl rfl).trans (Xu qg))];have hBi:=H.k.below0 O;refine (XY q b P hlq hiq (hsq.below hBi) hnb).mono ?_;rintro x wx ⟨rfl,hb⟩;exact (D _ _ (H.k.call hb) (Xu qg).symm trivial)
 ·exact λ T M P H _ _ D=>Zp rfl (ev (H.d 2 rfl rfl)) (λ h=>(ev ((H.d 4 rfl rfl).trans (Xu h))).trans (Jl h)) (λ h=>Jm h) (D _ _ H.k rfl trivial)
 ·exact Ks 5 rfl rfl rfl rfl
 ·intro T M P H _ _ D;refine wgt rfl rfl rfl (H.d 6 rfl rfl) (λ qg=>D _ _ H.k (Xq qg).symm trivial) λ qg=>?_;simp [go_sem,H.f.g rfl s2,(b3.k0 H.k).cell];exact (D _ _ H.k (Xu qg).symm trivial)
 ·intro T M P H _ _ D;refine wgt rfl rfl rfl (H.d 6 rfl rfl) (λ qg=>D _ _ H.k (Xq qg).symm trivial) λ qg=>?_;simp [go_sem,H.f.g rfl s3,(b4.k0 H.k).cell];exact (D _ _ H.k (Xu qg).symm trivial)
 ·intro T M P H _ _ D;refine wgt rfl rfl rfl (H.d 6 rfl rfl) (λ qg=>D _ _ H.k (Xq qg).symm trivial) λ qg=>?_;simp [go_sem,(show M.tmps[12]?.getD undef=_ from (H.d 7 rfl rfl).trans (Xu qg)),(show M.tmps[13]?.getD undef=_ from (H.d 8 rfl rfl).trans (Xu qg))];have hBi:=H.k.below0 O;refine (sWithinL_c p q a b P (Jr qg) (and_t2 qg) (hsp.below hBi) (hsq.below hBi)).mono ?_;rintro x wx ⟨rfl,hb⟩;exact (D _ _ (H.k.call hb) (Xu qg).symm trivial)
 ·exact λ T M P H _ _ D=>Zp rfl (ev (H.d 6 rfl rfl)) (λ h=>(ev ((H.d 9 rfl rfl).trans (Xu h))).trans (Jl h)) (λ h=>Jm h) (D _ _ H.k rfl trivial)
 ·exact KE 10 rfl rfl rfl rfl
 intro L a5 w6 U I J K V;replace R:=I.Z R;replace F:=I.E F;have s4:=gS a5 4 (K 11 _ rfl);replace S:=Nat.le_trans S J.size;replace O:=J.below0 O;clear I J K U V s2 s3 b3 b4;refine Xk (wp_ret ?_);refine bodyPost_ret (v:=Bv ((Xb p&&Xb q)&&Yx p q)) (by simp [results,Tryz.results173,go_sem,s4]) F ?_;exact ⟨rfl,O⟩
end Go.Proofs.YtbekjpkcicjcgaaGreat
