/-
 Crossings and corners of valid regions: of the program and of the reference.
 Conditions: valid regions.
-/
import Derived.Deep.RegionHeld3
import Derived.Deep.DeepMust
import Derived.Deep.DeepCutAuto
import Derived.Test.YtbekjpkcicjcgaaGreatGrW
import Derived.Test.YtbekjpkcicjcgaaGreatGrU
set_option maxHeartbeats 4000000
set_option maxRecDepth 100000
namespace Go.Proofs.YtbekjpkcicjcgaaGreat
open Go.RowKit
theorem spotC_one' (t:XH):∀ u∈Kz t,u.oneCell'=true:=by
 intro u hu;simp [Kz] at hu;rcases hu with rfl|rfl|rfl<;>rfl
theorem HOk.in_ {h:Half} (o:HOk h):h.In:=⟨⟨by have:=o.a;omega,by have:=o.a;omega⟩,⟨by have:=o.b;omega,by have:=o.b;omega⟩,⟨by have:=o.c;omega,by have:=o.c;omega⟩⟩
theorem below_cells3 {B:Nat} {a w:World} (h:Below B a w) {g:Nat} (hg:B<=g) {x y z:Value}:Below B a (((w.setCell ⟨g,0,none⟩ x).setCell ⟨g,1,none⟩ y).setCell ⟨g,2,none⟩ z) :=
 ((h.setCell (p:=⟨g,0,none⟩) hg x).setCell (p:=⟨g,1,none⟩) hg y).setCell (p:=⟨g,2,none⟩) hg z
theorem iCrossingOf_c (g h:Half) (s:XH) (w:World) (hg:Xs g=true) (hh:Xs h=true) (hx:0<Xt g h) (hs:Y9 (crX g h) (crY g h) (Kx g h)=some s) :
 Calls Tryz.prog 100 #[YI g,YI h] w λ e w'=>e=.returned (.tuple #[Yu s,.bool true])/\Below w.heap.size w w':=by
 have o1:=Jt hg;have o2:=Jt hh;have B:=crsB o1 o2;have c1:=λ W=>iHalfOk_c g W o1.in_;have c2:=λ W=>iHalfOk_c h W o2.in_;have c3:=λ W=>iCrossing_c g h W o1 o2;have c4:=λ W=>iSpotOf_c (crX g h) (crY g h) (Kx g h) W ⟨by have:=B.x;omega,by have:=B.x;omega⟩ ⟨by have:=B.y;omega,by have:=B.y;omega⟩ ⟨by have:=B.d;omega,by have:=B.d;omega⟩;rw [hg] at c1;rw [hh] at c2;rw [hs] at c4;rw [show (!(Xt g h == 0))=true by simp;omega] at c3;simp only [optSpotV] at c4;clear hs hx B o1 o2 hg hh;generalize crX g h=X at *;generalize crY g h=Y at *;generalize Kx g h=D at *;go_enter Tryz.func100,Tryz.ntmps100
 go_wp2_with (fail)
 refine (c1 _).mono ?_;rintro e w1 ⟨rfl,hb_w1⟩;have r_w1:=XA hb_w1;have l_w1_0:w.heap.size<w1.heap.size:=XM hb_w1;have l_w1_1:w.heap.size+1<w1.heap.size:=XM hb_w1;have l_w1_2:w.heap.size+1+1<w1.heap.size:=XM hb_w1;go_wp2_with (fail)
 refine (c2 _).mono ?_;rintro e w2 ⟨rfl,hb_w2⟩;have r_w2:=XA hb_w2;have l_w2_0:w.heap.size<w2.heap.size:=XM hb_w2;have l_w2_1:w.heap.size+1<w2.heap.size:=XM hb_w2;have l_w2_2:w.heap.size+1+1<w2.heap.size:=XM hb_w2;go_wp2_with (fail)
 refine (c3 _).mono ?_;rintro e w3 ⟨rfl,hb_w3⟩;have r_w3:=XA hb_w3;have l_w3_0:w.heap.size<w3.heap.size:=XM hb_w3;have l_w3_1:w.heap.size+1<w3.heap.size:=XM hb_w3;have l_w3_2:w.heap.size+1+1<w3.heap.size:=XM hb_w3;go_wp2_with (fail)
 refine (c4 _).mono ?_;rintro e w4 ⟨rfl,hb_w4⟩;have r_w4:=XA hb_w4;have l_w4_0:w.heap.size<w4.heap.size:=XM hb_w4;have l_w4_1:w.heap.size+1<w4.heap.size:=XM hb_w4;have l_w4_2:w.heap.size+1+1<w4.heap.size:=XM hb_w4;have H0:Yd (((w.alloc (.cells #[.int .i64 g.a,.int .i64 g.b,.int .i64 g.c] 136)).alloc (.cells #[.int .i64 h.a,.int .i64 h.b,.int .i64 h.c] 136)).alloc (.cells #[.int .i64 0,.int .i64 0,.int .i64 0] 30)) (w.heap.size+1+1) [.int .i64 0,.int .i64 0,.int .i64 0]:=by
  exact ZK
 have H4:=(((H0.below hb_w1).below hb_w2).below hb_w3).below hb_w4;have B4:Below w.heap.size w w4:=by exact Xw
 clear H0 hb_w1 hb_w2 hb_w3 hb_w4 r_w1 r_w2 r_w3 r_w4;obtain ⟨cH4_0,fH4_0⟩:=H4.2 0 _ rfl;obtain ⟨cH4_1,fH4_1⟩:=H4.2 1 _ rfl;obtain ⟨cH4_2,fH4_2⟩:=H4.2 2 _ rfl;go_wp2
 refine bodyPost_ret (v:=.tuple #[.agg #[.int .i64 s.x,.int .i64 s.y,.int .i64 s.d],.bool true]) (by simp [results,Tryz.results100,go_sem,cH4_0,cH4_1,cH4_2]) rfl ⟨rfl, ?_⟩;exact below_cells3 B4 Oz
theorem iCorners_c (p:List Half) (a:Kw) (w:World) (hr:Xc p=true) (hs:Sl 3 Xe w a.A p) :
 Calls Tryz.prog 44 #[Zl p a] w λ e w'=>∃ v,e=.returned v/\XG 30 3 Kz w' w.heap.size v (Xj p)/\Below w.heap.size w w':=by
 obtain ⟨i0,hi0,hz0,hz1,hz2⟩:=info_parts (show (Tryz.prog.info? 30).map (λ i=>(i.zero,i.size,i.bytes))=some (some (.agg #[.int .i64 0,.int .i64 0,.int .i64 0]),3,24) by kernel_rfl);obtain ⟨A,cap⟩:=a;simp only at hs;have hok:=Lib.hid (Zp hr);have hlen:=Y0 hr;have hcn:=Lib.hid (λ i h=>@reg_corner p hr i h);have hct:=Lib.hid (λ k (h:k<p.length)=>show (Xj p).take (k+1)=(Xj p).take k++[crossS (p.getD k Xa) (nxt p k)] by
  rw [Zx _ k (by rw [Y6];exact h),corners_at p k h])
 have hcl:=Y6 p;clear hr;generalize Xj p=C at *;obtain ⟨W,hW⟩:∃ W,W=w.alloc (.cells #[.slice A p.length cap] 26):=⟨_,rfl⟩;have HB:Yd W w.heap.size [.slice A p.length cap]:=hW ▸ Yd.new w #[.slice A p.length cap] 26;have b0:Below w.heap.size w W:=hW ▸ Xb (Below.refl w.heap.size w) _;have hlw:w.heap.size<W.heap.size:=HB.1;have hW':=Lib.hid hW;have hs0:=hs.below b0;clear hW hs;go_enter Tryz.func44,Tryz.ntmps44
 go_upto_region 1 with fail
 rw [<- hW'.out];clear hW';obtain ⟨cHB_0,fHB_0⟩:=HB.2 0 _ rfl;go_wp2
 go_loopw [3,4,5,6,7,11] (λ v _ _ _ _ i wr=>∃ k:Nat,k<=p.length/\i=.int .i64 k/\XG 30 3 Kz wr W.heap.size v (C.take k)/\Below W.heap.size W wr) (λ _ _ _ _ _ i _=>p.length-(intOf i).toNat)
 case atStart=>exact ⟨0,Nat.zero_le _,rfl,⟨none,0,rfl,World.ownsRow_nil _ _ _ _⟩,Below.refl _ _⟩
 case round =>
  obtain ⟨k,hk,rfl,N,hbr⟩:=hrel;by_cases hlt:k<p.length
  ·have H1:=HB.below hbr;have hS:=hs0.below hbr;have hm:(k+1) % p.length<p.length:=Nat.mod_lt _ Oz;obtain ⟨b,off,hA,hblt,hc⟩:=hS.at_ hlt;obtain ⟨b',off',hA',_,hc'⟩:=hS.at_ hm;rw [hA] at hA';cases hA';subst hA;have g0:=hc 0 _ rfl;have g1:=hc 1 _ rfl;have g2:=hc 2 _ rfl;have d0:=hc' 0 _ rfl;have d1:=hc' 1 _ rfl;have d2:=hc' 2 _ rfl;simp only [Nat.add_zero] at g0 d0;have hgk:=Z9 hlt;have hgn:nxt p k=p[(k+1) % p.length]:=Z9 hm;rw [<- hgk] at g0 g1 g2;rw [<- hgn] at d0 d1 d2;have cn:=hcn.out k hlt;have c1:=λ W=>iCrossingOf_c _ _ _ W (hok.out _ (ZA hlt)) (hok.out _ (nxt_mem hlt)) cn.turn cn.sp;have ht:=Lib.hid (hct.out k hlt);clear hc hc' hgk hgn cn;generalize p.getD k Xa=h at *;generalize nxt p k=h' at *;generalize crossS h h'=s at *;have i1:(k:Int)<(p.length:Int):=Oz
   have i2:(0:Int)<=(k:Int):=Oz
   have ie:(((k:Int)+1).tmod (p.length:Int))=(((k+1) % p.length:Nat):Int):=by
    rw [Int.tmod_eq_emod_of_nonneg Oz];rfl
   have i3:(0:Int)<=(((k+1) % p.length:Nat):Int):=Oz
   have i4:(((k+1) % p.length:Nat):Int)<(p.length:Int):=Oz
   have ne:¬ ((p.length:Int)=0):=Oz
   have ne2:¬ (p.length=0):=Oz
   have ne3:¬ (p=[]):=λ e=>ne2 (by rw [e];rfl);have wk:IntKind.i64.wrap ((k:Int)+1)=(k:Int)+1:=IntWalk.i64_in _ (by omega);have wm:IntKind.i64.wrap (((k+1) % p.length:Nat):Int)=(((k+1) % p.length:Nat):Int):=IntWalk.i64_in _ (by omega);generalize (k+1) % p.length=m at *;obtain ⟨cH1_0,fH1_0⟩:=H1.2 0 _ rfl;have l1:=H1.1;go_upto_region 5 with fail
   have HX:=Yd.new wr #[.int .i64 h.a,.int .i64 h.b,.int .i64 h.c] 136;have H1x:=H1.alloc (.cells #[.int .i64 h.a,.int .i64 h.b,.int .i64 h.c] 136);have Nx:=N.alloc (.cells #[.int .i64 h.a,.int .i64 h.b,.int .i64 h.c] 136);have bwa:=Xb (Below.refl wr.heap.size wr) (.cells #[.int .i64 h.a,.int .i64 h.b,.int .i64 h.c] 136);have hbx:=hbr.trans (bwa.mono hbr.size);have d0':=(XA bwa b _ hblt).trans d0;have d1':=(XA bwa b _ hblt).trans d1;have d2':=(XA bwa b _ hblt).trans d2;have hb3:=blt bwa hblt;clear cH1_0 fH1_0 l1;generalize wr.alloc (.cells #[.int .i64 h.a,.int .i64 h.b,.int .i64 h.c] 136)=wa at *;clear d0 d1 d2 bwa g0 g1 g2 hblt H1 hS N hbr;generalize wr.heap.size=gx at *;obtain ⟨cHX_0,fHX_0⟩:=HX.2 0 _ rfl;obtain ⟨cHX_1,fHX_1⟩:=HX.2 1 _ rfl;obtain ⟨cHX_2,fHX_2⟩:=HX.2 2 _ rfl;obtain ⟨cH1x_0,fH1x_0⟩:=H1x.2 0 _ rfl;have lX:=HX.1;have l1:=H1x.1;go_cut [4,6] (λ x4 x6 wx=>∃ W' g,W'=wx/\x4=.int .i64 k/\x6=.pointer (some ⟨g,0,none⟩)/\wa.heap.size<=g/\Yd wx g [.int .i64 s.x,.int .i64 s.y,.int .i64 s.d]/\Below wa.heap.size wa wx)
   case first =>
    go_region_held3 (λ w'=>(∀ b o,b<wa.heap.size->w'.cell? ⟨b,o,none⟩=wa.cell? ⟨b,o,none⟩)/\wa.heap.size<=w'.heap.size) (first|exact ⟨λ _ _ _=>rfl,by simp⟩|exact YD (by assumption) (by assumption)|(repeat (first|(with_reducible assumption)|(with_reducible refine Zu _ ?_)|(with_reducible refine Zv ?_)|(with_reducible refine YW ?_ _)|(with_reducible refine Kf ?_ ?_ _)|(focus (simp;done))|(focus (simp;omega))|(focus omega))))
     (first|(go_at_call 100;go_must (refine (c1 _).mono ?_;rintro e w5 ⟨rfl,hb5⟩;have r5:=XA hb5;have f5:=(bcell hb5).2;have Q5:=YD (by assumption) hb5;have q5:=Q5.2;have z5:=hb5.size;(try simp only [World.size_drew] at z5);(try simp only [World.size_alloc] at z5);(try have y5:=Nat.lt_of_succ_le z5))))
    all_goals
     go_wp2_with fail
     go_meet
     refine ⟨_,_,rfl,rfl,rfl, ?_, ?_, ?_⟩
     ·first|omega|(simp;omega)
     ·repeat (first|((with_reducible exact Yd.new _ _ _))|(refine Yd.stored (vs:=[.int .i64 0,.int .i64 0,.int .i64 0]) ?_ [_,_,_] rfl)|(with_reducible refine Yd.drew ?_)|((with_reducible refine Yd.new_at ?_ _ _ rfl);(first|rfl|(focus (simp;done))))|(with_reducible refine Yd.set_ ?_ ?_ _)|(with_reducible refine Yd.alloc ?_ _)|(with_reducible refine Yd.below ?_ (by assumption))|(focus (simp;done))|(focus (simp;omega))|(focus omega))
     ·exact Xw
   case rest =>
    obtain ⟨wx,g,rfl,rfl,rfl,hg,HS,hb6⟩:=hcut;have N6:=Nx.below hb6 Xy;have hby:Below W.heap.size W wx:=hbx.trans (hb6.mono hbx.size);have lS:=HS.1;have hle:W.heap.size<=wx.heap.size:=hby.size;have hcm:(C.take k).length<=1073741823:=by rw [List.length_take];omega
    clear Nx hb6 H1x HX hbx cHX_0 cHX_1 cHX_2 fHX_0 fHX_1 fHX_2 cH1x_0 fH1x_0 d0' d1' d2' c1;obtain ⟨cHS_0,fHS_0⟩:=HS.2 0 _ rfl;obtain ⟨cHS_1,fHS_1⟩:=HS.2 1 _ rfl;obtain ⟨cHS_2,fHS_2⟩:=HS.2 2 _ rfl;go_wp2_with (at_builtin;refine KV Jf _ rfl _ _ 42 rfl W.heap.size i0 _ 24 Tryz.underlying42 hi0 hz0 hz1 hz2 rfl (by decide) rfl (N6.alloc _) _ 1 rfl s ?c1 (spotC_one' s) bR (by simp;omega) hcm (by decide) ?_)
    case c1 =>
     intro q u hu;rw [Addr.add_lit,Nat.zero_add];exact ((Yd.new_at Sz #[.int .i64 s.x,.int .i64 s.y,.int .i64 s.d] _ rfl).2 q u hu).1
    ·intro v7 w7 hn7 hb7;have hb8:Below W.heap.size W w7:=(hby.alloc hle (.cells #[.int .i64 s.x,.int .i64 s.y,.int .i64 s.d] 30)).trans hb7;clear hb7 hby N6 HS cHS_0 cHS_1 cHS_2 fHS_0 fHS_1 fHS_2;go_wp2
     go_roundw
     case rel=>exact ⟨k+1,by omega,by go_num,by rw [ht.out];exact hn7,hb8⟩
     case measure=>simp [intOf];omega
  ·obtain rfl:k=p.length:=Oz
   rw [List.take_of_length_le (by omega)] at N;have hB:Below w.heap.size w wr:=b0.trans (hbr.mono b0.size);have hle:w.heap.size<=W.heap.size:=b0.size;clear hbr HB b0;go_wp2
   go_ret
   exact ⟨_,rfl,N.mono hle,hB⟩
def valS (h:Half) (s:XH):Int:=h.a*s.x+h.b*s.y-h.c*s.d
def holdsH (s:XH) (h:Half):Bool:=decide (valS h s<=0)
def YL (p:List Half) (s:XH):Bool:=!decide (p.length=0)&&p.all (holdsH s)
def Zs (p q:List Half):Bool:=(Xj p).all (YL q)
theorem holds_no {p:List Half} {s:XH} {k:Nat} (h:k<p.length) (hb:0<sgn (valS p[k] s)):YL p s=false:=by
 unfold YL;have:p.all (holdsH s)=false:=by
  rw [List.all_eq_false];refine ⟨p[k],List.getElem_mem h, ?_⟩;unfold holdsH;have:¬ valS p[k] s<=0:=λ h2=>by have:=sgn_le.2 h2;omega
  rw [decide_eq_false this];decide
 rw [this,Bool.and_false]
theorem holds_step {p:List Half} {s:XH} {k:Nat} (h:k<p.length) (h1:(p.take k).all (holdsH s)=true) (hb:¬ 0<sgn (valS p[k] s)):(p.take (k+1)).all (holdsH s)=true:=by
 rw [List.take_add_one,List.getElem?_eq_getElem h,List.all_append,h1];have:valS p[k] s<=0:=sgn_le.1 Oz;simp [holdsH,this]
theorem valS_bd {h:Half} {s:XH} (hh:Xs h=true) (hs:Xo s=true):(-250000000000000000<=h.a*s.x/\h.a*s.x<=250000000000000000)/\(-250000000000000000<=h.b*s.y/\h.b*s.y<=250000000000000000)/\(-500000000000000000<=h.c*s.d/\h.c*s.d<=500000000000000000):=by
 obtain ⟨h1,h2,h3,_⟩:=ZF.1 hs;obtain ⟨a1,a2,a3,_⟩:=Zk.1 hh;have p:=JE (a:=h.a) (b:=s.x) (A:=50000) (B:=5000000000000) ⟨Oz,Oz⟩ ⟨Oz,Oz⟩;have q:=JE (a:=h.b) (b:=s.y) (A:=50000) (B:=5000000000000) ⟨Oz,Oz⟩ ⟨Oz,Oz⟩;have r:=JE (a:=h.c) (b:=s.d) (A:=100000000) (B:=5000000000) ⟨Oz,Oz⟩ ⟨Oz,Oz⟩;exact ⟨⟨Oz,Oz⟩,⟨Oz,Oz⟩,⟨Oz,Oz⟩⟩
theorem spot_In {s:XH} (hs:Xo s=true):s.In:=by
 obtain ⟨h1,h2,h3,_⟩:=ZF.1 hs;exact ⟨⟨Oz,Oz⟩,⟨Oz,Oz⟩,⟨Oz,Oz⟩⟩
theorem iSignOf_c (n:Int) (w:World) :
 Calls Tryz.prog 147 #[.int .i64 n] w λ e w'=>e=.returned (.int .i64 (sgn n))/\Below w.heap.size w w':=by
 rcases (show n<0∨n=0∨0<n by omega) with h|h|h
 ·rw [sgn_of_neg h];go_enter Tryz.func147,Tryz.ntmps147
  go_wp2
  go_ret
  refine ⟨rfl, ?_⟩;exact Xw
 ·subst h;rw [sgn_zero];go_enter Tryz.func147,Tryz.ntmps147
  go_wp2
  go_ret
  refine ⟨rfl, ?_⟩;exact Xw
 ·rw [sgn_of_pos h];go_enter Tryz.func147,Tryz.ntmps147
  go_wp2
  go_ret
  refine ⟨rfl, ?_⟩;exact Xw
theorem iSideOf_c (h:Half) (s:XH) (w:World) (hh:Xs h=true) (hs:Xo s=true) :
 Calls Tryz.prog 101 #[YI h,Yu s] w λ e w'=>e=.returned (.int .i64 (sgn (valS h s)))/\Below w.heap.size w w':=by
 have k1:=λ W=>iHalfOk_c h W (hIn (Jt hh));have k2:=λ W=>iSpotOk_c s W (spot_In hs);have k3:=λ W=>iSignOf_c (valS h s) W;obtain ⟨⟨b1,b2⟩,⟨b3,b4⟩,⟨b5,b6⟩⟩:=valS_bd hh hs;rw [hh] at k1;rw [hs] at k2;clear hh hs;change ∀ W,Calls _ _ #[.int .i64 (h.a*s.x+h.b*s.y-h.c*s.d)] W _ at k3
 generalize sgn (valS h s)=v at *;go_enter Tryz.func101,Tryz.ntmps101
 go_wp2_with (fail)
 refine (k1 _).mono ?_;rintro e w3 ⟨rfl,hb_w3⟩;have r_w3:=XA hb_w3;have l_w3_0:w.heap.size<w3.heap.size:=XM hb_w3;have l_w3_1:w.heap.size+1<w3.heap.size:=XM hb_w3;go_wp2_with (fail)
 refine (k2 _).mono ?_;rintro e w4 ⟨rfl,hb_w4⟩;have r_w4:=XA hb_w4;have l_w4_0:w.heap.size<w4.heap.size:=XM hb_w4;have l_w4_1:w.heap.size+1<w4.heap.size:=XM hb_w4;go_wp2_with (fail)
 refine (k3 _).mono ?_;rintro e w5 ⟨rfl,hb_w5⟩;have r_w5:=XA hb_w5;have l_w5_0:w.heap.size<w5.heap.size:=XM hb_w5;have l_w5_1:w.heap.size+1<w5.heap.size:=XM hb_w5;go_wp2
 go_ret
 refine ⟨rfl, ?_⟩;exact Xw
theorem iHolds_c (p:List Half) (a:Kw) (s:XH) (w:World) (hl:p.length<=1000000) (hok:∀ h∈p,Xs h=true) (hs:Xo s=true) (hsl:Sl 3 Xe w a.A p) :
 Calls Tryz.prog 46 #[Zl p a,Yu s] w λ e w'=>e=.returned (.bool (YL p s))/\Below w.heap.size w w':=by
 obtain ⟨A,cap⟩:=a;simp only at hsl;obtain ⟨W,hW⟩:∃ W,W=(w.alloc (.cells #[.slice A p.length cap] 26)).alloc (.cells #[.int .i64 s.x,.int .i64 s.y,.int .i64 s.d] 30):=⟨_,rfl⟩;have HA:Yd W w.heap.size [.slice A p.length cap]:=by rw [hW];exact ZK
 have HB:Yd W (w.heap.size+1) [.int .i64 s.x,.int .i64 s.y,.int .i64 s.d]:=by rw [hW];exact ZK
 have b0:Below w.heap.size w W:=by rw [hW];exact Xw
 have hs0:=hsl.below b0;have hW':=Lib.hid hW;have hok':=Lib.hid hok;clear hW hsl hok;go_enter Tryz.func46,Tryz.ntmps46
 go_upto_region 1 with fail
 rw [<- hW'.out];clear hW';obtain ⟨cHA_0,fHA_0⟩:=HA.2 0 _ rfl;go_wp2
 go_loopw [6,10] (λ _ i wr=>∃ k:Nat,k<=p.length/\i=.int .i64 k/\(p.take k).all (holdsH s)=true/\Below W.heap.size W wr) (λ _ i _=>p.length-(intOf i).toNat)
 case atStart=>exact ⟨0,Nat.zero_le _,rfl,rfl,Below.refl _ _⟩
 case round =>
  obtain ⟨k,hk,rfl,hall,hbw⟩:=hrel;have H1:=HA.below hbw;have H2:=HB.below hbw;have hS:=hs0.below hbw;have bw:=b0.trans (hbw.mono b0.size);by_cases hlt:k<p.length
  ·obtain ⟨b,off,hA,hblt,hc⟩:=hS.at_ hlt;have g0:=hc 0 _ rfl;have g1:=hc 1 _ rfl;have g2:=hc 2 _ rfl;simp only [Nat.add_zero] at g0;subst hA;have c1:=λ W=>iSideOf_c p[k] s W (hok'.out _ (List.getElem_mem hlt)) hs;have hn:=Lib.hid (λ h=>@holds_no p s k hlt h);have hy:=Lib.hid (λ h=>@holds_step p s k hlt hall h);clear hc hall;generalize sgn (valS p[k] s)=sg at *;generalize p[k]=h at *;have H1x:=H1.alloc (.cells #[.int .i64 h.a,.int .i64 h.b,.int .i64 h.c] 136);have H2x:=H2.alloc (.cells #[.int .i64 h.a,.int .i64 h.b,.int .i64 h.c] 136);have bx:=hbw.alloc hbw.size (.cells #[.int .i64 h.a,.int .i64 h.b,.int .i64 h.c] 136);obtain ⟨cH2x_0,fH2x_0⟩:=H2x.2 0 _ rfl;obtain ⟨cH2x_1,fH2x_1⟩:=H2x.2 1 _ rfl;obtain ⟨cH2x_2,fH2x_2⟩:=H2x.2 2 _ rfl;have l2:=H2x.1;have e20:wr.cell? ⟨w.heap.size+1,0,none⟩=some (.int .i64 s.x):=(H2.2 0 _ rfl).1;have e21:wr.cell? ⟨w.heap.size+1,1,none⟩=some (.int .i64 s.y):=(H2.2 1 _ rfl).1;have e22:wr.cell? ⟨w.heap.size+1,2,none⟩=some (.int .i64 s.d):=(H2.2 2 _ rfl).1;have lr:=H2.1;by_cases hp:0<sg
   ·have hv:=Lib.hid (hn.out hp);go_wp2_with (fail)
    refine (c1 _).mono ?_;rintro e w3 ⟨rfl,hb3⟩;go_wp2
    go_ret
    exact ⟨by rw [hv.out];rfl,b0.trans ((Xf bx hb3).mono b0.size)⟩
   ·have hv:=Lib.hid (hy.out hp);go_wp2_with (fail)
    refine (c1 _).mono ?_;rintro e w3 ⟨rfl,hb3⟩;go_wp2
    go_roundw
    case rel=>exact ⟨k+1,by omega,by go_num,hv.out,Xf bx hb3⟩
    case measure=>simp [intOf];omega
  ·obtain rfl:k=p.length:=Oz
   rw [List.take_length] at hall;have hv:=Lib.hid (show YL p s = !decide (p.length=0) by unfold YL;rw [hall,Bool.and_true]);have cv:=λ W=>ZW p ⟨A,cap⟩ W;obtain ⟨cH1_0,fH1_0⟩:=H1.2 0 _ rfl;have l1:=H1.1;generalize decide (p.length=0)=vd at *;clear hall hs0 hS;go_wp2_with (fail)
   refine (cv _).mono ?_;rintro e w3 ⟨rfl,hb3⟩;go_wp2
   go_ret
   exact ⟨by rw [hv.out];rfl,Xf bw hb3⟩
theorem within_no {C:List XH} {q:List Half} {k:Nat} (h:k<C.length) (hb:YL q C[k]=false):C.all (YL q)=false:=by
 rw [List.all_eq_false];exact ⟨_,List.getElem_mem h,by rw [hb];decide⟩
theorem within_step {C:List XH} {q:List Half} {k:Nat} (h:k<C.length) (h1:(C.take k).all (YL q)=true) (hb:YL q C[k]=true):(C.take (k+1)).all (YL q)=true:=by
 rw [List.take_add_one,List.getElem?_eq_getElem h,List.all_append,h1];simp [hb]
theorem iWithin_c (p q:List Half) (a b:Kw) (w:World) (hp:Xc p=true) (hq:Xc q=true) (hsp:Sl 3 Xe w a.A p) (hsq:Sl 3 Xe w b.A q) :
 Calls Tryz.prog 42 #[Zl p a,Zl q b] w λ e w'=>e=.returned (.bool (Zs p q))/\Below w.heap.size w w':=by
 have hdef:=Lib.hid (show Zs p q=(Xj p).all (YL q) from rfl);have hlp:=Y0 hp;have hlq:=Y0 hq;have hcl:(Xj p).length<=40:=by rw [Y6];exact hlp
 have hco:=Lib.hid (corners_ok hp);obtain ⟨W,hW⟩:∃ W,W=(w.alloc (.cells #[.slice a.A p.length a.c] 26)).alloc (.cells #[.slice b.A q.length b.c] 26):=⟨_,rfl⟩;have HA:Yd W w.heap.size [.slice a.A p.length a.c]:=by rw [hW];exact ZK
 have HB:Yd W (w.heap.size+1) [.slice b.A q.length b.c]:=by rw [hW];exact ZK
 have b0:Below w.heap.size w W:=by rw [hW];exact Xw
 have sp:=hsp.below b0;have sq:=hsq.below b0;have hW':=Lib.hid hW;have kc:=iCorners_c p a W hp sp;clear hW hsp hsq;obtain ⟨cHA_0,fHA_0⟩:=HA.2 0 _ rfl;have lA:=HA.1;generalize Xj p=C at *;go_enter Tryz.func42,Tryz.ntmps42
 go_upto_region 1 with fail
 rw [<- hW'.out];clear hW';go_wp2_with (fail)
 refine kc.mono ?_;rintro e w1 ⟨v,rfl,N,hb1⟩;obtain ⟨Ac,cc,rfl,SC⟩:=N.sl Jf;have HB1:=HB.below hb1;have SQ:=sq.below hb1;have b1:=Xf b0 hb1;clear N HA HB sp sq hb1 cHA_0 fHA_0 lA kc b0;go_wp2
 go_loopw [6,10] (λ _ i wr=>∃ k:Nat,k<=C.length/\i=.int .i64 k/\(C.take k).all (YL q)=true/\Below w1.heap.size w1 wr) (λ _ i _=>C.length-(intOf i).toNat)
 case atStart=>exact ⟨0,Nat.zero_le _,rfl,rfl,Below.refl _ _⟩
 case round =>
  obtain ⟨k,hk,rfl,hall,hbw⟩:=hrel;have bw:=b1.trans (hbw.mono b1.size);by_cases hlt:k<C.length
  ·obtain ⟨bb,off,rfl,hblt,hc⟩:=(SC.below hbw).at_ hlt;have g0:=hc 0 _ rfl;have g1:=hc 1 _ rfl;have g2:=hc 2 _ rfl;simp only [Nat.add_zero] at g0;have c1:=λ W h=>iHolds_c q b C[k] W (by omega) (Zp hq) (hco.out _ (List.getElem_mem hlt)) h;have hn:=Lib.hid (λ h=>@within_no C q k hlt h);have hy:=Lib.hid (λ h=>@within_step C q k hlt hall h);clear hc hall;generalize YL q C[k]=hv at *;generalize C[k]=s at *;have H1x:=(HB1.below hbw).alloc (.cells #[.int .i64 s.x,.int .i64 s.y,.int .i64 s.d] 30);have SQx:=(SQ.below hbw).alloc (.cells #[.int .i64 s.x,.int .i64 s.y,.int .i64 s.d] 30);have bx:=hbw.alloc hbw.size (.cells #[.int .i64 s.x,.int .i64 s.y,.int .i64 s.d] 30);have TX:=Yd.new wr #[.int .i64 s.x,.int .i64 s.y,.int .i64 s.d] 30;go_upto_region 4 with fail
   clear g0 g1 g2 hblt;generalize wr.alloc (.cells #[.int .i64 s.x,.int .i64 s.y,.int .i64 s.d] 30)=wx at *;generalize wr.heap.size=gx at *;obtain ⟨cH1x_0,fH1x_0⟩:=H1x.2 0 _ rfl;obtain ⟨cTX_0,fTX_0⟩:=TX.2 0 _ rfl;obtain ⟨cTX_1,fTX_1⟩:=TX.2 1 _ rfl;obtain ⟨cTX_2,fTX_2⟩:=TX.2 2 _ rfl;have l1:=H1x.1;have lx:=TX.1;cases hv
   ·have hv:=Lib.hid (hn.out rfl);go_wp2_with (fail)
    refine (c1 _ SQx).mono ?_;rintro e w3 ⟨rfl,hb3⟩;go_wp2
    go_ret
    exact ⟨by rw [hdef.out,hv.out];rfl,b1.trans ((Xf bx hb3).mono b1.size)⟩
   ·have hv:=Lib.hid (hy.out rfl);go_wp2_with (fail)
    refine (c1 _ SQx).mono ?_;rintro e w3 ⟨rfl,hb3⟩;go_wp2
    go_roundw
    case rel=>exact ⟨k+1,by omega,by go_num,hv.out,Xf bx hb3⟩
    case measure=>simp [intOf];omega
  ·obtain rfl:k=C.length:=Oz
   rw [List.take_length] at hall;have hv:=Lib.hid hall;clear hall;go_wp2
   go_ret
   exact ⟨by rw [hdef.out,hv.out];rfl,bw⟩
theorem getD_el {α:Type} {l:List α} {k:Nat} (h:k<l.length) (d:α):l.getD k d=l[k]:=by rw [List.getD_eq_getElem?_getD,List.getElem?_eq_getElem h,Option.getD_some]
theorem within_next {C:List XH} {q:List Half} {k:Nat} (h:k<C.length) (h1:(C.take k).all (YL q)=true) (hb:YL q (C.getD k Yi)=true):(C.take (k+1)).all (YL q)=true:=by
 rw [getD_el h] at hb;exact within_step h h1 hb
theorem getD_mem {α:Type} {l:List α} {k:Nat} (h:k<l.length) (d:α):l.getD k d∈l:=by rw [getD_el h];exact List.getElem_mem h
end Go.Proofs.YtbekjpkcicjcgaaGreat
