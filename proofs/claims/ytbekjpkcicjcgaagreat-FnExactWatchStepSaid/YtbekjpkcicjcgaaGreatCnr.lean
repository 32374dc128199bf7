/-
 Crossings and corners of valid regions: of the program and of the reference.
 Conditions: valid regions.
-/
import Derived.Test.YtbekjpkcicjcgaaGreatGrR
import Derived.Test.YtbekjpkcicjcgaaGreatGrX
import Derived.Deep.RegionHeld3
import Derived.Deep.DeepMust
import Derived.Deep.DeepCutAuto
set_option maxHeartbeats 4000000
set_option maxRecDepth 100000
namespace Go.Proofs.YtbekjpkcicjcgaaGreat
open Go.RowKit
theorem spotC_one' (t:X9):∀ u∈spotC t,u.oneCell'=true:=by
 intro u hu;simp [spotC] at hu;rcases hu with rfl|rfl|rfl<;>rfl
theorem HOk.in_ {h:Half} (o:HOk h):h.In:=⟨⟨by have:=o.a;omega,by have:=o.a;omega⟩,⟨by have:=o.b;omega,by have:=o.b;omega⟩,⟨by have:=o.c;omega,by have:=o.c;omega⟩⟩
theorem KC {B:Nat} {a w:World} (h:Below B a w) {g:Nat} (hg:B<=g) {x y z:Value}:Below B a (((w.setCell ⟨g,0,none⟩ x).setCell ⟨g,1,none⟩ y).setCell ⟨g,2,none⟩ z) :=
 ((h.setCell (p:=⟨g,0,none⟩) hg x).setCell (p:=⟨g,1,none⟩) hg y).setCell (p:=⟨g,2,none⟩) hg z
theorem iCrossingOf_c (g h:Half) (s:X9) (w:World) (hg:Xt g=true) (hh:Xt h=true) (hx:0<XC g h) (hs:Zd (JR g h) (JQ g h) (Z7 g h)=some s) :
 Calls Tryz.prog 100 #[X3 g,X3 h] w λ e w'=>e=.returned (.tuple #[YK s,.bool true])/\Below w.heap.size w w':=by
 have o1:=KS hg;have o2:=KS hh;have B:=crsB o1 o2;have c1:=λ W=>JD g W o1.in_;have c2:=λ W=>JD h W o2.in_;have c3:=λ W=>iCrossing_c g h W o1 o2;have c4:=λ W=>iSpotOf_c (JR g h) (JQ g h) (Z7 g h) W ⟨by have:=B.x;omega,by have:=B.x;omega⟩ ⟨by have:=B.y;omega,by have:=B.y;omega⟩ ⟨by have:=B.d;omega,by have:=B.d;omega⟩;rw [hg] at c1;rw [hh] at c2;rw [hs] at c4;rw [show (!(XC g h == 0))=true by simp;omega] at c3;simp only [optSpotV] at c4;clear hs hx B o1 o2 hg hh;generalize JR g h=X at *;generalize JQ g h=Y at *;generalize Z7 g h=D at *;go_enter Tryz.func100,Tryz.ntmps100
 go_wp2_with (fail)
 refine (c1 _).mono ?_;rintro e w1 ⟨rfl,hb_w1⟩;have r_w1:=Xh hb_w1;have l_w1_0:w.heap.size<w1.heap.size:=Xo hb_w1;have l_w1_1:w.heap.size+1<w1.heap.size:=Xo hb_w1;have l_w1_2:w.heap.size+1+1<w1.heap.size:=Xo hb_w1;go_wp2_with (fail)
 refine (c2 _).mono ?_;rintro e w2 ⟨rfl,hb_w2⟩;have r_w2:=Xh hb_w2;have l_w2_0:w.heap.size<w2.heap.size:=Xo hb_w2;have l_w2_1:w.heap.size+1<w2.heap.size:=Xo hb_w2;have l_w2_2:w.heap.size+1+1<w2.heap.size:=Xo hb_w2;go_wp2_with (fail)
 refine (c3 _).mono ?_;rintro e w3 ⟨rfl,hb_w3⟩;have r_w3:=Xh hb_w3;have l_w3_0:w.heap.size<w3.heap.size:=Xo hb_w3;have l_w3_1:w.heap.size+1<w3.heap.size:=Xo hb_w3;have l_w3_2:w.heap.size+1+1<w3.heap.size:=Xo hb_w3;go_wp2_with (fail)
 refine (c4 _).mono ?_;rintro e w4 ⟨rfl,hb_w4⟩;have r_w4:=Xh hb_w4;have l_w4_0:w.heap.size<w4.heap.size:=Xo hb_w4;have l_w4_1:w.heap.size+1<w4.heap.size:=Xo hb_w4;have l_w4_2:w.heap.size+1+1<w4.heap.size:=Xo hb_w4;have H0:XV (((w.alloc (.cells #[.int .i64 g.a,.int .i64 g.b,.int .i64 g.c] 136)).alloc (.cells #[.int .i64 h.a,.int .i64 h.b,.int .i64 h.c] 136)).alloc (.cells #[.int .i64 0,.int .i64 0,.int .i64 0] 30)) (w.heap.size+1+1) [.int .i64 0,.int .i64 0,.int .i64 0]:=by
  exact Ys
 have H4:=(((H0.below hb_w1).below hb_w2).below hb_w3).below hb_w4;have B4:Below w.heap.size w w4:=by exact Xl
 clear H0 hb_w1 hb_w2 hb_w3 hb_w4 r_w1 r_w2 r_w3 r_w4;obtain ⟨cH4_0,fH4_0⟩:=H4.2 0 _ rfl;obtain ⟨cH4_1,fH4_1⟩:=H4.2 1 _ rfl;obtain ⟨cH4_2,fH4_2⟩:=H4.2 2 _ rfl;go_wp2
 refine bodyPost_ret (v:=.tuple #[.agg #[.int .i64 s.x,.int .i64 s.y,.int .i64 s.d],.bool true]) (by simp [results,Tryz.results100,go_sem,cH4_0,cH4_1,cH4_2]) rfl ⟨rfl, ?_⟩;exact KC B4 Oz
theorem sCrossL_c (g h:Half) (s:X9) (w:World) (hg:Xt g=true) (hh:Xt h=true) (hx:0<XC g h) (hs:Zd (JR g h) (JQ g h) (Z7 g h)=some s) :
 Calls Tryz.prog 213 #[X3 g,X3 h] w λ e w'=>e=.returned (.tuple #[YK s,.bool true])/\Below w.heap.size w w':=by
 have o1:=KS hg;have o2:=KS hh;obtain ⟨⟨a1,a2⟩,⟨b1,b2⟩,⟨d1,d2⟩,⟨e1,e2⟩⟩:=xyB o1 o2;obtain ⟨q1,q2⟩:=crs_bd o1 o2;have B:=crsB o1 o2;have c4:=λ W=>sSpotOf_c (JR g h) (JQ g h) (Z7 g h) W ⟨by have:=B.x;omega,by have:=B.x;omega⟩ ⟨by have:=B.y;omega,by have:=B.y;omega⟩ ⟨by have:=B.d;omega,by have:=B.d;omega⟩;rw [hs] at c4;simp only [optSpotV] at c4;have hd:Z7 g h=g.a*h.b-h.a*g.b:=by
  unfold Z7;rw [if_neg Oz];unfold XC;rw [Int.mul_comm g.b]
 have hX:JR g h=g.c*h.b-h.c*g.b:=by unfold JR;rw [if_neg Oz]
 have hY:JQ g h=g.a*h.c-h.a*g.c:=by unfold JQ;rw [if_neg Oz]
 have hx':0<g.a*h.b-h.a*g.b:=by unfold XC at hx;rw [Int.mul_comm h.a];exact hx
 have u1:=Zr (a:=g.a) (b:=h.b) (A:=50000) (B:=50000) o1.a o2.b;have u2:=Zr (a:=h.a) (b:=g.b) (A:=50000) (B:=50000) o2.a o1.b;rw [hd,hX,hY] at c4;clear hs hx B o1 o2 hg hh hd hX hY q1 q2;go_enter Tryz.func213,Tryz.ntmps213
 go_wp2_with (fail)
 refine (c4 _).mono ?_;rintro e w4 ⟨rfl,hb_w4⟩;have r_w4:=Xh hb_w4;have l_w4_0:w.heap.size<w4.heap.size:=Xo hb_w4;have l_w4_1:w.heap.size+1<w4.heap.size:=Xo hb_w4;have l_w4_2:w.heap.size+1+1<w4.heap.size:=Xo hb_w4;have H0:XV (((w.alloc (.cells #[.int .i64 g.a,.int .i64 g.b,.int .i64 g.c] 136)).alloc (.cells #[.int .i64 h.a,.int .i64 h.b,.int .i64 h.c] 136)).alloc (.cells #[.int .i64 0,.int .i64 0,.int .i64 0] 30)) (w.heap.size+1+1) [.int .i64 0,.int .i64 0,.int .i64 0]:=by
  exact Ys
 have H4:=H0.below hb_w4;have B4:Below w.heap.size w w4:=by exact Xl
 clear H0 hb_w4 r_w4;obtain ⟨cH4_0,fH4_0⟩:=H4.2 0 _ rfl;obtain ⟨cH4_1,fH4_1⟩:=H4.2 1 _ rfl;obtain ⟨cH4_2,fH4_2⟩:=H4.2 2 _ rfl;go_wp2
 refine bodyPost_ret (v:=.tuple #[.agg #[.int .i64 s.x,.int .i64 s.y,.int .i64 s.d],.bool true]) (by simp [results,Tryz.results213,go_sem,cH4_0,cH4_1,cH4_2]) rfl ⟨rfl, ?_⟩;exact KC B4 Oz
theorem iCorners_c (p:List Half) (a:Zi) (w:World) (hr:Xb p=true) (hs:Sl 3 Xd w a.A p) :
 Calls Tryz.prog 44 #[Yi p a] w λ e w'=>∃ v,e=.returned v/\XI 30 3 spotC w' w.heap.size v (XN p)/\Below w.heap.size w w':=by
 obtain ⟨i0,hi0,hz0,hz1,hz2⟩:=info_parts (show (Tryz.prog.info? 30).map (λ i=>(i.zero,i.size,i.bytes))=some (some (.agg #[.int .i64 0,.int .i64 0,.int .i64 0]),3,24) by kernel_rfl);obtain ⟨A,cap⟩:=a;simp only at hs;have hok:=Lib.hid (Jb hr);have hlen:=Zt hr;have hcn:=Lib.hid (λ i h=>@reg_corner p hr i h);have hct:=Lib.hid (λ k (h:k<p.length)=>show (XN p).take (k+1)=(XN p).take k++[crossS (p.getD k Xa) (nxt p k)] by
  rw [Zj _ k (by rw [Zo];exact h),corners_at p k h])
 have hcl:=Zo p;clear hr;generalize XN p=C at *;obtain ⟨W,hW⟩:∃ W,W=w.alloc (.cells #[.slice A p.length cap] 26):=⟨_,rfl⟩;have HB:XV W w.heap.size [.slice A p.length cap]:=hW ▸ XV.new w #[.slice A p.length cap] 26;have b0:Below w.heap.size w W:=hW ▸ Xc (Below.refl w.heap.size w) _;have hlw:w.heap.size<W.heap.size:=HB.1;have hW':=Lib.hid hW;have hs0:=hs.below b0;clear hW hs;go_enter Tryz.func44,Tryz.ntmps44
 go_upto_region 1 with fail
 rw [<- hW'.out];clear hW';obtain ⟨cHB_0,fHB_0⟩:=HB.2 0 _ rfl;go_wp2
 go_loopw [3,4,5,6,7,11] (λ v _ _ _ _ i wr=>∃ k:Nat,k<=p.length/\i=.int .i64 k/\XI 30 3 spotC wr W.heap.size v (C.take k)/\Below W.heap.size W wr) (λ _ _ _ _ _ i _=>p.length-(intOf i).toNat)
 case atStart=>exact ⟨0,Nat.zero_le _,rfl,⟨none,0,rfl,World.ownsRow_nil _ _ _ _⟩,Below.refl _ _⟩
 case round =>
  obtain ⟨k,hk,rfl,N,hbr⟩:=hrel;by_cases hlt:k<p.length
  ·have H1:=HB.below hbr;have hS:=hs0.below hbr;have hm:(k+1) % p.length<p.length:=Nat.mod_lt _ Oz;obtain ⟨b,off,hA,hblt,hc⟩:=hS.at_ hlt;obtain ⟨b',off',hA',_,hc'⟩:=hS.at_ hm;rw [hA] at hA';cases hA';subst hA;have g0:=hc 0 _ rfl;have g1:=hc 1 _ rfl;have g2:=hc 2 _ rfl;have d0:=hc' 0 _ rfl;have d1:=hc' 1 _ rfl;have d2:=hc' 2 _ rfl;simp only [Nat.add_zero] at g0 d0;have hgk:=ZA hlt;have hgn:nxt p k=p[(k+1) % p.length]:=ZA hm;rw [<- hgk] at g0 g1 g2;rw [<- hgn] at d0 d1 d2;have cn:=hcn.out k hlt;have c1:=λ W=>iCrossingOf_c _ _ _ W (hok.out _ (Y2 hlt)) (hok.out _ (nxt_mem hlt)) cn.turn cn.sp;have ht:=Lib.hid (hct.out k hlt);clear hc hc' hgk hgn cn;generalize p.getD k Xa=h at *;generalize nxt p k=h' at *;generalize crossS h h'=s at *;have i1:(k:Int)<(p.length:Int):=Oz
   have i2:(0:Int)<=(k:Int):=Oz
   have ie:(((k:Int)+1).tmod (p.length:Int))=(((k+1) % p.length:Nat):Int):=by
    rw [Int.tmod_eq_emod_of_nonneg Oz];rfl
   have i3:(0:Int)<=(((k+1) % p.length:Nat):Int):=Oz
   have i4:(((k+1) % p.length:Nat):Int)<(p.length:Int):=Oz
   have ne:¬ ((p.length:Int)=0):=Oz
   have ne2:¬ (p.length=0):=Oz
   have ne3:¬ (p=[]):=λ e=>ne2 (by rw [e];rfl);have wk:IntKind.i64.wrap ((k:Int)+1)=(k:Int)+1:=IntWalk.i64_in _ (by omega);have wm:IntKind.i64.wrap (((k+1) % p.length:Nat):Int)=(((k+1) % p.length:Nat):Int):=IntWalk.i64_in _ (by omega);generalize (k+1) % p.length=m at *;obtain ⟨cH1_0,fH1_0⟩:=H1.2 0 _ rfl;have l1:=H1.1;go_upto_region 5 with fail
   have HX:=XV.new wr #[.int .i64 h.a,.int .i64 h.b,.int .i64 h.c] 136;have H1x:=H1.alloc (.cells #[.int .i64 h.a,.int .i64 h.b,.int .i64 h.c] 136);have Nx:=N.alloc (.cells #[.int .i64 h.a,.int .i64 h.b,.int .i64 h.c] 136);have bwa:=Xc (Below.refl wr.heap.size wr) (.cells #[.int .i64 h.a,.int .i64 h.b,.int .i64 h.c] 136);have hbx:=hbr.trans (bwa.mono hbr.size);have d0':=(Xh bwa b _ hblt).trans d0;have d1':=(Xh bwa b _ hblt).trans d1;have d2':=(Xh bwa b _ hblt).trans d2;have hb3:=blt bwa hblt;clear cH1_0 fH1_0 l1;generalize wr.alloc (.cells #[.int .i64 h.a,.int .i64 h.b,.int .i64 h.c] 136)=wa at *;clear d0 d1 d2 bwa g0 g1 g2 hblt H1 hS N hbr;generalize wr.heap.size=gx at *;obtain ⟨cHX_0,fHX_0⟩:=HX.2 0 _ rfl;obtain ⟨cHX_1,fHX_1⟩:=HX.2 1 _ rfl;obtain ⟨cHX_2,fHX_2⟩:=HX.2 2 _ rfl;obtain ⟨cH1x_0,fH1x_0⟩:=H1x.2 0 _ rfl;have lX:=HX.1;have l1:=H1x.1;go_cut [4,6] (λ x4 x6 wx=>∃ W' g,W'=wx/\x4=.int .i64 k/\x6=.pointer (some ⟨g,0,none⟩)/\wa.heap.size<=g/\XV wx g [.int .i64 s.x,.int .i64 s.y,.int .i64 s.d]/\Below wa.heap.size wa wx)
   case first =>
    go_region_held3 (λ w'=>(∀ b o,b<wa.heap.size->w'.cell? ⟨b,o,none⟩=wa.cell? ⟨b,o,none⟩)/\wa.heap.size<=w'.heap.size) (first|exact ⟨λ _ _ _=>rfl,by simp⟩|exact Yw (by assumption) (by assumption)|(repeat (first|(with_reducible assumption)|(with_reducible refine Zb _ ?_)|(with_reducible refine Zc ?_)|(with_reducible refine YH ?_ _)|(with_reducible refine ZT ?_ ?_ _)|(focus (simp;done))|(focus (simp;omega))|(focus omega))))
     (first|(go_at_call 100;go_must (refine (c1 _).mono ?_;rintro e w5 ⟨rfl,hb5⟩;have r5:=Xh hb5;have f5:=(bcell hb5).2;have Q5:=Yw (by assumption) hb5;have q5:=Q5.2;have z5:=hb5.size;(try simp only [World.size_drew] at z5);(try simp only [World.size_alloc] at z5);(try have y5:=Nat.lt_of_succ_le z5))))
    all_goals
     go_wp2_with fail
     go_meet
     refine ⟨_,_,rfl,rfl,rfl, ?_, ?_, ?_⟩
     ·first|omega|(simp;omega)
     ·repeat (first|((with_reducible exact XV.new _ _ _))|(refine XV.stored (vs:=[.int .i64 0,.int .i64 0,.int .i64 0]) ?_ [_,_,_] rfl)|(with_reducible refine XV.drew ?_)|((with_reducible refine XV.new_at ?_ _ _ rfl);(first|rfl|(focus (simp;done))))|(with_reducible refine XV.set_ ?_ ?_ _)|(with_reducible refine XV.alloc ?_ _)|(with_reducible refine XV.below ?_ (by assumption))|(focus (simp;done))|(focus (simp;omega))|(focus omega))
     ·exact Xl
   case rest =>
    obtain ⟨wx,g,rfl,rfl,rfl,hg,HS,hb6⟩:=hcut;have N6:=Nx.below hb6 XE;have hby:Below W.heap.size W wx:=hbx.trans (hb6.mono hbx.size);have lS:=HS.1;have hle:W.heap.size<=wx.heap.size:=hby.size;have hcm:(C.take k).length<=1073741823:=by rw [List.length_take];omega
    clear Nx hb6 H1x HX hbx cHX_0 cHX_1 cHX_2 fHX_0 fHX_1 fHX_2 cH1x_0 fH1x_0 d0' d1' d2' c1;obtain ⟨cHS_0,fHS_0⟩:=HS.2 0 _ rfl;obtain ⟨cHS_1,fHS_1⟩:=HS.2 1 _ rfl;obtain ⟨cHS_2,fHS_2⟩:=HS.2 2 _ rfl;go_wp2_with (at_builtin;refine Z5 Jg _ rfl _ _ 42 rfl W.heap.size i0 _ 24 Tryz.underlying42 hi0 hz0 hz1 hz2 rfl (by decide) rfl (N6.alloc _) _ 1 rfl s ?c1 (spotC_one' s) bR (by simp;omega) hcm (by decide) ?_)
    case c1 =>
     intro q u hu;rw [Addr.add_lit,Nat.zero_add];exact ((XV.new_at Sz #[.int .i64 s.x,.int .i64 s.y,.int .i64 s.d] _ rfl).2 q u hu).1
    ·intro v7 w7 hn7 hb7;have hb8:Below W.heap.size W w7:=(hby.alloc hle (.cells #[.int .i64 s.x,.int .i64 s.y,.int .i64 s.d] 30)).trans hb7;clear hb7 hby N6 HS cHS_0 cHS_1 cHS_2 fHS_0 fHS_1 fHS_2;go_wp2
     go_roundw
     case rel=>exact ⟨k+1,by omega,by go_num,by rw [ht.out];exact hn7,hb8⟩
     case measure=>simp [intOf];omega
  ·obtain rfl:k=p.length:=Oz
   rw [List.take_of_length_le (by omega)] at N;have hB:Below w.heap.size w wr:=b0.trans (hbr.mono b0.size);have hle:w.heap.size<=W.heap.size:=b0.size;clear hbr HB b0;go_wp2
   go_ret
   exact ⟨_,rfl,N.mono hle,hB⟩
theorem sCorners_c (p:List Half) (a:Zi) (w:World) (hr:Xb p=true) (hs:Sl 3 Xd w a.A p) :
 Calls Tryz.prog 209 #[Yi p a] w λ e w'=>∃ v,e=.returned v/\XI 30 3 spotC w' w.heap.size v (XN p)/\Below w.heap.size w w':=by
 obtain ⟨i0,hi0,hz0,hz1,hz2⟩:=info_parts (show (Tryz.prog.info? 30).map (λ i=>(i.zero,i.size,i.bytes))=some (some (.agg #[.int .i64 0,.int .i64 0,.int .i64 0]),3,24) by kernel_rfl);obtain ⟨A,cap⟩:=a;simp only at hs;have hok:=Lib.hid (Jb hr);have hlen:=Zt hr;have hcn:=Lib.hid (λ i h=>@reg_corner p hr i h);have hct:=Lib.hid (λ k (h:k<p.length)=>show (XN p).take (k+1)=(XN p).take k++[crossS (p.getD k Xa) (nxt p k)] by
  rw [Zj _ k (by rw [Zo];exact h),corners_at p k h])
 have hcl:=Zo p;clear hr;generalize XN p=C at *;obtain ⟨W,hW⟩:∃ W,W=w.alloc (.cells #[.slice A p.length cap] 26):=⟨_,rfl⟩;have HB:XV W w.heap.size [.slice A p.length cap]:=hW ▸ XV.new w #[.slice A p.length cap] 26;have b0:Below w.heap.size w W:=hW ▸ Xc (Below.refl w.heap.size w) _;have hlw:w.heap.size<W.heap.size:=HB.1;have hW':=Lib.hid hW;have hs0:=hs.below b0;have b1:Below W.heap.size W (W.alloc (.cells #[] 30)):=Xc bR _;have N0:XI 30 3 spotC (W.alloc (.cells #[] 30)) W.heap.size (.slice (some ⟨W.heap.size,0,none⟩) 0 0) []:=⟨_,0,rfl,by simp,.inr ⟨W.heap.size,0,#[],rfl,Nat.le_refl _,by have:=heap_alloc_new W (.cells #[] 30);simpa using this,Nat.zero_le _,Nat.zero_le _,by simp,by simp⟩⟩;clear hW hs;go_enter Tryz.func209,Tryz.ntmps209
 go_upto_region 1 with fail
 rw [<- hW'.out];clear hW';obtain ⟨cHB_0,fHB_0⟩:=HB.2 0 _ rfl;go_wp2
 go_loopw [3,4,5,6,7,12] (λ v _ _ _ _ i wr=>∃ k:Nat,k<=p.length/\i=.int .i64 k/\XI 30 3 spotC wr W.heap.size v (C.take k)/\Below W.heap.size W wr) (λ _ _ _ _ _ i _=>p.length-(intOf i).toNat)
 case atStart=>exact ⟨0,Nat.zero_le _,rfl,N0,b1⟩
 case round =>
  obtain ⟨k,hk,rfl,N,hbr⟩:=hrel;by_cases hlt:k<p.length
  ·have H1:=HB.below hbr;have hS:=hs0.below hbr;have hm:(k+1) % p.length<p.length:=Nat.mod_lt _ Oz;obtain ⟨b,off,hA,hblt,hc⟩:=hS.at_ hlt;obtain ⟨b',off',hA',_,hc'⟩:=hS.at_ hm;rw [hA] at hA';cases hA';subst hA;have g0:=hc 0 _ rfl;have g1:=hc 1 _ rfl;have g2:=hc 2 _ rfl;have d0:=hc' 0 _ rfl;have d1:=hc' 1 _ rfl;have d2:=hc' 2 _ rfl;simp only [Nat.add_zero] at g0 d0;have hgk:=ZA hlt;have hgn:nxt p k=p[(k+1) % p.length]:=ZA hm;rw [<- hgk] at g0 g1 g2;rw [<- hgn] at d0 d1 d2;have cn:=hcn.out k hlt;have c1:=λ W=>sCrossL_c _ _ _ W (hok.out _ (Y2 hlt)) (hok.out _ (nxt_mem hlt)) cn.turn cn.sp;have ht:=Lib.hid (hct.out k hlt);clear hc hc' hgk hgn cn;generalize p.getD k Xa=h at *;generalize nxt p k=h' at *;generalize crossS h h'=s at *;have i1:(k:Int)<(p.length:Int):=Oz
   have i2:(0:Int)<=(k:Int):=Oz
   have ie:(((k:Int)+1).tmod (p.length:Int))=(((k+1) % p.length:Nat):Int):=by
    rw [Int.tmod_eq_emod_of_nonneg Oz];rfl
   have i3:(0:Int)<=(((k+1) % p.length:Nat):Int):=Oz
   have i4:(((k+1) % p.length:Nat):Int)<(p.length:Int):=Oz
   have ne:¬ ((p.length:Int)=0):=Oz
   have ne2:¬ (p.length=0):=Oz
   have ne3:¬ (p=[]):=λ e=>ne2 (by rw [e];rfl);have wk:IntKind.i64.wrap ((k:Int)+1)=(k:Int)+1:=IntWalk.i64_in _ (by omega);have wm:IntKind.i64.wrap (((k+1) % p.length:Nat):Int)=(((k+1) % p.length:Nat):Int):=IntWalk.i64_in _ (by omega);generalize (k+1) % p.length=m at *;obtain ⟨cH1_0,fH1_0⟩:=H1.2 0 _ rfl;have l1:=H1.1;go_upto_region 5 with fail
   have HX:=XV.new wr #[.int .i64 h.a,.int .i64 h.b,.int .i64 h.c] 136;have H1x:=H1.alloc (.cells #[.int .i64 h.a,.int .i64 h.b,.int .i64 h.c] 136);have Nx:=N.alloc (.cells #[.int .i64 h.a,.int .i64 h.b,.int .i64 h.c] 136);have bwa:=Xc (Below.refl wr.heap.size wr) (.cells #[.int .i64 h.a,.int .i64 h.b,.int .i64 h.c] 136);have hbx:=hbr.trans (bwa.mono hbr.size);have d0':=(Xh bwa b _ hblt).trans d0;have d1':=(Xh bwa b _ hblt).trans d1;have d2':=(Xh bwa b _ hblt).trans d2;have hb3:=blt bwa hblt;clear cH1_0 fH1_0 l1;generalize wr.alloc (.cells #[.int .i64 h.a,.int .i64 h.b,.int .i64 h.c] 136)=wa at *;clear d0 d1 d2 bwa g0 g1 g2 hblt H1 hS N hbr;generalize wr.heap.size=gx at *;obtain ⟨cHX_0,fHX_0⟩:=HX.2 0 _ rfl;obtain ⟨cHX_1,fHX_1⟩:=HX.2 1 _ rfl;obtain ⟨cHX_2,fHX_2⟩:=HX.2 2 _ rfl;obtain ⟨cH1x_0,fH1x_0⟩:=H1x.2 0 _ rfl;have lX:=HX.1;have l1:=H1x.1;go_cut [4,6] (λ x4 x6 wx=>∃ W' g,W'=wx/\x4=.int .i64 k/\x6=.pointer (some ⟨g,0,none⟩)/\wa.heap.size<=g/\XV wx g [.int .i64 s.x,.int .i64 s.y,.int .i64 s.d]/\Below wa.heap.size wa wx)
   case first =>
    go_region_held3 (λ w'=>(∀ b o,b<wa.heap.size->w'.cell? ⟨b,o,none⟩=wa.cell? ⟨b,o,none⟩)/\wa.heap.size<=w'.heap.size) (first|exact ⟨λ _ _ _=>rfl,by simp⟩|exact Yw (by assumption) (by assumption)|(repeat (first|(with_reducible assumption)|(with_reducible refine Zb _ ?_)|(with_reducible refine Zc ?_)|(with_reducible refine YH ?_ _)|(with_reducible refine ZT ?_ ?_ _)|(focus (simp;done))|(focus (simp;omega))|(focus omega))))
     (first|(go_at_call 213;go_must (refine (c1 _).mono ?_;rintro e w5 ⟨rfl,hb5⟩;have r5:=Xh hb5;have f5:=(bcell hb5).2;have Q5:=Yw (by assumption) hb5;have q5:=Q5.2;have z5:=hb5.size;(try simp only [World.size_drew] at z5);(try simp only [World.size_alloc] at z5);(try have y5:=Nat.lt_of_succ_le z5))))
    all_goals
     go_wp2_with fail
     go_meet
     refine ⟨_,_,rfl,rfl,rfl, ?_, ?_, ?_⟩
     ·first|omega|(simp;omega)
     ·repeat (first|((with_reducible exact XV.new _ _ _))|(refine XV.stored (vs:=[.int .i64 0,.int .i64 0,.int .i64 0]) ?_ [_,_,_] rfl)|(with_reducible refine XV.drew ?_)|((with_reducible refine XV.new_at ?_ _ _ rfl);(first|rfl|(focus (simp;done))))|(with_reducible refine XV.set_ ?_ ?_ _)|(with_reducible refine XV.alloc ?_ _)|(with_reducible refine XV.below ?_ (by assumption))|(focus (simp;done))|(focus (simp;omega))|(focus omega))
     ·exact Xl
   case rest =>
    obtain ⟨wx,g,rfl,rfl,rfl,hg,HS,hb6⟩:=hcut;have N6:=Nx.below hb6 XE;have hby:Below W.heap.size W wx:=hbx.trans (hb6.mono hbx.size);have lS:=HS.1;have hle:W.heap.size<=wx.heap.size:=hby.size;have hcm:(C.take k).length<=1073741823:=by rw [List.length_take];omega
    clear Nx hb6 H1x HX hbx cHX_0 cHX_1 cHX_2 fHX_0 fHX_1 fHX_2 cH1x_0 fH1x_0 d0' d1' d2' c1;obtain ⟨cHS_0,fHS_0⟩:=HS.2 0 _ rfl;obtain ⟨cHS_1,fHS_1⟩:=HS.2 1 _ rfl;obtain ⟨cHS_2,fHS_2⟩:=HS.2 2 _ rfl;go_wp2_with (at_builtin;refine Z5 Jg _ rfl _ _ 42 rfl W.heap.size i0 _ 24 Tryz.underlying42 hi0 hz0 hz1 hz2 rfl (by decide) rfl (N6.alloc _) _ 1 rfl s ?c1 (spotC_one' s) bR (by simp;omega) hcm (by decide) ?_)
    case c1 =>
     intro q u hu;rw [Addr.add_lit,Nat.zero_add];exact ((XV.new_at Sz #[.int .i64 s.x,.int .i64 s.y,.int .i64 s.d] _ rfl).2 q u hu).1
    ·intro v7 w7 hn7 hb7;have hb8:Below W.heap.size W w7:=(hby.alloc hle (.cells #[.int .i64 s.x,.int .i64 s.y,.int .i64 s.d] 30)).trans hb7;clear hb7 hby N6 HS cHS_0 cHS_1 cHS_2 fHS_0 fHS_1 fHS_2;go_wp2
     go_roundw
     case rel=>exact ⟨k+1,by omega,by go_num,by rw [ht.out];exact hn7,hb8⟩
     case measure=>simp [intOf];omega
  ·obtain rfl:k=p.length:=Oz
   rw [List.take_of_length_le (by omega)] at N;have hB:Below w.heap.size w wr:=b0.trans (hbr.mono b0.size);have hle:w.heap.size<=W.heap.size:=b0.size;clear hbr HB b0;go_wp2
   go_ret
   exact ⟨_,rfl,N.mono hle,hB⟩
end Go.Proofs.YtbekjpkcicjcgaaGreat
