/-
 The program's search for the two ends of an edge.
 Conditions: valid half planes; the slice holds at most 2^20 elements.
-/
import Derived.Test.YtbekjpkcicjcgaaGreatGrI
set_option maxHeartbeats 8000000
set_option maxRecDepth 100000
namespace Go.Proofs.YtbekjpkcicjcgaaGreat
open Go.RowKit
structure XyB (g h:Half):Prop where
 cb : -5000000000000<=g.c*h.b/\g.c*h.b<=5000000000000
 bc : -5000000000000<=h.c*g.b/\h.c*g.b<=5000000000000
 ac : -5000000000000<=g.a*h.c/\g.a*h.c<=5000000000000
 ca : -5000000000000<=h.a*g.c/\h.a*g.c<=5000000000000
theorem xyB {g h:Half} (hg:HOk g) (hh:HOk h):XyB g h:=by
 have p1:=Zr (a:=g.c) (b:=h.b) (A:=100000000) (B:=50000) hg.c hh.b;have p2:=Zr (a:=h.c) (b:=g.b) (A:=100000000) (B:=50000) hh.c hg.b;have p3:=Zr (a:=g.a) (b:=h.c) (A:=50000) (B:=100000000) hg.a hh.c;have p4:=Zr (a:=h.a) (b:=g.c) (A:=50000) (B:=100000000) hh.a hg.c;exact ⟨⟨Oz,Oz⟩,⟨Oz,Oz⟩,⟨Oz,Oz⟩,⟨Oz,Oz⟩⟩
structure CrsB (g h:Half):Prop where
 x : -10000000000000<=JR g h/\JR g h<=10000000000000
 y : -10000000000000<=JQ g h/\JQ g h<=10000000000000
 d:0<=Z7 g h/\Z7 g h<=5000000000
theorem crsB {g h:Half} (hg:HOk g) (hh:HOk h):CrsB g h:=by
 obtain ⟨p1,p2,p3,p4⟩:=xyB hg hh;have q:=crs_bd hg hh;exact ⟨by unfold JR;split<;>omega,by unfold JQ;split<;>omega,by unfold Z7;split<;>omega⟩
theorem pos_bd {g h:Half} (hg:HOk g) (hh:HOk h):(-500000000000000000<=g.a*JQ g h/\g.a*JQ g h<=500000000000000000)/\(-500000000000000000<=g.b*JR g h/\g.b*JR g h<=500000000000000000):=by
 obtain ⟨p1,p2,_⟩:=crsB hg hh;have q1:=Zr (a:=g.a) (b:=JQ g h) (A:=50000) (B:=10000000000000) hg.a p2;have q2:=Zr (a:=g.b) (b:=JR g h) (A:=50000) (B:=10000000000000) hg.b p1;exact ⟨⟨Oz,Oz⟩,⟨Oz,Oz⟩⟩
theorem iCrossing_c (g h:Half) (w:World) (hg:HOk g) (hh:HOk h) :
 Calls Tryz.prog 146 #[X3 g,X3 h] w λ e w'=>e=.returned (.tuple #[.int .i64 (JR g h),.int .i64 (JQ g h),.int .i64 (Z7 g h),.bool (!(XC g h == 0))])/\Below w.heap.size w w':=by
 have c0:=λ W=>iCross_c g h W hg hh;obtain ⟨⟨a1,a2⟩,⟨b1,b2⟩,⟨d1,d2⟩,⟨e1,e2⟩⟩:=xyB hg hh;obtain ⟨q1,q2⟩:=crs_bd hg hh;have hx:=Lib.hid (show JR g h=if XC g h<0 then -(g.c*h.b-h.c*g.b) else g.c*h.b-h.c*g.b from rfl);have hy:=Lib.hid (show JQ g h=if XC g h<0 then -(g.a*h.c-h.a*g.c) else g.a*h.c-h.a*g.c from rfl);have hd:=Lib.hid (show Z7 g h=if XC g h<0 then -XC g h else XC g h from rfl);clear hg hh;generalize XC g h=D at *;generalize JR g h=X at *;generalize JQ g h=Y at *;generalize Z7 g h=Z at *;by_cases hn:D<0
 ·have hx':=Lib.hid (show X = -(g.c*h.b-h.c*g.b) by rw [hx.out,if_pos hn]);have hy':=Lib.hid (show Y = -(g.a*h.c-h.a*g.c) by rw [hy.out,if_pos hn]);have hd':=Lib.hid (show Z = -D by rw [hd.out,if_pos hn]);clear hx hy hd;go_enter Tryz.func146,Tryz.ntmps146
  go_wp2_with (fail)
  refine (c0 _).mono ?_;rintro e w1 ⟨rfl,hb_w1⟩;have r_w1:=Xh hb_w1;have l_w1_0:w.heap.size<w1.heap.size:=Xo hb_w1;have l_w1_1:w.heap.size+1<w1.heap.size:=Xo hb_w1;go_wp2
  refine bodyPost_ret (v:=.tuple #[.int .i64 (-(g.c*h.b-h.c*g.b)),.int .i64 (-(g.a*h.c-h.a*g.c)),.int .i64 (-D),.bool true]) (by simp [results,Tryz.results146,go_sem]) rfl ⟨by rw [hx'.out,hy'.out,hd'.out,show (D == 0)=false from beq_eq_false_iff_ne.2 Oz];rfl, ?_⟩;exact Xl
 ·have hx':=Lib.hid (show X=g.c*h.b-h.c*g.b by rw [hx.out,if_neg hn]);have hy':=Lib.hid (show Y=g.a*h.c-h.a*g.c by rw [hy.out,if_neg hn]);have hd':=Lib.hid (show Z=D by rw [hd.out,if_neg hn]);clear hx hy hd;go_enter Tryz.func146,Tryz.ntmps146
  go_wp2_with (fail)
  refine (c0 _).mono ?_;rintro e w1 ⟨rfl,hb_w1⟩;have r_w1:=Xh hb_w1;have l_w1_0:w.heap.size<w1.heap.size:=Xo hb_w1;have l_w1_1:w.heap.size+1<w1.heap.size:=Xo hb_w1;go_wp2
  refine bodyPost_ret (v:=.tuple #[.int .i64 (g.c*h.b-h.c*g.b),.int .i64 (g.a*h.c-h.a*g.c),.int .i64 D,.bool (!(D == 0))]) (by simp [results,Tryz.results146,go_sem,bne]) rfl ⟨by rw [hx'.out,hy'.out,hd'.out], ?_⟩;exact Xl
def mkC (m:GMk):List Value:=[.int .i64 m.n,.int .i64 m.d,.bool m.is]
structure MkOk (m:GMk):Prop where
 n : -1000000000000000000<=m.n/\m.n<=1000000000000000000
 d:0<=m.d/\m.d<=5000000000
 p:m.is=true->1<=m.d
structure Only (b:Nat) (w w':World):Prop where
 below:∀ B,B<=b->Below B w w'
 other:∀ g vs,g≠b->XV w g vs->XV w' g vs
theorem Only.refl (b:Nat) (w:World):Only b w w:=⟨λ _ _=>Below.refl _ _,λ _ _ _ h=>h⟩
theorem Only.drewN (b:Nat) (w:World) (n:Nat):Only b w (w.drewN n):=⟨λ _ _=>YQ bR n,λ _ _ _ h=>h⟩
theorem Only.set {b:Nat} {w w':World} (h:Only b w w') (o:Nat) (v:Value):Only b w (w'.setCell ⟨b,o,none⟩ v) :=
 ⟨λ B hB=>(h.below B hB).setCell hB v,λ g vs hg hh=>(h.other g vs hg hh).set_ (Ne.symm hg) v⟩
theorem XV.store3 {w:World} {g:Nat} {a b c:Value} (h:XV w g [a,b,c]) (x y z:Value):XV (((w.setCell ⟨g,0,none⟩ x).setCell ⟨g,1,none⟩ y).setCell ⟨g,2,none⟩ z) g [x,y,z]:=h.stored [x,y,z] rfl
theorem narrow_c (m:GMk) (b:Nat) (n d:Int) (later:Bool) (w:World) (hm:MkOk m) (hn : -1000000000000000000<=n/\n<=1000000000000000000) (hd:1<=d/\d<=5000000000) (H:XV w b (mkC m)) :
 Calls Tryz.prog 193 #[.pointer (some ⟨b,0,none⟩),.int .i64 n,.int .i64 d,.bool later] w λ e w'=>e=.returned (.tuple #[])/\XV w' b (mkC (Z4 m n d later))/\Only b w w':=by
 obtain ⟨mn,md,mi⟩:=m;obtain ⟨⟨m1,m2⟩,⟨m3,m4⟩,m5⟩:=hm;simp only at m1 m2 m3 m4 m5;have hH:=Lib.hid H;simp only [mkC] at H;obtain ⟨cH_0,fH_0⟩:=H.2 0 _ rfl;obtain ⟨cH_1,fH_1⟩:=H.2 1 _ rfl;obtain ⟨cH_2,fH_2⟩:=H.2 2 _ rfl;have lH:=H.1;clear H;cases mi
 ·have e1:=Lib.hid (show Z4 ⟨mn,md,false⟩ n d later=⟨n,d,true⟩ by simp [Z4]);clear m5;go_enter Tryz.func193,Tryz.ntmps193
  go_wp2
  refine bodyPost_end (v:=.tuple #[]) (by simp [results,Tryz.results193,go_sem]) rfl ⟨rfl, ?_, ?_⟩
  ·rw [e1.out];exact hH.out.store3 _ _ _
  ·exact (((Only.refl _ _).set _ _).set _ _).set _ _
 ·have c1:=λ W=>KB n d mn md W ⟨Oz,Oz⟩ ⟨Oz,Oz⟩ ⟨Oz,Oz⟩ ⟨Oz,Oz⟩ Oz (by have:=m5 rfl;omega);have hfin:=Lib.hid (show Z4 ⟨mn,md,true⟩ n d later=if (later=true/\ZR n d mn md<=0)∨(later=false/\0<=ZR n d mn md) then ⟨mn,md,true⟩ else ⟨n,d,true⟩ by simp [Z4]);clear m5;generalize ZR n d mn md=cm at *;cases later
  ·by_cases hc:0<=cm
   ·have e1:=Lib.hid (show Z4 ⟨mn,md,true⟩ n d false=⟨mn,md,true⟩ by rw [hfin.out,if_pos (by simp [hc])]);clear hfin;go_enter Tryz.func193,Tryz.ntmps193
    go_upto_region 1 with fail
    go_big_quiet ((go_at_call 107;exact Yb (c1 _)))
    go_wp2
    refine bodyPost_ret (v:=.tuple #[]) (by simp [results,Tryz.results193,go_sem]) rfl ⟨rfl, ?_, ?_⟩
    ·rw [e1.out];exact hH.out
    ·exact Only.drewN _ _ _
   ·have e1:=Lib.hid (show Z4 ⟨mn,md,true⟩ n d false=⟨n,d,true⟩ by rw [hfin.out,if_neg (by simp only [true_and,false_and,false_or,Bool.false_eq_true];exact hc)]);have hc2:cm<0:=Oz
    clear hfin;go_enter Tryz.func193,Tryz.ntmps193
    go_upto_region 1 with fail
    go_big_quiet ((go_at_call 107;exact Yb (c1 _)))
    go_wp2
    refine bodyPost_end (v:=.tuple #[]) (by simp [results,Tryz.results193,go_sem]) rfl ⟨rfl, ?_, ?_⟩
    ·rw [e1.out];exact XV.store3 (XV.drewN hH.out _) _ _ _
    ·exact (((Only.drewN _ _ _).set _ _).set _ _).set _ _
  ·by_cases hc:cm<=0
   ·have e1:=Lib.hid (show Z4 ⟨mn,md,true⟩ n d true=⟨mn,md,true⟩ by rw [hfin.out,if_pos (by simp [hc])]);clear hfin;go_enter Tryz.func193,Tryz.ntmps193
    go_upto_region 1 with fail
    go_big_quiet ((go_at_call 107;exact Yb (c1 _)))
    go_wp2
    refine bodyPost_ret (v:=.tuple #[]) (by simp [results,Tryz.results193,go_sem]) rfl ⟨rfl, ?_, ?_⟩
    ·rw [e1.out];exact hH.out
    ·exact Only.drewN _ _ _
   ·have e1:=Lib.hid (show Z4 ⟨mn,md,true⟩ n d true=⟨n,d,true⟩ by rw [hfin.out,if_neg (by simp only [true_and,false_and,or_false,Bool.true_eq_false];exact hc)]);have hc2:0<cm:=Oz
    clear hfin;go_enter Tryz.func193,Tryz.ntmps193
    go_upto_region 1 with fail
    go_big_quiet ((go_at_call 107;exact Yb (c1 _)))
    go_wp2
    refine bodyPost_end (v:=.tuple #[]) (by simp [results,Tryz.results193,go_sem]) rfl ⟨rfl, ?_, ?_⟩
    ·rw [e1.out];exact XV.store3 (XV.drewN hH.out _) _ _ _
    ·exact (((Only.drewN _ _ _).set _ _).set _ _).set _ _
theorem gnarrow_ok {m:GMk} {n d:Int} {later:Bool} (hm:MkOk m) (hn : -1000000000000000000<=n/\n<=1000000000000000000) (hd:1<=d/\d<=5000000000):MkOk (Z4 m n d later):=by
 unfold Z4;split
 ·exact hm
 ·exact ⟨hn,⟨by simp only;omega,hd.2⟩,λ _=>hd.1⟩
theorem ZA {l:List Half} {k:Nat} (h:k<l.length):l.getD k Xa=l[k]:=by
 rw [List.getD_eq_getElem?_getD,List.getElem?_eq_getElem h];rfl
theorem edAt_ok {l:List Half} {h:Half} (hok:∀ g∈l,HOk g) (hh:HOk h):∀ i,i<=l.length->MkOk (KY l h i).1/\MkOk (KY l h i).2
 | 0,_=>by simp only [KY];exact ⟨⟨Dz,Dz,Sz⟩,⟨Dz,Dz,Sz⟩⟩
 | i+1,hi=>by
  have I:=edAt_ok hok hh i Oz;have hg:=hok _ (Y2 (show i<l.length by omega));unfold KY;generalize l.getD i Xa=g at *;have b1:=pos_bd hh hg;have b2:=(crsB hh hg).d;by_cases h0:XC h g=0
  ·rw [if_pos h0];exact I
  ·rw [if_neg h0];have hd:=KA h0;have hn : -1000000000000000000<=Ky h g/\Ky h g<=1000000000000000000:=by unfold Ky;omega
   split
   ·exact ⟨I.1,gnarrow_ok I.2 hn Oz⟩
   ·exact ⟨gnarrow_ok I.1 hn Oz,I.2⟩
theorem edAt_z {l:List Half} {h:Half} {i:Nat} (e:XC h (l.getD i Xa)=0):KY l h (i+1)=KY l h i:=by rw [KY,if_pos e]
theorem edAt_p {l:List Half} {h:Half} {i:Nat} (e:0<XC h (l.getD i Xa)):KY l h (i+1)=((KY l h i).1,Z4 (KY l h i).2 (Ky h (l.getD i Xa)) (Z7 h (l.getD i Xa)) false):=by
 rw [KY,if_neg Oz,if_pos e]
theorem edAt_n {l:List Half} {h:Half} {i:Nat} (e:XC h (l.getD i Xa)<0):KY l h (i+1)=(Z4 (KY l h i).1 (Ky h (l.getD i Xa)) (Z7 h (l.getD i Xa)) true,(KY l h i).2):=by
 rw [KY,if_neg Oz,if_neg Oz]
theorem voidIn_yes {l:List Half} {k j:Nat} (hj:j<l.length) (h:voidAt l k j=true):Jk l k=true:=by
 unfold Jk;rw [List.any_eq_true];exact ⟨j,List.mem_range.2 hj,h⟩
theorem voidIn_no {l:List Half} {k:Nat} (h:∀ j,j<l.length->voidAt l k j=false):Jk l k=false:=by
 unfold Jk;rw [List.any_eq_false];intro j hj;rw [h j (List.mem_range.1 hj)];decide
theorem iEdge_c (A:Option Addr) (l:List Half) (cap k:Nat) (w:World) (hk:k<l.length) (hl:l.length<=1048576) (hok:∀ h∈l,HOk h) (hs:Sl 3 Xd w A l) :
 Calls Tryz.prog 168 #[.slice A l.length cap,.int .i64 k] w λ e w'=>e=.returned (.tuple #[.bool (!Jk l k&&KG l (l.getD k Xa)),.bool (Jk l k)])/\Below w.heap.size w w':=by
 have HK:=Lib.hid hok;have hh:=hok _ (Y2 hk);have hME:=Lib.hid (λ i hi=>edAt_ok hok hh i hi);obtain ⟨b,off,hA,hblt,hc⟩:=hs.at_ hk;have g0:=hc 0 _ rfl;have g1:=hc 1 _ rfl;have g2:=hc 2 _ rfl;have hgk:=ZA hk;rw [<- hgk] at g0 g1 g2;simp only [Nat.add_zero] at g0;have hvk:=Lib.hid (show ∀ j,j<l.length->voidAt l k j=(!(decide (j=k))&&decide (XC (l.getD k Xa) (l.getD j Xa)=0) && !hroomy (l.getD j Xa) (l.getD k Xa)) from λ _ _=>rfl);have heq:=Lib.hid (show KG l (l.getD k Xa)=edB (KY l (l.getD k Xa) l.length) from rfl);have hself:=Lib.hid (show XC (l.getD k Xa) (l.getD k Xa)=0 from gom.x0 _);have hz:=Lib.hid (λ i=>@edAt_z l (l.getD k Xa) i);have hp:=Lib.hid (λ i=>@edAt_p l (l.getD k Xa) i);have hn:=Lib.hid (λ i=>@edAt_n l (l.getD k Xa) i);have hgkm:=Lib.hid (show l.getD k Xa=l.getD k Xa from rfl);clear hc hok hgk;generalize hGK:l.getD k Xa=h at *;have hGK':=Lib.hid hGK;clear hGK hgkm;subst hA;have H0:XV (((w.alloc (.cells #[.int .i64 h.a,.int .i64 h.b,.int .i64 h.c] 136)).alloc (.cells #[.int .i64 0,.int .i64 0,.bool false] 202)).alloc (.cells #[.int .i64 0,.int .i64 0,.bool false] 202)) w.heap.size [.int .i64 h.a,.int .i64 h.b,.int .i64 h.c]:=by
  exact Ys
 have H1:XV (((w.alloc (.cells #[.int .i64 h.a,.int .i64 h.b,.int .i64 h.c] 136)).alloc (.cells #[.int .i64 0,.int .i64 0,.bool false] 202)).alloc (.cells #[.int .i64 0,.int .i64 0,.bool false] 202)) (w.heap.size+1) (mkC ⟨0,0,false⟩):=by
  exact Ys
 have H2:XV (((w.alloc (.cells #[.int .i64 h.a,.int .i64 h.b,.int .i64 h.c] 136)).alloc (.cells #[.int .i64 0,.int .i64 0,.bool false] 202)).alloc (.cells #[.int .i64 0,.int .i64 0,.bool false] 202)) (w.heap.size+1+1) (mkC ⟨0,0,false⟩):=by
  exact Ys
 have hbw:Below w.heap.size w (((w.alloc (.cells #[.int .i64 h.a,.int .i64 h.b,.int .i64 h.c] 136)).alloc (.cells #[.int .i64 0,.int .i64 0,.bool false] 202)).alloc (.cells #[.int .i64 0,.int .i64 0,.bool false] 202)):=by
  exact Xl
 go_enter Tryz.func168,Tryz.ntmps168
 go_wp2
 go_loopw [4,5,9,10,11,12,13,14,15,16,23] (λ v4 v5 _ _ _ _ _ _ _ _ i wr=>∃ j:Nat,v4=.bool false/\v5=.bool false/\j<=l.length/\i=.int .i64 j/\Hid (∀ q,q<j->voidAt l k q=false)/\XV wr w.heap.size [.int .i64 h.a,.int .i64 h.b,.int .i64 h.c]/\XV wr (w.heap.size+1) (mkC (KY l h j).1)/\XV wr (w.heap.size+1+1) (mkC (KY l h j).2)/\Below w.heap.size w wr) (λ _ _ _ _ _ _ _ _ _ _ i _=>l.length-(intOf i).toNat)
 case atStart=>exact ⟨0,rfl,rfl,Nat.zero_le _,rfl,by simp [Hid],H0,H1,H2,hbw⟩
 case round =>
  clear H0 H1 H2 hbw g0 g1 g2;obtain ⟨j,rfl,rfl,hj,rfl,hvd,H0,H1,H2,hbr⟩:=hrel;by_cases hlt:j<l.length
  ·obtain ⟨b',off',hE,hblt',hc⟩:=(hs.below hbr).at_ hlt;cases hE;have g0:=hc 0 _ rfl;have g1:=hc 1 _ rfl;have g2:=hc 2 _ rfl;have hgj:=ZA hlt;rw [<- hgj] at g0 g1 g2;simp only [Nat.add_zero] at g0;have hg:=HK.out _ (Y2 hlt);have hvj:=Lib.hid (hvk.out j hlt);have hyes:=Lib.hid (λ h=>@voidIn_yes l k j hlt h);have hz1:=hz.out j;have hp1:=hp.out j;have JW:=hn.out j;have hM:=hME.out j hj;have hsame:=Lib.hid (λ(e:j=k)=>show l.getD j Xa=h by rw [e];exact hGK'.out);have hvn:=Lib.hid (λ(e:voidAt l k j=false)=>show ∀ q,q<j+1->voidAt l k q=false from by
    intro q hq;rcases Nat.lt_or_ge q j with h2|h2
    ·exact hvd.out q h2
    ·obtain rfl:q=j:=Oz
     exact e)
   have i1:(j:Int)<(l.length:Int):=Oz
   clear hc hgj hvd;generalize l.getD j Xa=g at *;generalize hST:KY l h j=st at *;clear hST;have hz1:=Lib.hid hz1;have hp1:=Lib.hid hp1;have JW:=Lib.hid JW;by_cases hjk:j=k
   ·have e0:=hsame.out hjk;have hv0:=Lib.hid (hvn.out (by rw [hvj.out,decide_eq_true hjk];rfl));have e1:=Lib.hid (hz1.out (by rw [e0];exact hself.out));clear hz1 hp1 JW hvn hvj hsame;subst hjk;go_wp2
    go_roundw
    case rel=>exact ⟨j+1,rfl,rfl,by omega,by go_num,hv0,H0.alloc _,by rw [e1.out];exact H1.alloc _,by rw [e1.out];exact H2.alloc _,hbr.alloc hbr.size _⟩
    case measure=>simp [intOf];omega
   ·have i2:¬ (j:Int)=(k:Int):=Oz
    have c1:=λ W=>iCross_c h g W hh hg;have c2:=λ W=>iRoomy_c g h W hg hh;have c3:=λ W=>iCrossing_c h g W hh hg;have xb:=crsB hh hg;have pb:=pos_bd hh hg;have c4:=λ b later W hd H=>narrow_c st.2 b (h.a*JQ h g-h.b*JR h g) (Z7 h g) later W hM.2 ⟨Oz,Oz⟩ ⟨hd,xb.d.2⟩ H;have c5:=λ b later W hd H=>narrow_c st.1 b (h.a*JQ h g-h.b*JR h g) (Z7 h g) later W hM.1 ⟨Oz,Oz⟩ ⟨hd,xb.d.2⟩ H;have hpos:Ky h g=h.a*JQ h g-h.b*JR h g:=rfl;rw [hpos] at hp1 JW;have hd1:=Lib.hid (λ(e:XC h g≠0)=>show 1<=Z7 h g from KA e);clear hsame hM hpos hg hh hME;obtain ⟨⟨x1,x2⟩,⟨y1,y2⟩,⟨z1,z2⟩⟩:=xb;obtain ⟨⟨p1,p2⟩,⟨p3,p4⟩⟩:=pb;generalize JR h g=X at *;generalize JQ h g=Y at *;generalize Z7 h g=Z at *;generalize hroomy g h=R at *;generalize XC h g=T at *;have HX:=XV.new wr #[.int .i64 g.a,.int .i64 g.b,.int .i64 g.c] 136;have n0:wr.heap.size≠w.heap.size:=by have:=H0.1;omega
    have n1:wr.heap.size≠w.heap.size+1:=by have:=H1.1;omega
    have n2:wr.heap.size≠w.heap.size+1+1:=by have:=H2.1;omega
    replace H0:=H0.alloc (.cells #[.int .i64 g.a,.int .i64 g.b,.int .i64 g.c] 136);replace H1:=H1.alloc (.cells #[.int .i64 g.a,.int .i64 g.b,.int .i64 g.c] 136);replace H2:=H2.alloc (.cells #[.int .i64 g.a,.int .i64 g.b,.int .i64 g.c] 136);have hbr2:=Xc hbr (.cells #[.int .i64 g.a,.int .i64 g.b,.int .i64 g.c] 136);go_upto_region 6 with fail
    generalize hW:wr.alloc (.cells #[.int .i64 g.a,.int .i64 g.b,.int .i64 g.c] 136)=wa at *;clear hW g0 g1 g2 hblt';generalize hgx:wr.heap.size=gx at *;clear hgx;obtain ⟨cH0_0,fH0_0⟩:=H0.2 0 _ rfl;obtain ⟨cH0_1,fH0_1⟩:=H0.2 1 _ rfl;obtain ⟨cH0_2,fH0_2⟩:=H0.2 2 _ rfl;obtain ⟨cHX_0,fHX_0⟩:=HX.2 0 _ rfl;obtain ⟨cHX_1,fHX_1⟩:=HX.2 1 _ rfl;obtain ⟨cHX_2,fHX_2⟩:=HX.2 2 _ rfl;go_wp2_with (fail)
    refine (c1 _).mono ?_;rintro e w1 ⟨rfl,hb1⟩;clear cH0_0 cH0_1 cH0_2 fH0_0 fH0_1 fH0_2 cHX_0 cHX_1 cHX_2 fHX_0 fHX_1 fHX_2;replace H0:=H0.below hb1;replace H1:=H1.below hb1;replace H2:=H2.below hb1;replace HX:=HX.below hb1;replace hbr2:=Xe hbr2 hb1;clear hb1;obtain ⟨cH0_0,fH0_0⟩:=H0.2 0 _ rfl;obtain ⟨cH0_1,fH0_1⟩:=H0.2 1 _ rfl;obtain ⟨cH0_2,fH0_2⟩:=H0.2 2 _ rfl;obtain ⟨cHX_0,fHX_0⟩:=HX.2 0 _ rfl;obtain ⟨cHX_1,fHX_1⟩:=HX.2 1 _ rfl;obtain ⟨cHX_2,fHX_2⟩:=HX.2 2 _ rfl;by_cases hT:T=0
    ·have e1:=Lib.hid (hz1.out hT);have hv2:=Lib.hid (show voidAt l k j = !R by rw [hvj.out,hT,decide_eq_false hjk];rfl);subst hT;clear hz1 hp1 JW hvj;cases R
     ·have hv3:=Lib.hid (hyes.out (by rw [hv2.out];rfl));go_wp2_with (fail)
      refine (c2 _).mono ?_;rintro e w2 ⟨rfl,hb2⟩;go_wp2
      refine bodyPost_ret (v:=.tuple #[.bool false,.bool true]) (by simp [results,Tryz.results168,go_sem]) rfl ⟨by rw [hv3.out];rfl, ?_⟩;exact Xl
     ·have hv3:=Lib.hid (hvn.out (by rw [hv2.out];rfl));go_wp2_with (fail)
      refine (c2 _).mono ?_;rintro e w2 ⟨rfl,hb2⟩;go_wp2
      go_roundw
      case rel=>exact ⟨j+1,rfl,rfl,by omega,by go_num,hv3,H0.below hb2,by rw [e1.out];exact H1.below hb2,by rw [e1.out];exact H2.below hb2,Xe hbr2 hb2⟩
      case measure=>simp [intOf];omega
    ·have hv3:=Lib.hid (hvn.out (by rw [hvj.out,decide_eq_false hT];simp));have hd2:=hd1.out hT;clear hz1 hvj hyes;go_wp2_with (fail)
     refine (c3 _).mono ?_;rintro e w2 ⟨rfl,hb2⟩;clear cH0_0 cH0_1 cH0_2 fH0_0 fH0_1 fH0_2 cHX_0 cHX_1 cHX_2 fHX_0 fHX_1 fHX_2;replace H0:=H0.below hb2;replace H1:=H1.below hb2;replace H2:=H2.below hb2;replace hbr2:=Xe hbr2 hb2;clear hb2 HX;obtain ⟨cH0_0,fH0_0⟩:=H0.2 0 _ rfl;obtain ⟨cH0_1,fH0_1⟩:=H0.2 1 _ rfl;obtain ⟨cH0_2,fH0_2⟩:=H0.2 2 _ rfl;have hT2:(T == 0)=false:=beq_eq_false_iff_ne.2 hT;by_cases hpT:0<T
     ·have e1:=Lib.hid (hp1.out hpT);clear hp1 JW;go_wp2_with (fail)
      refine (c4 _ _ _ hd2 H2).mono ?_;rintro e w3 ⟨rfl,K2,O3⟩;have K0:=O3.other _ _ (by omega) H0;have K1:=O3.other _ _ (by omega) H1;have hbr3:=hbr2.trans (O3.below w.heap.size (by omega));go_wp2
      go_roundw
      case rel=>exact ⟨j+1,rfl,rfl,by omega,by go_num,hv3,K0,by rw [e1.out];exact K1,by rw [e1.out];exact K2,hbr3⟩
      case measure=>simp [intOf];omega
     ·have hnT:T<0:=Oz
      have e1:=Lib.hid (JW.out hnT);clear hp1 JW;go_wp2_with (fail)
      refine (c5 _ _ _ hd2 H1).mono ?_;rintro e w3 ⟨rfl,K1,O3⟩;have K0:=O3.other _ _ (by omega) H0;have K2:=O3.other _ _ (by omega) H2;have hbr3:=hbr2.trans (O3.below w.heap.size (by omega));go_wp2
      go_roundw
      case rel=>exact ⟨j+1,rfl,rfl,by omega,by go_num,hv3,K0,by rw [e1.out];exact K1,by rw [e1.out];exact K2,hbr3⟩
      case measure=>simp [intOf];omega
  ·obtain rfl:j=l.length:=Oz
   have hv0:=Lib.hid (voidIn_no hvd.out);have hM:=hME.out l.length XE;clear hvd hz hp hn hvk HK hself hME hGK';generalize hST:KY l h l.length=st at *;clear hST;obtain ⟨⟨n1,d1,i1⟩,⟨n2,d2,i2⟩⟩:=st;obtain ⟨⟨⟨a1,a2⟩,⟨a3,a4⟩,a5⟩,⟨⟨b1,b2⟩,⟨b3,b4⟩,b5⟩⟩:=hM;simp only [mkC] at H1 H2 a1 a2 a3 a4 a5 b1 b2 b3 b4 b5;have l1:=H1.1;have l2:=H2.1;obtain ⟨cH1_0,fH1_0⟩:=H1.2 0 _ rfl;obtain ⟨cH1_1,fH1_1⟩:=H1.2 1 _ rfl;obtain ⟨cH1_2,fH1_2⟩:=H1.2 2 _ rfl;obtain ⟨cH2_0,fH2_0⟩:=H2.2 0 _ rfl;obtain ⟨cH2_1,fH2_1⟩:=H2.2 1 _ rfl;obtain ⟨cH2_2,fH2_2⟩:=H2.2 2 _ rfl;cases i1
   ·have e1:=Lib.hid (show KG l h=false by rw [heq.out];rfl);clear a5 b5;go_wp2
    refine bodyPost_ret (v:=.tuple #[.bool false,.bool false]) (by simp [results,Tryz.results168,go_sem]) rfl ⟨by rw [e1.out,hv0.out];rfl, ?_⟩;exact hbr
   ·cases i2
    ·have e1:=Lib.hid (show KG l h=false by rw [heq.out];rfl);clear a5 b5;go_wp2
     refine bodyPost_ret (v:=.tuple #[.bool false,.bool false]) (by simp [results,Tryz.results168,go_sem]) rfl ⟨by rw [e1.out,hv0.out];rfl, ?_⟩;exact hbr
    ·have c1:=λ W=>KB n1 d1 n2 d2 W ⟨by omega,by omega⟩ ⟨by omega,by omega⟩ ⟨by omega,by omega⟩ ⟨by omega,by omega⟩ (by have:=a5 rfl;omega) (by have:=b5 rfl;omega);have e1:=Lib.hid (show KG l h=decide (ZR n1 d1 n2 d2<0) by rw [heq.out];rfl);clear a5 b5;generalize ZR n1 d1 n2 d2=cm at *;go_wp2_with (fail)
     refine (c1 _).mono ?_;rintro e w' ⟨rfl,rfl⟩;go_wp2
     refine bodyPost_ret (v:=.tuple #[.bool (decide (cm<0)),.bool false]) (by simp [results,Tryz.results168,go_sem]) rfl ⟨by rw [e1.out,hv0.out];rfl, ?_⟩;exact hbr
end Go.Proofs.YtbekjpkcicjcgaaGreat
