/-
 The reference's search for two points on an edge.
 Conditions: valid half planes; the slice holds at most 2^20 elements.
-/
import Derived.Test.YtbekjpkcicjcgaaGreatEdg
set_option maxHeartbeats 8000000
set_option maxRecDepth 100000
namespace Go.Proofs.YtbekjpkcicjcgaaGreat
open Go.RowKit
abbrev p3V (p:P3):Value:=.agg #[.int .i64 p.1,.int .i64 p.2.1,.int .i64 p.2.2]
structure P3B (p:P3):Prop where
 x : -10000000000000<=p.1/\p.1<=10000000000000
 y : -10000000000000<=p.2.1/\p.2.1<=10000000000000
 d:0<=p.2.2/\p.2.2<=5000000000
theorem gPt_b {g h:Half} (hg:HOk g) (hh:HOk h):P3B (gPt g h):=by
 obtain ⟨h1,h2,h3⟩:=crsB hg hh;exact ⟨h1,h2,h3⟩
theorem inPt_iff {l:List Half} {x y d:Int}:inPt l x y d=true ↔ d≠0/\x<=1000*d/\-1000*d<=x/\y<=1000*d/\-1000*d<=y/\∀ f∈l,f.a*x+f.b*y<=f.c*d:=by
 unfold inPt;simp only [Bool.and_eq_true,decide_eq_true_eq,List.all_eq_true,and_assoc]
theorem inPt_no {l:List Half} {x y d:Int} (h:¬(d≠0/\x<=1000*d/\-1000*d<=x/\y<=1000*d/\-1000*d<=y/\∀ f∈l,f.a*x+f.b*y<=f.c*d)):inPt l x y d=false:=by
 cases e:inPt l x y d
 ·rfl
 ·exact absurd (inPt_iff.1 e) h
theorem spot_ne {p q:X9} (h:p≠q):(p.x == q.x)=false∨(p.x=q.x/\(p.y == q.y)=false)∨(p.x=q.x/\p.y=q.y/\(p.d == q.d)=false):=by
 obtain ⟨a,b,c⟩:=p;obtain ⟨a',b',c'⟩:=q;by_cases h1:a=a'
 ·by_cases h2:b=b'
  ·by_cases h3:c=c'
   ·subst h1 h2 h3;exact absurd rfl h
   ·exact .inr (.inr ⟨h1,h2,by simpa using h3⟩)
  ·exact .inr (.inl ⟨h1,by simpa using h2⟩)
 ·exact .inl (by simpa using h1)
theorem optSpot_get (o:Option X9):∃ (s:X9) (b:Bool),optSpotV o=.tuple #[.agg #[.int .i64 s.x,.int .i64 s.y,.int .i64 s.d],.bool b]/\o.getD spot0=s:=by
 cases o with
 | none=>exact ⟨spot0,false,rfl,rfl⟩
 | some s=>exact ⟨s,true,rfl,rfl⟩
theorem sCross_c (g h:Half) (w:World) (hg:HOk g) (hh:HOk h) :
 Calls Tryz.prog 183 #[X3 g,X3 h] w λ e w'=>e=.returned (p3V (gPt g h))/\Below w.heap.size w w':=by
 obtain ⟨⟨a1,a2⟩,⟨b1,b2⟩,⟨d1,d2⟩,⟨e1,e2⟩⟩:=xyB hg hh;obtain ⟨⟨p1,p2⟩,⟨q1,q2⟩⟩:=crB hg hh;rw [Int.mul_comm g.b h.a] at q1 q2;have hc:XC g h=g.a*h.b-h.a*g.b:=by unfold XC;rw [Int.mul_comm h.a g.b]
 have hx:=Lib.hid (show JR g h=if g.a*h.b-h.a*g.b<0 then -(g.c*h.b-h.c*g.b) else g.c*h.b-h.c*g.b by rw [<- hc];rfl);have hy:=Lib.hid (show JQ g h=if g.a*h.b-h.a*g.b<0 then -(g.a*h.c-h.a*g.c) else g.a*h.c-h.a*g.c by rw [<- hc];rfl);have hd:=Lib.hid (show Z7 g h=if g.a*h.b-h.a*g.b<0 then -(g.a*h.b-h.a*g.b) else g.a*h.b-h.a*g.b by rw [<- hc];rfl);have hp:gPt g h=(JR g h,JQ g h,Z7 g h):=rfl;rw [hp];clear hg hh hc hp;generalize JR g h=X at *;generalize JQ g h=Y at *;generalize Z7 g h=Z at *;by_cases hn:g.a*h.b-h.a*g.b<0
 ·have hx':=Lib.hid (show X = -(g.c*h.b-h.c*g.b) by rw [hx.out,if_pos hn]);have hy':=Lib.hid (show Y = -(g.a*h.c-h.a*g.c) by rw [hy.out,if_pos hn]);have hd':=Lib.hid (show Z = -(g.a*h.b-h.a*g.b) by rw [hd.out,if_pos hn]);clear hx hy hd;go_enter Tryz.func183,Tryz.ntmps183
  go_wp2
  refine bodyPost_ret (v:=.agg #[.int .i64 (-(g.c*h.b-h.c*g.b)),.int .i64 (-(g.a*h.c-h.a*g.c)),.int .i64 (-(g.a*h.b-h.a*g.b))]) (by simp [results,Tryz.results183,go_sem]) rfl ⟨by rw [hx'.out,hy'.out,hd'.out], ?_⟩;exact Xl
 ·have hx':=Lib.hid (show X=g.c*h.b-h.c*g.b by rw [hx.out,if_neg hn]);have hy':=Lib.hid (show Y=g.a*h.c-h.a*g.c by rw [hy.out,if_neg hn]);have hd':=Lib.hid (show Z=g.a*h.b-h.a*g.b by rw [hd.out,if_neg hn]);clear hx hy hd;go_enter Tryz.func183,Tryz.ntmps183
  go_wp2
  refine bodyPost_ret (v:=.agg #[.int .i64 (g.c*h.b-h.c*g.b),.int .i64 (g.a*h.c-h.a*g.c),.int .i64 (g.a*h.b-h.a*g.b)]) (by simp [results,Tryz.results183,go_sem]) rfl ⟨by rw [hx'.out,hy'.out,hd'.out], ?_⟩;exact Xl
theorem sDiffer_c (p q:P3) (w:World) (hp:P3B p) (hq:P3B q) :
 Calls Tryz.prog 185 #[p3V p,p3V q] w λ e w'=>e=.returned (.bool (gDiff p q))/\Below w.heap.size w w':=by
 obtain ⟨x,y,d⟩:=p;obtain ⟨x',y',d'⟩:=q;obtain ⟨⟨a1,a2⟩,⟨a3,a4⟩,⟨a5,a6⟩⟩:=hp;obtain ⟨⟨b1,b2⟩,⟨b3,b4⟩,⟨b5,b6⟩⟩:=hq;simp only at a1 a2 a3 a4 a5 a6 b1 b2 b3 b4 b5 b6;have c1:=λ W=>sSpotOf_c x y d W ⟨Oz,Oz⟩ ⟨Oz,Oz⟩ ⟨Oz,Oz⟩;have c2:=λ W=>sSpotOf_c x' y' d' W ⟨Oz,Oz⟩ ⟨Oz,Oz⟩ ⟨Oz,Oz⟩;have hg:gDiff (x,y,d) (x',y',d')=decide ((Zd x y d).getD spot0≠(Zd x' y' d').getD spot0):=rfl;obtain ⟨s,sb,es,gs⟩:=optSpot_get (Zd x y d);obtain ⟨t,tb,et,gt⟩:=optSpot_get (Zd x' y' d');rw [gs,gt] at hg;rw [es] at c1;rw [et] at c2;rw [hg];clear hg es et gs gt;have W0:Below w.heap.size w ((w.alloc (.cells #[.int .i64 x,.int .i64 y,.int .i64 d] 194)).alloc (.cells #[.int .i64 x',.int .i64 y',.int .i64 d'] 194)):=by
  exact Xl
 by_cases he:s=t
 ·have e1:=Lib.hid (show decide (s≠t)=false from decide_eq_false (λ h=>h he));subst he;go_enter Tryz.func185,Tryz.ntmps185
  go_wp2_with (fail)
  refine (c1 _).mono ?_;rintro e w1 ⟨rfl,hb_w1⟩;have r_w1:=Xh hb_w1;have l_w1_0:w.heap.size<w1.heap.size:=Xo hb_w1;have l_w1_1:w.heap.size+1<w1.heap.size:=Xo hb_w1;go_wp2_with (fail)
  refine (c2 _).mono ?_;rintro e w2 ⟨rfl,hb_w2⟩;have r_w2:=Xh hb_w2;have l_w2_0:w.heap.size<w2.heap.size:=Xo hb_w2;have l_w2_1:w.heap.size+1<w2.heap.size:=Xo hb_w2;have l_w2_2:w1.heap.size<w2.heap.size:=Xo hb_w2;go_wp2
  go_ret
  refine ⟨Xi e1.out.symm, ?_⟩;exact Xl
 ·have e1:=Lib.hid (show decide (s≠t)=true from decide_eq_true he);have hne:=spot_ne he;clear he;obtain ⟨s1,s2,s3⟩:=s;obtain ⟨t1,t2,t3⟩:=t;simp only at hne c1 c2;rcases hne with hne|⟨rfl,hne⟩|⟨rfl,rfl,hne⟩
  all_goals
   go_enter Tryz.func185,Tryz.ntmps185
   go_wp2_with (fail)
   refine (c1 _).mono ?_;rintro e w1 ⟨rfl,hb_w1⟩;have r_w1:=Xh hb_w1;have l_w1_0:w.heap.size<w1.heap.size:=Xo hb_w1;have l_w1_1:w.heap.size+1<w1.heap.size:=Xo hb_w1;go_wp2_with (fail)
   refine (c2 _).mono ?_;rintro e w2 ⟨rfl,hb_w2⟩;have r_w2:=Xh hb_w2;have l_w2_0:w.heap.size<w2.heap.size:=Xo hb_w2;have l_w2_1:w.heap.size+1<w2.heap.size:=Xo hb_w2;have l_w2_2:w1.heap.size<w2.heap.size:=Xo hb_w2;go_wp2
   go_ret
   refine ⟨Xi e1.out.symm, ?_⟩;exact Xl
theorem sInside_c (A:Option Addr) (l:List Half) (cap:Nat) (p:P3) (w:World) (hl:l.length<=1048576) (hok:∀ h∈l,HOk h) (hp:P3B p) (hs:Sl 3 Xd w A l) :
 Calls Tryz.prog 184 #[.slice A l.length cap,p3V p] w λ e w'=>e=.returned (.bool (inPt l p.1 p.2.1 p.2.2))/\Below w.heap.size w w':=by
 obtain ⟨x,y,d⟩:=p;obtain ⟨⟨a1,a2⟩,⟨a3,a4⟩,⟨a5,a6⟩⟩:=hp;simp only at a1 a2 a3 a4 a5 a6;simp only;have HK:=Lib.hid hok;have hno:=Lib.hid (@inPt_no l x y d);have hyes:=Lib.hid (@inPt_iff l x y d);clear hok;generalize hR:inPt l x y d=R at *;clear hR;by_cases h0:d=0
 ·have e1:=Lib.hid (hno.out (λ hh=>hh.1 h0));go_enter Tryz.func184,Tryz.ntmps184
  go_wp2
  go_ret
  refine ⟨Xi e1.out.symm, ?_⟩;exact Xl
 by_cases h1:1000*d<x
 ·have e1:=Lib.hid (hno.out (λ hh=>absurd hh.2.1 (by omega)));go_enter Tryz.func184,Tryz.ntmps184
  go_wp2
  go_ret
  refine ⟨Xi e1.out.symm, ?_⟩;exact Xl
 by_cases h2:x < -1000*d
 ·have e1:=Lib.hid (hno.out (λ hh=>absurd hh.2.2.1 (by omega)));go_enter Tryz.func184,Tryz.ntmps184
  go_wp2
  go_ret
  refine ⟨Xi e1.out.symm, ?_⟩;exact Xl
 by_cases h3:1000*d<y
 ·have e1:=Lib.hid (hno.out (λ hh=>absurd hh.2.2.2.1 (by omega)));go_enter Tryz.func184,Tryz.ntmps184
  go_wp2
  go_ret
  refine ⟨Xi e1.out.symm, ?_⟩;exact Xl
 by_cases h4:y < -1000*d
 ·have e1:=Lib.hid (hno.out (λ hh=>absurd hh.2.2.2.2.1 (by omega)));go_enter Tryz.func184,Tryz.ntmps184
  go_wp2
  go_ret
  refine ⟨Xi e1.out.symm, ?_⟩;exact Xl
 have h1:x<=1000*d:=Oz
 have h2 : -1000*d<=x:=Oz
 have h3:y<=1000*d:=Oz
 have h4 : -1000*d<=y:=Oz
 have HP:XV (w.alloc (.cells #[.int .i64 x,.int .i64 y,.int .i64 d] 194)) w.heap.size [.int .i64 x,.int .i64 y,.int .i64 d]:=by
  exact Ys
 have hbw:Below w.heap.size w (w.alloc (.cells #[.int .i64 x,.int .i64 y,.int .i64 d] 194)):=by
  exact Xl
 go_enter Tryz.func184,Tryz.ntmps184
 go_wp2
 go_loopw [4,7,51] (λ v4 _ i wr=>∃ j:Nat,v4=.bool false/\j<=l.length/\i=.int .i64 j/\Hid (∀ f∈l.take j,f.a*x+f.b*y<=f.c*d)/\XV wr w.heap.size [.int .i64 x,.int .i64 y,.int .i64 d]/\Below w.heap.size w wr) (λ _ _ i _=>l.length-(intOf i).toNat)
 case atStart=>exact ⟨0,rfl,Nat.zero_le _,rfl,by simp [Hid],HP,hbw⟩
 case round =>
  clear HP hbw;obtain ⟨j,rfl,hj,rfl,htk,HP,hbr⟩:=hrel;have lP:=HP.1;obtain ⟨cHP_0,fHP_0⟩:=HP.2 0 _ rfl;obtain ⟨cHP_1,fHP_1⟩:=HP.2 1 _ rfl;obtain ⟨cHP_2,fHP_2⟩:=HP.2 2 _ rfl;by_cases hlt:j<l.length
  ·obtain ⟨b,off,rfl,hblt,hc⟩:=(hs.below hbr).at_ hlt;have g0:=hc 0 _ rfl;have g1:=hc 1 _ rfl;have g2:=hc 2 _ rfl;simp only [Nat.add_zero] at g0;have hg:=HK.out _ (List.getElem_mem hlt);have q1:=Zr (a:=l[j].a) (b:=x) (A:=50000) (B:=10000000000000) hg.a ⟨a1,a2⟩;have q2:=Zr (a:=l[j].b) (b:=y) (A:=50000) (B:=10000000000000) hg.b ⟨a3,a4⟩;have q3:=Zr (a:=l[j].c) (b:=d) (A:=100000000) (B:=5000000000) hg.c ⟨Oz,a6⟩;obtain ⟨q1,q1'⟩:=q1;obtain ⟨q2,q2'⟩:=q2;obtain ⟨q3,q3'⟩:=q3;have hst:=Lib.hid (λ(h:l[j].a*x+l[j].b*y<=l[j].c*d)=>show ∀ f∈l.take (j+1),f.a*x+f.b*y<=f.c*d from by
    intro f hf;rw [Zj l j hlt] at hf;simp only [List.mem_append,List.mem_singleton] at hf;rcases hf with hf|rfl
    ·exact htk.out f hf
    ·exact h)
   have hbad:=Lib.hid (λ(h:¬ l[j].a*x+l[j].b*y<=l[j].c*d)=>show R=false from hno.out (λ hh=>h (hh.2.2.2.2.2 _ (List.getElem_mem hlt))));have i1:(j:Int)<(l.length:Int):=Oz
   clear hc hg htk;generalize l[j]=g at *;by_cases hle:g.a*x+g.b*y<=g.c*d
   ·have hst2:=Lib.hid (hst.out hle);clear hst hbad;go_wp2
    go_roundw
    case rel=>exact ⟨j+1,rfl,by omega,by go_num,hst2,HP.alloc _,Xc hbr _⟩
    case measure=>simp [intOf];omega
   ·have hst2:=Lib.hid (hbad.out hle);have hgt:g.c*d<g.a*x+g.b*y:=Oz
    clear hst hbad;go_wp2
    go_ret
    refine ⟨Xi hst2.out.symm, ?_⟩;exact Xl
  ·obtain rfl:j=l.length:=Oz
   have hst2:=Lib.hid (show R=true from hyes.out.2 ⟨h0,h1,h2,h3,h4,by have:=htk.out;rwa [List.take_length] at this⟩);clear htk;go_wp2
   go_ret
   exact ⟨Xi hst2.out.symm,hbr⟩
theorem esAt_no {l:List Half} {h:Half} {i:Nat} (e:gIn l h (l.getD i Xa)=false):Kt l h (i+1)=Kt l h i:=by
 rw [Kt];split
 ·rfl
 ·first|rfl|rw [if_pos e]
theorem esAt_first {l:List Half} {h:Half} {i:Nat} (e0:(Kt l h i).2=false) (e:gIn l h (l.getD i Xa)=true) (e2:(Kt l h i).1.2.2=0):Kt l h (i+1)=(gPt h (l.getD i Xa),false):=by
 rw [Kt,if_neg (by rw [e0];decide),if_neg (by rw [e];decide),if_pos e2]
theorem esAt_diff {l:List Half} {h:Half} {i:Nat} (e0:(Kt l h i).2=false) (e:gIn l h (l.getD i Xa)=true) (e2:(Kt l h i).1.2.2≠0):Kt l h (i+1)=((Kt l h i).1,gDiff (Kt l h i).1 (gPt h (l.getD i Xa))):=by
 rw [Kt,if_neg (by rw [e0];decide),if_neg (by rw [e];decide),if_neg e2]
theorem esAt_b {l:List Half} {h:Half} (hok:∀ g∈l,HOk g) (hh:HOk h):∀ i,i<=l.length->P3B (Kt l h i).1
 | 0,_=>by simp only [Kt];exact ⟨Dz,Dz,Dz⟩
 | i+1,hi=>by
  have I:=esAt_b hok hh i Oz;have hg:=gPt_b hh (hok _ (Y2 (show i<l.length by omega)));unfold Kt;split
  ·exact I
  ·split
   ·exact I
   ·split
    ·exact hg
    ·exact I
theorem ges_yes {l:List Half} {h:Half} {i:Nat} (hi:i<=l.length) (e:(Kt l h i).2=true):ges l h=true:=by
 have:=esAt_up e (l.length-i);rwa [Nat.add_sub_cancel' hi] at this
theorem gIn_self (l:List Half) (h:Half):gIn l h h=false:=by
 unfold gIn;exact inPt_no (λ e=>e.1 (crD_zero (gom.x0 h)))
def LeftEs (w:World) (f p:P3) (x8:Value) (wx:World):Prop :=
 ∃ (W:World) (g8:Nat),W=wx/\x8=.pointer (some ⟨g8,0,none⟩)/\w.heap.size<g8/\XV wx g8 [.int .i64 p.1,.int .i64 p.2.1,.int .i64 p.2.2]/\XV wx w.heap.size [.int .i64 f.1,.int .i64 f.2.1,.int .i64 f.2.2]/\Below w.heap.size w wx
theorem sEdge_c (A:Option Addr) (l:List Half) (cap k:Nat) (w:World) (hk:k<l.length) (hl:l.length<=1048576) (hok:∀ h∈l,HOk h) (hs:Sl 3 Xd w A l) :
 Calls Tryz.prog 161 #[.slice A l.length cap,.int .i64 k] w λ e w'=>e=.returned (.bool (ges l (l.getD k Xa)))/\Below w.heap.size w w':=by
 have HK:=Lib.hid hok;have hh:=hok _ (Y2 hk);have hMB:=Lib.hid (λ i hi=>esAt_b hok hh i hi);have hse:=Lib.hid (gIn_self l (l.getD k Xa));have hno:=Lib.hid (λ i=>@esAt_no l (l.getD k Xa) i);have hfi:=Lib.hid (λ i=>@esAt_first l (l.getD k Xa) i);have hdi:=Lib.hid (λ i=>@esAt_diff l (l.getD k Xa) i);have hye:=Lib.hid (λ i=>@ges_yes l (l.getD k Xa) i);have hfin:=Lib.hid (show ges l (l.getD k Xa)=(Kt l (l.getD k Xa) l.length).2 from rfl);have hin:=Lib.hid (show ∀ g,gIn l (l.getD k Xa) g=inPt l (gPt (l.getD k Xa) g).1 (gPt (l.getD k Xa) g).2.1 (gPt (l.getD k Xa) g).2.2 from λ _=>rfl);have hgk:=ZA hk;generalize hGK:l.getD k Xa=h at *;have hGK':=Lib.hid hGK;have hgk':=Lib.hid hgk;clear hGK hgk hok;have H0:XV (w.alloc (.cells #[.int .i64 0,.int .i64 0,.int .i64 0] 194)) w.heap.size [.int .i64 0,.int .i64 0,.int .i64 0]:=by
  exact Ys
 have hbw:Below w.heap.size w (w.alloc (.cells #[.int .i64 0,.int .i64 0,.int .i64 0] 194)):=by
  exact Xl
 go_enter Tryz.func161,Tryz.ntmps161
 go_wp2
 go_loopw [4,6,7,8,12] (λ v4 _ _ _ i wr=>∃ j:Nat,v4=.bool false/\j<=l.length/\i=.int .i64 j/\Hid ((Kt l h j).2=false)/\XV wr w.heap.size [.int .i64 (Kt l h j).1.1,.int .i64 (Kt l h j).1.2.1,.int .i64 (Kt l h j).1.2.2]/\Below w.heap.size w wr) (λ _ _ _ _ i _=>l.length-(intOf i).toNat)
 case atStart=>exact ⟨0,rfl,Nat.zero_le _,rfl,rfl,H0,hbw⟩
 case round =>
  clear H0 hbw;obtain ⟨j,rfl,hj,rfl,hF,H0,hbr⟩:=hrel;by_cases hlt:j<l.length
  ·obtain ⟨b,off,hA,hblt,hc⟩:=(hs.below hbr).at_ hlt;have g0:=hc 0 _ rfl;have g1:=hc 1 _ rfl;have g2:=hc 2 _ rfl;obtain ⟨b',off',hE,_,hc'⟩:=(hs.below hbr).at_ hk;rw [hA] at hE;cases hE;have k0:=hc' 0 _ rfl;have k1:=hc' 1 _ rfl;have k2:=hc' 2 _ rfl;rw [<- hgk'.out] at k0 k1 k2;have hgj:=ZA hlt;rw [<- hgj] at g0 g1 g2;simp only [Nat.add_zero] at g0 k0;have hs':=hs.below hbr;have hg:=HK.out _ (Y2 hlt);have hno1:=hno.out j;have hfi1:=hfi.out j;have hdi1:=hdi.out j;have hye1:=Lib.hid (hye.out (j+1) hlt);have hM:=hMB.out j hj;have hin1:=hin.out (l.getD j Xa);have hsame:=Lib.hid (λ(e:j=k)=>show l.getD j Xa=h by rw [e];exact hGK'.out);have i1:(j:Int)<(l.length:Int):=Oz
   have i2:(k:Int)<(l.length:Int):=Oz
   clear hc hc' hgj;generalize l.getD j Xa=g at *;generalize hST:Kt l h j=st at *;clear hST;obtain ⟨f,fl⟩:=st;simp only at hM H0 hF hfi1 hdi1 hno1;replace hno1:=Lib.hid hno1;replace hfi1:=Lib.hid (hfi1 hF.out);replace hdi1:=Lib.hid (hdi1 hF.out);replace hin1:=Lib.hid hin1;by_cases hjk:j=k
   ·have e0:=hsame.out hjk;have e1:=Lib.hid (hno1.out (by rw [e0];exact hse.out));have hF2:=hF;clear hno1 hfi1 hdi1 hin1 hsame hye1;subst hA;subst hjk;go_wp2
    go_roundw
    case rel=>exact ⟨j+1,rfl,by omega,by go_num,by unfold Hid;rw [e1.out];exact hF2.out,by rw [e1.out];exact H0.alloc _,Xc hbr _⟩
    case measure=>simp [intOf];omega
   ·have i3:¬ (j:Int)=(k:Int):=Oz
    have c1:=λ W=>sCross_c h g W hh hg;have hpb:=gPt_b hh hg;clear hsame hno hfi hdi hye hin hse hg hh hMB;generalize gIn l h g=G at *;generalize gPt h g=p at *;obtain ⟨px,py,pd⟩:=p;obtain ⟨fx,fy,fd⟩:=f;simp only at H0 hM hpb;replace hin1:=hin1.out;replace hfi1:=hfi1.out;replace hdi1:=hdi1.out;simp only at hin1 hfi1 hdi1;have c2:=λ W B h=>sInside_c B l cap (px,py,pd) W hl HK.out hpb h;have c3:=λ W=>sDiffer_c (fx,fy,fd) (px,py,pd) W hM hpb;have hin2:=Lib.hid (show inPt l px py pd=G from hin1.symm);simp only at c2;rw [hin2.out] at c2;have HX:=XV.new wr #[.int .i64 g.a,.int .i64 g.b,.int .i64 g.c] 136;have lx:w.heap.size<wr.heap.size:=H0.1;replace H0:=H0.alloc (.cells #[.int .i64 g.a,.int .i64 g.b,.int .i64 g.c] 136);have hbr2:=Xc hbr (.cells #[.int .i64 g.a,.int .i64 g.b,.int .i64 g.c] 136);have hsa:=hs'.alloc (.cells #[.int .i64 g.a,.int .i64 g.b,.int .i64 g.c] 136);have hba:b<(wr.alloc (.cells #[.int .i64 g.a,.int .i64 g.b,.int .i64 g.c] 136)).heap.size:=by simp only [World.size_alloc];omega
    obtain ⟨b2,off2,hE2,_,hc2⟩:=hsa.at_ hk;rw [hA] at hE2;cases hE2;clear k0 k1 k2;have k0:=hc2 0 _ rfl;have k1:=hc2 1 _ rfl;have k2:=hc2 2 _ rfl;rw [<- hgk'.out] at k0 k1 k2;simp only [Nat.add_zero] at k0;clear hc2;subst hA;clear hin1 hin2;go_upto_region 6 with fail
    generalize hW:wr.alloc (.cells #[.int .i64 g.a,.int .i64 g.b,.int .i64 g.c] 136)=wa at *;clear hW g0 g1 g2 hs' hblt;generalize hgx:wr.heap.size=gx at *;clear hgx;obtain ⟨cHX_0,fHX_0⟩:=HX.2 0 _ rfl;obtain ⟨cHX_1,fHX_1⟩:=HX.2 1 _ rfl;obtain ⟨cHX_2,fHX_2⟩:=HX.2 2 _ rfl;have lX:=HX.1;go_cut [8] (λ x8 wx=>LeftEs w (fx,fy,fd) (px,py,pd) x8 wx)
    case first =>
     go_region_held3 (λ w'=>(∀ b o,b<wa.heap.size->w'.cell? ⟨b,o,none⟩=wa.cell? ⟨b,o,none⟩)/\wa.heap.size<=w'.heap.size) (first|exact ⟨λ _ _ _=>rfl,by simp⟩|exact Yw (by assumption) (by assumption)|(repeat (first|(with_reducible assumption)|(with_reducible refine Zb _ ?_)|(with_reducible refine Zc ?_)|(with_reducible refine YH ?_ _)|(with_reducible refine ZT ?_ ?_ _)|(with_reducible refine Yw ?_ (by assumption))|(focus (simp;done))|(focus (simp;omega))|(focus omega))))
      (first|(go_at_call 183;go_must ((with_reducible refine (c1 _).mono ?_);rintro e w1 ⟨rfl,hb1⟩;(try (have HZ:XV w1 wa.heap.size [.int .i64 0,.int .i64 0,.int .i64 0]:=XV.below (XV.new_at (w:=wa.drew) rfl _ _ rfl) hb1);obtain ⟨z0,y0⟩:=HZ.2 0 _ rfl;obtain ⟨z1,y1⟩:=HZ.2 1 _ rfl;obtain ⟨z2,y2⟩:=HZ.2 2 _ rfl))))
     all_goals
      go_wp2_with fail
      go_meet
      refine ⟨_,_,rfl,rfl, ?_, ?_, ?_, ?_⟩
      ·first|omega|(have:=hb1.size;simp at this;omega)
      ·(repeat (first|(with_reducible exact XV.new _ _ _)|((with_reducible refine XV.new_at ?_ _ _ rfl);(first|rfl|(focus (simp;done))))|(refine XV.stored (vs:=[.int .i64 0,.int .i64 0,.int .i64 0]) ?_ [_,_,_] rfl)|(with_reducible refine XV.drew ?_)|(with_reducible refine XV.alloc ?_ _)|(with_reducible refine XV.below ?_ (by assumption))|(focus (simp;done))|(focus (simp;omega))|(focus omega)))
      ·(repeat (first|(with_reducible assumption)|(with_reducible refine XV.set_ ?_ ?_ _)|(with_reducible refine XV.drew ?_)|(with_reducible refine XV.alloc ?_ _)|(with_reducible refine XV.below ?_ (by assumption))|(focus (simp;done))|(focus (simp;omega))|(focus omega)))
      ·exact Xl
    case rest =>
     obtain ⟨W,g8,rfl,rfl,hg8,K8,K0,hbx⟩:=hcut;clear cHX_0 cHX_1 cHX_2 fHX_0 fHX_1 fHX_2 HX H0 hbr2 hsa k0 k1 k2 lX lx hbr;have hsx:=hs.below hbx;have l8:=K8.1;have l0:=K0.1;replace hfi1:=Lib.hid hfi1;replace hdi1:=Lib.hid hdi1;obtain ⟨cK8_0,fK8_0⟩:=K8.2 0 _ rfl;obtain ⟨cK8_1,fK8_1⟩:=K8.2 1 _ rfl;obtain ⟨cK8_2,fK8_2⟩:=K8.2 2 _ rfl;cases G
     ·have e1:=Lib.hid (hno1.out rfl);go_wp2_with (fail)
      refine (c2 _ _ hsx).mono ?_;rintro e w2 ⟨rfl,hb2⟩;clear cK8_0 cK8_1 cK8_2 fK8_0 fK8_1 fK8_2 hno1 hfi1 hdi1;go_wp2
      go_roundw
      case rel=>exact ⟨j+1,rfl,by omega,by go_num,by unfold Hid;rw [e1.out];exact hF.out,by rw [e1.out];exact K0.below hb2,Xe hbx hb2⟩
      case measure=>simp [intOf];omega
     ·go_wp2_with (fail)
      refine (c2 _ _ hsx).mono ?_;rintro e w2 ⟨rfl,hb2⟩;clear cK8_0 cK8_1 cK8_2 fK8_0 fK8_1 fK8_2 hno1;replace K8:=K8.below hb2;replace K0:=K0.below hb2;replace hbx:=Xe hbx hb2;clear hb2 hsx l8 l0;have l8:=K8.1;have l0:=K0.1;have n8:w.heap.size≠g8:=Oz
      obtain ⟨cK8_0,fK8_0⟩:=K8.2 0 _ rfl;obtain ⟨cK8_1,fK8_1⟩:=K8.2 1 _ rfl;obtain ⟨cK8_2,fK8_2⟩:=K8.2 2 _ rfl;obtain ⟨cK0_0,fK0_0⟩:=K0.2 0 _ rfl;obtain ⟨cK0_1,fK0_1⟩:=K0.2 1 _ rfl;obtain ⟨cK0_2,fK0_2⟩:=K0.2 2 _ rfl;by_cases hd0:fd=0
      ·have e1:=Lib.hid (hfi1.out (by trivial) hd0);clear hfi1 hdi1;go_wp2
       go_roundw
       case rel=>exact ⟨j+1,rfl,by omega,by go_num,by unfold Hid;rw [e1.out],by rw [e1.out];exact K0.store3 _ _ _,((hbx.setCell (by simp) _).setCell (by simp) _).setCell (by simp) _⟩
       case measure=>simp [intOf];omega
      ·have e1:=hdi1.out (by trivial) hd0;clear hfi1 hdi1;generalize gDiff (fx,fy,fd) (px,py,pd)=D at *;replace e1:=Lib.hid e1;cases D
       ·go_wp2_with (fail)
        refine (c3 _).mono ?_;rintro e w3 ⟨rfl,hb3⟩;clear cK8_0 cK8_1 cK8_2 fK8_0 fK8_1 fK8_2 cK0_0 cK0_1 cK0_2 fK0_0 fK0_1 fK0_2;go_wp2
        go_roundw
        case rel=>exact ⟨j+1,rfl,by omega,by go_num,by unfold Hid;rw [e1.out],by rw [e1.out];exact K0.below hb3,Xe hbx hb3⟩
        case measure=>simp [intOf];omega
       ·have e2:=Lib.hid (hye1.out (by rw [e1.out]));go_wp2_with (fail)
        refine (c3 _).mono ?_;rintro e w3 ⟨rfl,hb3⟩;clear cK8_0 cK8_1 cK8_2 fK8_0 fK8_1 fK8_2 cK0_0 cK0_1 cK0_2 fK0_0 fK0_1 fK0_2;go_wp2
        go_ret
        exact ⟨Xi e2.out.symm,Xe hbx hb3⟩
  ·obtain rfl:j=l.length:=Oz
   have e1:=Lib.hid (show ges l h=false by rw [hfin.out];exact hF.out);go_wp2
   go_ret
   exact ⟨Xi e1.out.symm,hbr⟩
end Go.Proofs.YtbekjpkcicjcgaaGreat
