/-
 What the functions that reduce fractions, spots and half planes return.
 Conditions: the numbers are ints of the machine.
-/
import Derived.Test.YtabfdkpdppemaaaGreatGrC
import Derived.StillTailTactics
import Derived.Deep.RegionHeld3
set_option maxHeartbeats 4000000
set_option maxRecDepth 100000
namespace Go.Proofs.YtabfdkpdppemaaaGreat
open Go.RowKit
theorem ZL {a:Int} (h:Yn a) (hm:Yd a=false) (g:Nat):Yn (a.tdiv g):=by
 have h1:=Kw h hm;have:=tdiv_le a g 9223372036854775807 h1.1 h1.2;exact ⟨by omega,by omega⟩
def Y1:Option Xz->Value
 | some s=>.tuple #[.agg #[.int .i64 s.x,.int .i64 s.y,.int .i64 s.d],.bool true]
 | none=>.tuple #[.agg #[.int .i64 0,.int .i64 0,.int .i64 0],.bool false]
def JK:Option Half->Value
 | some h=>.tuple #[.agg #[.int .i64 h.a,.int .i64 h.b,.int .i64 h.c],.bool true]
 | none=>.tuple #[.agg #[.int .i64 0,.int .i64 0,.int .i64 0],.bool false]
theorem iSpotOf_c (x y d:Int) (w:World) (hx:Yn x) (hy:Yn y) (hd:Yn d) :
 Calls Tryz.prog 139 #[.int .i64 x,.int .i64 y,.int .i64 d] w λ e w'=>e=.returned (Y1 (Yq x y d))/\Below w.heap.size w w':=by
 by_cases hd0:d<=0
 ·have hfin:Yq x y d=none:=by simp [Yq,hd0]
  rw [hfin];go_enter Tryz.func139,Tryz.ntmps139
  go_wp2
  refine bodyPost_ret (v:=.tuple #[.agg #[.int .i64 0,.int .i64 0,.int .i64 0],.bool false]) (by simp [results,Tryz.results139,go_sem]) rfl ⟨rfl, ?_⟩;exact Xi
 ·cases mx:Yd x
  ·cases my:Yd y
   ·have hall:∀ n∈[x,y,d],Yn n:=by simp [hx,hy,hd]
    have md:Yd d=false:=Za (by omega);have hfin:Hid (Yq x y d=if XA ⟨x.tdiv (Xk [x,y,d]),y.tdiv (Xk [x,y,d]),d.tdiv (Xk [x,y,d])⟩=true then some ⟨x.tdiv (Xk [x,y,d]),y.tdiv (Xk [x,y,d]),d.tdiv (Xk [x,y,d])⟩ else none):=by
     show _=_;rw [Yq,if_neg (by simp [hd0,mx,my])];rfl
    have hg:=Jj (some ⟨w.heap.size+1,0,none⟩) [x,y,d] 3 _ (by simp) hall (K9 (T:=3) ZY (w.alloc (.cells #[.int .i64 0,.int .i64 0,.int .i64 0] 30)) [x,y,d] #[.int .i64 x,.int .i64 y,.int .i64 d] rfl (by simp));have hle:=Jk [x,y,d] hall;have hpos:0<Xk [x,y,d]:=by rw [gcd3];exact Nat.gcd_pos_of_pos_right _ (by omega)
    generalize Xk [x,y,d]=G at *;have i1:=ZL hx mx G;have i2:=ZL hy my G;have i3:=ZL hd md G;have c1:=λ W=>JF x G W hx mx hpos hle;have c2:=λ W=>JF y G W hy my hpos hle;have c3:=λ W=>JF d G W hd md hpos hle;have c4:=λ W=>iSpotOk_c ⟨x.tdiv G,y.tdiv G,d.tdiv G⟩ W ⟨i1,i2,i3⟩;have m1:=Kk x false mx hx;have m2:=Kk y false my hy;generalize x.tdiv G=x' at *;generalize y.tdiv G=y' at *;generalize d.tdiv G=d' at *;clear i1 i2 i3 mx my md hx hy hd hall;generalize XA ⟨x',y',d'⟩=ok at *;cases ok;all_goals
     rw [hfin.out];go_enter Tryz.func139,Tryz.ntmps139
     go_wp2_with (fail)
     refine (m1 _).mono ?_;rintro e w' ⟨rfl,rfl⟩;go_wp2_with (fail)
     refine (m2 _).mono ?_;rintro e w' ⟨rfl,rfl⟩;go_wp2_with (fail)
     refine hg.mono ?_;rintro e w1 ⟨rfl,hb1⟩;have hb2:=(Xf (Xc (Xc (Below.refl w.heap.size w) _) _) hb1);have H1:=((XR.new w #[.int .i64 0,.int .i64 0,.int .i64 0] 30).alloc _).below hb1;obtain ⟨cH1_0,fH1_0⟩:=H1.2 0 _ rfl;obtain ⟨cH1_1,fH1_1⟩:=H1.2 1 _ rfl;obtain ⟨cH1_2,fH1_2⟩:=H1.2 2 _ rfl;go_wp2_with (fail)
     refine (c1 _).mono ?_;rintro e w' ⟨rfl,rfl⟩;go_wp2_with (fail)
     refine (c2 _).mono ?_;rintro e w' ⟨rfl,rfl⟩;go_wp2_with (fail)
     refine (c3 _).mono ?_;rintro e w' ⟨rfl,rfl⟩;go_wp2_with (fail)
     refine (c4 _).mono ?_;rintro e w2 ⟨rfl,hb4⟩;have hb5:=Xf (Xc hb2 (.cells #[.int .i64 x',.int .i64 y',.int .i64 d'] 30)) hb4;have H2:=(H1.alloc _).below hb4;have H3:=(XR.new _ _ _).below hb4;clear cH1_0 cH1_1 cH1_2 fH1_0 fH1_1 fH1_2;obtain ⟨cH2_0,fH2_0⟩:=H2.2 0 _ rfl;obtain ⟨cH2_1,fH2_1⟩:=H2.2 1 _ rfl;obtain ⟨cH2_2,fH2_2⟩:=H2.2 2 _ rfl;obtain ⟨cH3_0,fH3_0⟩:=H3.2 0 _ rfl;obtain ⟨cH3_1,fH3_1⟩:=H3.2 1 _ rfl;obtain ⟨cH3_2,fH3_2⟩:=H3.2 2 _ rfl;go_wp2
     first
      | exact bodyPost_ret (v:=.tuple #[.agg #[.int .i64 0,.int .i64 0,.int .i64 0],.bool false]) (by simp [results,Tryz.results139,go_sem, *]) rfl ⟨rfl,Yt (Yt (Yt hb5 Xt _) Xt _) Xt _⟩
      | exact bodyPost_ret (v:=.tuple #[.agg #[.int .i64 x',.int .i64 y',.int .i64 d'],.bool true]) (by simp [results,Tryz.results139,go_sem, *]) rfl ⟨rfl,Yt (Yt (Yt hb5 Xt _) Xt _) Xt _⟩
   ·have m1:=Kk x false mx hx;have m2:=Kk y true my hy;have hfin:Yq x y d=none:=by simp [Yq,my]
    rw [hfin];clear mx my;go_enter Tryz.func139,Tryz.ntmps139
    go_wp2_with (fail)
    refine (m1 _).mono ?_;rintro e w' ⟨rfl,rfl⟩;go_wp2_with (fail)
    refine (m2 _).mono ?_;rintro e w' ⟨rfl,rfl⟩;go_wp2
    refine bodyPost_ret (v:=.tuple #[.agg #[.int .i64 0,.int .i64 0,.int .i64 0],.bool false]) (by simp [results,Tryz.results139,go_sem]) rfl ⟨rfl, ?_⟩;exact Xi
  ·have m1:=Kk x true mx hx;have hfin:Yq x y d=none:=by simp [Yq,mx]
   rw [hfin];clear mx;go_enter Tryz.func139,Tryz.ntmps139
   go_wp2_with (fail)
   refine (m1 _).mono ?_;rintro e w' ⟨rfl,rfl⟩;go_wp2
   refine bodyPost_ret (v:=.tuple #[.agg #[.int .i64 0,.int .i64 0,.int .i64 0],.bool false]) (by simp [results,Tryz.results139,go_sem]) rfl ⟨rfl, ?_⟩;exact Xi
theorem sSpotOf_c (x y d:Int) (w:World) (hx:Yn x) (hy:Yn y) (hd:Yn d) :
 Calls Tryz.prog 276 #[.int .i64 x,.int .i64 y,.int .i64 d] w λ e w'=>e=.returned (Y1 (Yq x y d))/\Below w.heap.size w w':=by
 by_cases hd0:d<=0
 ·have hfin:Yq x y d=none:=by simp [Yq,hd0]
  rw [hfin];go_enter Tryz.func276,Tryz.ntmps276
  go_wp2
  refine bodyPost_ret (v:=.tuple #[.agg #[.int .i64 0,.int .i64 0,.int .i64 0],.bool false]) (by simp [results,Tryz.results276,go_sem]) rfl ⟨rfl, ?_⟩;exact Xi
 ·have hxy:=gcdOf_In64 hx hy;have md:Yd d=false:=Za (by omega);have wm:(x != 0)=false->Yd x=false:=by intro h;simp at h;subst h;rfl
  have wm2:(y != 0)=false->Yd y=false:=by intro h;simp at h;subst h;rfl
  cases mx:Yd x
  ·cases my:Yd y
   ·have hfin:Hid (Yq x y d=if XA ⟨x.tdiv (Xk [x,y,d]),y.tdiv (Xk [x,y,d]),d.tdiv (Xk [x,y,d])⟩=true then some ⟨x.tdiv (Xk [x,y,d]),y.tdiv (Xk [x,y,d]),d.tdiv (Xk [x,y,d])⟩ else none):=by
     show _=_;rw [Yq,if_neg (by simp [hd0,mx,my])];rfl
    have hG:Y5 (Y5 x y) d=((Xk [x,y,d]:Nat):Int):=by
     have:=JN hx hy;rw [Z0 (Za (by omega)) md,Z0 mx my,gcd3];simp
    have hpos:0<Xk [x,y,d]:=by rw [gcd3];exact Nat.gcd_pos_of_pos_right _ (by omega)
    have h3:(Y5 x d == 0)=false:=by
     rw [Z0 mx md];have:0<Nat.gcd x.natAbs d.natAbs:=Nat.gcd_pos_of_pos_right _ (by omega);simp;omega
    have h4:(Y5 y d == 0)=false:=by
     rw [Z0 my md];have:0<Nat.gcd y.natAbs d.natAbs:=Nat.gcd_pos_of_pos_right _ (by omega);simp;omega
    have hle:Xk [x,y,d]<=9223372036854775807:=by
     have:=(JN hxy hd).2;rw [hG] at this;omega
    generalize Xk [x,y,d]=G at *;have i1:=ZL hx mx G;have i2:=ZL hy my G;have i3:=ZL hd md G;have c5:=λ W=>sSpotOk_c ⟨x.tdiv G,y.tdiv G,d.tdiv G⟩ W ⟨i1,i2,i3⟩;obtain ⟨q1,r1⟩:=i1;obtain ⟨q2,r2⟩:=i2;obtain ⟨q3,r3⟩:=i3;have w1:IntKind.i64.wrap (x.tdiv G)=x.tdiv G:=IntWalk.i64_in _ ⟨q1,r1⟩;have w2:IntKind.i64.wrap (y.tdiv G)=y.tdiv G:=IntWalk.i64_in _ ⟨q2,r2⟩;have w3:IntKind.i64.wrap (d.tdiv G)=d.tdiv G:=IntWalk.i64_in _ ⟨q3,r3⟩;have hG1:¬ (G=0):=by omega
    have hG2:¬ ((G:Int)=0):=by omega
    clear mx my md wm wm2;generalize XA ⟨x.tdiv G,y.tdiv G,d.tdiv G⟩=ok at *;generalize hbx:(x != 0)=bx;generalize hby:(y != 0)=by_;go_enter Tryz.func276,Tryz.ntmps276
    go_wp2_with (go_at_call 236;refine (Zw _ _ _ (by assumption) (by assumption)).mono ?_;rintro e wc ⟨rfl,nc,rfl⟩)
    all_goals go_region_held3 (λ _=>True) (exact True.intro) (fail)
    all_goals
     go_wp2_with (fail)
     refine (c5 _).mono ?_;rintro e w9 ⟨rfl,hb9⟩;have hbw:Below w.heap.size w w9:=by
      refine Xf ?_ hb9;exact Xi
     have H2:XR w9 w.heap.size [.int .i64 0,.int .i64 0,.int .i64 0]:=by
      refine XR.below ?_ hb9;exact (XR.new w _ _).alloc _
     have H3:XR w9 (w.heap.size+1) [.int .i64 (x.tdiv G),.int .i64 (y.tdiv G),.int .i64 (d.tdiv G)]:=by
      refine XR.below ?_ hb9;have:=XR.new (w.alloc (.cells #[.int .i64 0,.int .i64 0,.int .i64 0] 30)) #[.int .i64 (x.tdiv G),.int .i64 (y.tdiv G),.int .i64 (d.tdiv G)] 30;simp only [World.size_alloc] at this;exact this
     obtain ⟨cH2_0,fH2_0⟩:=H2.2 0 _ rfl;obtain ⟨cH2_1,fH2_1⟩:=H2.2 1 _ rfl;obtain ⟨cH2_2,fH2_2⟩:=H2.2 2 _ rfl;obtain ⟨cH3_0,fH3_0⟩:=H3.2 0 _ rfl;obtain ⟨cH3_1,fH3_1⟩:=H3.2 1 _ rfl;obtain ⟨cH3_2,fH3_2⟩:=H3.2 2 _ rfl;cases ok
     ·go_wp2
      refine bodyPost_ret (v:=.tuple #[.agg #[.int .i64 0,.int .i64 0,.int .i64 0],.bool false]) (by simp [results,Tryz.results276,go_sem, *]) rfl ⟨by rw [hfin.out];rfl, ?_⟩;exact Yt (Yt (Yt hbw Xt _) Xt _) Xt _
     ·go_wp2
      refine bodyPost_ret (v:=.tuple #[.agg #[.int .i64 (x.tdiv G),.int .i64 (y.tdiv G),.int .i64 (d.tdiv G)],.bool true]) (by simp [results,Tryz.results276,go_sem, *]) rfl ⟨by rw [hfin.out];rfl, ?_⟩;exact Yt (Yt (Yt hbw Xt _) Xt _) Xt _
   ·have hfin:Yq x y d=none:=by simp [Yq,my]
    rw [hfin];have h4:Y5 y d=0:=gcdOf_min1 my;have h5:(y != 0)=true:=by simp [Yd] at my;subst my;rfl
    have h3:(Y5 x d == 0)=false:=by
     rw [Z0 mx md];have:0<Nat.gcd x.natAbs d.natAbs:=Nat.gcd_pos_of_pos_right _ (by omega);simp;omega
    generalize hbx:(x != 0)=bx;clear mx my md wm wm2;go_enter Tryz.func276,Tryz.ntmps276
    go_wp2_with (go_at_call 236;refine (Zw _ _ _ (by assumption) (by assumption)).mono ?_;rintro e wc ⟨rfl,nc,rfl⟩)
    all_goals
     refine bodyPost_ret (v:=.tuple #[.agg #[.int .i64 0,.int .i64 0,.int .i64 0],.bool false]) (by simp [results,Tryz.results276,go_sem]) rfl ⟨rfl, ?_⟩;exact Xi
  ·have hfin:Yq x y d=none:=by simp [Yq,mx]
   rw [hfin];have h3:Y5 x d=0:=gcdOf_min1 mx;have h5:(x != 0)=true:=by simp [Yd] at mx;subst mx;rfl
   clear mx md wm wm2;go_enter Tryz.func276,Tryz.ntmps276
   go_wp2_with (go_at_call 236;refine (Zw _ _ _ (by assumption) (by assumption)).mono ?_;rintro e wc ⟨rfl,nc,rfl⟩)
   all_goals
    refine bodyPost_ret (v:=.tuple #[.agg #[.int .i64 0,.int .i64 0,.int .i64 0],.bool false]) (by simp [results,Tryz.results276,go_sem]) rfl ⟨rfl, ?_⟩;exact Xi
theorem iHalfOf_c (a b c:Int) (w:World) (ha:Yn a) (hb:Yn b) (hc:Yn c) :
 Calls Tryz.prog 207 #[.int .i64 a,.int .i64 b,.int .i64 c] w λ e w'=>e=.returned (JK (YN a b c))/\Below w.heap.size w w':=by
 have hall:∀ n∈[a,b,c],Yn n:=by simp [ha,hb,hc]
 have hg:=Jj (some ⟨w.heap.size+1,0,none⟩) [a,b,c] 3 _ (by simp) hall (K9 (T:=3) ZY (w.alloc (.cells #[.int .i64 0,.int .i64 0,.int .i64 0] 174)) [a,b,c] #[.int .i64 a,.int .i64 b,.int .i64 c] rfl (by simp));have hle:=Jk [a,b,c] hall;have m1:=λ v h=>Kk a v h ha;have m2:=λ v h=>Kk b v h hb;have m3:=λ v h=>Kk c v h hc;by_cases hz:Xk [a,b,c]=0
 ·have hfin:YN a b c=none:=by simp [YN,hz]
  rw [hfin];rw [hz] at hg;clear hz hle;go_enter Tryz.func207,Tryz.ntmps207
  go_wp2_with (fail)
  refine hg.mono ?_;rintro e w1 ⟨rfl,hb1⟩;have H1:=((XR.new w #[.int .i64 0,.int .i64 0,.int .i64 0] 174).alloc _).below hb1;obtain ⟨cH1_0,fH1_0⟩:=H1.2 0 _ rfl;obtain ⟨cH1_1,fH1_1⟩:=H1.2 1 _ rfl;obtain ⟨cH1_2,fH1_2⟩:=H1.2 2 _ rfl;have hbw:=Xf (Xc (Xc (Below.refl w.heap.size w) _) _) hb1;go_wp2
  refine bodyPost_ret (v:=.tuple #[.agg #[.int .i64 0,.int .i64 0,.int .i64 0],.bool false]) (by simp [results,Tryz.results207,go_sem, *]) rfl ⟨rfl, ?_⟩;exact Xi
 ·cases ma:Yd a
  ·cases mb:Yd b
   ·cases mc:Yd c
    ·have hfin:Hid (YN a b c=if Xn ⟨a.tdiv (Xk [a,b,c]),b.tdiv (Xk [a,b,c]),c.tdiv (Xk [a,b,c])⟩=true then some ⟨a.tdiv (Xk [a,b,c]),b.tdiv (Xk [a,b,c]),c.tdiv (Xk [a,b,c])⟩ else none):=by
      show _=_;rw [YN,if_neg (by simp [hz,ma,mb,mc])];rfl
     have hpos:0<Xk [a,b,c]:=by omega
     clear hz;generalize Xk [a,b,c]=G at *;have i1:=ZL ha ma G;have i2:=ZL hb mb G;have i3:=ZL hc mc G;have c1:=λ W=>JF a G W ha ma hpos hle;have c2:=λ W=>JF b G W hb mb hpos hle;have c3:=λ W=>JF c G W hc mc hpos hle;have c4:=λ W=>Jg ⟨a.tdiv G,b.tdiv G,c.tdiv G⟩ W ⟨i1,i2,i3⟩;have n1:=m1 _ ma;have n2:=m2 _ mb;have n3:=m3 _ mc;have hG1:¬ (G=0):=by omega
     have hG2:((G:Int) == 0)=false:=by simp;omega
     generalize a.tdiv G=x' at *;generalize b.tdiv G=y' at *;generalize c.tdiv G=d' at *;clear i1 i2 i3 ma mb mc ha hb hc hall m1 m2 m3;generalize Xn ⟨x',y',d'⟩=ok at *;go_enter Tryz.func207,Tryz.ntmps207
     go_wp2_with (fail)
     refine hg.mono ?_;rintro e w1 ⟨rfl,hb1⟩;have hb2:=(Xf (Xc (Xc (Below.refl w.heap.size w) _) _) hb1);have H1:=((XR.new w #[.int .i64 0,.int .i64 0,.int .i64 0] 174).alloc _).below hb1;go_wp2_with (fail)
     refine (n1 _).mono ?_;rintro e w' ⟨rfl,rfl⟩;go_wp2_with (fail)
     refine (n2 _).mono ?_;rintro e w' ⟨rfl,rfl⟩;go_wp2_with (fail)
     refine (n3 _).mono ?_;rintro e w' ⟨rfl,rfl⟩;go_wp2_with (fail)
     refine (c1 _).mono ?_;rintro e w' ⟨rfl,rfl⟩;go_wp2_with (fail)
     refine (c2 _).mono ?_;rintro e w' ⟨rfl,rfl⟩;go_wp2_with (fail)
     refine (c3 _).mono ?_;rintro e w' ⟨rfl,rfl⟩;go_wp2_with (fail)
     refine (c4 _).mono ?_;rintro e w2 ⟨rfl,hb4⟩;have hb5:=Xf (Xc hb2 (.cells #[.int .i64 x',.int .i64 y',.int .i64 d'] 174)) hb4;have H2:=(H1.alloc _).below hb4;have H3:=(XR.new _ _ _).below hb4;obtain ⟨cH2_0,fH2_0⟩:=H2.2 0 _ rfl;obtain ⟨cH2_1,fH2_1⟩:=H2.2 1 _ rfl;obtain ⟨cH2_2,fH2_2⟩:=H2.2 2 _ rfl;obtain ⟨cH3_0,fH3_0⟩:=H3.2 0 _ rfl;obtain ⟨cH3_1,fH3_1⟩:=H3.2 1 _ rfl;obtain ⟨cH3_2,fH3_2⟩:=H3.2 2 _ rfl;cases ok
     ·go_wp2
      refine bodyPost_ret (v:=.tuple #[.agg #[.int .i64 0,.int .i64 0,.int .i64 0],.bool false]) (by simp [results,Tryz.results207,go_sem, *]) rfl ⟨by rw [hfin.out];rfl, ?_⟩;exact Xi
     ·go_wp2
      refine bodyPost_ret (v:=.tuple #[.agg #[.int .i64 x',.int .i64 y',.int .i64 d'],.bool true]) (by simp [results,Tryz.results207,go_sem, *]) rfl ⟨by rw [hfin.out];rfl, ?_⟩;exact Xi
    ·have hfin:YN a b c=none:=by simp [YN,mc]
     rw [hfin];have n1:=m1 _ ma;have n2:=m2 _ mb;have n3:=m3 _ mc;have hG1:((Xk [a,b,c]:Int) == 0)=false:=by simp;omega
     clear ma mb mc ha hb hc hall m1 m2 m3;generalize Xk [a,b,c]=G at *;go_enter Tryz.func207,Tryz.ntmps207
     go_wp2_with (fail)
     refine hg.mono ?_;rintro e w1 ⟨rfl,hb1⟩;have H1:=((XR.new w #[.int .i64 0,.int .i64 0,.int .i64 0] 174).alloc _).below hb1;have hbw:=Xf (Xc (Xc (Below.refl w.heap.size w) _) _) hb1;obtain ⟨cH1_0,fH1_0⟩:=H1.2 0 _ rfl;obtain ⟨cH1_1,fH1_1⟩:=H1.2 1 _ rfl;obtain ⟨cH1_2,fH1_2⟩:=H1.2 2 _ rfl;go_wp2_with (fail)
     refine (n1 _).mono ?_;rintro e w' ⟨rfl,rfl⟩;go_wp2_with (fail)
     refine (n2 _).mono ?_;rintro e w' ⟨rfl,rfl⟩;go_wp2_with (fail)
     refine (n3 _).mono ?_;rintro e w' ⟨rfl,rfl⟩;go_wp2
     refine bodyPost_ret (v:=.tuple #[.agg #[.int .i64 0,.int .i64 0,.int .i64 0],.bool false]) (by simp [results,Tryz.results207,go_sem, *]) rfl ⟨rfl, ?_⟩;exact Xi
   ·have hfin:YN a b c=none:=by simp [YN,mb]
    rw [hfin];have n1:=m1 _ ma;have n2:=m2 _ mb;have hG1:((Xk [a,b,c]:Int) == 0)=false:=by simp;omega
    clear ma mb ha hb hc hall m1 m2 m3;generalize Xk [a,b,c]=G at *;go_enter Tryz.func207,Tryz.ntmps207
    go_wp2_with (fail)
    refine hg.mono ?_;rintro e w1 ⟨rfl,hb1⟩;have H1:=((XR.new w #[.int .i64 0,.int .i64 0,.int .i64 0] 174).alloc _).below hb1;have hbw:=Xf (Xc (Xc (Below.refl w.heap.size w) _) _) hb1;obtain ⟨cH1_0,fH1_0⟩:=H1.2 0 _ rfl;obtain ⟨cH1_1,fH1_1⟩:=H1.2 1 _ rfl;obtain ⟨cH1_2,fH1_2⟩:=H1.2 2 _ rfl;go_wp2_with (fail)
    refine (n1 _).mono ?_;rintro e w' ⟨rfl,rfl⟩;go_wp2_with (fail)
    refine (n2 _).mono ?_;rintro e w' ⟨rfl,rfl⟩;go_wp2
    refine bodyPost_ret (v:=.tuple #[.agg #[.int .i64 0,.int .i64 0,.int .i64 0],.bool false]) (by simp [results,Tryz.results207,go_sem, *]) rfl ⟨rfl, ?_⟩;exact Xi
  ·have hfin:YN a b c=none:=by simp [YN,ma]
   rw [hfin];have n1:=m1 _ ma;have hG1:((Xk [a,b,c]:Int) == 0)=false:=by simp;omega
   clear ma ha hb hc hall m1 m2 m3;generalize Xk [a,b,c]=G at *;go_enter Tryz.func207,Tryz.ntmps207
   go_wp2_with (fail)
   refine hg.mono ?_;rintro e w1 ⟨rfl,hb1⟩;have H1:=((XR.new w #[.int .i64 0,.int .i64 0,.int .i64 0] 174).alloc _).below hb1;have hbw:=Xf (Xc (Xc (Below.refl w.heap.size w) _) _) hb1;obtain ⟨cH1_0,fH1_0⟩:=H1.2 0 _ rfl;obtain ⟨cH1_1,fH1_1⟩:=H1.2 1 _ rfl;obtain ⟨cH1_2,fH1_2⟩:=H1.2 2 _ rfl;go_wp2_with (fail)
   refine (n1 _).mono ?_;rintro e w' ⟨rfl,rfl⟩;go_wp2
   refine bodyPost_ret (v:=.tuple #[.agg #[.int .i64 0,.int .i64 0,.int .i64 0],.bool false]) (by simp [results,Tryz.results207,go_sem, *]) rfl ⟨rfl, ?_⟩;exact Xi
theorem Ja (h:Half) (w:World) (hh:h.In) :
 Calls Tryz.prog 237 #[Zb h] w λ e w'=>e=.returned (.bool (Xn h))/\Below w.heap.size w w':=by
 obtain ⟨h1,h2,h3⟩:=hh;have hxy:=gcdOf_In64 h1 h2;cases e1:ZH h.a (-50000) 50000
 ·go_enter Tryz.func237,Tryz.ntmps237
  go_wp2
  go_big_quiet ((first|(go_at_call 217;exact ZG (Kr _ _ _ _ (by assumption) _))|(go_at_call 236;exact JZ (Zw _ _ _ (by assumption) (by assumption)))))
  go_wp2
  go_ret
  refine ⟨Xg (by simp [Xn,e1]), ?_⟩;exact Xi
 ·cases e2:ZH h.b (-50000) 50000
  ·go_enter Tryz.func237,Tryz.ntmps237
   go_wp2
   go_big_quiet ((first|(go_at_call 217;exact ZG (Kr _ _ _ _ (by assumption) _))|(go_at_call 236;exact JZ (Zw _ _ _ (by assumption) (by assumption)))))
   go_wp2
   go_ret
   refine ⟨Xg (by simp [Xn,e1,e2]), ?_⟩;exact Xi
  ·have f1:(h.a != 0) = !(h.a == 0):=rfl;have f2:(h.b != 0) = !(h.b == 0):=rfl;obtain ⟨x1,x2⟩:=XY.1 e1;obtain ⟨y1,y2⟩:=XY.1 e2;have hz:∀ v:Bool,(h.a == 0)=v->(h.a != 0) = !v:=λ v e=>by rw [f1,e]
   have hz2:∀ v:Bool,(h.b == 0)=v->(h.b != 0) = !v:=λ v e=>by rw [f2,e]
   have key:(h.a≠0∨h.b≠0)->ZH h.c (-100000000) 100000000=true->Xn h=(Y5 (Y5 h.a h.b) h.c == 1):=by
    intro k1 e3;obtain ⟨z1,z2⟩:=XY.1 e3;have:=JN h1 h2;rw [Z0 (Za (a:=Y5 h.a h.b) (by omega)) (Za (a:=h.c) (by omega)),Z0 (Za (a:=h.a) (by omega)) (Za (a:=h.b) (by omega))];rw [Bool.eq_iff_iff];simp [Xn,e1,e2,e3,gcd3];omega
   clear f1 f2;cases za:(h.a == 0)
   ·have za2:=hz _ za;clear hz hz2 x1 x2 y1 y2;simp only [Bool.not_false] at za2;have hne:h.a≠0:=by simpa using za
    cases e3:ZH h.c (-100000000) 100000000
    ·clear key hne;go_enter Tryz.func237,Tryz.ntmps237
     go_wp2
     go_big_quiet ((first|(go_at_call 217;exact ZG (Kr _ _ _ _ (by assumption) _))|(go_at_call 236;exact JZ (Zw _ _ _ (by assumption) (by assumption)))))
     go_wp2
     go_ret
     refine ⟨Xg (by simp [Xn,e1,e2,e3]), ?_⟩;exact Xi
    ·have hfin:=Lib.hid (key (.inl hne) e3);clear key hne;cases e4:(Y5 (Y5 h.a h.b) h.c == 1);all_goals
      go_enter Tryz.func237,Tryz.ntmps237
      go_wp2
      go_big_quiet ((first|(go_at_call 217;exact ZG (Kr _ _ _ _ (by assumption) _))|(go_at_call 236;exact JZ (Zw _ _ _ (by assumption) (by assumption)))))
      go_wp2
      go_ret
      refine ⟨Xg (by rw [hfin.out,e4]), ?_⟩;exact Xi
   ·have za2:=hz _ za;simp only [Bool.not_true] at za2;cases zb:(h.b == 0)
    ·have zb2:=hz2 _ zb;clear hz hz2 x1 x2 y1 y2;simp only [Bool.not_false] at zb2;have hne:h.b≠0:=by simpa using zb
     cases e3:ZH h.c (-100000000) 100000000
     ·clear key hne;go_enter Tryz.func237,Tryz.ntmps237
      go_wp2
      go_big_quiet ((first|(go_at_call 217;exact ZG (Kr _ _ _ _ (by assumption) _))|(go_at_call 236;exact JZ (Zw _ _ _ (by assumption) (by assumption)))))
      go_wp2
      go_ret
      refine ⟨Xg (by simp [Xn,e1,e2,e3]), ?_⟩;exact Xi
     ·have hfin:=Lib.hid (key (.inr hne) e3);clear key hne;cases e4:(Y5 (Y5 h.a h.b) h.c == 1);all_goals
       go_enter Tryz.func237,Tryz.ntmps237
       go_wp2
       go_big_quiet ((first|(go_at_call 217;exact ZG (Kr _ _ _ _ (by assumption) _))|(go_at_call 236;exact JZ (Zw _ _ _ (by assumption) (by assumption)))))
       go_wp2
       go_ret
       refine ⟨Xg (by rw [hfin.out,e4]), ?_⟩;exact Xi
    ·have zb2:=hz2 _ zb;clear hz hz2 x1 x2 y1 y2 key;simp only [Bool.not_true] at zb2;have hfin:Hid (Xn h=false):=by
      have a0:h.a=0:=by simpa using za
      have b0:h.b=0:=by simpa using zb
      show _=_;simp [Xn,a0,b0]
     go_enter Tryz.func237,Tryz.ntmps237
     go_wp2
     go_big_quiet ((first|(go_at_call 217;exact ZG (Kr _ _ _ _ (by assumption) _))|(go_at_call 236;exact JZ (Zw _ _ _ (by assumption) (by assumption)))))
     go_wp2
     go_ret
     refine ⟨Xg (by rw [hfin.out]), ?_⟩;exact Xi
theorem gcdOf_one (a:Int):Y5 a 1=if Yd a then 0 else 1:=by
 unfold Y5;cases Yd a<;>simp [Yd]
theorem sHalfOf_c (a b c:Int) (w:World) (ha:Yn a) (hb:Yn b) (hc:Yn c) :
 Calls Tryz.prog 182 #[.int .i64 a,.int .i64 b,.int .i64 c] w λ e w'=>e=.returned (JK (YN a b c))/\Below w.heap.size w w':=by
 have hone:Yn 1:=⟨by omega,by omega⟩;have hxy:=gcdOf_In64 ha hb;have k1:=gcdOf_one a;have k2:=gcdOf_one b;have k3:=gcdOf_one c;cases ma:Yd a
 ·rw [ma] at k1;cases mb:Yd b
  ·rw [mb] at k2;cases mc:Yd c
   ·rw [mc] at k3;simp only [Bool.false_eq_true,if_false] at k1 k2 k3;by_cases hz:a=0/\b=0
    ·have hfin:YN a b c=none:=by
      unfold YN;split
      ·rfl
      ·rw [if_neg];obtain ⟨rfl,rfl⟩:=hz;simp [Xn,redHalf]
     rw [hfin];obtain ⟨rfl,rfl⟩:=hz;clear ma mb mc hfin;go_enter Tryz.func182,Tryz.ntmps182
     go_wp2_with (go_at_call 236;refine (Zw _ _ _ (by assumption) (by assumption)).mono ?_;rintro e wc ⟨rfl,nc,rfl⟩)
     refine bodyPost_ret (v:=.tuple #[.agg #[.int .i64 0,.int .i64 0,.int .i64 0],.bool false]) (by simp [results,Tryz.results182,go_sem]) rfl ⟨rfl, ?_⟩;exact Xi
    ·have hpos:0<Xk [a,b,c]:=by
      rw [gcd3];apply Nat.gcd_pos_of_pos_left;rcases Nat.eq_zero_or_pos (Nat.gcd a.natAbs b.natAbs) with h|h
      ·rw [Nat.gcd_eq_zero_iff] at h;omega
      ·exact h
     have hfin:Hid (YN a b c=if Xn ⟨a.tdiv (Xk [a,b,c]),b.tdiv (Xk [a,b,c]),c.tdiv (Xk [a,b,c])⟩=true then some ⟨a.tdiv (Xk [a,b,c]),b.tdiv (Xk [a,b,c]),c.tdiv (Xk [a,b,c])⟩ else none):=by
      show _=_;rw [YN,if_neg (by simp [ma,mb,mc];omega)];rfl
     have hG:Y5 (Y5 a b) c=((Xk [a,b,c]:Nat):Int):=by
      have:=JN ha hb;rw [Z0 (Za (by omega)) mc,Z0 ma mb,gcd3];simp
     have hle:Xk [a,b,c]<=9223372036854775807:=by
      have:=(JN hxy hc).2;rw [hG] at this;omega
     generalize Xk [a,b,c]=G at *;have i1:=ZL ha ma G;have i2:=ZL hb mb G;have i3:=ZL hc mc G;have c5:=λ W=>Ja ⟨a.tdiv G,b.tdiv G,c.tdiv G⟩ W ⟨i1,i2,i3⟩;obtain ⟨q1,r1⟩:=i1;obtain ⟨q2,r2⟩:=i2;obtain ⟨q3,r3⟩:=i3;have w1:IntKind.i64.wrap (a.tdiv G)=a.tdiv G:=IntWalk.i64_in _ ⟨q1,r1⟩;have w2:IntKind.i64.wrap (b.tdiv G)=b.tdiv G:=IntWalk.i64_in _ ⟨q2,r2⟩;have w3:IntKind.i64.wrap (c.tdiv G)=c.tdiv G:=IntWalk.i64_in _ ⟨q3,r3⟩;have hG1:¬ (G=0):=by omega
     have hG2:¬ ((G:Int)=0):=by omega
     have hz2:((a == 0)&&(b == 0))=false:=by
      rw [Bool.and_eq_false_iff];simp;omega
     clear ma mb mc hz;generalize Xn ⟨a.tdiv G,b.tdiv G,c.tdiv G⟩=ok at *;generalize hba:(a == 0)=za at *;generalize hbb:(b == 0)=zb at *;have hz3:za=true->zb=false:=by intro h;subst h;simpa using hz2
     clear hz2;cases za;all_goals
      first|(have hzb:=hz3 rfl;subst hzb)|skip
      clear hz3;go_enter Tryz.func182,Tryz.ntmps182
      go_wp2_with (go_at_call 236;refine (Zw _ _ _ (by assumption) (by assumption)).mono ?_;rintro e wc ⟨rfl,nc,rfl⟩)
      all_goals go_region_held3 (λ _=>True) (exact True.intro) (fail)
      all_goals
       go_wp2_with (fail)
       refine (c5 _).mono ?_;rintro e w9 ⟨rfl,hb9⟩;have hbw:Below w.heap.size w w9:=by
        refine Xf ?_ hb9;exact Xi
       have H2:XR w9 w.heap.size [.int .i64 0,.int .i64 0,.int .i64 0]:=by
        refine XR.below ?_ hb9;exact (XR.new w _ _).alloc _
       have H3:XR w9 (w.heap.size+1) [.int .i64 (a.tdiv G),.int .i64 (b.tdiv G),.int .i64 (c.tdiv G)]:=by
        refine XR.below ?_ hb9;have:=XR.new (w.alloc (.cells #[.int .i64 0,.int .i64 0,.int .i64 0] 174)) #[.int .i64 (a.tdiv G),.int .i64 (b.tdiv G),.int .i64 (c.tdiv G)] 174;simp only [World.size_alloc] at this;exact this
       obtain ⟨cH2_0,fH2_0⟩:=H2.2 0 _ rfl;obtain ⟨cH2_1,fH2_1⟩:=H2.2 1 _ rfl;obtain ⟨cH2_2,fH2_2⟩:=H2.2 2 _ rfl;obtain ⟨cH3_0,fH3_0⟩:=H3.2 0 _ rfl;obtain ⟨cH3_1,fH3_1⟩:=H3.2 1 _ rfl;obtain ⟨cH3_2,fH3_2⟩:=H3.2 2 _ rfl;cases ok
       ·go_wp2
        refine bodyPost_ret (v:=.tuple #[.agg #[.int .i64 0,.int .i64 0,.int .i64 0],.bool false]) (by simp [results,Tryz.results182,go_sem, *]) rfl ⟨by rw [hfin.out];rfl, ?_⟩;exact Xi
       ·go_wp2
        refine bodyPost_ret (v:=.tuple #[.agg #[.int .i64 (a.tdiv G),.int .i64 (b.tdiv G),.int .i64 (c.tdiv G)],.bool true]) (by simp [results,Tryz.results182,go_sem, *]) rfl ⟨by rw [hfin.out];rfl, ?_⟩;exact Xi
   ·rw [mc] at k3;simp only [Bool.false_eq_true,if_false,if_true] at k1 k2 k3;have hfin:YN a b c=none:=by simp [YN,mc]
    rw [hfin];clear ma mb mc;go_enter Tryz.func182,Tryz.ntmps182
    go_wp2_with (go_at_call 236;refine (Zw _ _ _ (by assumption) (by assumption)).mono ?_;rintro e wc ⟨rfl,nc,rfl⟩)
    refine bodyPost_ret (v:=.tuple #[.agg #[.int .i64 0,.int .i64 0,.int .i64 0],.bool false]) (by simp [results,Tryz.results182,go_sem]) rfl ⟨rfl, ?_⟩;exact Xi
  ·rw [mb] at k2;simp only [Bool.false_eq_true,if_false,if_true] at k1 k2;have hfin:YN a b c=none:=by simp [YN,mb]
   rw [hfin];clear ma mb k3;go_enter Tryz.func182,Tryz.ntmps182
   go_wp2_with (go_at_call 236;refine (Zw _ _ _ (by assumption) (by assumption)).mono ?_;rintro e wc ⟨rfl,nc,rfl⟩)
   refine bodyPost_ret (v:=.tuple #[.agg #[.int .i64 0,.int .i64 0,.int .i64 0],.bool false]) (by simp [results,Tryz.results182,go_sem]) rfl ⟨rfl, ?_⟩;exact Xi
 ·rw [ma] at k1;simp only [if_true] at k1;have hfin:YN a b c=none:=by simp [YN,ma]
  rw [hfin];clear ma k2 k3;go_enter Tryz.func182,Tryz.ntmps182
  go_wp2_with (go_at_call 236;refine (Zw _ _ _ (by assumption) (by assumption)).mono ?_;rintro e wc ⟨rfl,nc,rfl⟩)
  refine bodyPost_ret (v:=.tuple #[.agg #[.int .i64 0,.int .i64 0,.int .i64 0],.bool false]) (by simp [results,Tryz.results182,go_sem]) rfl ⟨rfl, ?_⟩;exact Xi
end Go.Proofs.YtabfdkpdppemaaaGreat
