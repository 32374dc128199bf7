/-
 What the functions that reduce fractions, spots and half planes return.
 Conditions: the numbers are ints of the machine.
-/
import Derived.Test.YtbekjpkcicjcgaaGreatGrC
import Derived.StillTailTactics
import Derived.Deep.RegionHeld3
set_option maxHeartbeats 4000000
set_option maxRecDepth 100000
namespace Go.Proofs.YtbekjpkcicjcgaaGreat
open Go.RowKit
theorem ZX {a:Int} (h:Yy a) (hm:Yj a=false) (g:Nat):Yy (a.tdiv g):=by
 have h1:=Kj h hm;have:=tdiv_le a g 9223372036854775807 h1.1 h1.2;exact ⟨Oz,Oz⟩
def optSpotV:Option X9->Value
 | some s=>.tuple #[.agg #[.int .i64 s.x,.int .i64 s.y,.int .i64 s.d],.bool true]
 | none=>.tuple #[.agg #[.int .i64 0,.int .i64 0,.int .i64 0],.bool false]
def YY:Option Half->Value
 | some h=>.tuple #[.agg #[.int .i64 h.a,.int .i64 h.b,.int .i64 h.c],.bool true]
 | none=>.tuple #[.agg #[.int .i64 0,.int .i64 0,.int .i64 0],.bool false]
theorem iSpotOf_c (x y d:Int) (w:World) (hx:Yy x) (hy:Yy y) (hd:Yy d) :
 Calls Tryz.prog 112 #[.int .i64 x,.int .i64 y,.int .i64 d] w λ e w'=>e=.returned (optSpotV (Zd x y d))/\Below w.heap.size w w':=by
 by_cases hd0:d<=0
 ·have hfin:Zd x y d=none:=by simp [Zd,hd0]
  rw [hfin];go_enter Tryz.func112,Tryz.ntmps112
  go_wp2
  refine bodyPost_ret (v:=.tuple #[.agg #[.int .i64 0,.int .i64 0,.int .i64 0],.bool false]) (by simp [results,Tryz.results112,go_sem]) rfl ⟨rfl, ?_⟩;exact Xl
 ·cases mx:Yj x
  ·cases my:Yj y
   ·have hall:∀ n∈[x,y,d],Yy n:=by simp [hx,hy,hd]
    have md:Yj d=false:=ZI Oz;have hfin:Hid (Zd x y d=if X7 ⟨x.tdiv (Xm [x,y,d]),y.tdiv (Xm [x,y,d]),d.tdiv (Xm [x,y,d])⟩=true then some ⟨x.tdiv (Xm [x,y,d]),y.tdiv (Xm [x,y,d]),d.tdiv (Xm [x,y,d])⟩ else none):=by
     show _=_;rw [Zd,if_neg (by simp [hd0,mx,my])];rfl
    have hg:=Jf (some ⟨w.heap.size+1,0,none⟩) [x,y,d] 3 _ Sz hall (sl_new_at (T:=3) Zg (w.alloc (.cells #[.int .i64 0,.int .i64 0,.int .i64 0] 30)) [x,y,d] #[.int .i64 x,.int .i64 y,.int .i64 d] rfl Sz);have hle:=JF [x,y,d] hall;have hpos:0<Xm [x,y,d]:=by rw [gcd3];exact Nat.gcd_pos_of_pos_right _ Oz
    generalize Xm [x,y,d]=G at *;have i1:=ZX hx mx G;have i2:=ZX hy my G;have i3:=ZX hd md G;have c1:=λ W=>JZ x G W hx mx hpos hle;have c2:=λ W=>JZ y G W hy my hpos hle;have c3:=λ W=>JZ d G W hd md hpos hle;have c4:=λ W=>iSpotOk_c ⟨x.tdiv G,y.tdiv G,d.tdiv G⟩ W ⟨i1,i2,i3⟩;have m1:=KI x false mx hx;have m2:=KI y false my hy;generalize x.tdiv G=x' at *;generalize y.tdiv G=y' at *;generalize d.tdiv G=d' at *;clear i1 i2 i3 mx my md hx hy hd hall;generalize X7 ⟨x',y',d'⟩=ok at *;cases ok;all_goals
     rw [hfin.out];go_enter Tryz.func112,Tryz.ntmps112
     go_wp2_with (fail)
     refine (m1 _).mono ?_;rintro e w' ⟨rfl,rfl⟩;go_wp2_with (fail)
     refine (m2 _).mono ?_;rintro e w' ⟨rfl,rfl⟩;go_wp2_with (fail)
     refine hg.mono ?_;rintro e w1 ⟨rfl,hb1⟩;have hb2:=(Xe (Xc (Xc (Below.refl w.heap.size w) _) _) hb1);have H1:=((XV.new w #[.int .i64 0,.int .i64 0,.int .i64 0] 30).alloc _).below hb1;obtain ⟨cH1_0,fH1_0⟩:=H1.2 0 _ rfl;obtain ⟨cH1_1,fH1_1⟩:=H1.2 1 _ rfl;obtain ⟨cH1_2,fH1_2⟩:=H1.2 2 _ rfl;go_wp2_with (fail)
     refine (c1 _).mono ?_;rintro e w' ⟨rfl,rfl⟩;go_wp2_with (fail)
     refine (c2 _).mono ?_;rintro e w' ⟨rfl,rfl⟩;go_wp2_with (fail)
     refine (c3 _).mono ?_;rintro e w' ⟨rfl,rfl⟩;go_wp2_with (fail)
     refine (c4 _).mono ?_;rintro e w2 ⟨rfl,hb4⟩;have hb5:=Xe (Xc hb2 (.cells #[.int .i64 x',.int .i64 y',.int .i64 d'] 30)) hb4;have H2:=(H1.alloc _).below hb4;have H3:=(XV.new _ _ _).below hb4;clear cH1_0 cH1_1 cH1_2 fH1_0 fH1_1 fH1_2;obtain ⟨cH2_0,fH2_0⟩:=H2.2 0 _ rfl;obtain ⟨cH2_1,fH2_1⟩:=H2.2 1 _ rfl;obtain ⟨cH2_2,fH2_2⟩:=H2.2 2 _ rfl;obtain ⟨cH3_0,fH3_0⟩:=H3.2 0 _ rfl;obtain ⟨cH3_1,fH3_1⟩:=H3.2 1 _ rfl;obtain ⟨cH3_2,fH3_2⟩:=H3.2 2 _ rfl;go_wp2
     first
      | exact bodyPost_ret (v:=.tuple #[.agg #[.int .i64 0,.int .i64 0,.int .i64 0],.bool false]) (by simp [results,Tryz.results112,go_sem, *]) rfl ⟨rfl,Yp (Yp (Yp hb5 XE _) XE _) XE _⟩
      | exact bodyPost_ret (v:=.tuple #[.agg #[.int .i64 x',.int .i64 y',.int .i64 d'],.bool true]) (by simp [results,Tryz.results112,go_sem, *]) rfl ⟨rfl,Yp (Yp (Yp hb5 XE _) XE _) XE _⟩
   ·have m1:=KI x false mx hx;have m2:=KI y true my hy;have hfin:Zd x y d=none:=by simp [Zd,my]
    rw [hfin];clear mx my;go_enter Tryz.func112,Tryz.ntmps112
    go_wp2_with (fail)
    refine (m1 _).mono ?_;rintro e w' ⟨rfl,rfl⟩;go_wp2_with (fail)
    refine (m2 _).mono ?_;rintro e w' ⟨rfl,rfl⟩;go_wp2
    refine bodyPost_ret (v:=.tuple #[.agg #[.int .i64 0,.int .i64 0,.int .i64 0],.bool false]) (by simp [results,Tryz.results112,go_sem]) rfl ⟨rfl, ?_⟩;exact Xl
  ·have m1:=KI x true mx hx;have hfin:Zd x y d=none:=by simp [Zd,mx]
   rw [hfin];clear mx;go_enter Tryz.func112,Tryz.ntmps112
   go_wp2_with (fail)
   refine (m1 _).mono ?_;rintro e w' ⟨rfl,rfl⟩;go_wp2
   refine bodyPost_ret (v:=.tuple #[.agg #[.int .i64 0,.int .i64 0,.int .i64 0],.bool false]) (by simp [results,Tryz.results112,go_sem]) rfl ⟨rfl, ?_⟩;exact Xl
theorem sSpotOf_c (x y d:Int) (w:World) (hx:Yy x) (hy:Yy y) (hd:Yy d) :
 Calls Tryz.prog 203 #[.int .i64 x,.int .i64 y,.int .i64 d] w λ e w'=>e=.returned (optSpotV (Zd x y d))/\Below w.heap.size w w':=by
 by_cases hd0:d<=0
 ·have hfin:Zd x y d=none:=by simp [Zd,hd0]
  rw [hfin];go_enter Tryz.func203,Tryz.ntmps203
  go_wp2
  refine bodyPost_ret (v:=.tuple #[.agg #[.int .i64 0,.int .i64 0,.int .i64 0],.bool false]) (by simp [results,Tryz.results203,go_sem]) rfl ⟨rfl, ?_⟩;exact Xl
 ·have hxy:=gcdOf_In64 hx hy;have md:Yj d=false:=ZI Oz;have wm:(x != 0)=false->Yj x=false:=by intro h;simp at h;subst h;rfl
  have wm2:(y != 0)=false->Yj y=false:=by intro h;simp at h;subst h;rfl
  cases mx:Yj x
  ·cases my:Yj y
   ·have hfin:Hid (Zd x y d=if X7 ⟨x.tdiv (Xm [x,y,d]),y.tdiv (Xm [x,y,d]),d.tdiv (Xm [x,y,d])⟩=true then some ⟨x.tdiv (Xm [x,y,d]),y.tdiv (Xm [x,y,d]),d.tdiv (Xm [x,y,d])⟩ else none):=by
     show _=_;rw [Zd,if_neg (by simp [hd0,mx,my])];rfl
    have hG:YF (YF x y) d=((Xm [x,y,d]:Nat):Int):=by
     have:=JM hx hy;rw [Kk (ZI Oz) md,Kk mx my,gcd3];simp
    have hpos:0<Xm [x,y,d]:=by rw [gcd3];exact Nat.gcd_pos_of_pos_right _ Oz
    have h3:(YF x d == 0)=false:=by
     rw [Kk mx md];have:0<Nat.gcd x.natAbs d.natAbs:=Nat.gcd_pos_of_pos_right _ Oz;simp;omega
    have h4:(YF y d == 0)=false:=by
     rw [Kk my md];have:0<Nat.gcd y.natAbs d.natAbs:=Nat.gcd_pos_of_pos_right _ Oz;simp;omega
    have hle:Xm [x,y,d]<=9223372036854775807:=by
     have:=(JM hxy hd).2;rw [hG] at this;omega
    generalize Xm [x,y,d]=G at *;have i1:=ZX hx mx G;have i2:=ZX hy my G;have i3:=ZX hd md G;have c5:=λ W=>sSpotOk_c ⟨x.tdiv G,y.tdiv G,d.tdiv G⟩ W ⟨i1,i2,i3⟩;obtain ⟨q1,r1⟩:=i1;obtain ⟨q2,r2⟩:=i2;obtain ⟨q3,r3⟩:=i3;have w1:IntKind.i64.wrap (x.tdiv G)=x.tdiv G:=IntWalk.i64_in _ ⟨q1,r1⟩;have w2:IntKind.i64.wrap (y.tdiv G)=y.tdiv G:=IntWalk.i64_in _ ⟨q2,r2⟩;have w3:IntKind.i64.wrap (d.tdiv G)=d.tdiv G:=IntWalk.i64_in _ ⟨q3,r3⟩;have hG1:¬ (G=0):=Oz
    have hG2:¬ ((G:Int)=0):=Oz
    clear mx my md wm wm2;generalize X7 ⟨x.tdiv G,y.tdiv G,d.tdiv G⟩=ok at *;generalize hbx:(x != 0)=bx;generalize hby:(y != 0)=by_;go_enter Tryz.func203,Tryz.ntmps203
    go_wp2_with (go_at_call 131;refine (Zf _ _ _ (by assumption) (by assumption)).mono ?_;rintro e wc ⟨rfl,nc,rfl⟩)
    all_goals go_region_held3 (λ _=>True) (exact True.intro) (fail)
    all_goals
     go_wp2_with (fail)
     refine (c5 _).mono ?_;rintro e w9 ⟨rfl,hb9⟩;have hbw:Below w.heap.size w w9:=by
      refine Xe ?_ hb9;exact Xl
     have H2:XV w9 w.heap.size [.int .i64 0,.int .i64 0,.int .i64 0]:=by
      refine XV.below ?_ hb9;exact (XV.new w _ _).alloc _
     have H3:XV w9 (w.heap.size+1) [.int .i64 (x.tdiv G),.int .i64 (y.tdiv G),.int .i64 (d.tdiv G)]:=by
      refine XV.below ?_ hb9;have:=XV.new (w.alloc (.cells #[.int .i64 0,.int .i64 0,.int .i64 0] 30)) #[.int .i64 (x.tdiv G),.int .i64 (y.tdiv G),.int .i64 (d.tdiv G)] 30;simp only [World.size_alloc] at this;exact this
     obtain ⟨cH2_0,fH2_0⟩:=H2.2 0 _ rfl;obtain ⟨cH2_1,fH2_1⟩:=H2.2 1 _ rfl;obtain ⟨cH2_2,fH2_2⟩:=H2.2 2 _ rfl;obtain ⟨cH3_0,fH3_0⟩:=H3.2 0 _ rfl;obtain ⟨cH3_1,fH3_1⟩:=H3.2 1 _ rfl;obtain ⟨cH3_2,fH3_2⟩:=H3.2 2 _ rfl;cases ok
     ·go_wp2
      refine bodyPost_ret (v:=.tuple #[.agg #[.int .i64 0,.int .i64 0,.int .i64 0],.bool false]) (by simp [results,Tryz.results203,go_sem, *]) rfl ⟨by rw [hfin.out];rfl, ?_⟩;exact Yp (Yp (Yp hbw XE _) XE _) XE _
     ·go_wp2
      refine bodyPost_ret (v:=.tuple #[.agg #[.int .i64 (x.tdiv G),.int .i64 (y.tdiv G),.int .i64 (d.tdiv G)],.bool true]) (by simp [results,Tryz.results203,go_sem, *]) rfl ⟨by rw [hfin.out];rfl, ?_⟩;exact Yp (Yp (Yp hbw XE _) XE _) XE _
   ·have hfin:Zd x y d=none:=by simp [Zd,my]
    rw [hfin];have h4:YF y d=0:=gcdOf_min1 my;have h5:(y != 0)=true:=by simp [Yj] at my;subst my;rfl
    have h3:(YF x d == 0)=false:=by
     rw [Kk mx md];have:0<Nat.gcd x.natAbs d.natAbs:=Nat.gcd_pos_of_pos_right _ Oz;simp;omega
    generalize hbx:(x != 0)=bx;clear mx my md wm wm2;go_enter Tryz.func203,Tryz.ntmps203
    go_wp2_with (go_at_call 131;refine (Zf _ _ _ (by assumption) (by assumption)).mono ?_;rintro e wc ⟨rfl,nc,rfl⟩)
    all_goals
     refine bodyPost_ret (v:=.tuple #[.agg #[.int .i64 0,.int .i64 0,.int .i64 0],.bool false]) (by simp [results,Tryz.results203,go_sem]) rfl ⟨rfl, ?_⟩;exact Xl
  ·have hfin:Zd x y d=none:=by simp [Zd,mx]
   rw [hfin];have h3:YF x d=0:=gcdOf_min1 mx;have h5:(x != 0)=true:=by simp [Yj] at mx;subst mx;rfl
   clear mx md wm wm2;go_enter Tryz.func203,Tryz.ntmps203
   go_wp2_with (go_at_call 131;refine (Zf _ _ _ (by assumption) (by assumption)).mono ?_;rintro e wc ⟨rfl,nc,rfl⟩)
   all_goals
    refine bodyPost_ret (v:=.tuple #[.agg #[.int .i64 0,.int .i64 0,.int .i64 0],.bool false]) (by simp [results,Tryz.results203,go_sem]) rfl ⟨rfl, ?_⟩;exact Xl
theorem iHalfOf_c (a b c:Int) (w:World) (ha:Yy a) (hb:Yy b) (hc:Yy c) :
 Calls Tryz.prog 142 #[.int .i64 a,.int .i64 b,.int .i64 c] w λ e w'=>e=.returned (YY (Y1 a b c))/\Below w.heap.size w w':=by
 have hall:∀ n∈[a,b,c],Yy n:=by simp [ha,hb,hc]
 have hg:=Jf (some ⟨w.heap.size+1,0,none⟩) [a,b,c] 3 _ Sz hall (sl_new_at (T:=3) Zg (w.alloc (.cells #[.int .i64 0,.int .i64 0,.int .i64 0] 136)) [a,b,c] #[.int .i64 a,.int .i64 b,.int .i64 c] rfl Sz);have hle:=JF [a,b,c] hall;have m1:=λ v h=>KI a v h ha;have m2:=λ v h=>KI b v h hb;have m3:=λ v h=>KI c v h hc;by_cases hz:Xm [a,b,c]=0
 ·have hfin:Y1 a b c=none:=by simp [Y1,hz]
  rw [hfin];rw [hz] at hg;clear hz hle;go_enter Tryz.func142,Tryz.ntmps142
  go_wp2_with (fail)
  refine hg.mono ?_;rintro e w1 ⟨rfl,hb1⟩;have H1:=((XV.new w #[.int .i64 0,.int .i64 0,.int .i64 0] 136).alloc _).below hb1;obtain ⟨cH1_0,fH1_0⟩:=H1.2 0 _ rfl;obtain ⟨cH1_1,fH1_1⟩:=H1.2 1 _ rfl;obtain ⟨cH1_2,fH1_2⟩:=H1.2 2 _ rfl;have hbw:=Xe (Xc (Xc (Below.refl w.heap.size w) _) _) hb1;go_wp2
  refine bodyPost_ret (v:=.tuple #[.agg #[.int .i64 0,.int .i64 0,.int .i64 0],.bool false]) (by simp [results,Tryz.results142,go_sem, *]) rfl ⟨rfl, ?_⟩;exact Xl
 ·cases ma:Yj a
  ·cases mb:Yj b
   ·cases mc:Yj c
    ·have hfin:Hid (Y1 a b c=if Xt ⟨a.tdiv (Xm [a,b,c]),b.tdiv (Xm [a,b,c]),c.tdiv (Xm [a,b,c])⟩=true then some ⟨a.tdiv (Xm [a,b,c]),b.tdiv (Xm [a,b,c]),c.tdiv (Xm [a,b,c])⟩ else none):=by
      show _=_;rw [Y1,if_neg (by simp [hz,ma,mb,mc])];rfl
     have hpos:0<Xm [a,b,c]:=Oz
     clear hz;generalize Xm [a,b,c]=G at *;have i1:=ZX ha ma G;have i2:=ZX hb mb G;have i3:=ZX hc mc G;have c1:=λ W=>JZ a G W ha ma hpos hle;have c2:=λ W=>JZ b G W hb mb hpos hle;have c3:=λ W=>JZ c G W hc mc hpos hle;have c4:=λ W=>JD ⟨a.tdiv G,b.tdiv G,c.tdiv G⟩ W ⟨i1,i2,i3⟩;have n1:=m1 _ ma;have n2:=m2 _ mb;have n3:=m3 _ mc;have hG1:¬ (G=0):=Oz
     have hG2:((G:Int) == 0)=false:=by simp;omega
     generalize a.tdiv G=x' at *;generalize b.tdiv G=y' at *;generalize c.tdiv G=d' at *;clear i1 i2 i3 ma mb mc ha hb hc hall m1 m2 m3;generalize Xt ⟨x',y',d'⟩=ok at *;go_enter Tryz.func142,Tryz.ntmps142
     go_wp2_with (fail)
     refine hg.mono ?_;rintro e w1 ⟨rfl,hb1⟩;have hb2:=(Xe (Xc (Xc (Below.refl w.heap.size w) _) _) hb1);have H1:=((XV.new w #[.int .i64 0,.int .i64 0,.int .i64 0] 136).alloc _).below hb1;go_wp2_with (fail)
     refine (n1 _).mono ?_;rintro e w' ⟨rfl,rfl⟩;go_wp2_with (fail)
     refine (n2 _).mono ?_;rintro e w' ⟨rfl,rfl⟩;go_wp2_with (fail)
     refine (n3 _).mono ?_;rintro e w' ⟨rfl,rfl⟩;go_wp2_with (fail)
     refine (c1 _).mono ?_;rintro e w' ⟨rfl,rfl⟩;go_wp2_with (fail)
     refine (c2 _).mono ?_;rintro e w' ⟨rfl,rfl⟩;go_wp2_with (fail)
     refine (c3 _).mono ?_;rintro e w' ⟨rfl,rfl⟩;go_wp2_with (fail)
     refine (c4 _).mono ?_;rintro e w2 ⟨rfl,hb4⟩;have hb5:=Xe (Xc hb2 (.cells #[.int .i64 x',.int .i64 y',.int .i64 d'] 136)) hb4;have H2:=(H1.alloc _).below hb4;have H3:=(XV.new _ _ _).below hb4;obtain ⟨cH2_0,fH2_0⟩:=H2.2 0 _ rfl;obtain ⟨cH2_1,fH2_1⟩:=H2.2 1 _ rfl;obtain ⟨cH2_2,fH2_2⟩:=H2.2 2 _ rfl;obtain ⟨cH3_0,fH3_0⟩:=H3.2 0 _ rfl;obtain ⟨cH3_1,fH3_1⟩:=H3.2 1 _ rfl;obtain ⟨cH3_2,fH3_2⟩:=H3.2 2 _ rfl;cases ok
     ·go_wp2
      refine bodyPost_ret (v:=.tuple #[.agg #[.int .i64 0,.int .i64 0,.int .i64 0],.bool false]) (by simp [results,Tryz.results142,go_sem, *]) rfl ⟨by rw [hfin.out];rfl, ?_⟩;exact Xl
     ·go_wp2
      refine bodyPost_ret (v:=.tuple #[.agg #[.int .i64 x',.int .i64 y',.int .i64 d'],.bool true]) (by simp [results,Tryz.results142,go_sem, *]) rfl ⟨by rw [hfin.out];rfl, ?_⟩;exact Xl
    ·have hfin:Y1 a b c=none:=by simp [Y1,mc]
     rw [hfin];have n1:=m1 _ ma;have n2:=m2 _ mb;have n3:=m3 _ mc;have hG1:((Xm [a,b,c]:Int) == 0)=false:=by simp;omega
     clear ma mb mc ha hb hc hall m1 m2 m3;generalize Xm [a,b,c]=G at *;go_enter Tryz.func142,Tryz.ntmps142
     go_wp2_with (fail)
     refine hg.mono ?_;rintro e w1 ⟨rfl,hb1⟩;have H1:=((XV.new w #[.int .i64 0,.int .i64 0,.int .i64 0] 136).alloc _).below hb1;have hbw:=Xe (Xc (Xc (Below.refl w.heap.size w) _) _) hb1;obtain ⟨cH1_0,fH1_0⟩:=H1.2 0 _ rfl;obtain ⟨cH1_1,fH1_1⟩:=H1.2 1 _ rfl;obtain ⟨cH1_2,fH1_2⟩:=H1.2 2 _ rfl;go_wp2_with (fail)
     refine (n1 _).mono ?_;rintro e w' ⟨rfl,rfl⟩;go_wp2_with (fail)
     refine (n2 _).mono ?_;rintro e w' ⟨rfl,rfl⟩;go_wp2_with (fail)
     refine (n3 _).mono ?_;rintro e w' ⟨rfl,rfl⟩;go_wp2
     refine bodyPost_ret (v:=.tuple #[.agg #[.int .i64 0,.int .i64 0,.int .i64 0],.bool false]) (by simp [results,Tryz.results142,go_sem, *]) rfl ⟨rfl, ?_⟩;exact Xl
   ·have hfin:Y1 a b c=none:=by simp [Y1,mb]
    rw [hfin];have n1:=m1 _ ma;have n2:=m2 _ mb;have hG1:((Xm [a,b,c]:Int) == 0)=false:=by simp;omega
    clear ma mb ha hb hc hall m1 m2 m3;generalize Xm [a,b,c]=G at *;go_enter Tryz.func142,Tryz.ntmps142
    go_wp2_with (fail)
    refine hg.mono ?_;rintro e w1 ⟨rfl,hb1⟩;have H1:=((XV.new w #[.int .i64 0,.int .i64 0,.int .i64 0] 136).alloc _).below hb1;have hbw:=Xe (Xc (Xc (Below.refl w.heap.size w) _) _) hb1;obtain ⟨cH1_0,fH1_0⟩:=H1.2 0 _ rfl;obtain ⟨cH1_1,fH1_1⟩:=H1.2 1 _ rfl;obtain ⟨cH1_2,fH1_2⟩:=H1.2 2 _ rfl;go_wp2_with (fail)
    refine (n1 _).mono ?_;rintro e w' ⟨rfl,rfl⟩;go_wp2_with (fail)
    refine (n2 _).mono ?_;rintro e w' ⟨rfl,rfl⟩;go_wp2
    refine bodyPost_ret (v:=.tuple #[.agg #[.int .i64 0,.int .i64 0,.int .i64 0],.bool false]) (by simp [results,Tryz.results142,go_sem, *]) rfl ⟨rfl, ?_⟩;exact Xl
  ·have hfin:Y1 a b c=none:=by simp [Y1,ma]
   rw [hfin];have n1:=m1 _ ma;have hG1:((Xm [a,b,c]:Int) == 0)=false:=by simp;omega
   clear ma ha hb hc hall m1 m2 m3;generalize Xm [a,b,c]=G at *;go_enter Tryz.func142,Tryz.ntmps142
   go_wp2_with (fail)
   refine hg.mono ?_;rintro e w1 ⟨rfl,hb1⟩;have H1:=((XV.new w #[.int .i64 0,.int .i64 0,.int .i64 0] 136).alloc _).below hb1;have hbw:=Xe (Xc (Xc (Below.refl w.heap.size w) _) _) hb1;obtain ⟨cH1_0,fH1_0⟩:=H1.2 0 _ rfl;obtain ⟨cH1_1,fH1_1⟩:=H1.2 1 _ rfl;obtain ⟨cH1_2,fH1_2⟩:=H1.2 2 _ rfl;go_wp2_with (fail)
   refine (n1 _).mono ?_;rintro e w' ⟨rfl,rfl⟩;go_wp2
   refine bodyPost_ret (v:=.tuple #[.agg #[.int .i64 0,.int .i64 0,.int .i64 0],.bool false]) (by simp [results,Tryz.results142,go_sem, *]) rfl ⟨rfl, ?_⟩;exact Xl
theorem JY (h:Half) (w:World) (hh:h.In) :
 Calls Tryz.prog 132 #[X3 h] w λ e w'=>e=.returned (.bool (Xt h))/\Below w.heap.size w w':=by
 obtain ⟨h1,h2,h3⟩:=hh;have hxy:=gcdOf_In64 h1 h2;cases e1:ZL h.a (-50000) 50000
 ·go_enter Tryz.func132,Tryz.ntmps132
  go_wp2
  go_big_quiet ((first|(go_at_call 129;exact Yb (JJ _ _ _ _ (by assumption) _))|(go_at_call 131;exact quiet_n (Zf _ _ _ (by assumption) (by assumption)))))
  go_wp2
  go_ret
  refine ⟨Xi (by simp [Xt,e1]), ?_⟩;exact Xl
 ·cases e2:ZL h.b (-50000) 50000
  ·go_enter Tryz.func132,Tryz.ntmps132
   go_wp2
   go_big_quiet ((first|(go_at_call 129;exact Yb (JJ _ _ _ _ (by assumption) _))|(go_at_call 131;exact quiet_n (Zf _ _ _ (by assumption) (by assumption)))))
   go_wp2
   go_ret
   refine ⟨Xi (by simp [Xt,e1,e2]), ?_⟩;exact Xl
  ·have f1:(h.a != 0) = !(h.a == 0):=rfl;have f2:(h.b != 0) = !(h.b == 0):=rfl;obtain ⟨x1,x2⟩:=Z3.1 e1;obtain ⟨y1,y2⟩:=Z3.1 e2;have hz:∀ v:Bool,(h.a == 0)=v->(h.a != 0) = !v:=λ v e=>by rw [f1,e]
   have hz2:∀ v:Bool,(h.b == 0)=v->(h.b != 0) = !v:=λ v e=>by rw [f2,e]
   have key:(h.a≠0∨h.b≠0)->ZL h.c (-100000000) 100000000=true->Xt h=(YF (YF h.a h.b) h.c == 1):=by
    intro k1 e3;obtain ⟨z1,z2⟩:=Z3.1 e3;have:=JM h1 h2;rw [Kk (ZI (a:=YF h.a h.b) Oz) (ZI (a:=h.c) Oz),Kk (ZI (a:=h.a) Oz) (ZI (a:=h.b) Oz)];rw [Bool.eq_iff_iff];simp [Xt,e1,e2,e3,gcd3];omega
   clear f1 f2;cases za:(h.a == 0)
   ·have za2:=hz _ za;clear hz hz2 x1 x2 y1 y2;simp only [Bool.not_false] at za2;have hne:h.a≠0:=by simpa using za
    cases e3:ZL h.c (-100000000) 100000000
    ·clear key hne;go_enter Tryz.func132,Tryz.ntmps132
     go_wp2
     go_big_quiet ((first|(go_at_call 129;exact Yb (JJ _ _ _ _ (by assumption) _))|(go_at_call 131;exact quiet_n (Zf _ _ _ (by assumption) (by assumption)))))
     go_wp2
     go_ret
     refine ⟨Xi (by simp [Xt,e1,e2,e3]), ?_⟩;exact Xl
    ·have hfin:=Lib.hid (key (.inl hne) e3);clear key hne;cases e4:(YF (YF h.a h.b) h.c == 1);all_goals
      go_enter Tryz.func132,Tryz.ntmps132
      go_wp2
      go_big_quiet ((first|(go_at_call 129;exact Yb (JJ _ _ _ _ (by assumption) _))|(go_at_call 131;exact quiet_n (Zf _ _ _ (by assumption) (by assumption)))))
      go_wp2
      go_ret
      refine ⟨Xi (by rw [hfin.out,e4]), ?_⟩;exact Xl
   ·have za2:=hz _ za;simp only [Bool.not_true] at za2;cases zb:(h.b == 0)
    ·have zb2:=hz2 _ zb;clear hz hz2 x1 x2 y1 y2;simp only [Bool.not_false] at zb2;have hne:h.b≠0:=by simpa using zb
     cases e3:ZL h.c (-100000000) 100000000
     ·clear key hne;go_enter Tryz.func132,Tryz.ntmps132
      go_wp2
      go_big_quiet ((first|(go_at_call 129;exact Yb (JJ _ _ _ _ (by assumption) _))|(go_at_call 131;exact quiet_n (Zf _ _ _ (by assumption) (by assumption)))))
      go_wp2
      go_ret
      refine ⟨Xi (by simp [Xt,e1,e2,e3]), ?_⟩;exact Xl
     ·have hfin:=Lib.hid (key (.inr hne) e3);clear key hne;cases e4:(YF (YF h.a h.b) h.c == 1);all_goals
       go_enter Tryz.func132,Tryz.ntmps132
       go_wp2
       go_big_quiet ((first|(go_at_call 129;exact Yb (JJ _ _ _ _ (by assumption) _))|(go_at_call 131;exact quiet_n (Zf _ _ _ (by assumption) (by assumption)))))
       go_wp2
       go_ret
       refine ⟨Xi (by rw [hfin.out,e4]), ?_⟩;exact Xl
    ·have zb2:=hz2 _ zb;clear hz hz2 x1 x2 y1 y2 key;simp only [Bool.not_true] at zb2;have hfin:Hid (Xt h=false):=by
      have a0:h.a=0:=by simpa using za
      have b0:h.b=0:=by simpa using zb
      show _=_;simp [Xt,a0,b0]
     go_enter Tryz.func132,Tryz.ntmps132
     go_wp2
     go_big_quiet ((first|(go_at_call 129;exact Yb (JJ _ _ _ _ (by assumption) _))|(go_at_call 131;exact quiet_n (Zf _ _ _ (by assumption) (by assumption)))))
     go_wp2
     go_ret
     refine ⟨Xi (by rw [hfin.out]), ?_⟩;exact Xl
theorem gcdOf_one (a:Int):YF a 1=if Yj a then 0 else 1:=by
 unfold YF;cases Yj a<;>simp [Yj]
theorem sHalfOf_c (a b c:Int) (w:World) (ha:Yy a) (hb:Yy b) (hc:Yy c) :
 Calls Tryz.prog 88 #[.int .i64 a,.int .i64 b,.int .i64 c] w λ e w'=>e=.returned (YY (Y1 a b c))/\Below w.heap.size w w':=by
 have hone:Yy 1:=⟨Oz,Oz⟩;have hxy:=gcdOf_In64 ha hb;have k1:=gcdOf_one a;have k2:=gcdOf_one b;have k3:=gcdOf_one c;cases ma:Yj a
 ·rw [ma] at k1;cases mb:Yj b
  ·rw [mb] at k2;cases mc:Yj c
   ·rw [mc] at k3;simp only [Bool.false_eq_true,if_false] at k1 k2 k3;by_cases hz:a=0/\b=0
    ·have hfin:Y1 a b c=none:=by
      unfold Y1;split
      ·rfl
      ·rw [if_neg];obtain ⟨rfl,rfl⟩:=hz;simp [Xt,redHalf]
     rw [hfin];obtain ⟨rfl,rfl⟩:=hz;clear ma mb mc hfin;go_enter Tryz.func88,Tryz.ntmps88
     go_wp2_with (go_at_call 131;refine (Zf _ _ _ (by assumption) (by assumption)).mono ?_;rintro e wc ⟨rfl,nc,rfl⟩)
     refine bodyPost_ret (v:=.tuple #[.agg #[.int .i64 0,.int .i64 0,.int .i64 0],.bool false]) (by simp [results,Tryz.results88,go_sem]) rfl ⟨rfl, ?_⟩;exact Xl
    ·have hpos:0<Xm [a,b,c]:=by
      rw [gcd3];apply Nat.gcd_pos_of_pos_left;rcases Nat.eq_zero_or_pos (Nat.gcd a.natAbs b.natAbs) with h|h
      ·rw [Nat.gcd_eq_zero_iff] at h;omega
      ·exact h
     have hfin:Hid (Y1 a b c=if Xt ⟨a.tdiv (Xm [a,b,c]),b.tdiv (Xm [a,b,c]),c.tdiv (Xm [a,b,c])⟩=true then some ⟨a.tdiv (Xm [a,b,c]),b.tdiv (Xm [a,b,c]),c.tdiv (Xm [a,b,c])⟩ else none):=by
      show _=_;rw [Y1,if_neg (by simp [ma,mb,mc];omega)];rfl
     have hG:YF (YF a b) c=((Xm [a,b,c]:Nat):Int):=by
      have:=JM ha hb;rw [Kk (ZI Oz) mc,Kk ma mb,gcd3];simp
     have hle:Xm [a,b,c]<=9223372036854775807:=by
      have:=(JM hxy hc).2;rw [hG] at this;omega
     generalize Xm [a,b,c]=G at *;have i1:=ZX ha ma G;have i2:=ZX hb mb G;have i3:=ZX hc mc G;have c5:=λ W=>JY ⟨a.tdiv G,b.tdiv G,c.tdiv G⟩ W ⟨i1,i2,i3⟩;obtain ⟨q1,r1⟩:=i1;obtain ⟨q2,r2⟩:=i2;obtain ⟨q3,r3⟩:=i3;have w1:IntKind.i64.wrap (a.tdiv G)=a.tdiv G:=IntWalk.i64_in _ ⟨q1,r1⟩;have w2:IntKind.i64.wrap (b.tdiv G)=b.tdiv G:=IntWalk.i64_in _ ⟨q2,r2⟩;have w3:IntKind.i64.wrap (c.tdiv G)=c.tdiv G:=IntWalk.i64_in _ ⟨q3,r3⟩;have hG1:¬ (G=0):=Oz
     have hG2:¬ ((G:Int)=0):=Oz
     have hz2:((a == 0)&&(b == 0))=false:=by
      rw [Bool.and_eq_false_iff];simp;omega
     clear ma mb mc hz;generalize Xt ⟨a.tdiv G,b.tdiv G,c.tdiv G⟩=ok at *;generalize hba:(a == 0)=za at *;generalize hbb:(b == 0)=zb at *;have hz3:za=true->zb=false:=by intro h;subst h;simpa using hz2
     clear hz2;cases za;all_goals
      first|(have hzb:=hz3 rfl;subst hzb)|skip
      clear hz3;go_enter Tryz.func88,Tryz.ntmps88
      go_wp2_with (go_at_call 131;refine (Zf _ _ _ (by assumption) (by assumption)).mono ?_;rintro e wc ⟨rfl,nc,rfl⟩)
      all_goals go_region_held3 (λ _=>True) (exact True.intro) (fail)
      all_goals
       go_wp2_with (fail)
       refine (c5 _).mono ?_;rintro e w9 ⟨rfl,hb9⟩;have hbw:Below w.heap.size w w9:=by
        refine Xe ?_ hb9;exact Xl
       have H2:XV w9 w.heap.size [.int .i64 0,.int .i64 0,.int .i64 0]:=by
        refine XV.below ?_ hb9;exact (XV.new w _ _).alloc _
       have H3:XV w9 (w.heap.size+1) [.int .i64 (a.tdiv G),.int .i64 (b.tdiv G),.int .i64 (c.tdiv G)]:=by
        refine XV.below ?_ hb9;have:=XV.new (w.alloc (.cells #[.int .i64 0,.int .i64 0,.int .i64 0] 136)) #[.int .i64 (a.tdiv G),.int .i64 (b.tdiv G),.int .i64 (c.tdiv G)] 136;simp only [World.size_alloc] at this;exact this
       obtain ⟨cH2_0,fH2_0⟩:=H2.2 0 _ rfl;obtain ⟨cH2_1,fH2_1⟩:=H2.2 1 _ rfl;obtain ⟨cH2_2,fH2_2⟩:=H2.2 2 _ rfl;obtain ⟨cH3_0,fH3_0⟩:=H3.2 0 _ rfl;obtain ⟨cH3_1,fH3_1⟩:=H3.2 1 _ rfl;obtain ⟨cH3_2,fH3_2⟩:=H3.2 2 _ rfl;cases ok
       ·go_wp2
        refine bodyPost_ret (v:=.tuple #[.agg #[.int .i64 0,.int .i64 0,.int .i64 0],.bool false]) (by simp [results,Tryz.results88,go_sem, *]) rfl ⟨by rw [hfin.out];rfl, ?_⟩;exact Xl
       ·go_wp2
        refine bodyPost_ret (v:=.tuple #[.agg #[.int .i64 (a.tdiv G),.int .i64 (b.tdiv G),.int .i64 (c.tdiv G)],.bool true]) (by simp [results,Tryz.results88,go_sem, *]) rfl ⟨by rw [hfin.out];rfl, ?_⟩;exact Xl
   ·rw [mc] at k3;simp only [Bool.false_eq_true,if_false,if_true] at k1 k2 k3;have hfin:Y1 a b c=none:=by simp [Y1,mc]
    rw [hfin];clear ma mb mc;go_enter Tryz.func88,Tryz.ntmps88
    go_wp2_with (go_at_call 131;refine (Zf _ _ _ (by assumption) (by assumption)).mono ?_;rintro e wc ⟨rfl,nc,rfl⟩)
    refine bodyPost_ret (v:=.tuple #[.agg #[.int .i64 0,.int .i64 0,.int .i64 0],.bool false]) (by simp [results,Tryz.results88,go_sem]) rfl ⟨rfl, ?_⟩;exact Xl
  ·rw [mb] at k2;simp only [Bool.false_eq_true,if_false,if_true] at k1 k2;have hfin:Y1 a b c=none:=by simp [Y1,mb]
   rw [hfin];clear ma mb k3;go_enter Tryz.func88,Tryz.ntmps88
   go_wp2_with (go_at_call 131;refine (Zf _ _ _ (by assumption) (by assumption)).mono ?_;rintro e wc ⟨rfl,nc,rfl⟩)
   refine bodyPost_ret (v:=.tuple #[.agg #[.int .i64 0,.int .i64 0,.int .i64 0],.bool false]) (by simp [results,Tryz.results88,go_sem]) rfl ⟨rfl, ?_⟩;exact Xl
 ·rw [ma] at k1;simp only [if_true] at k1;have hfin:Y1 a b c=none:=by simp [Y1,ma]
  rw [hfin];clear ma k2 k3;go_enter Tryz.func88,Tryz.ntmps88
  go_wp2_with (go_at_call 131;refine (Zf _ _ _ (by assumption) (by assumption)).mono ?_;rintro e wc ⟨rfl,nc,rfl⟩)
  refine bodyPost_ret (v:=.tuple #[.agg #[.int .i64 0,.int .i64 0,.int .i64 0],.bool false]) (by simp [results,Tryz.results88,go_sem]) rfl ⟨rfl, ?_⟩;exact Xl
end Go.Proofs.YtbekjpkcicjcgaaGreat
