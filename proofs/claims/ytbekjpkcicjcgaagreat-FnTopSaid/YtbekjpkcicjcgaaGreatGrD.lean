/-
 What the functions that reduce fractions, spots and half planes return.
 Conditions: the numbers are ints of the machine.
-/
import Derived.Test.YtbekjpkcicjcgaaGreatGrC
import Derived.StillTailTactics
import Derived.Deep.RegionHeld3
set_option maxHeartbeats 4000000
set_option maxRecDepth 100000
namespace Go.Proofs.YtbekjpkcicjcgaaGreat
open Go.RowKit
theorem KB {a:Int} (h:YU a) (hm:YF a=false) (g:Nat):YU (a.tdiv g):=by
 have h1:=Jn h hm;have:=tdiv_le a g 9223372036854775807 h1.1 h1.2;exact ⟨Oz,Oz⟩
def optSpotV:Option XH->Value
 | some s=>.tuple #[.agg #[.int .i64 s.x,.int .i64 s.y,.int .i64 s.d],.bool true]
 | none=>.tuple #[.agg #[.int .i64 0,.int .i64 0,.int .i64 0],.bool false]
def Kr:Option Half->Value
 | some h=>.tuple #[.agg #[.int .i64 h.a,.int .i64 h.b,.int .i64 h.c],.bool true]
 | none=>.tuple #[.agg #[.int .i64 0,.int .i64 0,.int .i64 0],.bool false]
theorem iSpotOf_c (x y d:Int) (w:World) (hx:YU x) (hy:YU y) (hd:YU d) :
 Calls Tryz.prog 112 #[.int .i64 x,.int .i64 y,.int .i64 d] w λ e w'=>e=.returned (optSpotV (Y9 x y d))/\Below w.heap.size w w':=by
 by_cases hd0:d<=0
 ·have hfin:Y9 x y d=none:=by simp [Y9,hd0]
  rw [hfin];go_enter Tryz.func112,Tryz.ntmps112
  go_wp2
  refine bodyPost_ret (v:=.tuple #[.agg #[.int .i64 0,.int .i64 0,.int .i64 0],.bool false]) (by simp [results,Tryz.results112,go_sem]) rfl ⟨rfl, ?_⟩;exact Xw
 ·cases mx:YF x
  ·cases my:YF y
   ·have hall:∀ n∈[x,y,d],YU n:=by simp [hx,hy,hd]
    have md:YF d=false:=ZQ Oz;have hfin:Hid (Y9 x y d=if Xo ⟨x.tdiv (Xn [x,y,d]),y.tdiv (Xn [x,y,d]),d.tdiv (Xn [x,y,d])⟩=true then some ⟨x.tdiv (Xn [x,y,d]),y.tdiv (Xn [x,y,d]),d.tdiv (Xn [x,y,d])⟩ else none):=by
     show _=_;rw [Y9,if_neg (by simp [hd0,mx,my])];rfl
    have hg:=JN (some ⟨w.heap.size+1,0,none⟩) [x,y,d] 3 _ Sz hall (sl_new_at (T:=3) ZI (w.alloc (.cells #[.int .i64 0,.int .i64 0,.int .i64 0] 30)) [x,y,d] #[.int .i64 x,.int .i64 y,.int .i64 d] rfl Sz);have hle:=gcdAll_le [x,y,d] hall;have hpos:0<Xn [x,y,d]:=by rw [gcd3];exact Nat.gcd_pos_of_pos_right _ Oz
    generalize Xn [x,y,d]=G at *;have i1:=KB hx mx G;have i2:=KB hy my G;have i3:=KB hd md G;have c1:=λ W=>divided_c x G W hx mx hpos hle;have c2:=λ W=>divided_c y G W hy my hpos hle;have c3:=λ W=>divided_c d G W hd md hpos hle;have c4:=λ W=>iSpotOk_c ⟨x.tdiv G,y.tdiv G,d.tdiv G⟩ W ⟨i1,i2,i3⟩;have m1:=Jg x false mx hx;have m2:=Jg y false my hy;generalize x.tdiv G=x' at *;generalize y.tdiv G=y' at *;generalize d.tdiv G=d' at *;clear i1 i2 i3 mx my md hx hy hd hall;generalize Xo ⟨x',y',d'⟩=ok at *;cases ok;all_goals
     rw [hfin.out];go_enter Tryz.func112,Tryz.ntmps112
     go_wp2_with (fail)
     refine (m1 _).mono ?_;rintro e w' ⟨rfl,rfl⟩;go_wp2_with (fail)
     refine (m2 _).mono ?_;rintro e w' ⟨rfl,rfl⟩;go_wp2_with (fail)
     refine hg.mono ?_;rintro e w1 ⟨rfl,hb1⟩;have hb2:=(Xf (Xb (Xb (Below.refl w.heap.size w) _) _) hb1);have H1:=((Yd.new w #[.int .i64 0,.int .i64 0,.int .i64 0] 30).alloc _).below hb1;obtain ⟨cH1_0,fH1_0⟩:=H1.2 0 _ rfl;obtain ⟨cH1_1,fH1_1⟩:=H1.2 1 _ rfl;obtain ⟨cH1_2,fH1_2⟩:=H1.2 2 _ rfl;go_wp2_with (fail)
     refine (c1 _).mono ?_;rintro e w' ⟨rfl,rfl⟩;go_wp2_with (fail)
     refine (c2 _).mono ?_;rintro e w' ⟨rfl,rfl⟩;go_wp2_with (fail)
     refine (c3 _).mono ?_;rintro e w' ⟨rfl,rfl⟩;go_wp2_with (fail)
     refine (c4 _).mono ?_;rintro e w2 ⟨rfl,hb4⟩;have hb5:=Xf (Xb hb2 (.cells #[.int .i64 x',.int .i64 y',.int .i64 d'] 30)) hb4;have H2:=(H1.alloc _).below hb4;have H3:=(Yd.new _ _ _).below hb4;clear cH1_0 cH1_1 cH1_2 fH1_0 fH1_1 fH1_2;obtain ⟨cH2_0,fH2_0⟩:=H2.2 0 _ rfl;obtain ⟨cH2_1,fH2_1⟩:=H2.2 1 _ rfl;obtain ⟨cH2_2,fH2_2⟩:=H2.2 2 _ rfl;obtain ⟨cH3_0,fH3_0⟩:=H3.2 0 _ rfl;obtain ⟨cH3_1,fH3_1⟩:=H3.2 1 _ rfl;obtain ⟨cH3_2,fH3_2⟩:=H3.2 2 _ rfl;go_wp2
     first
      | exact bodyPost_ret (v:=.tuple #[.agg #[.int .i64 0,.int .i64 0,.int .i64 0],.bool false]) (by simp [results,Tryz.results112,go_sem, *]) rfl ⟨rfl,YY (YY (YY hb5 Xy _) Xy _) Xy _⟩
      | exact bodyPost_ret (v:=.tuple #[.agg #[.int .i64 x',.int .i64 y',.int .i64 d'],.bool true]) (by simp [results,Tryz.results112,go_sem, *]) rfl ⟨rfl,YY (YY (YY hb5 Xy _) Xy _) Xy _⟩
   ·have m1:=Jg x false mx hx;have m2:=Jg y true my hy;have hfin:Y9 x y d=none:=by simp [Y9,my]
    rw [hfin];clear mx my;go_enter Tryz.func112,Tryz.ntmps112
    go_wp2_with (fail)
    refine (m1 _).mono ?_;rintro e w' ⟨rfl,rfl⟩;go_wp2_with (fail)
    refine (m2 _).mono ?_;rintro e w' ⟨rfl,rfl⟩;go_wp2
    refine bodyPost_ret (v:=.tuple #[.agg #[.int .i64 0,.int .i64 0,.int .i64 0],.bool false]) (by simp [results,Tryz.results112,go_sem]) rfl ⟨rfl, ?_⟩;exact Xw
  ·have m1:=Jg x true mx hx;have hfin:Y9 x y d=none:=by simp [Y9,mx]
   rw [hfin];clear mx;go_enter Tryz.func112,Tryz.ntmps112
   go_wp2_with (fail)
   refine (m1 _).mono ?_;rintro e w' ⟨rfl,rfl⟩;go_wp2
   refine bodyPost_ret (v:=.tuple #[.agg #[.int .i64 0,.int .i64 0,.int .i64 0],.bool false]) (by simp [results,Tryz.results112,go_sem]) rfl ⟨rfl, ?_⟩;exact Xw
theorem sSpotOf_c (x y d:Int) (w:World) (hx:YU x) (hy:YU y) (hd:YU d) :
 Calls Tryz.prog 203 #[.int .i64 x,.int .i64 y,.int .i64 d] w λ e w'=>e=.returned (optSpotV (Y9 x y d))/\Below w.heap.size w w':=by
 by_cases hd0:d<=0
 ·have hfin:Y9 x y d=none:=by simp [Y9,hd0]
  rw [hfin];go_enter Tryz.func203,Tryz.ntmps203
  go_wp2
  refine bodyPost_ret (v:=.tuple #[.agg #[.int .i64 0,.int .i64 0,.int .i64 0],.bool false]) (by simp [results,Tryz.results203,go_sem]) rfl ⟨rfl, ?_⟩;exact Xw
 ·have hxy:=gcdOf_In64 hx hy;have md:YF d=false:=ZQ Oz;have wm:(x != 0)=false->YF x=false:=by intro h;simp at h;subst h;rfl
  have wm2:(y != 0)=false->YF y=false:=by intro h;simp at h;subst h;rfl
  cases mx:YF x
  ·cases my:YF y
   ·have hfin:Hid (Y9 x y d=if Xo ⟨x.tdiv (Xn [x,y,d]),y.tdiv (Xn [x,y,d]),d.tdiv (Xn [x,y,d])⟩=true then some ⟨x.tdiv (Xn [x,y,d]),y.tdiv (Xn [x,y,d]),d.tdiv (Xn [x,y,d])⟩ else none):=by
     show _=_;rw [Y9,if_neg (by simp [hd0,mx,my])];rfl
    have hG:ZN (ZN x y) d=((Xn [x,y,d]:Nat):Int):=by
     have:=gcdOf_in hx hy;rw [KP (ZQ Oz) md,KP mx my,gcd3];simp
    have hpos:0<Xn [x,y,d]:=by rw [gcd3];exact Nat.gcd_pos_of_pos_right _ Oz
    have h3:(ZN x d == 0)=false:=by
     rw [KP mx md];have:0<Nat.gcd x.natAbs d.natAbs:=Nat.gcd_pos_of_pos_right _ Oz;simp;omega
    have h4:(ZN y d == 0)=false:=by
     rw [KP my md];have:0<Nat.gcd y.natAbs d.natAbs:=Nat.gcd_pos_of_pos_right _ Oz;simp;omega
    have hle:Xn [x,y,d]<=9223372036854775807:=by
     have:=(gcdOf_in hxy hd).2;rw [hG] at this;omega
    generalize Xn [x,y,d]=G at *;have i1:=KB hx mx G;have i2:=KB hy my G;have i3:=KB hd md G;have c5:=λ W=>sSpotOk_c ⟨x.tdiv G,y.tdiv G,d.tdiv G⟩ W ⟨i1,i2,i3⟩;obtain ⟨q1,r1⟩:=i1;obtain ⟨q2,r2⟩:=i2;obtain ⟨q3,r3⟩:=i3;have w1:IntKind.i64.wrap (x.tdiv G)=x.tdiv G:=IntWalk.i64_in _ ⟨q1,r1⟩;have w2:IntKind.i64.wrap (y.tdiv G)=y.tdiv G:=IntWalk.i64_in _ ⟨q2,r2⟩;have w3:IntKind.i64.wrap (d.tdiv G)=d.tdiv G:=IntWalk.i64_in _ ⟨q3,r3⟩;have hG1:¬ (G=0):=Oz
    have hG2:¬ ((G:Int)=0):=Oz
    clear mx my md wm wm2;generalize Xo ⟨x.tdiv G,y.tdiv G,d.tdiv G⟩=ok at *;generalize hbx:(x != 0)=bx;generalize hby:(y != 0)=by_;go_enter Tryz.func203,Tryz.ntmps203
    go_wp2_with (go_at_call 131;refine (Kj _ _ _ (by assumption) (by assumption)).mono ?_;rintro e wc ⟨rfl,nc,rfl⟩)
    all_goals go_region_held3 (λ _=>True) (exact True.intro) (fail)
    all_goals
     go_wp2_with (fail)
     refine (c5 _).mono ?_;rintro e w9 ⟨rfl,hb9⟩;have hbw:Below w.heap.size w w9:=by
      refine Xf ?_ hb9;exact Xw
     have H2:Yd w9 w.heap.size [.int .i64 0,.int .i64 0,.int .i64 0]:=by
      refine Yd.below ?_ hb9;exact (Yd.new w _ _).alloc _
     have H3:Yd w9 (w.heap.size+1) [.int .i64 (x.tdiv G),.int .i64 (y.tdiv G),.int .i64 (d.tdiv G)]:=by
      refine Yd.below ?_ hb9;have:=Yd.new (w.alloc (.cells #[.int .i64 0,.int .i64 0,.int .i64 0] 30)) #[.int .i64 (x.tdiv G),.int .i64 (y.tdiv G),.int .i64 (d.tdiv G)] 30;simp only [World.size_alloc] at this;exact this
     obtain ⟨cH2_0,fH2_0⟩:=H2.2 0 _ rfl;obtain ⟨cH2_1,fH2_1⟩:=H2.2 1 _ rfl;obtain ⟨cH2_2,fH2_2⟩:=H2.2 2 _ rfl;obtain ⟨cH3_0,fH3_0⟩:=H3.2 0 _ rfl;obtain ⟨cH3_1,fH3_1⟩:=H3.2 1 _ rfl;obtain ⟨cH3_2,fH3_2⟩:=H3.2 2 _ rfl;cases ok
     ·go_wp2
      refine bodyPost_ret (v:=.tuple #[.agg #[.int .i64 0,.int .i64 0,.int .i64 0],.bool false]) (by simp [results,Tryz.results203,go_sem, *]) rfl ⟨by rw [hfin.out];rfl, ?_⟩;exact YY (YY (YY hbw Xy _) Xy _) Xy _
     ·go_wp2
      refine bodyPost_ret (v:=.tuple #[.agg #[.int .i64 (x.tdiv G),.int .i64 (y.tdiv G),.int .i64 (d.tdiv G)],.bool true]) (by simp [results,Tryz.results203,go_sem, *]) rfl ⟨by rw [hfin.out];rfl, ?_⟩;exact YY (YY (YY hbw Xy _) Xy _) Xy _
   ·have hfin:Y9 x y d=none:=by simp [Y9,my]
    rw [hfin];have h4:ZN y d=0:=gcdOf_min1 my;have h5:(y != 0)=true:=by simp [YF] at my;subst my;rfl
    have h3:(ZN x d == 0)=false:=by
     rw [KP mx md];have:0<Nat.gcd x.natAbs d.natAbs:=Nat.gcd_pos_of_pos_right _ Oz;simp;omega
    generalize hbx:(x != 0)=bx;clear mx my md wm wm2;go_enter Tryz.func203,Tryz.ntmps203
    go_wp2_with (go_at_call 131;refine (Kj _ _ _ (by assumption) (by assumption)).mono ?_;rintro e wc ⟨rfl,nc,rfl⟩)
    all_goals
     refine bodyPost_ret (v:=.tuple #[.agg #[.int .i64 0,.int .i64 0,.int .i64 0],.bool false]) (by simp [results,Tryz.results203,go_sem]) rfl ⟨rfl, ?_⟩;exact Xw
  ·have hfin:Y9 x y d=none:=by simp [Y9,mx]
   rw [hfin];have h3:ZN x d=0:=gcdOf_min1 mx;have h5:(x != 0)=true:=by simp [YF] at mx;subst mx;rfl
   clear mx md wm wm2;go_enter Tryz.func203,Tryz.ntmps203
   go_wp2_with (go_at_call 131;refine (Kj _ _ _ (by assumption) (by assumption)).mono ?_;rintro e wc ⟨rfl,nc,rfl⟩)
   all_goals
    refine bodyPost_ret (v:=.tuple #[.agg #[.int .i64 0,.int .i64 0,.int .i64 0],.bool false]) (by simp [results,Tryz.results203,go_sem]) rfl ⟨rfl, ?_⟩;exact Xw
theorem iHalfOf_c (a b c:Int) (w:World) (ha:YU a) (hb:YU b) (hc:YU c) :
 Calls Tryz.prog 142 #[.int .i64 a,.int .i64 b,.int .i64 c] w λ e w'=>e=.returned (Kr (Zd a b c))/\Below w.heap.size w w':=by
 have hall:∀ n∈[a,b,c],YU n:=by simp [ha,hb,hc]
 have hg:=JN (some ⟨w.heap.size+1,0,none⟩) [a,b,c] 3 _ Sz hall (sl_new_at (T:=3) ZI (w.alloc (.cells #[.int .i64 0,.int .i64 0,.int .i64 0] 136)) [a,b,c] #[.int .i64 a,.int .i64 b,.int .i64 c] rfl Sz);have hle:=gcdAll_le [a,b,c] hall;have m1:=λ v h=>Jg a v h ha;have m2:=λ v h=>Jg b v h hb;have m3:=λ v h=>Jg c v h hc;by_cases hz:Xn [a,b,c]=0
 ·have hfin:Zd a b c=none:=by simp [Zd,hz]
  rw [hfin];rw [hz] at hg;clear hz hle;go_enter Tryz.func142,Tryz.ntmps142
  go_wp2_with (fail)
  refine hg.mono ?_;rintro e w1 ⟨rfl,hb1⟩;have H1:=((Yd.new w #[.int .i64 0,.int .i64 0,.int .i64 0] 136).alloc _).below hb1;obtain ⟨cH1_0,fH1_0⟩:=H1.2 0 _ rfl;obtain ⟨cH1_1,fH1_1⟩:=H1.2 1 _ rfl;obtain ⟨cH1_2,fH1_2⟩:=H1.2 2 _ rfl;have hbw:=Xf (Xb (Xb (Below.refl w.heap.size w) _) _) hb1;go_wp2
  refine bodyPost_ret (v:=.tuple #[.agg #[.int .i64 0,.int .i64 0,.int .i64 0],.bool false]) (by simp [results,Tryz.results142,go_sem, *]) rfl ⟨rfl, ?_⟩;exact Xw
 ·cases ma:YF a
  ·cases mb:YF b
   ·cases mc:YF c
    ·have hfin:Hid (Zd a b c=if Xs ⟨a.tdiv (Xn [a,b,c]),b.tdiv (Xn [a,b,c]),c.tdiv (Xn [a,b,c])⟩=true then some ⟨a.tdiv (Xn [a,b,c]),b.tdiv (Xn [a,b,c]),c.tdiv (Xn [a,b,c])⟩ else none):=by
      show _=_;rw [Zd,if_neg (by simp [hz,ma,mb,mc])];rfl
     have hpos:0<Xn [a,b,c]:=Oz
     clear hz;generalize Xn [a,b,c]=G at *;have i1:=KB ha ma G;have i2:=KB hb mb G;have i3:=KB hc mc G;have c1:=λ W=>divided_c a G W ha ma hpos hle;have c2:=λ W=>divided_c b G W hb mb hpos hle;have c3:=λ W=>divided_c c G W hc mc hpos hle;have c4:=λ W=>iHalfOk_c ⟨a.tdiv G,b.tdiv G,c.tdiv G⟩ W ⟨i1,i2,i3⟩;have n1:=m1 _ ma;have n2:=m2 _ mb;have n3:=m3 _ mc;have hG1:¬ (G=0):=Oz
     have hG2:((G:Int) == 0)=false:=by simp;omega
     generalize a.tdiv G=x' at *;generalize b.tdiv G=y' at *;generalize c.tdiv G=d' at *;clear i1 i2 i3 ma mb mc ha hb hc hall m1 m2 m3;generalize Xs ⟨x',y',d'⟩=ok at *;go_enter Tryz.func142,Tryz.ntmps142
     go_wp2_with (fail)
     refine hg.mono ?_;rintro e w1 ⟨rfl,hb1⟩;have hb2:=(Xf (Xb (Xb (Below.refl w.heap.size w) _) _) hb1);have H1:=((Yd.new w #[.int .i64 0,.int .i64 0,.int .i64 0] 136).alloc _).below hb1;go_wp2_with (fail)
     refine (n1 _).mono ?_;rintro e w' ⟨rfl,rfl⟩;go_wp2_with (fail)
     refine (n2 _).mono ?_;rintro e w' ⟨rfl,rfl⟩;go_wp2_with (fail)
     refine (n3 _).mono ?_;rintro e w' ⟨rfl,rfl⟩;go_wp2_with (fail)
     refine (c1 _).mono ?_;rintro e w' ⟨rfl,rfl⟩;go_wp2_with (fail)
     refine (c2 _).mono ?_;rintro e w' ⟨rfl,rfl⟩;go_wp2_with (fail)
     refine (c3 _).mono ?_;rintro e w' ⟨rfl,rfl⟩;go_wp2_with (fail)
     refine (c4 _).mono ?_;rintro e w2 ⟨rfl,hb4⟩;have hb5:=Xf (Xb hb2 (.cells #[.int .i64 x',.int .i64 y',.int .i64 d'] 136)) hb4;have H2:=(H1.alloc _).below hb4;have H3:=(Yd.new _ _ _).below hb4;obtain ⟨cH2_0,fH2_0⟩:=H2.2 0 _ rfl;obtain ⟨cH2_1,fH2_1⟩:=H2.2 1 _ rfl;obtain ⟨cH2_2,fH2_2⟩:=H2.2 2 _ rfl;obtain ⟨cH3_0,fH3_0⟩:=H3.2 0 _ rfl;obtain ⟨cH3_1,fH3_1⟩:=H3.2 1 _ rfl;obtain ⟨cH3_2,fH3_2⟩:=H3.2 2 _ rfl;cases ok
     ·go_wp2
      refine bodyPost_ret (v:=.tuple #[.agg #[.int .i64 0,.int .i64 0,.int .i64 0],.bool false]) (by simp [results,Tryz.results142,go_sem, *]) rfl ⟨by rw [hfin.out];rfl, ?_⟩;exact Xw
     ·go_wp2
      refine bodyPost_ret (v:=.tuple #[.agg #[.int .i64 x',.int .i64 y',.int .i64 d'],.bool true]) (by simp [results,Tryz.results142,go_sem, *]) rfl ⟨by rw [hfin.out];rfl, ?_⟩;exact Xw
    ·have hfin:Zd a b c=none:=by simp [Zd,mc]
     rw [hfin];have n1:=m1 _ ma;have n2:=m2 _ mb;have n3:=m3 _ mc;have hG1:((Xn [a,b,c]:Int) == 0)=false:=by simp;omega
     clear ma mb mc ha hb hc hall m1 m2 m3;generalize Xn [a,b,c]=G at *;go_enter Tryz.func142,Tryz.ntmps142
     go_wp2_with (fail)
     refine hg.mono ?_;rintro e w1 ⟨rfl,hb1⟩;have H1:=((Yd.new w #[.int .i64 0,.int .i64 0,.int .i64 0] 136).alloc _).below hb1;have hbw:=Xf (Xb (Xb (Below.refl w.heap.size w) _) _) hb1;obtain ⟨cH1_0,fH1_0⟩:=H1.2 0 _ rfl;obtain ⟨cH1_1,fH1_1⟩:=H1.2 1 _ rfl;obtain ⟨cH1_2,fH1_2⟩:=H1.2 2 _ rfl;go_wp2_with (fail)
     refine (n1 _).mono ?_;rintro e w' ⟨rfl,rfl⟩;go_wp2_with (fail)
     refine (n2 _).mono ?_;rintro e w' ⟨rfl,rfl⟩;go_wp2_with (fail)
     refine (n3 _).mono ?_;rintro e w' ⟨rfl,rfl⟩;go_wp2
     refine bodyPost_ret (v:=.tuple #[.agg #[.int .i64 0,.int .i64 0,.int .i64 0],.bool false]) (by simp [results,Tryz.results142,go_sem, *]) rfl ⟨rfl, ?_⟩;exact Xw
   ·have hfin:Zd a b c=none:=by simp [Zd,mb]
    rw [hfin];have n1:=m1 _ ma;have n2:=m2 _ mb;have hG1:((Xn [a,b,c]:Int) == 0)=false:=by simp;omega
    clear ma mb ha hb hc hall m1 m2 m3;generalize Xn [a,b,c]=G at *;go_enter Tryz.func142,Tryz.ntmps142
    go_wp2_with (fail)
    refine hg.mono ?_;rintro e w1 ⟨rfl,hb1⟩;have H1:=((Yd.new w #[.int .i64 0,.int .i64 0,.int .i64 0] 136).alloc _).below hb1;have hbw:=Xf (Xb (Xb (Below.refl w.heap.size w) _) _) hb1;obtain ⟨cH1_0,fH1_0⟩:=H1.2 0 _ rfl;obtain ⟨cH1_1,fH1_1⟩:=H1.2 1 _ rfl;obtain ⟨cH1_2,fH1_2⟩:=H1.2 2 _ rfl;go_wp2_with (fail)
    refine (n1 _).mono ?_;rintro e w' ⟨rfl,rfl⟩;go_wp2_with (fail)
    refine (n2 _).mono ?_;rintro e w' ⟨rfl,rfl⟩;go_wp2
    refine bodyPost_ret (v:=.tuple #[.agg #[.int .i64 0,.int .i64 0,.int .i64 0],.bool false]) (by simp [results,Tryz.results142,go_sem, *]) rfl ⟨rfl, ?_⟩;exact Xw
  ·have hfin:Zd a b c=none:=by simp [Zd,ma]
   rw [hfin];have n1:=m1 _ ma;have hG1:((Xn [a,b,c]:Int) == 0)=false:=by simp;omega
   clear ma ha hb hc hall m1 m2 m3;generalize Xn [a,b,c]=G at *;go_enter Tryz.func142,Tryz.ntmps142
   go_wp2_with (fail)
   refine hg.mono ?_;rintro e w1 ⟨rfl,hb1⟩;have H1:=((Yd.new w #[.int .i64 0,.int .i64 0,.int .i64 0] 136).alloc _).below hb1;have hbw:=Xf (Xb (Xb (Below.refl w.heap.size w) _) _) hb1;obtain ⟨cH1_0,fH1_0⟩:=H1.2 0 _ rfl;obtain ⟨cH1_1,fH1_1⟩:=H1.2 1 _ rfl;obtain ⟨cH1_2,fH1_2⟩:=H1.2 2 _ rfl;go_wp2_with (fail)
   refine (n1 _).mono ?_;rintro e w' ⟨rfl,rfl⟩;go_wp2
   refine bodyPost_ret (v:=.tuple #[.agg #[.int .i64 0,.int .i64 0,.int .i64 0],.bool false]) (by simp [results,Tryz.results142,go_sem, *]) rfl ⟨rfl, ?_⟩;exact Xw
theorem sHalfOk_c (h:Half) (w:World) (hh:h.In) :
 Calls Tryz.prog 132 #[YI h] w λ e w'=>e=.returned (.bool (Xs h))/\Below w.heap.size w w':=by
 obtain ⟨h1,h2,h3⟩:=hh;have hxy:=gcdOf_In64 h1 h2;cases e1:ZT h.a (-50000) 50000
 ·go_enter Tryz.func132,Tryz.ntmps132
  go_wp2
  go_big_quiet ((first|(go_at_call 129;exact Kv (Jj _ _ _ _ (by assumption) _))|(go_at_call 131;exact quiet_n (Kj _ _ _ (by assumption) (by assumption)))))
  go_wp2
  go_ret
  refine ⟨Xm (by simp [Xs,e1]), ?_⟩;exact Xw
 ·cases e2:ZT h.b (-50000) 50000
  ·go_enter Tryz.func132,Tryz.ntmps132
   go_wp2
   go_big_quiet ((first|(go_at_call 129;exact Kv (Jj _ _ _ _ (by assumption) _))|(go_at_call 131;exact quiet_n (Kj _ _ _ (by assumption) (by assumption)))))
   go_wp2
   go_ret
   refine ⟨Xm (by simp [Xs,e1,e2]), ?_⟩;exact Xw
  ·have f1:(h.a != 0) = !(h.a == 0):=rfl;have f2:(h.b != 0) = !(h.b == 0):=rfl;obtain ⟨x1,x2⟩:=Y3.1 e1;obtain ⟨y1,y2⟩:=Y3.1 e2;have hz:∀ v:Bool,(h.a == 0)=v->(h.a != 0) = !v:=λ v e=>by rw [f1,e]
   have hz2:∀ v:Bool,(h.b == 0)=v->(h.b != 0) = !v:=λ v e=>by rw [f2,e]
   have key:(h.a≠0∨h.b≠0)->ZT h.c (-100000000) 100000000=true->Xs h=(ZN (ZN h.a h.b) h.c == 1):=by
    intro k1 e3;obtain ⟨z1,z2⟩:=Y3.1 e3;have:=gcdOf_in h1 h2;rw [KP (ZQ (a:=ZN h.a h.b) Oz) (ZQ (a:=h.c) Oz),KP (ZQ (a:=h.a) Oz) (ZQ (a:=h.b) Oz)];rw [Bool.eq_iff_iff];simp [Xs,e1,e2,e3,gcd3];omega
   clear f1 f2;cases za:(h.a == 0)
   ·have za2:=hz _ za;clear hz hz2 x1 x2 y1 y2;simp only [Bool.not_false] at za2;have hne:h.a≠0:=by simpa using za
    cases e3:ZT h.c (-100000000) 100000000
    ·clear key hne;go_enter Tryz.func132,Tryz.ntmps132
     go_wp2
     go_big_quiet ((first|(go_at_call 129;exact Kv (Jj _ _ _ _ (by assumption) _))|(go_at_call 131;exact quiet_n (Kj _ _ _ (by assumption) (by assumption)))))
     go_wp2
     go_ret
     refine ⟨Xm (by simp [Xs,e1,e2,e3]), ?_⟩;exact Xw
    ·have hfin:=Lib.hid (key (.inl hne) e3);clear key hne;cases e4:(ZN (ZN h.a h.b) h.c == 1);all_goals
      go_enter Tryz.func132,Tryz.ntmps132
      go_wp2
      go_big_quiet ((first|(go_at_call 129;exact Kv (Jj _ _ _ _ (by assumption) _))|(go_at_call 131;exact quiet_n (Kj _ _ _ (by assumption) (by assumption)))))
      go_wp2
      go_ret
      refine ⟨Xm (by rw [hfin.out,e4]), ?_⟩;exact Xw
   ·have za2:=hz _ za;simp only [Bool.not_true] at za2;cases zb:(h.b == 0)
    ·have zb2:=hz2 _ zb;clear hz hz2 x1 x2 y1 y2;simp only [Bool.not_false] at zb2;have hne:h.b≠0:=by simpa using zb
     cases e3:ZT h.c (-100000000) 100000000
     ·clear key hne;go_enter Tryz.func132,Tryz.ntmps132
      go_wp2
      go_big_quiet ((first|(go_at_call 129;exact Kv (Jj _ _ _ _ (by assumption) _))|(go_at_call 131;exact quiet_n (Kj _ _ _ (by assumption) (by assumption)))))
      go_wp2
      go_ret
      refine ⟨Xm (by simp [Xs,e1,e2,e3]), ?_⟩;exact Xw
     ·have hfin:=Lib.hid (key (.inr hne) e3);clear key hne;cases e4:(ZN (ZN h.a h.b) h.c == 1);all_goals
       go_enter Tryz.func132,Tryz.ntmps132
       go_wp2
       go_big_quiet ((first|(go_at_call 129;exact Kv (Jj _ _ _ _ (by assumption) _))|(go_at_call 131;exact quiet_n (Kj _ _ _ (by assumption) (by assumption)))))
       go_wp2
       go_ret
       refine ⟨Xm (by rw [hfin.out,e4]), ?_⟩;exact Xw
    ·have zb2:=hz2 _ zb;clear hz hz2 x1 x2 y1 y2 key;simp only [Bool.not_true] at zb2;have hfin:Hid (Xs h=false):=by
      have a0:h.a=0:=by simpa using za
      have b0:h.b=0:=by simpa using zb
      show _=_;simp [Xs,a0,b0]
     go_enter Tryz.func132,Tryz.ntmps132
     go_wp2
     go_big_quiet ((first|(go_at_call 129;exact Kv (Jj _ _ _ _ (by assumption) _))|(go_at_call 131;exact quiet_n (Kj _ _ _ (by assumption) (by assumption)))))
     go_wp2
     go_ret
     refine ⟨Xm (by rw [hfin.out]), ?_⟩;exact Xw
theorem gcdOf_one (a:Int):ZN a 1=if YF a then 0 else 1:=by
 unfold ZN;cases YF a<;>simp [YF]
theorem sHalfOf_c (a b c:Int) (w:World) (ha:YU a) (hb:YU b) (hc:YU c) :
 Calls Tryz.prog 88 #[.int .i64 a,.int .i64 b,.int .i64 c] w λ e w'=>e=.returned (Kr (Zd a b c))/\Below w.heap.size w w':=by
 have hone:YU 1:=⟨Oz,Oz⟩;have hxy:=gcdOf_In64 ha hb;have k1:=gcdOf_one a;have k2:=gcdOf_one b;have k3:=gcdOf_one c;cases ma:YF a
 ·rw [ma] at k1;cases mb:YF b
  ·rw [mb] at k2;cases mc:YF c
   ·rw [mc] at k3;simp only [Bool.false_eq_true,if_false] at k1 k2 k3;by_cases hz:a=0/\b=0
    ·have hfin:Zd a b c=none:=by
      unfold Zd;split
      ·rfl
      ·rw [if_neg];obtain ⟨rfl,rfl⟩:=hz;simp [Xs,redHalf]
     rw [hfin];obtain ⟨rfl,rfl⟩:=hz;clear ma mb mc hfin;go_enter Tryz.func88,Tryz.ntmps88
     go_wp2_with (go_at_call 131;refine (Kj _ _ _ (by assumption) (by assumption)).mono ?_;rintro e wc ⟨rfl,nc,rfl⟩)
     refine bodyPost_ret (v:=.tuple #[.agg #[.int .i64 0,.int .i64 0,.int .i64 0],.bool false]) (by simp [results,Tryz.results88,go_sem]) rfl ⟨rfl, ?_⟩;exact Xw
    ·have hpos:0<Xn [a,b,c]:=by
      rw [gcd3];apply Nat.gcd_pos_of_pos_left;rcases Nat.eq_zero_or_pos (Nat.gcd a.natAbs b.natAbs) with h|h
      ·rw [Nat.gcd_eq_zero_iff] at h;omega
      ·exact h
     have hfin:Hid (Zd a b c=if Xs ⟨a.tdiv (Xn [a,b,c]),b.tdiv (Xn [a,b,c]),c.tdiv (Xn [a,b,c])⟩=true then some ⟨a.tdiv (Xn [a,b,c]),b.tdiv (Xn [a,b,c]),c.tdiv (Xn [a,b,c])⟩ else none):=by
      show _=_;rw [Zd,if_neg (by simp [ma,mb,mc];omega)];rfl
     have hG:ZN (ZN a b) c=((Xn [a,b,c]:Nat):Int):=by
      have:=gcdOf_in ha hb;rw [KP (ZQ Oz) mc,KP ma mb,gcd3];simp
     have hle:Xn [a,b,c]<=9223372036854775807:=by
      have:=(gcdOf_in hxy hc).2;rw [hG] at this;omega
     generalize Xn [a,b,c]=G at *;have i1:=KB ha ma G;have i2:=KB hb mb G;have i3:=KB hc mc G;have c5:=λ W=>sHalfOk_c ⟨a.tdiv G,b.tdiv G,c.tdiv G⟩ W ⟨i1,i2,i3⟩;obtain ⟨q1,r1⟩:=i1;obtain ⟨q2,r2⟩:=i2;obtain ⟨q3,r3⟩:=i3;have w1:IntKind.i64.wrap (a.tdiv G)=a.tdiv G:=IntWalk.i64_in _ ⟨q1,r1⟩;have w2:IntKind.i64.wrap (b.tdiv G)=b.tdiv G:=IntWalk.i64_in _ ⟨q2,r2⟩;have w3:IntKind.i64.wrap (c.tdiv G)=c.tdiv G:=IntWalk.i64_in _ ⟨q3,r3⟩;have hG1:¬ (G=0):=Oz
     have hG2:¬ ((G:Int)=0):=Oz
     have hz2:((a == 0)&&(b == 0))=false:=by
      rw [Bool.and_eq_false_iff];simp;omega
     clear ma mb mc hz;generalize Xs ⟨a.tdiv G,b.tdiv G,c.tdiv G⟩=ok at *;generalize hba:(a == 0)=za at *;generalize hbb:(b == 0)=zb at *;have hz3:za=true->zb=false:=by intro h;subst h;simpa using hz2
     clear hz2;cases za;all_goals
      first|(have hzb:=hz3 rfl;subst hzb)|skip
      clear hz3;go_enter Tryz.func88,Tryz.ntmps88
      go_wp2_with (go_at_call 131;refine (Kj _ _ _ (by assumption) (by assumption)).mono ?_;rintro e wc ⟨rfl,nc,rfl⟩)
      all_goals go_region_held3 (λ _=>True) (exact True.intro) (fail)
      all_goals
       go_wp2_with (fail)
       refine (c5 _).mono ?_;rintro e w9 ⟨rfl,hb9⟩;have hbw:Below w.heap.size w w9:=by
        refine Xf ?_ hb9;exact Xw
       have H2:Yd w9 w.heap.size [.int .i64 0,.int .i64 0,.int .i64 0]:=by
        refine Yd.below ?_ hb9;exact (Yd.new w _ _).alloc _
       have H3:Yd w9 (w.heap.size+1) [.int .i64 (a.tdiv G),.int .i64 (b.tdiv G),.int .i64 (c.tdiv G)]:=by
        refine Yd.below ?_ hb9;have:=Yd.new (w.alloc (.cells #[.int .i64 0,.int .i64 0,.int .i64 0] 136)) #[.int .i64 (a.tdiv G),.int .i64 (b.tdiv G),.int .i64 (c.tdiv G)] 136;simp only [World.size_alloc] at this;exact this
       obtain ⟨cH2_0,fH2_0⟩:=H2.2 0 _ rfl;obtain ⟨cH2_1,fH2_1⟩:=H2.2 1 _ rfl;obtain ⟨cH2_2,fH2_2⟩:=H2.2 2 _ rfl;obtain ⟨cH3_0,fH3_0⟩:=H3.2 0 _ rfl;obtain ⟨cH3_1,fH3_1⟩:=H3.2 1 _ rfl;obtain ⟨cH3_2,fH3_2⟩:=H3.2 2 _ rfl;cases ok
       ·go_wp2
        refine bodyPost_ret (v:=.tuple #[.agg #[.int .i64 0,.int .i64 0,.int .i64 0],.bool false]) (by simp [results,Tryz.results88,go_sem, *]) rfl ⟨by rw [hfin.out];rfl, ?_⟩;exact Xw
       ·go_wp2
        refine bodyPost_ret (v:=.tuple #[.agg #[.int .i64 (a.tdiv G),.int .i64 (b.tdiv G),.int .i64 (c.tdiv G)],.bool true]) (by simp [results,Tryz.results88,go_sem, *]) rfl ⟨by rw [hfin.out];rfl, ?_⟩;exact Xw
   ·rw [mc] at k3;simp only [Bool.false_eq_true,if_false,if_true] at k1 k2 k3;have hfin:Zd a b c=none:=by simp [Zd,mc]
    rw [hfin];clear ma mb mc;go_enter Tryz.func88,Tryz.ntmps88
    go_wp2_with (go_at_call 131;refine (Kj _ _ _ (by assumption) (by assumption)).mono ?_;rintro e wc ⟨rfl,nc,rfl⟩)
    refine bodyPost_ret (v:=.tuple #[.agg #[.int .i64 0,.int .i64 0,.int .i64 0],.bool false]) (by simp [results,Tryz.results88,go_sem]) rfl ⟨rfl, ?_⟩;exact Xw
  ·rw [mb] at k2;simp only [Bool.false_eq_true,if_false,if_true] at k1 k2;have hfin:Zd a b c=none:=by simp [Zd,mb]
   rw [hfin];clear ma mb k3;go_enter Tryz.func88,Tryz.ntmps88
   go_wp2_with (go_at_call 131;refine (Kj _ _ _ (by assumption) (by assumption)).mono ?_;rintro e wc ⟨rfl,nc,rfl⟩)
   refine bodyPost_ret (v:=.tuple #[.agg #[.int .i64 0,.int .i64 0,.int .i64 0],.bool false]) (by simp [results,Tryz.results88,go_sem]) rfl ⟨rfl, ?_⟩;exact Xw
 ·rw [ma] at k1;simp only [if_true] at k1;have hfin:Zd a b c=none:=by simp [Zd,ma]
  rw [hfin];clear ma k2 k3;go_enter Tryz.func88,Tryz.ntmps88
  go_wp2_with (go_at_call 131;refine (Kj _ _ _ (by assumption) (by assumption)).mono ?_;rintro e wc ⟨rfl,nc,rfl⟩)
  refine bodyPost_ret (v:=.tuple #[.agg #[.int .i64 0,.int .i64 0,.int .i64 0],.bool false]) (by simp [results,Tryz.results88,go_sem]) rfl ⟨rfl, ?_⟩;exact Xw
end Go.Proofs.YtbekjpkcicjcgaaGreat
