/-
 What the functions that reduce fractions, spots and half planes return.
 Conditions: the numbers are ints of the machine.
-/
import Derived.Test.YtabfdkpdppemaaaGreatGrC
import Derived.StillTailTactics
import Derived.Deep.RegionHeld3
set_option maxHeartbeats 4000000
set_option maxRecDepth 100000
namespace Go.Proofs.YtabfdkpdppemaaaGreat
open Go.RowKit
theorem KZ {a:Int} (h:Zg a) (hm:Y4 a=false) (g:Nat):Zg (a.tdiv g):=by
 have h1:=JT h hm;have:=tdiv_le a g 9223372036854775807 h1.1 h1.2;exact ⟨by omega,by omega⟩
def optSpotV:Option XJ->Value
 | some s=>.tuple #[.agg #[.int .i64 s.x,.int .i64 s.y,.int .i64 s.d],.bool true]
 | none=>.tuple #[.agg #[.int .i64 0,.int .i64 0,.int .i64 0],.bool false]
def KP:Option Half->Value
 | some h=>.tuple #[.agg #[.int .i64 h.a,.int .i64 h.b,.int .i64 h.c],.bool true]
 | none=>.tuple #[.agg #[.int .i64 0,.int .i64 0,.int .i64 0],.bool false]
theorem iSpotOf_c (x y d:Int) (w:World) (hx:Zg x) (hy:Zg y) (hd:Zg d) :
 Calls Tryz.prog 139 #[.int .i64 x,.int .i64 y,.int .i64 d] w λ e w'=>e=.returned (optSpotV (Zn x y d))/\Below w.heap.size w w':=by
 by_cases hd0:d<=0
 ·have hfin:Zn x y d=none:=by simp [Zn,hd0]
  rw [hfin];go_enter Tryz.func139,Tryz.ntmps139
  go_wp2
  refine bodyPost_ret (v:=.tuple #[.agg #[.int .i64 0,.int .i64 0,.int .i64 0],.bool false]) (by simp [results,Tryz.results139,go_sem]) rfl ⟨rfl, ?_⟩;exact XF
 ·cases mx:Y4 x
  ·cases my:Y4 y
   ·have hall:∀ n∈[x,y,d],Zg n:=by simp [hx,hy,hd]
    have md:Y4 d=false:=Ke (by omega);have hfin:Hid (Zn x y d=if Xt ⟨x.tdiv (Xu [x,y,d]),y.tdiv (Xu [x,y,d]),d.tdiv (Xu [x,y,d])⟩=true then some ⟨x.tdiv (Xu [x,y,d]),y.tdiv (Xu [x,y,d]),d.tdiv (Xu [x,y,d])⟩ else none):=by
     show _=_;rw [Zn,if_neg (by simp [hd0,mx,my])];rfl
    have hg:=gcdOfAll_c (some ⟨w.heap.size+1,0,none⟩) [x,y,d] 3 _ (by simp) hall (sl_new_at (T:=3) ZT (w.alloc (.cells #[.int .i64 0,.int .i64 0,.int .i64 0] 30)) [x,y,d] #[.int .i64 x,.int .i64 y,.int .i64 d] rfl (by simp));have hle:=gcdAll_le [x,y,d] hall;have hpos:0<Xu [x,y,d]:=by rw [gcd3];exact Nat.gcd_pos_of_pos_right _ (by omega)
    generalize Xu [x,y,d]=G at *;have i1:=KZ hx mx G;have i2:=KZ hy my G;have i3:=KZ hd md G;have c1:=λ W=>divided_c x G W hx mx hpos hle;have c2:=λ W=>divided_c y G W hy my hpos hle;have c3:=λ W=>divided_c d G W hd md hpos hle;have c4:=λ W=>iSpotOk_c ⟨x.tdiv G,y.tdiv G,d.tdiv G⟩ W ⟨i1,i2,i3⟩;have m1:=JN x false mx hx;have m2:=JN y false my hy;generalize x.tdiv G=x' at *;generalize y.tdiv G=y' at *;generalize d.tdiv G=d' at *;clear i1 i2 i3 mx my md hx hy hd hall;generalize Xt ⟨x',y',d'⟩=ok at *;cases ok;all_goals
     rw [hfin.out];go_enter Tryz.func139,Tryz.ntmps139
     go_wp2_with (fail)
     refine (m1 _).mono ?_;rintro e w' ⟨rfl,rfl⟩;go_wp2_with (fail)
     refine (m2 _).mono ?_;rintro e w' ⟨rfl,rfl⟩;go_wp2_with (fail)
     refine hg.mono ?_;rintro e w1 ⟨rfl,hb1⟩;have hb2:=(Xh (Xc (Xc (Below.refl w.heap.size w) _) _) hb1);have H1:=((Yi.new w #[.int .i64 0,.int .i64 0,.int .i64 0] 30).alloc _).below hb1;obtain ⟨cH1_0,fH1_0⟩:=H1.2 0 _ rfl;obtain ⟨cH1_1,fH1_1⟩:=H1.2 1 _ rfl;obtain ⟨cH1_2,fH1_2⟩:=H1.2 2 _ rfl;go_wp2_with (fail)
     refine (c1 _).mono ?_;rintro e w' ⟨rfl,rfl⟩;go_wp2_with (fail)
     refine (c2 _).mono ?_;rintro e w' ⟨rfl,rfl⟩;go_wp2_with (fail)
     refine (c3 _).mono ?_;rintro e w' ⟨rfl,rfl⟩;go_wp2_with (fail)
     refine (c4 _).mono ?_;rintro e w2 ⟨rfl,hb4⟩;have hb5:=Xh (Xc hb2 (.cells #[.int .i64 x',.int .i64 y',.int .i64 d'] 30)) hb4;have H2:=(H1.alloc _).below hb4;have H3:=(Yi.new _ _ _).below hb4;clear cH1_0 cH1_1 cH1_2 fH1_0 fH1_1 fH1_2;obtain ⟨cH2_0,fH2_0⟩:=H2.2 0 _ rfl;obtain ⟨cH2_1,fH2_1⟩:=H2.2 1 _ rfl;obtain ⟨cH2_2,fH2_2⟩:=H2.2 2 _ rfl;obtain ⟨cH3_0,fH3_0⟩:=H3.2 0 _ rfl;obtain ⟨cH3_1,fH3_1⟩:=H3.2 1 _ rfl;obtain ⟨cH3_2,fH3_2⟩:=H3.2 2 _ rfl;go_wp2
     first
      | exact bodyPost_ret (v:=.tuple #[.agg #[.int .i64 0,.int .i64 0,.int .i64 0],.bool false]) (by simp [results,Tryz.results139,go_sem, *]) rfl ⟨rfl,Zj (Zj (Zj hb5 Xf _) Xf _) Xf _⟩
      | exact bodyPost_ret (v:=.tuple #[.agg #[.int .i64 x',.int .i64 y',.int .i64 d'],.bool true]) (by simp [results,Tryz.results139,go_sem, *]) rfl ⟨rfl,Zj (Zj (Zj hb5 Xf _) Xf _) Xf _⟩
   ·have m1:=JN x false mx hx;have m2:=JN y true my hy;have hfin:Zn x y d=none:=by simp [Zn,my]
    rw [hfin];clear mx my;go_enter Tryz.func139,Tryz.ntmps139
    go_wp2_with (fail)
    refine (m1 _).mono ?_;rintro e w' ⟨rfl,rfl⟩;go_wp2_with (fail)
    refine (m2 _).mono ?_;rintro e w' ⟨rfl,rfl⟩;go_wp2
    refine bodyPost_ret (v:=.tuple #[.agg #[.int .i64 0,.int .i64 0,.int .i64 0],.bool false]) (by simp [results,Tryz.results139,go_sem]) rfl ⟨rfl, ?_⟩;exact XF
  ·have m1:=JN x true mx hx;have hfin:Zn x y d=none:=by simp [Zn,mx]
   rw [hfin];clear mx;go_enter Tryz.func139,Tryz.ntmps139
   go_wp2_with (fail)
   refine (m1 _).mono ?_;rintro e w' ⟨rfl,rfl⟩;go_wp2
   refine bodyPost_ret (v:=.tuple #[.agg #[.int .i64 0,.int .i64 0,.int .i64 0],.bool false]) (by simp [results,Tryz.results139,go_sem]) rfl ⟨rfl, ?_⟩;exact XF
theorem sSpotOf_c (x y d:Int) (w:World) (hx:Zg x) (hy:Zg y) (hd:Zg d) :
 Calls Tryz.prog 276 #[.int .i64 x,.int .i64 y,.int .i64 d] w λ e w'=>e=.returned (optSpotV (Zn x y d))/\Below w.heap.size w w':=by
 by_cases hd0:d<=0
 ·have hfin:Zn x y d=none:=by simp [Zn,hd0]
  rw [hfin];go_enter Tryz.func276,Tryz.ntmps276
  go_wp2
  refine bodyPost_ret (v:=.tuple #[.agg #[.int .i64 0,.int .i64 0,.int .i64 0],.bool false]) (by simp [results,Tryz.results276,go_sem]) rfl ⟨rfl, ?_⟩;exact XF
 ·have hxy:=gcdOf_In64 hx hy;have md:Y4 d=false:=Ke (by omega);have wm:(x != 0)=false->Y4 x=false:=by intro h;simp at h;subst h;rfl
  have wm2:(y != 0)=false->Y4 y=false:=by intro h;simp at h;subst h;rfl
  cases mx:Y4 x
  ·cases my:Y4 y
   ·have hfin:Hid (Zn x y d=if Xt ⟨x.tdiv (Xu [x,y,d]),y.tdiv (Xu [x,y,d]),d.tdiv (Xu [x,y,d])⟩=true then some ⟨x.tdiv (Xu [x,y,d]),y.tdiv (Xu [x,y,d]),d.tdiv (Xu [x,y,d])⟩ else none):=by
     show _=_;rw [Zn,if_neg (by simp [hd0,mx,my])];rfl
    have hG:Ka (Ka x y) d=((Xu [x,y,d]:Nat):Int):=by
     have:=gcdOf_in hx hy;rw [Jn (Ke (by omega)) md,Jn mx my,gcd3];simp
    have hpos:0<Xu [x,y,d]:=by rw [gcd3];exact Nat.gcd_pos_of_pos_right _ (by omega)
    have h3:(Ka x d == 0)=false:=by
     rw [Jn mx md];have:0<Nat.gcd x.natAbs d.natAbs:=Nat.gcd_pos_of_pos_right _ (by omega);simp;omega
    have h4:(Ka y d == 0)=false:=by
     rw [Jn my md];have:0<Nat.gcd y.natAbs d.natAbs:=Nat.gcd_pos_of_pos_right _ (by omega);simp;omega
    have hle:Xu [x,y,d]<=9223372036854775807:=by
     have:=(gcdOf_in hxy hd).2;rw [hG] at this;omega
    generalize Xu [x,y,d]=G at *;have i1:=KZ hx mx G;have i2:=KZ hy my G;have i3:=KZ hd md G;have c5:=λ W=>sSpotOk_c ⟨x.tdiv G,y.tdiv G,d.tdiv G⟩ W ⟨i1,i2,i3⟩;obtain ⟨q1,r1⟩:=i1;obtain ⟨q2,r2⟩:=i2;obtain ⟨q3,r3⟩:=i3;have w1:IntKind.i64.wrap (x.tdiv G)=x.tdiv G:=IntWalk.i64_in _ ⟨q1,r1⟩;have w2:IntKind.i64.wrap (y.tdiv G)=y.tdiv G:=IntWalk.i64_in _ ⟨q2,r2⟩;have w3:IntKind.i64.wrap (d.tdiv G)=d.tdiv G:=IntWalk.i64_in _ ⟨q3,r3⟩;have hG1:¬ (G=0):=by omega
    have hG2:¬ ((G:Int)=0):=by omega
    clear mx my md wm wm2;generalize Xt ⟨x.tdiv G,y.tdiv G,d.tdiv G⟩=ok at *;generalize hbx:(x != 0)=bx;generalize hby:(y != 0)=by_;go_enter Tryz.func276,Tryz.ntmps276
    go_wp2_with (go_at_call 236;refine (KF _ _ _ (by assumption) (by assumption)).mono ?_;rintro e wc ⟨rfl,nc,rfl⟩)
    all_goals go_region_held3 (λ _=>True) (exact True.intro) (fail)
    all_goals
     go_wp2_with (fail)
     refine (c5 _).mono ?_;rintro e w9 ⟨rfl,hb9⟩;have hbw:Below w.heap.size w w9:=by
      refine Xh ?_ hb9;exact XF
     have H2:Yi w9 w.heap.size [.int .i64 0,.int .i64 0,.int .i64 0]:=by
      refine Yi.below ?_ hb9;exact (Yi.new w _ _).alloc _
     have H3:Yi w9 (w.heap.size+1) [.int .i64 (x.tdiv G),.int .i64 (y.tdiv G),.int .i64 (d.tdiv G)]:=by
      refine Yi.below ?_ hb9;have:=Yi.new (w.alloc (.cells #[.int .i64 0,.int .i64 0,.int .i64 0] 30)) #[.int .i64 (x.tdiv G),.int .i64 (y.tdiv G),.int .i64 (d.tdiv G)] 30;simp only [World.size_alloc] at this;exact this
     obtain ⟨cH2_0,fH2_0⟩:=H2.2 0 _ rfl;obtain ⟨cH2_1,fH2_1⟩:=H2.2 1 _ rfl;obtain ⟨cH2_2,fH2_2⟩:=H2.2 2 _ rfl;obtain ⟨cH3_0,fH3_0⟩:=H3.2 0 _ rfl;obtain ⟨cH3_1,fH3_1⟩:=H3.2 1 _ rfl;obtain ⟨cH3_2,fH3_2⟩:=H3.2 2 _ rfl;cases ok
     ·go_wp2
      refine bodyPost_ret (v:=.tuple #[.agg #[.int .i64 0,.int .i64 0,.int .i64 0],.bool false]) (by simp [results,Tryz.results276,go_sem, *]) rfl ⟨by rw [hfin.out];rfl, ?_⟩;exact Zj (Zj (Zj hbw Xf _) Xf _) Xf _
     ·go_wp2
      refine bodyPost_ret (v:=.tuple #[.agg #[.int .i64 (x.tdiv G),.int .i64 (y.tdiv G),.int .i64 (d.tdiv G)],.bool true]) (by simp [results,Tryz.results276,go_sem, *]) rfl ⟨by rw [hfin.out];rfl, ?_⟩;exact Zj (Zj (Zj hbw Xf _) Xf _) Xf _
   ·have hfin:Zn x y d=none:=by simp [Zn,my]
    rw [hfin];have h4:Ka y d=0:=gcdOf_min1 my;have h5:(y != 0)=true:=by simp [Y4] at my;subst my;rfl
    have h3:(Ka x d == 0)=false:=by
     rw [Jn mx md];have:0<Nat.gcd x.natAbs d.natAbs:=Nat.gcd_pos_of_pos_right _ (by omega);simp;omega
    generalize hbx:(x != 0)=bx;clear mx my md wm wm2;go_enter Tryz.func276,Tryz.ntmps276
    go_wp2_with (go_at_call 236;refine (KF _ _ _ (by assumption) (by assumption)).mono ?_;rintro e wc ⟨rfl,nc,rfl⟩)
    all_goals
     refine bodyPost_ret (v:=.tuple #[.agg #[.int .i64 0,.int .i64 0,.int .i64 0],.bool false]) (by simp [results,Tryz.results276,go_sem]) rfl ⟨rfl, ?_⟩;exact XF
  ·have hfin:Zn x y d=none:=by simp [Zn,mx]
   rw [hfin];have h3:Ka x d=0:=gcdOf_min1 mx;have h5:(x != 0)=true:=by simp [Y4] at mx;subst mx;rfl
   clear mx md wm wm2;go_enter Tryz.func276,Tryz.ntmps276
   go_wp2_with (go_at_call 236;refine (KF _ _ _ (by assumption) (by assumption)).mono ?_;rintro e wc ⟨rfl,nc,rfl⟩)
   all_goals
    refine bodyPost_ret (v:=.tuple #[.agg #[.int .i64 0,.int .i64 0,.int .i64 0],.bool false]) (by simp [results,Tryz.results276,go_sem]) rfl ⟨rfl, ?_⟩;exact XF
theorem iHalfOf_c (a b c:Int) (w:World) (ha:Zg a) (hb:Zg b) (hc:Zg c) :
 Calls Tryz.prog 207 #[.int .i64 a,.int .i64 b,.int .i64 c] w λ e w'=>e=.returned (KP (Zy a b c))/\Below w.heap.size w w':=by
 have hall:∀ n∈[a,b,c],Zg n:=by simp [ha,hb,hc]
 have hg:=gcdOfAll_c (some ⟨w.heap.size+1,0,none⟩) [a,b,c] 3 _ (by simp) hall (sl_new_at (T:=3) ZT (w.alloc (.cells #[.int .i64 0,.int .i64 0,.int .i64 0] 174)) [a,b,c] #[.int .i64 a,.int .i64 b,.int .i64 c] rfl (by simp));have hle:=gcdAll_le [a,b,c] hall;have m1:=λ v h=>JN a v h ha;have m2:=λ v h=>JN b v h hb;have m3:=λ v h=>JN c v h hc;by_cases hz:Xu [a,b,c]=0
 ·have hfin:Zy a b c=none:=by simp [Zy,hz]
  rw [hfin];rw [hz] at hg;clear hz hle;go_enter Tryz.func207,Tryz.ntmps207
  go_wp2_with (fail)
  refine hg.mono ?_;rintro e w1 ⟨rfl,hb1⟩;have H1:=((Yi.new w #[.int .i64 0,.int .i64 0,.int .i64 0] 174).alloc _).below hb1;obtain ⟨cH1_0,fH1_0⟩:=H1.2 0 _ rfl;obtain ⟨cH1_1,fH1_1⟩:=H1.2 1 _ rfl;obtain ⟨cH1_2,fH1_2⟩:=H1.2 2 _ rfl;have hbw:=Xh (Xc (Xc (Below.refl w.heap.size w) _) _) hb1;go_wp2
  refine bodyPost_ret (v:=.tuple #[.agg #[.int .i64 0,.int .i64 0,.int .i64 0],.bool false]) (by simp [results,Tryz.results207,go_sem, *]) rfl ⟨rfl, ?_⟩;exact XF
 ·cases ma:Y4 a
  ·cases mb:Y4 b
   ·cases mc:Y4 c
    ·have hfin:Hid (Zy a b c=if Xy ⟨a.tdiv (Xu [a,b,c]),b.tdiv (Xu [a,b,c]),c.tdiv (Xu [a,b,c])⟩=true then some ⟨a.tdiv (Xu [a,b,c]),b.tdiv (Xu [a,b,c]),c.tdiv (Xu [a,b,c])⟩ else none):=by
      show _=_;rw [Zy,if_neg (by simp [hz,ma,mb,mc])];rfl
     have hpos:0<Xu [a,b,c]:=by omega
     clear hz;generalize Xu [a,b,c]=G at *;have i1:=KZ ha ma G;have i2:=KZ hb mb G;have i3:=KZ hc mc G;have c1:=λ W=>divided_c a G W ha ma hpos hle;have c2:=λ W=>divided_c b G W hb mb hpos hle;have c3:=λ W=>divided_c c G W hc mc hpos hle;have c4:=λ W=>iHalfOk_c ⟨a.tdiv G,b.tdiv G,c.tdiv G⟩ W ⟨i1,i2,i3⟩;have n1:=m1 _ ma;have n2:=m2 _ mb;have n3:=m3 _ mc;have hG1:¬ (G=0):=by omega
     have hG2:((G:Int) == 0)=false:=by simp;omega
     generalize a.tdiv G=x' at *;generalize b.tdiv G=y' at *;generalize c.tdiv G=d' at *;clear i1 i2 i3 ma mb mc ha hb hc hall m1 m2 m3;generalize Xy ⟨x',y',d'⟩=ok at *;go_enter Tryz.func207,Tryz.ntmps207
     go_wp2_with (fail)
     refine hg.mono ?_;rintro e w1 ⟨rfl,hb1⟩;have hb2:=(Xh (Xc (Xc (Below.refl w.heap.size w) _) _) hb1);have H1:=((Yi.new w #[.int .i64 0,.int .i64 0,.int .i64 0] 174).alloc _).below hb1;go_wp2_with (fail)
     refine (n1 _).mono ?_;rintro e w' ⟨rfl,rfl⟩;go_wp2_with (fail)
     refine (n2 _).mono ?_;rintro e w' ⟨rfl,rfl⟩;go_wp2_with (fail)
     refine (n3 _).mono ?_;rintro e w' ⟨rfl,rfl⟩;go_wp2_with (fail)
     refine (c1 _).mono ?_;rintro e w' ⟨rfl,rfl⟩;go_wp2_with (fail)
     refine (c2 _).mono ?_;rintro e w' ⟨rfl,rfl⟩;go_wp2_with (fail)
     refine (c3 _).mono ?_;rintro e w' ⟨rfl,rfl⟩;go_wp2_with (fail)
     refine (c4 _).mono ?_;rintro e w2 ⟨rfl,hb4⟩;have hb5:=Xh (Xc hb2 (.cells #[.int .i64 x',.int .i64 y',.int .i64 d'] 174)) hb4;have H2:=(H1.alloc _).below hb4;have H3:=(Yi.new _ _ _).below hb4;obtain ⟨cH2_0,fH2_0⟩:=H2.2 0 _ rfl;obtain ⟨cH2_1,fH2_1⟩:=H2.2 1 _ rfl;obtain ⟨cH2_2,fH2_2⟩:=H2.2 2 _ rfl;obtain ⟨cH3_0,fH3_0⟩:=H3.2 0 _ rfl;obtain ⟨cH3_1,fH3_1⟩:=H3.2 1 _ rfl;obtain ⟨cH3_2,fH3_2⟩:=H3.2 2 _ rfl;cases ok
     ·go_wp2
      refine bodyPost_ret (v:=.tuple #[.agg #[.int .i64 0,.int .i64 0,.int .i64 0],.bool false]) (by simp [results,Tryz.results207,go_sem, *]) rfl ⟨by rw [hfin.out];rfl, ?_⟩;exact XF
     ·go_wp2
      refine bodyPost_ret (v:=.tuple #[.agg #[.int .i64 x',.int .i64 y',.int .i64 d'],.bool true]) (by simp [results,Tryz.results207,go_sem, *]) rfl ⟨by rw [hfin.out];rfl, ?_⟩;exact XF
    ·have hfin:Zy a b c=none:=by simp [Zy,mc]
     rw [hfin];have n1:=m1 _ ma;have n2:=m2 _ mb;have n3:=m3 _ mc;have hG1:((Xu [a,b,c]:Int) == 0)=false:=by simp;omega
     clear ma mb mc ha hb hc hall m1 m2 m3;generalize Xu [a,b,c]=G at *;go_enter Tryz.func207,Tryz.ntmps207
     go_wp2_with (fail)
     refine hg.mono ?_;rintro e w1 ⟨rfl,hb1⟩;have H1:=((Yi.new w #[.int .i64 0,.int .i64 0,.int .i64 0] 174).alloc _).below hb1;have hbw:=Xh (Xc (Xc (Below.refl w.heap.size w) _) _) hb1;obtain ⟨cH1_0,fH1_0⟩:=H1.2 0 _ rfl;obtain ⟨cH1_1,fH1_1⟩:=H1.2 1 _ rfl;obtain ⟨cH1_2,fH1_2⟩:=H1.2 2 _ rfl;go_wp2_with (fail)
     refine (n1 _).mono ?_;rintro e w' ⟨rfl,rfl⟩;go_wp2_with (fail)
     refine (n2 _).mono ?_;rintro e w' ⟨rfl,rfl⟩;go_wp2_with (fail)
     refine (n3 _).mono ?_;rintro e w' ⟨rfl,rfl⟩;go_wp2
     refine bodyPost_ret (v:=.tuple #[.agg #[.int .i64 0,.int .i64 0,.int .i64 0],.bool false]) (by simp [results,Tryz.results207,go_sem, *]) rfl ⟨rfl, ?_⟩;exact XF
   ·have hfin:Zy a b c=none:=by simp [Zy,mb]
    rw [hfin];have n1:=m1 _ ma;have n2:=m2 _ mb;have hG1:((Xu [a,b,c]:Int) == 0)=false:=by simp;omega
    clear ma mb ha hb hc hall m1 m2 m3;generalize Xu [a,b,c]=G at *;go_enter Tryz.func207,Tryz.ntmps207
    go_wp2_with (fail)
    refine hg.mono ?_;rintro e w1 ⟨rfl,hb1⟩;have H1:=((Yi.new w #[.int .i64 0,.int .i64 0,.int .i64 0] 174).alloc _).below hb1;have hbw:=Xh (Xc (Xc (Below.refl w.heap.size w) _) _) hb1;obtain ⟨cH1_0,fH1_0⟩:=H1.2 0 _ rfl;obtain ⟨cH1_1,fH1_1⟩:=H1.2 1 _ rfl;obtain ⟨cH1_2,fH1_2⟩:=H1.2 2 _ rfl;go_wp2_with (fail)
    refine (n1 _).mono ?_;rintro e w' ⟨rfl,rfl⟩;go_wp2_with (fail)
    refine (n2 _).mono ?_;rintro e w' ⟨rfl,rfl⟩;go_wp2
    refine bodyPost_ret (v:=.tuple #[.agg #[.int .i64 0,.int .i64 0,.int .i64 0],.bool false]) (by simp [results,Tryz.results207,go_sem, *]) rfl ⟨rfl, ?_⟩;exact XF
  ·have hfin:Zy a b c=none:=by simp [Zy,ma]
   rw [hfin];have n1:=m1 _ ma;have hG1:((Xu [a,b,c]:Int) == 0)=false:=by simp;omega
   clear ma ha hb hc hall m1 m2 m3;generalize Xu [a,b,c]=G at *;go_enter Tryz.func207,Tryz.ntmps207
   go_wp2_with (fail)
   refine hg.mono ?_;rintro e w1 ⟨rfl,hb1⟩;have H1:=((Yi.new w #[.int .i64 0,.int .i64 0,.int .i64 0] 174).alloc _).below hb1;have hbw:=Xh (Xc (Xc (Below.refl w.heap.size w) _) _) hb1;obtain ⟨cH1_0,fH1_0⟩:=H1.2 0 _ rfl;obtain ⟨cH1_1,fH1_1⟩:=H1.2 1 _ rfl;obtain ⟨cH1_2,fH1_2⟩:=H1.2 2 _ rfl;go_wp2_with (fail)
   refine (n1 _).mono ?_;rintro e w' ⟨rfl,rfl⟩;go_wp2
   refine bodyPost_ret (v:=.tuple #[.agg #[.int .i64 0,.int .i64 0,.int .i64 0],.bool false]) (by simp [results,Tryz.results207,go_sem, *]) rfl ⟨rfl, ?_⟩;exact XF
theorem sHalfOk_c (h:Half) (w:World) (hh:h.In) :
 Calls Tryz.prog 237 #[Y8 h] w λ e w'=>e=.returned (.bool (Xy h))/\Below w.heap.size w w':=by
 obtain ⟨h1,h2,h3⟩:=hh;have hxy:=gcdOf_In64 h1 h2;cases e1:Z7 h.a (-50000) 50000
 ·go_enter Tryz.func237,Tryz.ntmps237
  go_wp2
  go_big_quiet ((first|(go_at_call 217;exact KS (JP _ _ _ _ (by assumption) _))|(go_at_call 236;exact quiet_n (KF _ _ _ (by assumption) (by assumption)))))
  go_wp2
  go_ret
  refine ⟨Xo (by simp [Xy,e1]), ?_⟩;exact XF
 ·cases e2:Z7 h.b (-50000) 50000
  ·go_enter Tryz.func237,Tryz.ntmps237
   go_wp2
   go_big_quiet ((first|(go_at_call 217;exact KS (JP _ _ _ _ (by assumption) _))|(go_at_call 236;exact quiet_n (KF _ _ _ (by assumption) (by assumption)))))
   go_wp2
   go_ret
   refine ⟨Xo (by simp [Xy,e1,e2]), ?_⟩;exact XF
  ·have f1:(h.a != 0) = !(h.a == 0):=rfl;have f2:(h.b != 0) = !(h.b == 0):=rfl;obtain ⟨x1,x2⟩:=YP.1 e1;obtain ⟨y1,y2⟩:=YP.1 e2;have hz:∀ v:Bool,(h.a == 0)=v->(h.a != 0) = !v:=λ v e=>by rw [f1,e]
   have hz2:∀ v:Bool,(h.b == 0)=v->(h.b != 0) = !v:=λ v e=>by rw [f2,e]
   have key:(h.a≠0∨h.b≠0)->Z7 h.c (-100000000) 100000000=true->Xy h=(Ka (Ka h.a h.b) h.c == 1):=by
    intro k1 e3;obtain ⟨z1,z2⟩:=YP.1 e3;have:=gcdOf_in h1 h2;rw [Jn (Ke (a:=Ka h.a h.b) (by omega)) (Ke (a:=h.c) (by omega)),Jn (Ke (a:=h.a) (by omega)) (Ke (a:=h.b) (by omega))];rw [Bool.eq_iff_iff];simp [Xy,e1,e2,e3,gcd3];omega
   clear f1 f2;cases za:(h.a == 0)
   ·have za2:=hz _ za;clear hz hz2 x1 x2 y1 y2;simp only [Bool.not_false] at za2;have hne:h.a≠0:=by simpa using za
    cases e3:Z7 h.c (-100000000) 100000000
    ·clear key hne;go_enter Tryz.func237,Tryz.ntmps237
     go_wp2
     go_big_quiet ((first|(go_at_call 217;exact KS (JP _ _ _ _ (by assumption) _))|(go_at_call 236;exact quiet_n (KF _ _ _ (by assumption) (by assumption)))))
     go_wp2
     go_ret
     refine ⟨Xo (by simp [Xy,e1,e2,e3]), ?_⟩;exact XF
    ·have hfin:=Lib.hid (key (.inl hne) e3);clear key hne;cases e4:(Ka (Ka h.a h.b) h.c == 1);all_goals
      go_enter Tryz.func237,Tryz.ntmps237
      go_wp2
      go_big_quiet ((first|(go_at_call 217;exact KS (JP _ _ _ _ (by assumption) _))|(go_at_call 236;exact quiet_n (KF _ _ _ (by assumption) (by assumption)))))
      go_wp2
      go_ret
      refine ⟨Xo (by rw [hfin.out,e4]), ?_⟩;exact XF
   ·have za2:=hz _ za;simp only [Bool.not_true] at za2;cases zb:(h.b == 0)
    ·have zb2:=hz2 _ zb;clear hz hz2 x1 x2 y1 y2;simp only [Bool.not_false] at zb2;have hne:h.b≠0:=by simpa using zb
     cases e3:Z7 h.c (-100000000) 100000000
     ·clear key hne;go_enter Tryz.func237,Tryz.ntmps237
      go_wp2
      go_big_quiet ((first|(go_at_call 217;exact KS (JP _ _ _ _ (by assumption) _))|(go_at_call 236;exact quiet_n (KF _ _ _ (by assumption) (by assumption)))))
      go_wp2
      go_ret
      refine ⟨Xo (by simp [Xy,e1,e2,e3]), ?_⟩;exact XF
     ·have hfin:=Lib.hid (key (.inr hne) e3);clear key hne;cases e4:(Ka (Ka h.a h.b) h.c == 1);all_goals
       go_enter Tryz.func237,Tryz.ntmps237
       go_wp2
       go_big_quiet ((first|(go_at_call 217;exact KS (JP _ _ _ _ (by assumption) _))|(go_at_call 236;exact quiet_n (KF _ _ _ (by assumption) (by assumption)))))
       go_wp2
       go_ret
       refine ⟨Xo (by rw [hfin.out,e4]), ?_⟩;exact XF
    ·have zb2:=hz2 _ zb;clear hz hz2 x1 x2 y1 y2 key;simp only [Bool.not_true] at zb2;have hfin:Hid (Xy h=false):=by
      have a0:h.a=0:=by simpa using za
      have b0:h.b=0:=by simpa using zb
      show _=_;simp [Xy,a0,b0]
     go_enter Tryz.func237,Tryz.ntmps237
     go_wp2
     go_big_quiet ((first|(go_at_call 217;exact KS (JP _ _ _ _ (by assumption) _))|(go_at_call 236;exact quiet_n (KF _ _ _ (by assumption) (by assumption)))))
     go_wp2
     go_ret
     refine ⟨Xo (by rw [hfin.out]), ?_⟩;exact XF
theorem gcdOf_one (a:Int):Ka a 1=if Y4 a then 0 else 1:=by
 unfold Ka;cases Y4 a<;>simp [Y4]
theorem sHalfOf_c (a b c:Int) (w:World) (ha:Zg a) (hb:Zg b) (hc:Zg c) :
 Calls Tryz.prog 182 #[.int .i64 a,.int .i64 b,.int .i64 c] w λ e w'=>e=.returned (KP (Zy a b c))/\Below w.heap.size w w':=by
 have hone:Zg 1:=⟨by omega,by omega⟩;have hxy:=gcdOf_In64 ha hb;have k1:=gcdOf_one a;have k2:=gcdOf_one b;have k3:=gcdOf_one c;cases ma:Y4 a
 ·rw [ma] at k1;cases mb:Y4 b
  ·rw [mb] at k2;cases mc:Y4 c
   ·rw [mc] at k3;simp only [Bool.false_eq_true,if_false] at k1 k2 k3;by_cases hz:a=0/\b=0
    ·have hfin:Zy a b c=none:=by
      unfold Zy;split
      ·rfl
      ·rw [if_neg];obtain ⟨rfl,rfl⟩:=hz;simp [Xy,redHalf]
     rw [hfin];obtain ⟨rfl,rfl⟩:=hz;clear ma mb mc hfin;go_enter Tryz.func182,Tryz.ntmps182
     go_wp2_with (go_at_call 236;refine (KF _ _ _ (by assumption) (by assumption)).mono ?_;rintro e wc ⟨rfl,nc,rfl⟩)
     refine bodyPost_ret (v:=.tuple #[.agg #[.int .i64 0,.int .i64 0,.int .i64 0],.bool false]) (by simp [results,Tryz.results182,go_sem]) rfl ⟨rfl, ?_⟩;exact XF
    ·have hpos:0<Xu [a,b,c]:=by
      rw [gcd3];apply Nat.gcd_pos_of_pos_left;rcases Nat.eq_zero_or_pos (Nat.gcd a.natAbs b.natAbs) with h|h
      ·rw [Nat.gcd_eq_zero_iff] at h;omega
      ·exact h
     have hfin:Hid (Zy a b c=if Xy ⟨a.tdiv (Xu [a,b,c]),b.tdiv (Xu [a,b,c]),c.tdiv (Xu [a,b,c])⟩=true then some ⟨a.tdiv (Xu [a,b,c]),b.tdiv (Xu [a,b,c]),c.tdiv (Xu [a,b,c])⟩ else none):=by
      show _=_;rw [Zy,if_neg (by simp [ma,mb,mc];omega)];rfl
     have hG:Ka (Ka a b) c=((Xu [a,b,c]:Nat):Int):=by
      have:=gcdOf_in ha hb;rw [Jn (Ke (by omega)) mc,Jn ma mb,gcd3];simp
     have hle:Xu [a,b,c]<=9223372036854775807:=by
      have:=(gcdOf_in hxy hc).2;rw [hG] at this;omega
     generalize Xu [a,b,c]=G at *;have i1:=KZ ha ma G;have i2:=KZ hb mb G;have i3:=KZ hc mc G;have c5:=λ W=>sHalfOk_c ⟨a.tdiv G,b.tdiv G,c.tdiv G⟩ W ⟨i1,i2,i3⟩;obtain ⟨q1,r1⟩:=i1;obtain ⟨q2,r2⟩:=i2;obtain ⟨q3,r3⟩:=i3;have w1:IntKind.i64.wrap (a.tdiv G)=a.tdiv G:=IntWalk.i64_in _ ⟨q1,r1⟩;have w2:IntKind.i64.wrap (b.tdiv G)=b.tdiv G:=IntWalk.i64_in _ ⟨q2,r2⟩;have w3:IntKind.i64.wrap (c.tdiv G)=c.tdiv G:=IntWalk.i64_in _ ⟨q3,r3⟩;have hG1:¬ (G=0):=by omega
     have hG2:¬ ((G:Int)=0):=by omega
     have hz2:((a == 0)&&(b == 0))=false:=by
      rw [Bool.and_eq_false_iff];simp;omega
     clear ma mb mc hz;generalize Xy ⟨a.tdiv G,b.tdiv G,c.tdiv G⟩=ok at *;generalize hba:(a == 0)=za at *;generalize hbb:(b == 0)=zb at *;have hz3:za=true->zb=false:=by intro h;subst h;simpa using hz2
     clear hz2;cases za;all_goals
      first|(have hzb:=hz3 rfl;subst hzb)|skip
      clear hz3;go_enter Tryz.func182,Tryz.ntmps182
      go_wp2_with (go_at_call 236;refine (KF _ _ _ (by assumption) (by assumption)).mono ?_;rintro e wc ⟨rfl,nc,rfl⟩)
      all_goals go_region_held3 (λ _=>True) (exact True.intro) (fail)
      all_goals
       go_wp2_with (fail)
       refine (c5 _).mono ?_;rintro e w9 ⟨rfl,hb9⟩;have hbw:Below w.heap.size w w9:=by
        refine Xh ?_ hb9;exact XF
       have H2:Yi w9 w.heap.size [.int .i64 0,.int .i64 0,.int .i64 0]:=by
        refine Yi.below ?_ hb9;exact (Yi.new w _ _).alloc _
       have H3:Yi w9 (w.heap.size+1) [.int .i64 (a.tdiv G),.int .i64 (b.tdiv G),.int .i64 (c.tdiv G)]:=by
        refine Yi.below ?_ hb9;have:=Yi.new (w.alloc (.cells #[.int .i64 0,.int .i64 0,.int .i64 0] 174)) #[.int .i64 (a.tdiv G),.int .i64 (b.tdiv G),.int .i64 (c.tdiv G)] 174;simp only [World.size_alloc] at this;exact this
       obtain ⟨cH2_0,fH2_0⟩:=H2.2 0 _ rfl;obtain ⟨cH2_1,fH2_1⟩:=H2.2 1 _ rfl;obtain ⟨cH2_2,fH2_2⟩:=H2.2 2 _ rfl;obtain ⟨cH3_0,fH3_0⟩:=H3.2 0 _ rfl;obtain ⟨cH3_1,fH3_1⟩:=H3.2 1 _ rfl;obtain ⟨cH3_2,fH3_2⟩:=H3.2 2 _ rfl;cases ok
       ·go_wp2
        refine bodyPost_ret (v:=.tuple #[.agg #[.int .i64 0,.int .i64 0,.int .i64 0],.bool false]) (by simp [results,Tryz.results182,go_sem, *]) rfl ⟨by rw [hfin.out];rfl, ?_⟩;exact XF
       ·go_wp2
        refine bodyPost_ret (v:=.tuple #[.agg #[.int .i64 (a.tdiv G),.int .i64 (b.tdiv G),.int .i64 (c.tdiv G)],.bool true]) (by simp [results,Tryz.results182,go_sem, *]) rfl ⟨by rw [hfin.out];rfl, ?_⟩;exact XF
   ·rw [mc] at k3;simp only [Bool.false_eq_true,if_false,if_true] at k1 k2 k3;have hfin:Zy a b c=none:=by simp [Zy,mc]
    rw [hfin];clear ma mb mc;go_enter Tryz.func182,Tryz.ntmps182
    go_wp2_with (go_at_call 236;refine (KF _ _ _ (by assumption) (by assumption)).mono ?_;rintro e wc ⟨rfl,nc,rfl⟩)
    refine bodyPost_ret (v:=.tuple #[.agg #[.int .i64 0,.int .i64 0,.int .i64 0],.bool false]) (by simp [results,Tryz.results182,go_sem]) rfl ⟨rfl, ?_⟩;exact XF
  ·rw [mb] at k2;simp only [Bool.false_eq_true,if_false,if_true] at k1 k2;have hfin:Zy a b c=none:=by simp [Zy,mb]
   rw [hfin];clear ma mb k3;go_enter Tryz.func182,Tryz.ntmps182
   go_wp2_with (go_at_call 236;refine (KF _ _ _ (by assumption) (by assumption)).mono ?_;rintro e wc ⟨rfl,nc,rfl⟩)
   refine bodyPost_ret (v:=.tuple #[.agg #[.int .i64 0,.int .i64 0,.int .i64 0],.bool false]) (by simp [results,Tryz.results182,go_sem]) rfl ⟨rfl, ?_⟩;exact XF
 ·rw [ma] at k1;simp only [if_true] at k1;have hfin:Zy a b c=none:=by simp [Zy,ma]
  rw [hfin];clear ma k2 k3;go_enter Tryz.func182,Tryz.ntmps182
  go_wp2_with (go_at_call 236;refine (KF _ _ _ (by assumption) (by assumption)).mono ?_;rintro e wc ⟨rfl,nc,rfl⟩)
  refine bodyPost_ret (v:=.tuple #[.agg #[.int .i64 0,.int .i64 0,.int .i64 0],.bool false]) (by simp [results,Tryz.results182,go_sem]) rfl ⟨rfl, ?_⟩;exact XF
end Go.Proofs.YtabfdkpdppemaaaGreat
