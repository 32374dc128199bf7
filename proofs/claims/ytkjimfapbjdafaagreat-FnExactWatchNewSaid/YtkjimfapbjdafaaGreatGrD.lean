/-
 What the functions that reduce fractions, spots and half planes return.
 Conditions: the numbers are ints of the machine.
-/
import Derived.Test.YtkjimfapbjdafaaGreatGrC
import Derived.StillTailTactics
import Derived.Deep.RegionHeld3
set_option maxHeartbeats 4000000
set_option maxRecDepth 100000
namespace Go.Proofs.YtkjimfapbjdafaaGreat
open Go.RowKit
theorem Jc {a:Int} (h:Zv a) (hm:Zi a=false) (g:Nat):Zv (a.tdiv g):=by
 have h1:=JH h hm;have:=tdiv_le a g 9223372036854775807 h1.1 h1.2;exact ⟨by omega,by omega⟩
def optSpotV:Option Ya->Value
 | some s=>.tuple #[.agg #[.int .i64 s.x,.int .i64 s.y,.int .i64 s.d],.bool true]
 | none=>.tuple #[.agg #[.int .i64 0,.int .i64 0,.int .i64 0],.bool false]
def Ka:Option Half->Value
 | some h=>.tuple #[.agg #[.int .i64 h.a,.int .i64 h.b,.int .i64 h.c],.bool true]
 | none=>.tuple #[.agg #[.int .i64 0,.int .i64 0,.int .i64 0],.bool false]
theorem iSpotOf_c (x y d:Int) (w:World) (hx:Zv x) (hy:Zv y) (hd:Zv d) :
 Calls Tryz.prog 251 #[.int .i64 x,.int .i64 y,.int .i64 d] w λ e w'=>e=.returned (optSpotV (ZK x y d))/\Below w.heap.size w w':=by
 by_cases hd0:d<=0
 ·have hfin:ZK x y d=none:=by simp [ZK,hd0]
  rw [hfin];go_enter Tryz.func251,Tryz.ntmps251
  go_wp2
  refine bodyPost_ret (v:=.tuple #[.agg #[.int .i64 0,.int .i64 0,.int .i64 0],.bool false]) (by simp [results,Tryz.results251,go_sem]) rfl ⟨rfl, ?_⟩;exact XA
 ·cases mx:Zi x
  ·cases my:Zi y
   ·have hall:∀ n∈[x,y,d],Zv n:=by simp [hx,hy,hd]
    have md:Zi d=false:=ZR (by omega);have hfin:Hid (ZK x y d=if Xu ⟨x.tdiv (XJ [x,y,d]),y.tdiv (XJ [x,y,d]),d.tdiv (XJ [x,y,d])⟩=true then some ⟨x.tdiv (XJ [x,y,d]),y.tdiv (XJ [x,y,d]),d.tdiv (XJ [x,y,d])⟩ else none):=by
     show _=_;rw [ZK,if_neg (by simp [hd0,mx,my])];rfl
    have hg:=gcdOfAll_c (some ⟨w.heap.size+1,0,none⟩) [x,y,d] 3 _ (by simp) hall (sl_new_at (T:=3) YQ (w.alloc (.cells #[.int .i64 0,.int .i64 0,.int .i64 0] 44)) [x,y,d] #[.int .i64 x,.int .i64 y,.int .i64 d] rfl (by simp));have hle:=gcdAll_le [x,y,d] hall;have hpos:0<XJ [x,y,d]:=by rw [gcd3];exact Nat.gcd_pos_of_pos_right _ (by omega)
    generalize XJ [x,y,d]=G at *;have i1:=Jc hx mx G;have i2:=Jc hy my G;have i3:=Jc hd md G;have c1:=λ W=>divided_c x G W hx mx hpos hle;have c2:=λ W=>divided_c y G W hy my hpos hle;have c3:=λ W=>divided_c d G W hd md hpos hle;have c4:=λ W=>iSpotOk_c ⟨x.tdiv G,y.tdiv G,d.tdiv G⟩ W ⟨i1,i2,i3⟩;have m1:=isLeast_v x false mx hx;have m2:=isLeast_v y false my hy;generalize x.tdiv G=x' at *;generalize y.tdiv G=y' at *;generalize d.tdiv G=d' at *;clear i1 i2 i3 mx my md hx hy hd hall;generalize Xu ⟨x',y',d'⟩=ok at *;cases ok;all_goals
     rw [hfin.out];go_enter Tryz.func251,Tryz.ntmps251
     go_wp2_with (fail)
     refine (m1 _).mono ?_;rintro e w' ⟨rfl,rfl⟩;go_wp2_with (fail)
     refine (m2 _).mono ?_;rintro e w' ⟨rfl,rfl⟩;go_wp2_with (fail)
     refine hg.mono ?_;rintro e w1 ⟨rfl,hb1⟩;have hb2:=(Xn (Xd (Xd (Below.refl w.heap.size w) _) _) hb1);have H1:=((YI.new w #[.int .i64 0,.int .i64 0,.int .i64 0] 44).alloc _).below hb1;obtain ⟨cH1_0,fH1_0⟩:=H1.2 0 _ rfl;obtain ⟨cH1_1,fH1_1⟩:=H1.2 1 _ rfl;obtain ⟨cH1_2,fH1_2⟩:=H1.2 2 _ rfl;go_wp2_with (fail)
     refine (c1 _).mono ?_;rintro e w' ⟨rfl,rfl⟩;go_wp2_with (fail)
     refine (c2 _).mono ?_;rintro e w' ⟨rfl,rfl⟩;go_wp2_with (fail)
     refine (c3 _).mono ?_;rintro e w' ⟨rfl,rfl⟩;go_wp2_with (fail)
     refine (c4 _).mono ?_;rintro e w2 ⟨rfl,hb4⟩;have hb5:=Xn (Xd hb2 (.cells #[.int .i64 x',.int .i64 y',.int .i64 d'] 44)) hb4;have H2:=(H1.alloc _).below hb4;have H3:=(YI.new _ _ _).below hb4;clear cH1_0 cH1_1 cH1_2 fH1_0 fH1_1 fH1_2;obtain ⟨cH2_0,fH2_0⟩:=H2.2 0 _ rfl;obtain ⟨cH2_1,fH2_1⟩:=H2.2 1 _ rfl;obtain ⟨cH2_2,fH2_2⟩:=H2.2 2 _ rfl;obtain ⟨cH3_0,fH3_0⟩:=H3.2 0 _ rfl;obtain ⟨cH3_1,fH3_1⟩:=H3.2 1 _ rfl;obtain ⟨cH3_2,fH3_2⟩:=H3.2 2 _ rfl;go_wp2
     first
      | exact bodyPost_ret (v:=.tuple #[.agg #[.int .i64 0,.int .i64 0,.int .i64 0],.bool false]) (by simp [results,Tryz.results251,go_sem, *]) rfl ⟨rfl,Zz (Zz (Zz hb5 Xh _) Xh _) Xh _⟩
      | exact bodyPost_ret (v:=.tuple #[.agg #[.int .i64 x',.int .i64 y',.int .i64 d'],.bool true]) (by simp [results,Tryz.results251,go_sem, *]) rfl ⟨rfl,Zz (Zz (Zz hb5 Xh _) Xh _) Xh _⟩
   ·have m1:=isLeast_v x false mx hx;have m2:=isLeast_v y true my hy;have hfin:ZK x y d=none:=by simp [ZK,my]
    rw [hfin];clear mx my;go_enter Tryz.func251,Tryz.ntmps251
    go_wp2_with (fail)
    refine (m1 _).mono ?_;rintro e w' ⟨rfl,rfl⟩;go_wp2_with (fail)
    refine (m2 _).mono ?_;rintro e w' ⟨rfl,rfl⟩;go_wp2
    refine bodyPost_ret (v:=.tuple #[.agg #[.int .i64 0,.int .i64 0,.int .i64 0],.bool false]) (by simp [results,Tryz.results251,go_sem]) rfl ⟨rfl, ?_⟩;exact XA
  ·have m1:=isLeast_v x true mx hx;have hfin:ZK x y d=none:=by simp [ZK,mx]
   rw [hfin];clear mx;go_enter Tryz.func251,Tryz.ntmps251
   go_wp2_with (fail)
   refine (m1 _).mono ?_;rintro e w' ⟨rfl,rfl⟩;go_wp2
   refine bodyPost_ret (v:=.tuple #[.agg #[.int .i64 0,.int .i64 0,.int .i64 0],.bool false]) (by simp [results,Tryz.results251,go_sem]) rfl ⟨rfl, ?_⟩;exact XA
theorem sSpotOf_c (x y d:Int) (w:World) (hx:Zv x) (hy:Zv y) (hd:Zv d) :
 Calls Tryz.prog 250 #[.int .i64 x,.int .i64 y,.int .i64 d] w λ e w'=>e=.returned (optSpotV (ZK x y d))/\Below w.heap.size w w':=by
 by_cases hd0:d<=0
 ·have hfin:ZK x y d=none:=by simp [ZK,hd0]
  rw [hfin];go_enter Tryz.func250,Tryz.ntmps250
  go_wp2
  refine bodyPost_ret (v:=.tuple #[.agg #[.int .i64 0,.int .i64 0,.int .i64 0],.bool false]) (by simp [results,Tryz.results250,go_sem]) rfl ⟨rfl, ?_⟩;exact XA
 ·have hxy:=gcdOf_In64 hx hy;have md:Zi d=false:=ZR (by omega);have wm:(x != 0)=false->Zi x=false:=by intro h;simp at h;subst h;rfl
  have wm2:(y != 0)=false->Zi y=false:=by intro h;simp at h;subst h;rfl
  cases mx:Zi x
  ·cases my:Zi y
   ·have hfin:Hid (ZK x y d=if Xu ⟨x.tdiv (XJ [x,y,d]),y.tdiv (XJ [x,y,d]),d.tdiv (XJ [x,y,d])⟩=true then some ⟨x.tdiv (XJ [x,y,d]),y.tdiv (XJ [x,y,d]),d.tdiv (XJ [x,y,d])⟩ else none):=by
     show _=_;rw [ZK,if_neg (by simp [hd0,mx,my])];rfl
    have hG:Zq (Zq x y) d=((XJ [x,y,d]:Nat):Int):=by
     have:=gcdOf_in hx hy;rw [Jl (ZR (by omega)) md,Jl mx my,gcd3];simp
    have hpos:0<XJ [x,y,d]:=by rw [gcd3];exact Nat.gcd_pos_of_pos_right _ (by omega)
    have h3:(Zq x d == 0)=false:=by
     rw [Jl mx md];have:0<Nat.gcd x.natAbs d.natAbs:=Nat.gcd_pos_of_pos_right _ (by omega);simp;omega
    have h4:(Zq y d == 0)=false:=by
     rw [Jl my md];have:0<Nat.gcd y.natAbs d.natAbs:=Nat.gcd_pos_of_pos_right _ (by omega);simp;omega
    have hle:XJ [x,y,d]<=9223372036854775807:=by
     have:=(gcdOf_in hxy hd).2;rw [hG] at this;omega
    generalize XJ [x,y,d]=G at *;have i1:=Jc hx mx G;have i2:=Jc hy my G;have i3:=Jc hd md G;have c5:=λ W=>sSpotOk_c ⟨x.tdiv G,y.tdiv G,d.tdiv G⟩ W ⟨i1,i2,i3⟩;obtain ⟨q1,r1⟩:=i1;obtain ⟨q2,r2⟩:=i2;obtain ⟨q3,r3⟩:=i3;have w1:IntKind.i64.wrap (x.tdiv G)=x.tdiv G:=IntWalk.i64_in _ ⟨q1,r1⟩;have w2:IntKind.i64.wrap (y.tdiv G)=y.tdiv G:=IntWalk.i64_in _ ⟨q2,r2⟩;have w3:IntKind.i64.wrap (d.tdiv G)=d.tdiv G:=IntWalk.i64_in _ ⟨q3,r3⟩;have hG1:¬ (G=0):=by omega
    have hG2:¬ ((G:Int)=0):=by omega
    clear mx my md wm wm2;generalize Xu ⟨x.tdiv G,y.tdiv G,d.tdiv G⟩=ok at *;generalize hbx:(x != 0)=bx;generalize hby:(y != 0)=by_;go_enter Tryz.func250,Tryz.ntmps250
    go_wp2_with (go_at_call 191;refine (Z7 _ _ _ (by assumption) (by assumption)).mono ?_;rintro e wc ⟨rfl,nc,rfl⟩)
    all_goals go_region_held3 (λ _=>True) (exact True.intro) (fail)
    all_goals
     go_wp2_with (fail)
     refine (c5 _).mono ?_;rintro e w9 ⟨rfl,hb9⟩;have hbw:Below w.heap.size w w9:=by
      refine Xn ?_ hb9;exact XA
     have H2:YI w9 w.heap.size [.int .i64 0,.int .i64 0,.int .i64 0]:=by
      refine YI.below ?_ hb9;exact (YI.new w _ _).alloc _
     have H3:YI w9 (w.heap.size+1) [.int .i64 (x.tdiv G),.int .i64 (y.tdiv G),.int .i64 (d.tdiv G)]:=by
      refine YI.below ?_ hb9;have:=YI.new (w.alloc (.cells #[.int .i64 0,.int .i64 0,.int .i64 0] 44)) #[.int .i64 (x.tdiv G),.int .i64 (y.tdiv G),.int .i64 (d.tdiv G)] 44;simp only [World.size_alloc] at this;exact this
     obtain ⟨cH2_0,fH2_0⟩:=H2.2 0 _ rfl;obtain ⟨cH2_1,fH2_1⟩:=H2.2 1 _ rfl;obtain ⟨cH2_2,fH2_2⟩:=H2.2 2 _ rfl;obtain ⟨cH3_0,fH3_0⟩:=H3.2 0 _ rfl;obtain ⟨cH3_1,fH3_1⟩:=H3.2 1 _ rfl;obtain ⟨cH3_2,fH3_2⟩:=H3.2 2 _ rfl;cases ok
     ·go_wp2
      refine bodyPost_ret (v:=.tuple #[.agg #[.int .i64 0,.int .i64 0,.int .i64 0],.bool false]) (by simp [results,Tryz.results250,go_sem, *]) rfl ⟨by rw [hfin.out];rfl, ?_⟩;exact Zz (Zz (Zz hbw Xh _) Xh _) Xh _
     ·go_wp2
      refine bodyPost_ret (v:=.tuple #[.agg #[.int .i64 (x.tdiv G),.int .i64 (y.tdiv G),.int .i64 (d.tdiv G)],.bool true]) (by simp [results,Tryz.results250,go_sem, *]) rfl ⟨by rw [hfin.out];rfl, ?_⟩;exact Zz (Zz (Zz hbw Xh _) Xh _) Xh _
   ·have hfin:ZK x y d=none:=by simp [ZK,my]
    rw [hfin];have h4:Zq y d=0:=gcdOf_min1 my;have h5:(y != 0)=true:=by simp [Zi] at my;subst my;rfl
    have h3:(Zq x d == 0)=false:=by
     rw [Jl mx md];have:0<Nat.gcd x.natAbs d.natAbs:=Nat.gcd_pos_of_pos_right _ (by omega);simp;omega
    generalize hbx:(x != 0)=bx;clear mx my md wm wm2;go_enter Tryz.func250,Tryz.ntmps250
    go_wp2_with (go_at_call 191;refine (Z7 _ _ _ (by assumption) (by assumption)).mono ?_;rintro e wc ⟨rfl,nc,rfl⟩)
    all_goals
     refine bodyPost_ret (v:=.tuple #[.agg #[.int .i64 0,.int .i64 0,.int .i64 0],.bool false]) (by simp [results,Tryz.results250,go_sem]) rfl ⟨rfl, ?_⟩;exact XA
  ·have hfin:ZK x y d=none:=by simp [ZK,mx]
   rw [hfin];have h3:Zq x d=0:=gcdOf_min1 mx;have h5:(x != 0)=true:=by simp [Zi] at mx;subst mx;rfl
   clear mx md wm wm2;go_enter Tryz.func250,Tryz.ntmps250
   go_wp2_with (go_at_call 191;refine (Z7 _ _ _ (by assumption) (by assumption)).mono ?_;rintro e wc ⟨rfl,nc,rfl⟩)
   all_goals
    refine bodyPost_ret (v:=.tuple #[.agg #[.int .i64 0,.int .i64 0,.int .i64 0],.bool false]) (by simp [results,Tryz.results250,go_sem]) rfl ⟨rfl, ?_⟩;exact XA
theorem iHalfOf_c (a b c:Int) (w:World) (ha:Zv a) (hb:Zv b) (hc:Zv c) :
 Calls Tryz.prog 261 #[.int .i64 a,.int .i64 b,.int .i64 c] w λ e w'=>e=.returned (Ka (Ke a b c))/\Below w.heap.size w w':=by
 have hall:∀ n∈[a,b,c],Zv n:=by simp [ha,hb,hc]
 have hg:=gcdOfAll_c (some ⟨w.heap.size+1,0,none⟩) [a,b,c] 3 _ (by simp) hall (sl_new_at (T:=3) YQ (w.alloc (.cells #[.int .i64 0,.int .i64 0,.int .i64 0] 175)) [a,b,c] #[.int .i64 a,.int .i64 b,.int .i64 c] rfl (by simp));have hle:=gcdAll_le [a,b,c] hall;have m1:=λ v h=>isLeast_v a v h ha;have m2:=λ v h=>isLeast_v b v h hb;have m3:=λ v h=>isLeast_v c v h hc;by_cases hz:XJ [a,b,c]=0
 ·have hfin:Ke a b c=none:=by simp [Ke,hz]
  rw [hfin];rw [hz] at hg;clear hz hle;go_enter Tryz.func261,Tryz.ntmps261
  go_wp2_with (fail)
  refine hg.mono ?_;rintro e w1 ⟨rfl,hb1⟩;have H1:=((YI.new w #[.int .i64 0,.int .i64 0,.int .i64 0] 175).alloc _).below hb1;obtain ⟨cH1_0,fH1_0⟩:=H1.2 0 _ rfl;obtain ⟨cH1_1,fH1_1⟩:=H1.2 1 _ rfl;obtain ⟨cH1_2,fH1_2⟩:=H1.2 2 _ rfl;have hbw:=Xn (Xd (Xd (Below.refl w.heap.size w) _) _) hb1;go_wp2
  refine bodyPost_ret (v:=.tuple #[.agg #[.int .i64 0,.int .i64 0,.int .i64 0],.bool false]) (by simp [results,Tryz.results261,go_sem, *]) rfl ⟨rfl, ?_⟩;exact XA
 ·cases ma:Zi a
  ·cases mb:Zi b
   ·cases mc:Zi c
    ·have hfin:Hid (Ke a b c=if XW ⟨a.tdiv (XJ [a,b,c]),b.tdiv (XJ [a,b,c]),c.tdiv (XJ [a,b,c])⟩=true then some ⟨a.tdiv (XJ [a,b,c]),b.tdiv (XJ [a,b,c]),c.tdiv (XJ [a,b,c])⟩ else none):=by
      show _=_;rw [Ke,if_neg (by simp [hz,ma,mb,mc])];rfl
     have hpos:0<XJ [a,b,c]:=by omega
     clear hz;generalize XJ [a,b,c]=G at *;have i1:=Jc ha ma G;have i2:=Jc hb mb G;have i3:=Jc hc mc G;have c1:=λ W=>divided_c a G W ha ma hpos hle;have c2:=λ W=>divided_c b G W hb mb hpos hle;have c3:=λ W=>divided_c c G W hc mc hpos hle;have c4:=λ W=>iHalfOk_c ⟨a.tdiv G,b.tdiv G,c.tdiv G⟩ W ⟨i1,i2,i3⟩;have n1:=m1 _ ma;have n2:=m2 _ mb;have n3:=m3 _ mc;have hG1:¬ (G=0):=by omega
     have hG2:((G:Int) == 0)=false:=by simp;omega
     generalize a.tdiv G=x' at *;generalize b.tdiv G=y' at *;generalize c.tdiv G=d' at *;clear i1 i2 i3 ma mb mc ha hb hc hall m1 m2 m3;generalize XW ⟨x',y',d'⟩=ok at *;go_enter Tryz.func261,Tryz.ntmps261
     go_wp2_with (fail)
     refine hg.mono ?_;rintro e w1 ⟨rfl,hb1⟩;have hb2:=(Xn (Xd (Xd (Below.refl w.heap.size w) _) _) hb1);have H1:=((YI.new w #[.int .i64 0,.int .i64 0,.int .i64 0] 175).alloc _).below hb1;go_wp2_with (fail)
     refine (n1 _).mono ?_;rintro e w' ⟨rfl,rfl⟩;go_wp2_with (fail)
     refine (n2 _).mono ?_;rintro e w' ⟨rfl,rfl⟩;go_wp2_with (fail)
     refine (n3 _).mono ?_;rintro e w' ⟨rfl,rfl⟩;go_wp2_with (fail)
     refine (c1 _).mono ?_;rintro e w' ⟨rfl,rfl⟩;go_wp2_with (fail)
     refine (c2 _).mono ?_;rintro e w' ⟨rfl,rfl⟩;go_wp2_with (fail)
     refine (c3 _).mono ?_;rintro e w' ⟨rfl,rfl⟩;go_wp2_with (fail)
     refine (c4 _).mono ?_;rintro e w2 ⟨rfl,hb4⟩;have hb5:=Xn (Xd hb2 (.cells #[.int .i64 x',.int .i64 y',.int .i64 d'] 175)) hb4;have H2:=(H1.alloc _).below hb4;have H3:=(YI.new _ _ _).below hb4;obtain ⟨cH2_0,fH2_0⟩:=H2.2 0 _ rfl;obtain ⟨cH2_1,fH2_1⟩:=H2.2 1 _ rfl;obtain ⟨cH2_2,fH2_2⟩:=H2.2 2 _ rfl;obtain ⟨cH3_0,fH3_0⟩:=H3.2 0 _ rfl;obtain ⟨cH3_1,fH3_1⟩:=H3.2 1 _ rfl;obtain ⟨cH3_2,fH3_2⟩:=H3.2 2 _ rfl;cases ok
     ·go_wp2
      refine bodyPost_ret (v:=.tuple #[.agg #[.int .i64 0,.int .i64 0,.int .i64 0],.bool false]) (by simp [results,Tryz.results261,go_sem, *]) rfl ⟨by rw [hfin.out];rfl, ?_⟩;exact XA
     ·go_wp2
      refine bodyPost_ret (v:=.tuple #[.agg #[.int .i64 x',.int .i64 y',.int .i64 d'],.bool true]) (by simp [results,Tryz.results261,go_sem, *]) rfl ⟨by rw [hfin.out];rfl, ?_⟩;exact XA
    ·have hfin:Ke a b c=none:=by simp [Ke,mc]
     rw [hfin];have n1:=m1 _ ma;have n2:=m2 _ mb;have n3:=m3 _ mc;have hG1:((XJ [a,b,c]:Int) == 0)=false:=by simp;omega
     clear ma mb mc ha hb hc hall m1 m2 m3;generalize XJ [a,b,c]=G at *;go_enter Tryz.func261,Tryz.ntmps261
     go_wp2_with (fail)
     refine hg.mono ?_;rintro e w1 ⟨rfl,hb1⟩;have H1:=((YI.new w #[.int .i64 0,.int .i64 0,.int .i64 0] 175).alloc _).below hb1;have hbw:=Xn (Xd (Xd (Below.refl w.heap.size w) _) _) hb1;obtain ⟨cH1_0,fH1_0⟩:=H1.2 0 _ rfl;obtain ⟨cH1_1,fH1_1⟩:=H1.2 1 _ rfl;obtain ⟨cH1_2,fH1_2⟩:=H1.2 2 _ rfl;go_wp2_with (fail)
     refine (n1 _).mono ?_;rintro e w' ⟨rfl,rfl⟩;go_wp2_with (fail)
     refine (n2 _).mono ?_;rintro e w' ⟨rfl,rfl⟩;go_wp2_with (fail)
     refine (n3 _).mono ?_;rintro e w' ⟨rfl,rfl⟩;go_wp2
     refine bodyPost_ret (v:=.tuple #[.agg #[.int .i64 0,.int .i64 0,.int .i64 0],.bool false]) (by simp [results,Tryz.results261,go_sem, *]) rfl ⟨rfl, ?_⟩;exact XA
   ·have hfin:Ke a b c=none:=by simp [Ke,mb]
    rw [hfin];have n1:=m1 _ ma;have n2:=m2 _ mb;have hG1:((XJ [a,b,c]:Int) == 0)=false:=by simp;omega
    clear ma mb ha hb hc hall m1 m2 m3;generalize XJ [a,b,c]=G at *;go_enter Tryz.func261,Tryz.ntmps261
    go_wp2_with (fail)
    refine hg.mono ?_;rintro e w1 ⟨rfl,hb1⟩;have H1:=((YI.new w #[.int .i64 0,.int .i64 0,.int .i64 0] 175).alloc _).below hb1;have hbw:=Xn (Xd (Xd (Below.refl w.heap.size w) _) _) hb1;obtain ⟨cH1_0,fH1_0⟩:=H1.2 0 _ rfl;obtain ⟨cH1_1,fH1_1⟩:=H1.2 1 _ rfl;obtain ⟨cH1_2,fH1_2⟩:=H1.2 2 _ rfl;go_wp2_with (fail)
    refine (n1 _).mono ?_;rintro e w' ⟨rfl,rfl⟩;go_wp2_with (fail)
    refine (n2 _).mono ?_;rintro e w' ⟨rfl,rfl⟩;go_wp2
    refine bodyPost_ret (v:=.tuple #[.agg #[.int .i64 0,.int .i64 0,.int .i64 0],.bool false]) (by simp [results,Tryz.results261,go_sem, *]) rfl ⟨rfl, ?_⟩;exact XA
  ·have hfin:Ke a b c=none:=by simp [Ke,ma]
   rw [hfin];have n1:=m1 _ ma;have hG1:((XJ [a,b,c]:Int) == 0)=false:=by simp;omega
   clear ma ha hb hc hall m1 m2 m3;generalize XJ [a,b,c]=G at *;go_enter Tryz.func261,Tryz.ntmps261
   go_wp2_with (fail)
   refine hg.mono ?_;rintro e w1 ⟨rfl,hb1⟩;have H1:=((YI.new w #[.int .i64 0,.int .i64 0,.int .i64 0] 175).alloc _).below hb1;have hbw:=Xn (Xd (Xd (Below.refl w.heap.size w) _) _) hb1;obtain ⟨cH1_0,fH1_0⟩:=H1.2 0 _ rfl;obtain ⟨cH1_1,fH1_1⟩:=H1.2 1 _ rfl;obtain ⟨cH1_2,fH1_2⟩:=H1.2 2 _ rfl;go_wp2_with (fail)
   refine (n1 _).mono ?_;rintro e w' ⟨rfl,rfl⟩;go_wp2
   refine bodyPost_ret (v:=.tuple #[.agg #[.int .i64 0,.int .i64 0,.int .i64 0],.bool false]) (by simp [results,Tryz.results261,go_sem, *]) rfl ⟨rfl, ?_⟩;exact XA
theorem sHalfOk_c (h:Half) (w:World) (hh:h.In) :
 Calls Tryz.prog 243 #[YW h] w λ e w'=>e=.returned (.bool (XW h))/\Below w.heap.size w w':=by
 obtain ⟨h1,h2,h3⟩:=hh;have hxy:=gcdOf_In64 h1 h2;cases e1:ZD h.a (-50000) 50000
 ·go_enter Tryz.func243,Tryz.ntmps243
  go_wp2
  go_big_quiet ((first|(go_at_call 127;exact Zc (l01In_v _ _ _ _ (by assumption) _))|(go_at_call 191;exact quiet_n (Z7 _ _ _ (by assumption) (by assumption)))))
  go_wp2
  go_ret
  refine ⟨Xx (by simp [XW,e1]), ?_⟩;exact XA
 ·cases e2:ZD h.b (-50000) 50000
  ·go_enter Tryz.func243,Tryz.ntmps243
   go_wp2
   go_big_quiet ((first|(go_at_call 127;exact Zc (l01In_v _ _ _ _ (by assumption) _))|(go_at_call 191;exact quiet_n (Z7 _ _ _ (by assumption) (by assumption)))))
   go_wp2
   go_ret
   refine ⟨Xx (by simp [XW,e1,e2]), ?_⟩;exact XA
  ·have f1:(h.a != 0) = !(h.a == 0):=rfl;have f2:(h.b != 0) = !(h.b == 0):=rfl;obtain ⟨x1,x2⟩:=ZG.1 e1;obtain ⟨y1,y2⟩:=ZG.1 e2;have hz:∀ v:Bool,(h.a == 0)=v->(h.a != 0) = !v:=λ v e=>by rw [f1,e]
   have hz2:∀ v:Bool,(h.b == 0)=v->(h.b != 0) = !v:=λ v e=>by rw [f2,e]
   have key:(h.a≠0∨h.b≠0)->ZD h.c (-100000000) 100000000=true->XW h=(Zq (Zq h.a h.b) h.c == 1):=by
    intro k1 e3;obtain ⟨z1,z2⟩:=ZG.1 e3;have:=gcdOf_in h1 h2;rw [Jl (ZR (a:=Zq h.a h.b) (by omega)) (ZR (a:=h.c) (by omega)),Jl (ZR (a:=h.a) (by omega)) (ZR (a:=h.b) (by omega))];rw [Bool.eq_iff_iff];simp [XW,e1,e2,e3,gcd3];omega
   clear f1 f2;cases za:(h.a == 0)
   ·have za2:=hz _ za;clear hz hz2 x1 x2 y1 y2;simp only [Bool.not_false] at za2;have hne:h.a≠0:=by simpa using za
    cases e3:ZD h.c (-100000000) 100000000
    ·clear key hne;go_enter Tryz.func243,Tryz.ntmps243
     go_wp2
     go_big_quiet ((first|(go_at_call 127;exact Zc (l01In_v _ _ _ _ (by assumption) _))|(go_at_call 191;exact quiet_n (Z7 _ _ _ (by assumption) (by assumption)))))
     go_wp2
     go_ret
     refine ⟨Xx (by simp [XW,e1,e2,e3]), ?_⟩;exact XA
    ·have hfin:=Lib.hid (key (.inl hne) e3);clear key hne;cases e4:(Zq (Zq h.a h.b) h.c == 1);all_goals
      go_enter Tryz.func243,Tryz.ntmps243
      go_wp2
      go_big_quiet ((first|(go_at_call 127;exact Zc (l01In_v _ _ _ _ (by assumption) _))|(go_at_call 191;exact quiet_n (Z7 _ _ _ (by assumption) (by assumption)))))
      go_wp2
      go_ret
      refine ⟨Xx (by rw [hfin.out,e4]), ?_⟩;exact XA
   ·have za2:=hz _ za;simp only [Bool.not_true] at za2;cases zb:(h.b == 0)
    ·have zb2:=hz2 _ zb;clear hz hz2 x1 x2 y1 y2;simp only [Bool.not_false] at zb2;have hne:h.b≠0:=by simpa using zb
     cases e3:ZD h.c (-100000000) 100000000
     ·clear key hne;go_enter Tryz.func243,Tryz.ntmps243
      go_wp2
      go_big_quiet ((first|(go_at_call 127;exact Zc (l01In_v _ _ _ _ (by assumption) _))|(go_at_call 191;exact quiet_n (Z7 _ _ _ (by assumption) (by assumption)))))
      go_wp2
      go_ret
      refine ⟨Xx (by simp [XW,e1,e2,e3]), ?_⟩;exact XA
     ·have hfin:=Lib.hid (key (.inr hne) e3);clear key hne;cases e4:(Zq (Zq h.a h.b) h.c == 1);all_goals
       go_enter Tryz.func243,Tryz.ntmps243
       go_wp2
       go_big_quiet ((first|(go_at_call 127;exact Zc (l01In_v _ _ _ _ (by assumption) _))|(go_at_call 191;exact quiet_n (Z7 _ _ _ (by assumption) (by assumption)))))
       go_wp2
       go_ret
       refine ⟨Xx (by rw [hfin.out,e4]), ?_⟩;exact XA
    ·have zb2:=hz2 _ zb;clear hz hz2 x1 x2 y1 y2 key;simp only [Bool.not_true] at zb2;have hfin:Hid (XW h=false):=by
      have a0:h.a=0:=by simpa using za
      have b0:h.b=0:=by simpa using zb
      show _=_;simp [XW,a0,b0]
     go_enter Tryz.func243,Tryz.ntmps243
     go_wp2
     go_big_quiet ((first|(go_at_call 127;exact Zc (l01In_v _ _ _ _ (by assumption) _))|(go_at_call 191;exact quiet_n (Z7 _ _ _ (by assumption) (by assumption)))))
     go_wp2
     go_ret
     refine ⟨Xx (by rw [hfin.out]), ?_⟩;exact XA
theorem gcdOf_one (a:Int):Zq a 1=if Zi a then 0 else 1:=by
 unfold Zq;cases Zi a<;>simp [Zi]
theorem sHalfOf_c (a b c:Int) (w:World) (ha:Zv a) (hb:Zv b) (hc:Zv c) :
 Calls Tryz.prog 206 #[.int .i64 a,.int .i64 b,.int .i64 c] w λ e w'=>e=.returned (Ka (Ke a b c))/\Below w.heap.size w w':=by
 have hone:Zv 1:=⟨by omega,by omega⟩;have hxy:=gcdOf_In64 ha hb;have k1:=gcdOf_one a;have k2:=gcdOf_one b;have k3:=gcdOf_one c;cases ma:Zi a
 ·rw [ma] at k1;cases mb:Zi b
  ·rw [mb] at k2;cases mc:Zi c
   ·rw [mc] at k3;simp only [Bool.false_eq_true,if_false] at k1 k2 k3;by_cases hz:a=0/\b=0
    ·have hfin:Ke a b c=none:=by
      unfold Ke;split
      ·rfl
      ·rw [if_neg];obtain ⟨rfl,rfl⟩:=hz;simp [XW,redHalf]
     rw [hfin];obtain ⟨rfl,rfl⟩:=hz;clear ma mb mc hfin;go_enter Tryz.func206,Tryz.ntmps206
     go_wp2_with (go_at_call 191;refine (Z7 _ _ _ (by assumption) (by assumption)).mono ?_;rintro e wc ⟨rfl,nc,rfl⟩)
     refine bodyPost_ret (v:=.tuple #[.agg #[.int .i64 0,.int .i64 0,.int .i64 0],.bool false]) (by simp [results,Tryz.results206,go_sem]) rfl ⟨rfl, ?_⟩;exact XA
    ·have hpos:0<XJ [a,b,c]:=by
      rw [gcd3];apply Nat.gcd_pos_of_pos_left;rcases Nat.eq_zero_or_pos (Nat.gcd a.natAbs b.natAbs) with h|h
      ·rw [Nat.gcd_eq_zero_iff] at h;omega
      ·exact h
     have hfin:Hid (Ke a b c=if XW ⟨a.tdiv (XJ [a,b,c]),b.tdiv (XJ [a,b,c]),c.tdiv (XJ [a,b,c])⟩=true then some ⟨a.tdiv (XJ [a,b,c]),b.tdiv (XJ [a,b,c]),c.tdiv (XJ [a,b,c])⟩ else none):=by
      show _=_;rw [Ke,if_neg (by simp [ma,mb,mc];omega)];rfl
     have hG:Zq (Zq a b) c=((XJ [a,b,c]:Nat):Int):=by
      have:=gcdOf_in ha hb;rw [Jl (ZR (by omega)) mc,Jl ma mb,gcd3];simp
     have hle:XJ [a,b,c]<=9223372036854775807:=by
      have:=(gcdOf_in hxy hc).2;rw [hG] at this;omega
     generalize XJ [a,b,c]=G at *;have i1:=Jc ha ma G;have i2:=Jc hb mb G;have i3:=Jc hc mc G;have c5:=λ W=>sHalfOk_c ⟨a.tdiv G,b.tdiv G,c.tdiv G⟩ W ⟨i1,i2,i3⟩;obtain ⟨q1,r1⟩:=i1;obtain ⟨q2,r2⟩:=i2;obtain ⟨q3,r3⟩:=i3;have w1:IntKind.i64.wrap (a.tdiv G)=a.tdiv G:=IntWalk.i64_in _ ⟨q1,r1⟩;have w2:IntKind.i64.wrap (b.tdiv G)=b.tdiv G:=IntWalk.i64_in _ ⟨q2,r2⟩;have w3:IntKind.i64.wrap (c.tdiv G)=c.tdiv G:=IntWalk.i64_in _ ⟨q3,r3⟩;have hG1:¬ (G=0):=by omega
     have hG2:¬ ((G:Int)=0):=by omega
     have hz2:((a == 0)&&(b == 0))=false:=by
      rw [Bool.and_eq_false_iff];simp;omega
     clear ma mb mc hz;generalize XW ⟨a.tdiv G,b.tdiv G,c.tdiv G⟩=ok at *;generalize hba:(a == 0)=za at *;generalize hbb:(b == 0)=zb at *;have hz3:za=true->zb=false:=by intro h;subst h;simpa using hz2
     clear hz2;cases za;all_goals
      first|(have hzb:=hz3 rfl;subst hzb)|skip
      clear hz3;go_enter Tryz.func206,Tryz.ntmps206
      go_wp2_with (go_at_call 191;refine (Z7 _ _ _ (by assumption) (by assumption)).mono ?_;rintro e wc ⟨rfl,nc,rfl⟩)
      all_goals go_region_held3 (λ _=>True) (exact True.intro) (fail)
      all_goals
       go_wp2_with (fail)
       refine (c5 _).mono ?_;rintro e w9 ⟨rfl,hb9⟩;have hbw:Below w.heap.size w w9:=by
        refine Xn ?_ hb9;exact XA
       have H2:YI w9 w.heap.size [.int .i64 0,.int .i64 0,.int .i64 0]:=by
        refine YI.below ?_ hb9;exact (YI.new w _ _).alloc _
       have H3:YI w9 (w.heap.size+1) [.int .i64 (a.tdiv G),.int .i64 (b.tdiv G),.int .i64 (c.tdiv G)]:=by
        refine YI.below ?_ hb9;have:=YI.new (w.alloc (.cells #[.int .i64 0,.int .i64 0,.int .i64 0] 175)) #[.int .i64 (a.tdiv G),.int .i64 (b.tdiv G),.int .i64 (c.tdiv G)] 175;simp only [World.size_alloc] at this;exact this
       obtain ⟨cH2_0,fH2_0⟩:=H2.2 0 _ rfl;obtain ⟨cH2_1,fH2_1⟩:=H2.2 1 _ rfl;obtain ⟨cH2_2,fH2_2⟩:=H2.2 2 _ rfl;obtain ⟨cH3_0,fH3_0⟩:=H3.2 0 _ rfl;obtain ⟨cH3_1,fH3_1⟩:=H3.2 1 _ rfl;obtain ⟨cH3_2,fH3_2⟩:=H3.2 2 _ rfl;cases ok
       ·go_wp2
        refine bodyPost_ret (v:=.tuple #[.agg #[.int .i64 0,.int .i64 0,.int .i64 0],.bool false]) (by simp [results,Tryz.results206,go_sem, *]) rfl ⟨by rw [hfin.out];rfl, ?_⟩;exact XA
       ·go_wp2
        refine bodyPost_ret (v:=.tuple #[.agg #[.int .i64 (a.tdiv G),.int .i64 (b.tdiv G),.int .i64 (c.tdiv G)],.bool true]) (by simp [results,Tryz.results206,go_sem, *]) rfl ⟨by rw [hfin.out];rfl, ?_⟩;exact XA
   ·rw [mc] at k3;simp only [Bool.false_eq_true,if_false,if_true] at k1 k2 k3;have hfin:Ke a b c=none:=by simp [Ke,mc]
    rw [hfin];clear ma mb mc;go_enter Tryz.func206,Tryz.ntmps206
    go_wp2_with (go_at_call 191;refine (Z7 _ _ _ (by assumption) (by assumption)).mono ?_;rintro e wc ⟨rfl,nc,rfl⟩)
    refine bodyPost_ret (v:=.tuple #[.agg #[.int .i64 0,.int .i64 0,.int .i64 0],.bool false]) (by simp [results,Tryz.results206,go_sem]) rfl ⟨rfl, ?_⟩;exact XA
  ·rw [mb] at k2;simp only [Bool.false_eq_true,if_false,if_true] at k1 k2;have hfin:Ke a b c=none:=by simp [Ke,mb]
   rw [hfin];clear ma mb k3;go_enter Tryz.func206,Tryz.ntmps206
   go_wp2_with (go_at_call 191;refine (Z7 _ _ _ (by assumption) (by assumption)).mono ?_;rintro e wc ⟨rfl,nc,rfl⟩)
   refine bodyPost_ret (v:=.tuple #[.agg #[.int .i64 0,.int .i64 0,.int .i64 0],.bool false]) (by simp [results,Tryz.results206,go_sem]) rfl ⟨rfl, ?_⟩;exact XA
 ·rw [ma] at k1;simp only [if_true] at k1;have hfin:Ke a b c=none:=by simp [Ke,ma]
  rw [hfin];clear ma k2 k3;go_enter Tryz.func206,Tryz.ntmps206
  go_wp2_with (go_at_call 191;refine (Z7 _ _ _ (by assumption) (by assumption)).mono ?_;rintro e wc ⟨rfl,nc,rfl⟩)
  refine bodyPost_ret (v:=.tuple #[.agg #[.int .i64 0,.int .i64 0,.int .i64 0],.bool false]) (by simp [results,Tryz.results206,go_sem]) rfl ⟨rfl, ?_⟩;exact XA
end Go.Proofs.YtkjimfapbjdafaaGreat
