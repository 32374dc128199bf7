/-
 What the functions that reduce fractions, spots and half planes return.
 Conditions: the numbers are ints of the machine.
-/
import Derived.Test.YtbekjpkcicjcgabGreatGrC
import Derived.StillTailTactics
import Derived.Deep.RegionHeld3
set_option maxHeartbeats 4000000
set_option maxRecDepth 100000
namespace Go.Proofs.YtbekjpkcicjcgabGreat
open Go.RowKit
theorem Z8 {a:Int} (h:Yo a) (hm:Yn a=false) (g:Nat):Yo (a.tdiv g):=by
 have h1:=KK h hm;have:=tdiv_le a g 9223372036854775807 h1.1 h1.2;exact ⟨by omega,by omega⟩
def optSpotV:Option XW->Value
 | some s=>.tuple #[.agg #[.int .i64 s.x,.int .i64 s.y,.int .i64 s.d],.bool true]
 | none=>.tuple #[.agg #[.int .i64 0,.int .i64 0,.int .i64 0],.bool false]
def JQ:Option Half->Value
 | some h=>.tuple #[.agg #[.int .i64 h.a,.int .i64 h.b,.int .i64 h.c],.bool true]
 | none=>.tuple #[.agg #[.int .i64 0,.int .i64 0,.int .i64 0],.bool false]
theorem sSpotOf_c (x y d:Int) (w:World) (hx:Yo x) (hy:Yo y) (hd:Yo d) :
 Calls Tryz.prog 147 #[.int .i64 x,.int .i64 y,.int .i64 d] w λ e w'=>e=.returned (optSpotV (Y9 x y d))/\Below w.heap.size w w':=by
 by_cases hd0:d<=0
 ·have hfin:Y9 x y d=none:=by simp [Y9,hd0]
  rw [hfin];go_enter Tryz.func147,Tryz.ntmps147
  go_wp2
  refine bodyPost_ret (v:=.tuple #[.agg #[.int .i64 0,.int .i64 0,.int .i64 0],.bool false]) (by simp [results,Tryz.results147,go_sem]) rfl ⟨rfl, ?_⟩;exact Xn
 ·have hxy:=JG hx hy;have md:Yn d=false:=YF (by omega);have wm:(x != 0)=false->Yn x=false:=by intro h;simp at h;subst h;rfl
  have wm2:(y != 0)=false->Yn y=false:=by intro h;simp at h;subst h;rfl
  cases mx:Yn x
  ·cases my:Yn y
   ·have hfin:Hid (Y9 x y d=if XP ⟨x.tdiv (Xh [x,y,d]),y.tdiv (Xh [x,y,d]),d.tdiv (Xh [x,y,d])⟩=true then some ⟨x.tdiv (Xh [x,y,d]),y.tdiv (Xh [x,y,d]),d.tdiv (Xh [x,y,d])⟩ else none):=by
     show _=_;rw [Y9,if_neg (by simp [hd0,mx,my])];rfl
    have hG:YO (YO x y) d=((Xh [x,y,d]:Nat):Int):=by
     have:=Jn hx hy;rw [ZU (YF (by omega)) md,ZU mx my,gcd3];simp
    have hpos:0<Xh [x,y,d]:=by rw [gcd3];exact Nat.gcd_pos_of_pos_right _ (by omega)
    have h3:(YO x d == 0)=false:=by
     rw [ZU mx md];have:0<Nat.gcd x.natAbs d.natAbs:=Nat.gcd_pos_of_pos_right _ (by omega);simp;omega
    have h4:(YO y d == 0)=false:=by
     rw [ZU my md];have:0<Nat.gcd y.natAbs d.natAbs:=Nat.gcd_pos_of_pos_right _ (by omega);simp;omega
    have hle:Xh [x,y,d]<=9223372036854775807:=by
     have:=(Jn hxy hd).2;rw [hG] at this;omega
    generalize Xh [x,y,d]=G at *;have i1:=Z8 hx mx G;have i2:=Z8 hy my G;have i3:=Z8 hd md G;have c5:=λ W=>sSpotOk_c ⟨x.tdiv G,y.tdiv G,d.tdiv G⟩ W ⟨i1,i2,i3⟩;obtain ⟨q1,r1⟩:=i1;obtain ⟨q2,r2⟩:=i2;obtain ⟨q3,r3⟩:=i3;have w1:IntKind.i64.wrap (x.tdiv G)=x.tdiv G:=IntWalk.i64_in _ ⟨q1,r1⟩;have w2:IntKind.i64.wrap (y.tdiv G)=y.tdiv G:=IntWalk.i64_in _ ⟨q2,r2⟩;have w3:IntKind.i64.wrap (d.tdiv G)=d.tdiv G:=IntWalk.i64_in _ ⟨q3,r3⟩;have hG1:¬ (G=0):=by omega
    have hG2:¬ ((G:Int)=0):=by omega
    clear mx my md wm wm2;generalize XP ⟨x.tdiv G,y.tdiv G,d.tdiv G⟩=ok at *;generalize hbx:(x != 0)=bx;generalize hby:(y != 0)=by_;go_enter Tryz.func147,Tryz.ntmps147
    go_wp2_with (go_at_call 108;refine (Y1 _ _ _ (by assumption) (by assumption)).mono ?_;rintro e wc ⟨rfl,nc,rfl⟩)
    all_goals go_region_held3 (λ _=>True) (exact True.intro) (fail)
    all_goals
     go_wp2_with (fail)
     refine (c5 _).mono ?_;rintro e w9 ⟨rfl,hb9⟩;have hbw:Below w.heap.size w w9:=by
      refine Xg ?_ hb9;exact Xn
     have H2:X0 w9 w.heap.size [.int .i64 0,.int .i64 0,.int .i64 0]:=by
      refine X0.below ?_ hb9;exact (X0.new w _ _).alloc _
     have H3:X0 w9 (w.heap.size+1) [.int .i64 (x.tdiv G),.int .i64 (y.tdiv G),.int .i64 (d.tdiv G)]:=by
      refine X0.below ?_ hb9;have:=X0.new (w.alloc (.cells #[.int .i64 0,.int .i64 0,.int .i64 0] 30)) #[.int .i64 (x.tdiv G),.int .i64 (y.tdiv G),.int .i64 (d.tdiv G)] 30;simp only [World.size_alloc] at this;exact this
     obtain ⟨cH2_0,fH2_0⟩:=H2.2 0 _ rfl;obtain ⟨cH2_1,fH2_1⟩:=H2.2 1 _ rfl;obtain ⟨cH2_2,fH2_2⟩:=H2.2 2 _ rfl;obtain ⟨cH3_0,fH3_0⟩:=H3.2 0 _ rfl;obtain ⟨cH3_1,fH3_1⟩:=H3.2 1 _ rfl;obtain ⟨cH3_2,fH3_2⟩:=H3.2 2 _ rfl;cases ok
     ·go_wp2
      refine bodyPost_ret (v:=.tuple #[.agg #[.int .i64 0,.int .i64 0,.int .i64 0],.bool false]) (by simp [results,Tryz.results147,go_sem, *]) rfl ⟨by rw [hfin.out];rfl, ?_⟩;exact YV (YV (YV hbw Xs _) Xs _) Xs _
     ·go_wp2
      refine bodyPost_ret (v:=.tuple #[.agg #[.int .i64 (x.tdiv G),.int .i64 (y.tdiv G),.int .i64 (d.tdiv G)],.bool true]) (by simp [results,Tryz.results147,go_sem, *]) rfl ⟨by rw [hfin.out];rfl, ?_⟩;exact YV (YV (YV hbw Xs _) Xs _) Xs _
   ·have hfin:Y9 x y d=none:=by simp [Y9,my]
    rw [hfin];have h4:YO y d=0:=gcdOf_min1 my;have h5:(y != 0)=true:=by simp [Yn] at my;subst my;rfl
    have h3:(YO x d == 0)=false:=by
     rw [ZU mx md];have:0<Nat.gcd x.natAbs d.natAbs:=Nat.gcd_pos_of_pos_right _ (by omega);simp;omega
    generalize hbx:(x != 0)=bx;clear mx my md wm wm2;go_enter Tryz.func147,Tryz.ntmps147
    go_wp2_with (go_at_call 108;refine (Y1 _ _ _ (by assumption) (by assumption)).mono ?_;rintro e wc ⟨rfl,nc,rfl⟩)
    all_goals
     refine bodyPost_ret (v:=.tuple #[.agg #[.int .i64 0,.int .i64 0,.int .i64 0],.bool false]) (by simp [results,Tryz.results147,go_sem]) rfl ⟨rfl, ?_⟩;exact Xn
  ·have hfin:Y9 x y d=none:=by simp [Y9,mx]
   rw [hfin];have h3:YO x d=0:=gcdOf_min1 mx;have h5:(x != 0)=true:=by simp [Yn] at mx;subst mx;rfl
   clear mx md wm wm2;go_enter Tryz.func147,Tryz.ntmps147
   go_wp2_with (go_at_call 108;refine (Y1 _ _ _ (by assumption) (by assumption)).mono ?_;rintro e wc ⟨rfl,nc,rfl⟩)
   all_goals
    refine bodyPost_ret (v:=.tuple #[.agg #[.int .i64 0,.int .i64 0,.int .i64 0],.bool false]) (by simp [results,Tryz.results147,go_sem]) rfl ⟨rfl, ?_⟩;exact Xn
theorem iHalfOf_c (a b c:Int) (w:World) (ha:Yo a) (hb:Yo b) (hc:Yo c) :
 Calls Tryz.prog 82 #[.int .i64 a,.int .i64 b,.int .i64 c] w λ e w'=>e=.returned (JQ (XO a b c))/\Below w.heap.size w w':=by
 have hall:∀ n∈[a,b,c],Yo n:=by simp [ha,hb,hc]
 have hg:=Ks (some ⟨w.heap.size+1,0,none⟩) [a,b,c] 3 _ (by simp) hall (Jy (T:=3) Zc (w.alloc (.cells #[.int .i64 0,.int .i64 0,.int .i64 0] 85)) [a,b,c] #[.int .i64 a,.int .i64 b,.int .i64 c] rfl (by simp));have hle:=Jd [a,b,c] hall;have m1:=λ v h=>Ky a v h ha;have m2:=λ v h=>Ky b v h hb;have m3:=λ v h=>Ky c v h hc;by_cases hz:Xh [a,b,c]=0
 ·have hfin:XO a b c=none:=by simp [XO,hz]
  rw [hfin];rw [hz] at hg;clear hz hle;go_enter Tryz.func82,Tryz.ntmps82
  go_wp2_with (fail)
  refine hg.mono ?_;rintro e w1 ⟨rfl,hb1⟩;have H1:=((X0.new w #[.int .i64 0,.int .i64 0,.int .i64 0] 85).alloc _).below hb1;obtain ⟨cH1_0,fH1_0⟩:=H1.2 0 _ rfl;obtain ⟨cH1_1,fH1_1⟩:=H1.2 1 _ rfl;obtain ⟨cH1_2,fH1_2⟩:=H1.2 2 _ rfl;have hbw:=Xg (Xa (Xa (Below.refl w.heap.size w) _) _) hb1;go_wp2
  refine bodyPost_ret (v:=.tuple #[.agg #[.int .i64 0,.int .i64 0,.int .i64 0],.bool false]) (by simp [results,Tryz.results82,go_sem, *]) rfl ⟨rfl, ?_⟩;exact Xn
 ·cases ma:Yn a
  ·cases mb:Yn b
   ·cases mc:Yn c
    ·have hfin:Hid (XO a b c=if Xq ⟨a.tdiv (Xh [a,b,c]),b.tdiv (Xh [a,b,c]),c.tdiv (Xh [a,b,c])⟩=true then some ⟨a.tdiv (Xh [a,b,c]),b.tdiv (Xh [a,b,c]),c.tdiv (Xh [a,b,c])⟩ else none):=by
      show _=_;rw [XO,if_neg (by simp [hz,ma,mb,mc])];rfl
     have hpos:0<Xh [a,b,c]:=by omega
     clear hz;generalize Xh [a,b,c]=G at *;have i1:=Z8 ha ma G;have i2:=Z8 hb mb G;have i3:=Z8 hc mc G;have c1:=λ W=>divided_c a G W ha ma hpos hle;have c2:=λ W=>divided_c b G W hb mb hpos hle;have c3:=λ W=>divided_c c G W hc mc hpos hle;have c4:=λ W=>JF ⟨a.tdiv G,b.tdiv G,c.tdiv G⟩ W ⟨i1,i2,i3⟩;have n1:=m1 _ ma;have n2:=m2 _ mb;have n3:=m3 _ mc;have hG1:¬ (G=0):=by omega
     have hG2:((G:Int) == 0)=false:=by simp;omega
     generalize a.tdiv G=x' at *;generalize b.tdiv G=y' at *;generalize c.tdiv G=d' at *;clear i1 i2 i3 ma mb mc ha hb hc hall m1 m2 m3;generalize Xq ⟨x',y',d'⟩=ok at *;go_enter Tryz.func82,Tryz.ntmps82
     go_wp2_with (fail)
     refine hg.mono ?_;rintro e w1 ⟨rfl,hb1⟩;have hb2:=(Xg (Xa (Xa (Below.refl w.heap.size w) _) _) hb1);have H1:=((X0.new w #[.int .i64 0,.int .i64 0,.int .i64 0] 85).alloc _).below hb1;go_wp2_with (fail)
     refine (n1 _).mono ?_;rintro e w' ⟨rfl,rfl⟩;go_wp2_with (fail)
     refine (n2 _).mono ?_;rintro e w' ⟨rfl,rfl⟩;go_wp2_with (fail)
     refine (n3 _).mono ?_;rintro e w' ⟨rfl,rfl⟩;go_wp2_with (fail)
     refine (c1 _).mono ?_;rintro e w' ⟨rfl,rfl⟩;go_wp2_with (fail)
     refine (c2 _).mono ?_;rintro e w' ⟨rfl,rfl⟩;go_wp2_with (fail)
     refine (c3 _).mono ?_;rintro e w' ⟨rfl,rfl⟩;go_wp2_with (fail)
     refine (c4 _).mono ?_;rintro e w2 ⟨rfl,hb4⟩;have hb5:=Xg (Xa hb2 (.cells #[.int .i64 x',.int .i64 y',.int .i64 d'] 85)) hb4;have H2:=(H1.alloc _).below hb4;have H3:=(X0.new _ _ _).below hb4;obtain ⟨cH2_0,fH2_0⟩:=H2.2 0 _ rfl;obtain ⟨cH2_1,fH2_1⟩:=H2.2 1 _ rfl;obtain ⟨cH2_2,fH2_2⟩:=H2.2 2 _ rfl;obtain ⟨cH3_0,fH3_0⟩:=H3.2 0 _ rfl;obtain ⟨cH3_1,fH3_1⟩:=H3.2 1 _ rfl;obtain ⟨cH3_2,fH3_2⟩:=H3.2 2 _ rfl;cases ok
     ·go_wp2
      refine bodyPost_ret (v:=.tuple #[.agg #[.int .i64 0,.int .i64 0,.int .i64 0],.bool false]) (by simp [results,Tryz.results82,go_sem, *]) rfl ⟨by rw [hfin.out];rfl, ?_⟩;exact Xn
     ·go_wp2
      refine bodyPost_ret (v:=.tuple #[.agg #[.int .i64 x',.int .i64 y',.int .i64 d'],.bool true]) (by simp [results,Tryz.results82,go_sem, *]) rfl ⟨by rw [hfin.out];rfl, ?_⟩;exact Xn
    ·have hfin:XO a b c=none:=by simp [XO,mc]
     rw [hfin];have n1:=m1 _ ma;have n2:=m2 _ mb;have n3:=m3 _ mc;have hG1:((Xh [a,b,c]:Int) == 0)=false:=by simp;omega
     clear ma mb mc ha hb hc hall m1 m2 m3;generalize Xh [a,b,c]=G at *;go_enter Tryz.func82,Tryz.ntmps82
     go_wp2_with (fail)
     refine hg.mono ?_;rintro e w1 ⟨rfl,hb1⟩;have H1:=((X0.new w #[.int .i64 0,.int .i64 0,.int .i64 0] 85).alloc _).below hb1;have hbw:=Xg (Xa (Xa (Below.refl w.heap.size w) _) _) hb1;obtain ⟨cH1_0,fH1_0⟩:=H1.2 0 _ rfl;obtain ⟨cH1_1,fH1_1⟩:=H1.2 1 _ rfl;obtain ⟨cH1_2,fH1_2⟩:=H1.2 2 _ rfl;go_wp2_with (fail)
     refine (n1 _).mono ?_;rintro e w' ⟨rfl,rfl⟩;go_wp2_with (fail)
     refine (n2 _).mono ?_;rintro e w' ⟨rfl,rfl⟩;go_wp2_with (fail)
     refine (n3 _).mono ?_;rintro e w' ⟨rfl,rfl⟩;go_wp2
     refine bodyPost_ret (v:=.tuple #[.agg #[.int .i64 0,.int .i64 0,.int .i64 0],.bool false]) (by simp [results,Tryz.results82,go_sem, *]) rfl ⟨rfl, ?_⟩;exact Xn
   ·have hfin:XO a b c=none:=by simp [XO,mb]
    rw [hfin];have n1:=m1 _ ma;have n2:=m2 _ mb;have hG1:((Xh [a,b,c]:Int) == 0)=false:=by simp;omega
    clear ma mb ha hb hc hall m1 m2 m3;generalize Xh [a,b,c]=G at *;go_enter Tryz.func82,Tryz.ntmps82
    go_wp2_with (fail)
    refine hg.mono ?_;rintro e w1 ⟨rfl,hb1⟩;have H1:=((X0.new w #[.int .i64 0,.int .i64 0,.int .i64 0] 85).alloc _).below hb1;have hbw:=Xg (Xa (Xa (Below.refl w.heap.size w) _) _) hb1;obtain ⟨cH1_0,fH1_0⟩:=H1.2 0 _ rfl;obtain ⟨cH1_1,fH1_1⟩:=H1.2 1 _ rfl;obtain ⟨cH1_2,fH1_2⟩:=H1.2 2 _ rfl;go_wp2_with (fail)
    refine (n1 _).mono ?_;rintro e w' ⟨rfl,rfl⟩;go_wp2_with (fail)
    refine (n2 _).mono ?_;rintro e w' ⟨rfl,rfl⟩;go_wp2
    refine bodyPost_ret (v:=.tuple #[.agg #[.int .i64 0,.int .i64 0,.int .i64 0],.bool false]) (by simp [results,Tryz.results82,go_sem, *]) rfl ⟨rfl, ?_⟩;exact Xn
  ·have hfin:XO a b c=none:=by simp [XO,ma]
   rw [hfin];have n1:=m1 _ ma;have hG1:((Xh [a,b,c]:Int) == 0)=false:=by simp;omega
   clear ma ha hb hc hall m1 m2 m3;generalize Xh [a,b,c]=G at *;go_enter Tryz.func82,Tryz.ntmps82
   go_wp2_with (fail)
   refine hg.mono ?_;rintro e w1 ⟨rfl,hb1⟩;have H1:=((X0.new w #[.int .i64 0,.int .i64 0,.int .i64 0] 85).alloc _).below hb1;have hbw:=Xg (Xa (Xa (Below.refl w.heap.size w) _) _) hb1;obtain ⟨cH1_0,fH1_0⟩:=H1.2 0 _ rfl;obtain ⟨cH1_1,fH1_1⟩:=H1.2 1 _ rfl;obtain ⟨cH1_2,fH1_2⟩:=H1.2 2 _ rfl;go_wp2_with (fail)
   refine (n1 _).mono ?_;rintro e w' ⟨rfl,rfl⟩;go_wp2
   refine bodyPost_ret (v:=.tuple #[.agg #[.int .i64 0,.int .i64 0,.int .i64 0],.bool false]) (by simp [results,Tryz.results82,go_sem, *]) rfl ⟨rfl, ?_⟩;exact Xn
theorem JA (h:Half) (w:World) (hh:h.In) :
 Calls Tryz.prog 109 #[Yf h] w λ e w'=>e=.returned (.bool (Xq h))/\Below w.heap.size w w':=by
 obtain ⟨h1,h2,h3⟩:=hh;have hxy:=JG h1 h2;cases e1:Zo h.a (-50000) 50000
 ·go_enter Tryz.func109,Tryz.ntmps109
  go_wp2
  go_big_quiet ((first|(go_at_call 96;exact XT (ZW _ _ _ _ (by assumption) _))|(go_at_call 108;exact KQ (Y1 _ _ _ (by assumption) (by assumption)))))
  go_wp2
  go_ret
  refine ⟨Xi (by simp [Xq,e1]), ?_⟩;exact Xn
 ·cases e2:Zo h.b (-50000) 50000
  ·go_enter Tryz.func109,Tryz.ntmps109
   go_wp2
   go_big_quiet ((first|(go_at_call 96;exact XT (ZW _ _ _ _ (by assumption) _))|(go_at_call 108;exact KQ (Y1 _ _ _ (by assumption) (by assumption)))))
   go_wp2
   go_ret
   refine ⟨Xi (by simp [Xq,e1,e2]), ?_⟩;exact Xn
  ·have f1:(h.a != 0) = !(h.a == 0):=rfl;have f2:(h.b != 0) = !(h.b == 0):=rfl;obtain ⟨x1,x2⟩:=YQ.1 e1;obtain ⟨y1,y2⟩:=YQ.1 e2;have hz:∀ v:Bool,(h.a == 0)=v->(h.a != 0) = !v:=λ v e=>by rw [f1,e]
   have hz2:∀ v:Bool,(h.b == 0)=v->(h.b != 0) = !v:=λ v e=>by rw [f2,e]
   have key:(h.a≠0∨h.b≠0)->Zo h.c (-100000000) 100000000=true->Xq h=(YO (YO h.a h.b) h.c == 1):=by
    intro k1 e3;obtain ⟨z1,z2⟩:=YQ.1 e3;have:=Jn h1 h2;rw [ZU (YF (a:=YO h.a h.b) (by omega)) (YF (a:=h.c) (by omega)),ZU (YF (a:=h.a) (by omega)) (YF (a:=h.b) (by omega))];rw [Bool.eq_iff_iff];simp [Xq,e1,e2,e3,gcd3];omega
   clear f1 f2;cases za:(h.a == 0)
   ·have za2:=hz _ za;clear hz hz2 x1 x2 y1 y2;simp only [Bool.not_false] at za2;have hne:h.a≠0:=by simpa using za
    cases e3:Zo h.c (-100000000) 100000000
    ·clear key hne;go_enter Tryz.func109,Tryz.ntmps109
     go_wp2
     go_big_quiet ((first|(go_at_call 96;exact XT (ZW _ _ _ _ (by assumption) _))|(go_at_call 108;exact KQ (Y1 _ _ _ (by assumption) (by assumption)))))
     go_wp2
     go_ret
     refine ⟨Xi (by simp [Xq,e1,e2,e3]), ?_⟩;exact Xn
    ·have hfin:=Lib.hid (key (.inl hne) e3);clear key hne;cases e4:(YO (YO h.a h.b) h.c == 1);all_goals
      go_enter Tryz.func109,Tryz.ntmps109
      go_wp2
      go_big_quiet ((first|(go_at_call 96;exact XT (ZW _ _ _ _ (by assumption) _))|(go_at_call 108;exact KQ (Y1 _ _ _ (by assumption) (by assumption)))))
      go_wp2
      go_ret
      refine ⟨Xi (by rw [hfin.out,e4]), ?_⟩;exact Xn
   ·have za2:=hz _ za;simp only [Bool.not_true] at za2;cases zb:(h.b == 0)
    ·have zb2:=hz2 _ zb;clear hz hz2 x1 x2 y1 y2;simp only [Bool.not_false] at zb2;have hne:h.b≠0:=by simpa using zb
     cases e3:Zo h.c (-100000000) 100000000
     ·clear key hne;go_enter Tryz.func109,Tryz.ntmps109
      go_wp2
      go_big_quiet ((first|(go_at_call 96;exact XT (ZW _ _ _ _ (by assumption) _))|(go_at_call 108;exact KQ (Y1 _ _ _ (by assumption) (by assumption)))))
      go_wp2
      go_ret
      refine ⟨Xi (by simp [Xq,e1,e2,e3]), ?_⟩;exact Xn
     ·have hfin:=Lib.hid (key (.inr hne) e3);clear key hne;cases e4:(YO (YO h.a h.b) h.c == 1);all_goals
       go_enter Tryz.func109,Tryz.ntmps109
       go_wp2
       go_big_quiet ((first|(go_at_call 96;exact XT (ZW _ _ _ _ (by assumption) _))|(go_at_call 108;exact KQ (Y1 _ _ _ (by assumption) (by assumption)))))
       go_wp2
       go_ret
       refine ⟨Xi (by rw [hfin.out,e4]), ?_⟩;exact Xn
    ·have zb2:=hz2 _ zb;clear hz hz2 x1 x2 y1 y2 key;simp only [Bool.not_true] at zb2;have hfin:Hid (Xq h=false):=by
      have a0:h.a=0:=by simpa using za
      have b0:h.b=0:=by simpa using zb
      show _=_;simp [Xq,a0,b0]
     go_enter Tryz.func109,Tryz.ntmps109
     go_wp2
     go_big_quiet ((first|(go_at_call 96;exact XT (ZW _ _ _ _ (by assumption) _))|(go_at_call 108;exact KQ (Y1 _ _ _ (by assumption) (by assumption)))))
     go_wp2
     go_ret
     refine ⟨Xi (by rw [hfin.out]), ?_⟩;exact Xn
theorem gcdOf_one (a:Int):YO a 1=if Yn a then 0 else 1:=by
 unfold YO;cases Yn a<;>simp [Yn]
theorem sHalfOf_c (a b c:Int) (w:World) (ha:Yo a) (hb:Yo b) (hc:Yo c) :
 Calls Tryz.prog 73 #[.int .i64 a,.int .i64 b,.int .i64 c] w λ e w'=>e=.returned (JQ (XO a b c))/\Below w.heap.size w w':=by
 have hone:Yo 1:=⟨by omega,by omega⟩;have hxy:=JG ha hb;have k1:=gcdOf_one a;have k2:=gcdOf_one b;have k3:=gcdOf_one c;cases ma:Yn a
 ·rw [ma] at k1;cases mb:Yn b
  ·rw [mb] at k2;cases mc:Yn c
   ·rw [mc] at k3;simp only [Bool.false_eq_true,if_false] at k1 k2 k3;by_cases hz:a=0/\b=0
    ·have hfin:XO a b c=none:=by
      unfold XO;split
      ·rfl
      ·rw [if_neg];obtain ⟨rfl,rfl⟩:=hz;simp [Xq,redHalf]
     rw [hfin];obtain ⟨rfl,rfl⟩:=hz;clear ma mb mc hfin;go_enter Tryz.func73,Tryz.ntmps73
     go_wp2_with (go_at_call 108;refine (Y1 _ _ _ (by assumption) (by assumption)).mono ?_;rintro e wc ⟨rfl,nc,rfl⟩)
     refine bodyPost_ret (v:=.tuple #[.agg #[.int .i64 0,.int .i64 0,.int .i64 0],.bool false]) (by simp [results,Tryz.results73,go_sem]) rfl ⟨rfl, ?_⟩;exact Xn
    ·have hpos:0<Xh [a,b,c]:=by
      rw [gcd3];apply Nat.gcd_pos_of_pos_left;rcases Nat.eq_zero_or_pos (Nat.gcd a.natAbs b.natAbs) with h|h
      ·rw [Nat.gcd_eq_zero_iff] at h;omega
      ·exact h
     have hfin:Hid (XO a b c=if Xq ⟨a.tdiv (Xh [a,b,c]),b.tdiv (Xh [a,b,c]),c.tdiv (Xh [a,b,c])⟩=true then some ⟨a.tdiv (Xh [a,b,c]),b.tdiv (Xh [a,b,c]),c.tdiv (Xh [a,b,c])⟩ else none):=by
      show _=_;rw [XO,if_neg (by simp [ma,mb,mc];omega)];rfl
     have hG:YO (YO a b) c=((Xh [a,b,c]:Nat):Int):=by
      have:=Jn ha hb;rw [ZU (YF (by omega)) mc,ZU ma mb,gcd3];simp
     have hle:Xh [a,b,c]<=9223372036854775807:=by
      have:=(Jn hxy hc).2;rw [hG] at this;omega
     generalize Xh [a,b,c]=G at *;have i1:=Z8 ha ma G;have i2:=Z8 hb mb G;have i3:=Z8 hc mc G;have c5:=λ W=>JA ⟨a.tdiv G,b.tdiv G,c.tdiv G⟩ W ⟨i1,i2,i3⟩;obtain ⟨q1,r1⟩:=i1;obtain ⟨q2,r2⟩:=i2;obtain ⟨q3,r3⟩:=i3;have w1:IntKind.i64.wrap (a.tdiv G)=a.tdiv G:=IntWalk.i64_in _ ⟨q1,r1⟩;have w2:IntKind.i64.wrap (b.tdiv G)=b.tdiv G:=IntWalk.i64_in _ ⟨q2,r2⟩;have w3:IntKind.i64.wrap (c.tdiv G)=c.tdiv G:=IntWalk.i64_in _ ⟨q3,r3⟩;have hG1:¬ (G=0):=by omega
     have hG2:¬ ((G:Int)=0):=by omega
     have hz2:((a == 0)&&(b == 0))=false:=by
      rw [Bool.and_eq_false_iff];simp;omega
     clear ma mb mc hz;generalize Xq ⟨a.tdiv G,b.tdiv G,c.tdiv G⟩=ok at *;generalize hba:(a == 0)=za at *;generalize hbb:(b == 0)=zb at *;have hz3:za=true->zb=false:=by intro h;subst h;simpa using hz2
     clear hz2;cases za;all_goals
      first|(have hzb:=hz3 rfl;subst hzb)|skip
      clear hz3;go_enter Tryz.func73,Tryz.ntmps73
      go_wp2_with (go_at_call 108;refine (Y1 _ _ _ (by assumption) (by assumption)).mono ?_;rintro e wc ⟨rfl,nc,rfl⟩)
      all_goals go_region_held3 (λ _=>True) (exact True.intro) (fail)
      all_goals
       go_wp2_with (fail)
       refine (c5 _).mono ?_;rintro e w9 ⟨rfl,hb9⟩;have hbw:Below w.heap.size w w9:=by
        refine Xg ?_ hb9;exact Xn
       have H2:X0 w9 w.heap.size [.int .i64 0,.int .i64 0,.int .i64 0]:=by
        refine X0.below ?_ hb9;exact (X0.new w _ _).alloc _
       have H3:X0 w9 (w.heap.size+1) [.int .i64 (a.tdiv G),.int .i64 (b.tdiv G),.int .i64 (c.tdiv G)]:=by
        refine X0.below ?_ hb9;have:=X0.new (w.alloc (.cells #[.int .i64 0,.int .i64 0,.int .i64 0] 85)) #[.int .i64 (a.tdiv G),.int .i64 (b.tdiv G),.int .i64 (c.tdiv G)] 85;simp only [World.size_alloc] at this;exact this
       obtain ⟨cH2_0,fH2_0⟩:=H2.2 0 _ rfl;obtain ⟨cH2_1,fH2_1⟩:=H2.2 1 _ rfl;obtain ⟨cH2_2,fH2_2⟩:=H2.2 2 _ rfl;obtain ⟨cH3_0,fH3_0⟩:=H3.2 0 _ rfl;obtain ⟨cH3_1,fH3_1⟩:=H3.2 1 _ rfl;obtain ⟨cH3_2,fH3_2⟩:=H3.2 2 _ rfl;cases ok
       ·go_wp2
        refine bodyPost_ret (v:=.tuple #[.agg #[.int .i64 0,.int .i64 0,.int .i64 0],.bool false]) (by simp [results,Tryz.results73,go_sem, *]) rfl ⟨by rw [hfin.out];rfl, ?_⟩;exact Xn
       ·go_wp2
        refine bodyPost_ret (v:=.tuple #[.agg #[.int .i64 (a.tdiv G),.int .i64 (b.tdiv G),.int .i64 (c.tdiv G)],.bool true]) (by simp [results,Tryz.results73,go_sem, *]) rfl ⟨by rw [hfin.out];rfl, ?_⟩;exact Xn
   ·rw [mc] at k3;simp only [Bool.false_eq_true,if_false,if_true] at k1 k2 k3;have hfin:XO a b c=none:=by simp [XO,mc]
    rw [hfin];clear ma mb mc;go_enter Tryz.func73,Tryz.ntmps73
    go_wp2_with (go_at_call 108;refine (Y1 _ _ _ (by assumption) (by assumption)).mono ?_;rintro e wc ⟨rfl,nc,rfl⟩)
    refine bodyPost_ret (v:=.tuple #[.agg #[.int .i64 0,.int .i64 0,.int .i64 0],.bool false]) (by simp [results,Tryz.results73,go_sem]) rfl ⟨rfl, ?_⟩;exact Xn
  ·rw [mb] at k2;simp only [Bool.false_eq_true,if_false,if_true] at k1 k2;have hfin:XO a b c=none:=by simp [XO,mb]
   rw [hfin];clear ma mb k3;go_enter Tryz.func73,Tryz.ntmps73
   go_wp2_with (go_at_call 108;refine (Y1 _ _ _ (by assumption) (by assumption)).mono ?_;rintro e wc ⟨rfl,nc,rfl⟩)
   refine bodyPost_ret (v:=.tuple #[.agg #[.int .i64 0,.int .i64 0,.int .i64 0],.bool false]) (by simp [results,Tryz.results73,go_sem]) rfl ⟨rfl, ?_⟩;exact Xn
 ·rw [ma] at k1;simp only [if_true] at k1;have hfin:XO a b c=none:=by simp [XO,ma]
  rw [hfin];clear ma k2 k3;go_enter Tryz.func73,Tryz.ntmps73
  go_wp2_with (go_at_call 108;refine (Y1 _ _ _ (by assumption) (by assumption)).mono ?_;rintro e wc ⟨rfl,nc,rfl⟩)
  refine bodyPost_ret (v:=.tuple #[.agg #[.int .i64 0,.int .i64 0,.int .i64 0],.bool false]) (by simp [results,Tryz.results73,go_sem]) rfl ⟨rfl, ?_⟩;exact Xn
end Go.Proofs.YtbekjpkcicjcgabGreat
