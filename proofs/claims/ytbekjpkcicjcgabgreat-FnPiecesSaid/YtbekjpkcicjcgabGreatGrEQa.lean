/-
 What the functions on pieces return, and RatioOf.
 Conditions: the numbers are ints of the machine.
-/
import Derived.Deep.RegionHeld3
import Derived.Deep.RegionWith
import Derived.Test.YtbekjpkcicjcgabGreatGrAQa
set_option maxHeartbeats 4000000
namespace Go.Proofs.YtbekjpkcicjcgabGreat
open Go.RowKit
theorem iRatioOf_c (n d:Int) (w:World) (hn:Yo n) (hd:Yo d) :
 Calls Tryz.prog 91 #[.int .i64 n,.int .i64 d] w λ e w'=>e=.returned (KU (X6 n d))/\Below w.heap.size w w':=by
 have m1:=λ v h=>Ky n v h hn;have m2:=λ v h=>Ky d v h hd;by_cases hz:d=0
 ·have hfin:X6 n d=ZV:=by simp [X6,hz]
  rw [hfin];subst hz;clear m1 m2;go_enter Tryz.func91,Tryz.ntmps91
  go_wp2
  refine bodyPost_ret (v:=.agg #[.int .i64 0,.int .i64 0]) (by simp [results,Tryz.results91,go_sem]) rfl ⟨rfl, ?_⟩;exact Xn
 ·have hz2:(d == 0)=false:=by simpa using hz
  cases mn:Yn n
  ·have n1:=m1 _ mn;cases md:Yn d
   ·have n2:=m2 _ md;have hall:∀ k∈[n,d],Yo k:=by simp [hn,hd]
    have hg:=Ks (some ⟨w.heap.size+1,0,none⟩) [n,d] 2 _ (by simp) hall (Jy (T:=3) Zc (w.alloc (.cells #[.int .i64 0,.int .i64 0] 45)) [n,d] #[.int .i64 n,.int .i64 d] rfl (by simp));have hle:=Jd [n,d] hall;have hpos:0<Xh [n,d]:=by rw [Jm];exact Nat.gcd_pos_of_pos_right _ (by omega)
    have hfin:Hid (X6 n d=if 1000000000000000000<n.natAbs / Xh [n,d]∨1000000000000000<d.natAbs / Xh [n,d] then ZV
     else if decide (n<0)=decide (d<0) then ⟨((n.natAbs / Xh [n,d]:Nat):Int),((d.natAbs / Xh [n,d]:Nat):Int)⟩
     else ⟨-((n.natAbs / Xh [n,d]:Nat):Int),((d.natAbs / Xh [n,d]:Nat):Int)⟩):=by
     show _=_;rw [X6,if_neg (by simp [hz,mn,md])]
    have c1:=λ W=>Kb n W hn;have c2:=λ W=>Kb d W hd;have a1:=JD hn;have a2:=JD hd;generalize Xh [n,d]=G at *;have l1:=Nat.div_le_self n.natAbs G;have l2:=Nat.div_le_self d.natAbs G;have q1:IntKind.u64.wrap ((n.natAbs:Int).tdiv (G:Int))=((n.natAbs / G:Nat):Int):=by rw [tdiv_nat];exact IntWalk.u64_in _ ⟨Int.natCast_nonneg _,by omega⟩
    have q2:IntKind.u64.wrap ((d.natAbs:Int).tdiv (G:Int))=((d.natAbs / G:Nat):Int):=by rw [tdiv_nat];exact IntWalk.u64_in _ ⟨Int.natCast_nonneg _,by omega⟩
    have q3:IntKind.u64.wrap ((n.natAbs:Int) / (G:Int))=((n.natAbs / G:Nat):Int):=by rw [<- Int.natCast_ediv];exact IntWalk.u64_in _ ⟨Int.natCast_nonneg _,by omega⟩
    have q4:IntKind.u64.wrap ((d.natAbs:Int) / (G:Int))=((d.natAbs / G:Nat):Int):=by rw [<- Int.natCast_ediv];exact IntWalk.u64_in _ ⟨Int.natCast_nonneg _,by omega⟩
    have hG1:¬ (G=0):=by omega
    have hG2:¬ ((G:Int)=0):=by omega
    generalize n.natAbs / G=top at *;generalize d.natAbs / G=bel at *;clear hn hd m1 m2 hall mn md hz;generalize hsn:decide (n<0)=sn at *;generalize hsd:decide (d<0)=sd at *;go_enter Tryz.func91,Tryz.ntmps91
    go_wp2_with (first|(go_at_call_of 113 (Value.int IntKind.i64 n);refine (n1 _).mono ?_;rintro e w' ⟨rfl,rfl⟩)|(go_at_call 113;refine (n2 _).mono ?_;rintro e w' ⟨rfl,rfl⟩))
    refine hg.mono ?_;rintro e w1 ⟨rfl,hb1⟩;have H1:=((X0.new w #[.int .i64 0,.int .i64 0] 45).alloc _).below hb1;have hbw:=Xg (Xa (Xa (Below.refl w.heap.size w) _) _) hb1;go_wp2
    go_big_quiet ((first|(go_at_call_of 94 (Value.int IntKind.i64 n);exact XT (c1 _))|(go_at_call 94;exact XT (c2 _))))
    have H2:=H1.drewN nq;have hbw2:=Zf hbw nq;generalize w1.drewN nq=w2 at *;obtain ⟨cH2_0,fH2_0⟩:=H2.2 0 _ rfl;obtain ⟨cH2_1,fH2_1⟩:=H2.2 1 _ rfl;have hlt2:=H2.1;clear q1 q2 q3 q4 hbw H1 hb1 hg;by_cases b1:1000000000000000000<top
    ·have hf:Hid (X6 n d=ZV):=by show _=_;rw [hfin.out,if_pos (.inl b1)]
     go_wp2
     refine bodyPost_ret (v:=.agg #[.int .i64 0,.int .i64 0]) (by simp [results,Tryz.results91,go_sem, *]) rfl ⟨by rw [hf.out];rfl, ?_⟩;exact Xn
    ·by_cases b2:1000000000000000<bel
     ·have hf:Hid (X6 n d=ZV):=by show _=_;rw [hfin.out,if_pos (.inr b2)]
      go_wp2
      refine bodyPost_ret (v:=.agg #[.int .i64 0,.int .i64 0]) (by simp [results,Tryz.results91,go_sem, *]) rfl ⟨by rw [hf.out];rfl, ?_⟩;exact Xn
     ·have hf:Hid (X6 n d=if sn=sd then ⟨(top:Int),(bel:Int)⟩ else ⟨-(top:Int),(bel:Int)⟩):=by show _=_;rw [hfin.out,if_neg (by omega)]
      cases sn<;>cases sd
      ·go_wp2
       refine bodyPost_ret (v:=.agg #[.int .i64 (top:Int),.int .i64 (bel:Int)]) (by simp [results,Tryz.results91,go_sem, *]) rfl ⟨by rw [hf.out];rfl, ?_⟩;exact Xn
      ·go_wp2
       refine bodyPost_ret (v:=.agg #[.int .i64 (-(top:Int)),.int .i64 (bel:Int)]) (by simp [results,Tryz.results91,go_sem, *]) rfl ⟨by rw [hf.out];rfl, ?_⟩;exact Xn
      ·go_wp2
       refine bodyPost_ret (v:=.agg #[.int .i64 (-(top:Int)),.int .i64 (bel:Int)]) (by simp [results,Tryz.results91,go_sem, *]) rfl ⟨by rw [hf.out];rfl, ?_⟩;exact Xn
      ·go_wp2
       refine bodyPost_ret (v:=.agg #[.int .i64 (top:Int),.int .i64 (bel:Int)]) (by simp [results,Tryz.results91,go_sem, *]) rfl ⟨by rw [hf.out];rfl, ?_⟩;exact Xn
   ·have hfin:X6 n d=ZV:=by simp [X6,md]
    rw [hfin];have n2:=m2 _ md;clear m1 m2 mn md;go_enter Tryz.func91,Tryz.ntmps91
    go_wp2_with (first|(go_at_call_of 113 (Value.int IntKind.i64 n);refine (n1 _).mono ?_;rintro e w' ⟨rfl,rfl⟩)|(go_at_call 113;refine (n2 _).mono ?_;rintro e w' ⟨rfl,rfl⟩))
    refine bodyPost_ret (v:=.agg #[.int .i64 0,.int .i64 0]) (by simp [results,Tryz.results91,go_sem]) rfl ⟨rfl, ?_⟩;exact Xn
  ·have hfin:X6 n d=ZV:=by simp [X6,mn]
   rw [hfin];have n1:=m1 _ mn;clear m1 m2 mn;go_enter Tryz.func91,Tryz.ntmps91
   go_wp2_with (fail)
   refine (n1 _).mono ?_;rintro e w' ⟨rfl,rfl⟩;go_wp2
   refine bodyPost_ret (v:=.agg #[.int .i64 0,.int .i64 0]) (by simp [results,Tryz.results91,go_sem]) rfl ⟨rfl, ?_⟩;exact Xn
theorem mul_bd_ {a b A B:Int} (ha : -A<=a/\a<=A) (hb : -B<=b/\b<=B) : -(A*B)<=a*b/\a*b<=A*B:=by
 have hA:a.natAbs<=A.natAbs:=by omega
 have hB:b.natAbs<=B.natAbs:=by omega
 have hm:=Nat.mul_le_mul hA hB;rw [<- Int.natAbs_mul,<- Int.natAbs_mul] at hm;have hAB:0<=A*B:=Int.mul_nonneg (by omega) (by omega);omega
abbrev ratV (r:Yu) (ok:Bool):Value:=.tuple #[.agg #[.int .i64 r.n,.int .i64 r.d],.bool ok]
theorem ratioOf_In (n d:Int):(X6 n d).In:=by
 by_cases h:XE (X6 n d)=true
 ·have:=KJ.1 h;exact ⟨⟨by omega,by omega⟩,⟨by omega,by omega⟩⟩
 ·have:X6 n d=ZV:=by
   apply Classical.byContradiction;intro h2;exact h (ratioOf_ok.2 h2)
  rw [this];exact ⟨⟨by decide,by decide⟩,⟨by decide,by decide⟩⟩
structure PB (q:Xm) (s:XW):Prop where
 a : -1000000000000000000<=q.a*s.x/\q.a*s.x<=1000000000000000000
 b : -1000000000000000000<=q.b*s.y/\q.b*s.y<=1000000000000000000
 c : -1000000000000000<=q.c*s.d/\q.c*s.d<=1000000000000000
 d : -1000000000000000<=q.d*s.d/\q.d*s.d<=1000000000000000
theorem pieceBounds {q:Xm} {s:XW} (hq:XM q=true) (hs:XP s=true) (hd:s.d<=1000):PB q s:=by
 obtain ⟨q1,q2,q3,q4,_⟩:=Ka.1 hq;obtain ⟨s1,s2,s3,_⟩:=ZO.1 hs;have a:=mul_bd_ (A:=1000000000000) (B:=1000000) (a:=q.a) (b:=s.x) (by omega) (by omega);have b:=mul_bd_ (A:=1000000000000) (B:=1000000) (a:=q.b) (b:=s.y) (by omega) (by omega);have c:=mul_bd_ (A:=1000000000000) (B:=1000) (a:=q.c) (b:=s.d) (by omega) (by omega);have d:=mul_bd_ (A:=1000000000000) (B:=1000) (a:=q.d) (b:=s.d) (by omega) (by omega);exact ⟨by omega,by omega,by omega,by omega⟩
set_option maxRecDepth 100000 in
theorem ipieceAt_c (q:Xm) (s:XW) (w:World) (hq:XM q=true) (hs:XP s=true) :
 Calls Tryz.prog 47 #[XZ q,spotV s] w λ e w'=>e=.returned (ratV (Kv q s) (XE (Kv q s)))/\Below w.heap.size w w':=by
 by_cases hd:1000<s.d
 ·have hfin:Kv q s=ZV:=by simp [Kv,hd]
  rw [hfin,ratioOk_zero];go_enter Tryz.func47,Tryz.ntmps47
  go_wp2
  refine bodyPost_ret (v:=.tuple #[.agg #[.int .i64 0,.int .i64 0],.bool false]) (by simp [results,Tryz.results47,go_sem]) rfl ⟨rfl, ?_⟩;exact Xn
 ·have hfin:Kv q s=X6 (q.a*s.x+q.b*s.y+q.c*s.d) (q.d*s.d):=by simp [Kv,hd]
  rw [hfin];obtain ⟨⟨a1,a2⟩,⟨b1,b2⟩,⟨c1,c2⟩,⟨d1,d2⟩⟩:=pieceBounds hq hs (by omega);have k1:=λ W=>iRatioOf_c (q.a*s.x+q.b*s.y+q.c*s.d) (q.d*s.d) W ⟨by omega,by omega⟩ ⟨by omega,by omega⟩;have hin:=ratioOf_In (q.a*s.x+q.b*s.y+q.c*s.d) (q.d*s.d);have k2:=λ W=>iRatioOk_c (X6 (q.a*s.x+q.b*s.y+q.c*s.d) (q.d*s.d)) W hin;clear hfin hin hq hs;revert k1 k2;generalize X6 (q.a*s.x+q.b*s.y+q.c*s.d) (q.d*s.d)=r;generalize XE r=ok;intro k1 k2;go_enter Tryz.func47,Tryz.ntmps47
  go_wp2_with (fail)
  refine (k1 _).mono ?_;rintro e w1 ⟨rfl,hb1⟩;have H1:X0 w1 (w.heap.size+1+1) [.int .i64 0,.int .i64 0]:=by
   refine X0.below ?_ hb1;have:=X0.new ((w.alloc (.cells #[.int .i64 q.a,.int .i64 q.b,.int .i64 q.c,.int .i64 q.d] 49)).alloc (.cells #[.int .i64 s.x,.int .i64 s.y,.int .i64 s.d] 30)) #[.int .i64 0,.int .i64 0] 45;simp only [World.size_alloc] at this;exact this
  have hbw:=Xg (Xa (Xa (Xa (Below.refl w.heap.size w) _) _) _) hb1;have hlt1:=H1.1;go_wp2
  have H2:=H1.alloc (.cells #[.int .i64 r.n,.int .i64 r.d] 45);have hbw2:=Xa hbw (.cells #[.int .i64 r.n,.int .i64 r.d] 45);have H3:=X0.new w1 #[.int .i64 r.n,.int .i64 r.d] 45;generalize hg6:w1.heap.size=g6 at *;generalize hW:w1.alloc (.cells #[.int .i64 r.n,.int .i64 r.d] 45)=W at *;clear hW hg6 hb1 H1 hbw;obtain ⟨cH2_0,fH2_0⟩:=H2.2 0 _ rfl;obtain ⟨cH2_1,fH2_1⟩:=H2.2 1 _ rfl;obtain ⟨cH3_0,fH3_0⟩:=H3.2 0 _ rfl;obtain ⟨cH3_1,fH3_1⟩:=H3.2 1 _ rfl;have hlt6:=H3.1;have hlt4:=H2.1;have H2':=Lib.hid H2;have H3':=Lib.hid H3;have hne:w.heap.size+1+1≠g6:=by omega
  clear H2 H3;go_region_held3 (λ w'=>w'.cell? ⟨g6,0,none⟩=some (.int .i64 r.n)/\w'.cell? ⟨g6,1,none⟩=some (.int .i64 r.d)) (first|go_keep|(refine ⟨(hb2.cell (p:=⟨g6,0,none⟩) (by simpa [World.setCell] using hlt6)).trans ?_,(hb2.cell (p:=⟨g6,1,none⟩) (by simpa [World.setCell] using hlt6)).trans ?_⟩<;>go_keep))
   (first|(go_at_call 48;refine (k2 _).mono ?_;rintro e w2 ⟨rfl,hb2⟩;first|(have T4:X0 w2 (w.heap.size+1+1) [.int .i64 0,.int .i64 0]:=X0.below (by exact H2'.out) hb2;obtain ⟨c20,f20⟩:=T4.2 0 _ rfl;obtain ⟨c21,f21⟩:=T4.2 1 _ rfl)|(have T4:X0 w2 (w.heap.size+1+1) [.int .i64 r.n,.int .i64 r.d]:=X0.below (by exact H2'.out.stored [.int .i64 r.n,.int .i64 r.d] rfl) hb2;obtain ⟨c20,f20⟩:=T4.2 0 _ rfl;obtain ⟨c21,f21⟩:=T4.2 1 _ rfl)))
  all_goals go_wp2
  refine bodyPost_ret (v:=.tuple #[.agg #[.int .i64 r.n,.int .i64 r.d],.bool ok]) (by simp [results,Tryz.results47,go_sem, *]) rfl ⟨rfl, ?_⟩;have hbw3:=Xg hbw2.drew hb2;exact Xn
theorem iPieceAt_c (q:Xm) (s:XW) (w:World) (hq:q.In) (hs:s.In) :
 Calls Tryz.prog 11 #[XZ q,spotV s] w λ e w'=>e=.returned (ratV (XC q s) (XE (XC q s)))/\Below w.heap.size w w':=by
 have k1:=λ W=>iPieceOk_c q W hq;have k2:=λ W=>iSpotOk_c s W hs;have k3:=λ W h1 h2=>ipieceAt_c q s W h1 h2;have hfin:Hid (XC q s=if XM q=true/\XP s=true then Kv q s else ZV):=rfl;have HA:=X0.new w #[.int .i64 q.a,.int .i64 q.b,.int .i64 q.c,.int .i64 q.d] 49;have HB:=X0.new (w.alloc (.cells #[.int .i64 q.a,.int .i64 q.b,.int .i64 q.c,.int .i64 q.d] 49)) #[.int .i64 s.x,.int .i64 s.y,.int .i64 s.d] 30;have HC:=X0.new ((w.alloc (.cells #[.int .i64 q.a,.int .i64 q.b,.int .i64 q.c,.int .i64 q.d] 49)).alloc (.cells #[.int .i64 s.x,.int .i64 s.y,.int .i64 s.d] 30)) #[.int .i64 0,.int .i64 0] 45;simp only [World.size_alloc] at HB HC;generalize XM q=b1 at *;generalize XP s=b2 at *;cases b1
 ·go_enter Tryz.func11,Tryz.ntmps11
  go_wp2_with (fail)
  refine (k1 _).mono ?_;rintro e w1 ⟨rfl,hb1⟩;have H1:=HC.below hb1;have hbw:=Xg (Xa (Xa (Xa (Below.refl w.heap.size w) _) _) _) hb1;obtain ⟨cH1_0,fH1_0⟩:=H1.2 0 _ rfl;obtain ⟨cH1_1,fH1_1⟩:=H1.2 1 _ rfl;go_wp2
  refine bodyPost_ret (v:=.tuple #[.agg #[.int .i64 0,.int .i64 0],.bool false]) (by simp [results,Tryz.results11,go_sem, *]) rfl ⟨by rw [hfin.out];rfl, ?_⟩;exact Xn
 ·cases b2
  ·go_enter Tryz.func11,Tryz.ntmps11
   go_wp2_with (fail)
   refine (k1 _).mono ?_;rintro e w1 ⟨rfl,hb1⟩;have H1:=HC.below hb1;have H2:=((HB.alloc _).below hb1);have hbw:=Xg (Xa (Xa (Xa (Below.refl w.heap.size w) _) _) _) hb1;obtain ⟨cH2_0,fH2_0⟩:=H2.2 0 _ rfl;obtain ⟨cH2_1,fH2_1⟩:=H2.2 1 _ rfl;obtain ⟨cH2_2,fH2_2⟩:=H2.2 2 _ rfl;go_wp2_with (fail)
   refine (k2 _).mono ?_;rintro e w2 ⟨rfl,hb2⟩;have H3:=H1.below hb2;have hbw2:=Xg hbw hb2;obtain ⟨cH3_0,fH3_0⟩:=H3.2 0 _ rfl;obtain ⟨cH3_1,fH3_1⟩:=H3.2 1 _ rfl;go_wp2
   refine bodyPost_ret (v:=.tuple #[.agg #[.int .i64 0,.int .i64 0],.bool false]) (by simp [results,Tryz.results11,go_sem, *]) rfl ⟨by rw [hfin.out];rfl, ?_⟩;exact Xn
  ·have k4:=λ W=>k3 W rfl rfl;have hfin2:Hid (XC q s=Kv q s):=hfin.out;rw [hfin2.out];clear hfin k3 hfin2;generalize Kv q s=r at *;generalize XE r=ok at *;go_enter Tryz.func11,Tryz.ntmps11
   go_wp2_with (fail)
   refine (k1 _).mono ?_;rintro e w1 ⟨rfl,hb1⟩;have H1:=HC.below hb1;have H2:=((HB.alloc _).below hb1);have H3:=(((HA.alloc _).alloc _).below hb1);have hbw:=Xg (Xa (Xa (Xa (Below.refl w.heap.size w) _) _) _) hb1;obtain ⟨cH2_0,fH2_0⟩:=H2.2 0 _ rfl;obtain ⟨cH2_1,fH2_1⟩:=H2.2 1 _ rfl;obtain ⟨cH2_2,fH2_2⟩:=H2.2 2 _ rfl;go_wp2_with (fail)
   refine (k2 _).mono ?_;rintro e w2 ⟨rfl,hb2⟩;have H4:=H1.below hb2;have H5:=H2.below hb2;have H6:=H3.below hb2;have hbw2:=Xg hbw hb2;clear cH2_0 cH2_1 cH2_2 fH2_0 fH2_1 fH2_2;obtain ⟨cH5_0,fH5_0⟩:=H5.2 0 _ rfl;obtain ⟨cH5_1,fH5_1⟩:=H5.2 1 _ rfl;obtain ⟨cH5_2,fH5_2⟩:=H5.2 2 _ rfl;obtain ⟨cH6_0,fH6_0⟩:=H6.2 0 _ rfl;obtain ⟨cH6_1,fH6_1⟩:=H6.2 1 _ rfl;obtain ⟨cH6_2,fH6_2⟩:=H6.2 2 _ rfl;obtain ⟨cH6_3,fH6_3⟩:=H6.2 3 _ rfl;go_wp2_with (fail)
   refine (k4 _).mono ?_;rintro e w3 ⟨rfl,hb3⟩;have H7:=H4.below hb3;have hbw3:=Xg hbw2 hb3;clear cH5_0 cH5_1 cH5_2 fH5_0 fH5_1 fH5_2 cH6_0 cH6_1 cH6_2 fH6_0 fH6_1 fH6_2 cH6_3 fH6_3;obtain ⟨cH7_0,fH7_0⟩:=H7.2 0 _ rfl;obtain ⟨cH7_1,fH7_1⟩:=H7.2 1 _ rfl;go_wp2
   refine bodyPost_ret (v:=.tuple #[.agg #[.int .i64 r.n,.int .i64 r.d],.bool ok]) (by simp [results,Tryz.results11,go_sem, *]) rfl ⟨rfl, ?_⟩;exact Xn
end Go.Proofs.YtbekjpkcicjcgabGreat
