/-
 Parts of the inputs that a region admits: of the program and of the reference.
 Conditions: valid rooms, half planes and states.
-/
import Derived.Test.YtkjimfapbjdafaaGreatGrV
import Derived.Test.YtkjimfapbjdafaaGreatGrG
import Derived.Test.YtkjimfapbjdafaaGreatGrX
import Derived.Test.YtkjimfapbjdafaaGreatNewR
import Derived.Test.YtkjimfapbjdafaaGreatGrU
import Derived.Test.YtkjimfapbjdafaaGreatGrT
section
namespace Go.Proofs.YtkjimfapbjdafaaGreat
open Go.RowKit
theorem ratio_one {n:Int} (h : -1000≤n∧n≤1000):XG n 1=⟨n,1⟩:=by
 have:=ratio_less (c:=n) (n:=0) (d:=1) ⟨by omega,by omega⟩ ⟨by omega,by omega⟩ ⟨by omega,by omega⟩ (by decide)
 simpa using this
theorem four_of {m:List Int} (h:m.length=4):m=[m.getD 0 0,m.getD 1 0,m.getD 2 0,m.getD 3 0]:=by
 match m,h with
 | [_,_,_,_],_=>rfl
theorem whole_c (n:Int) (w:World) :
 Calls Tryz.prog 125 #[.int .i64 n] w fun e w'=>e=.returned (X6 ⟨n,1⟩)∧Below w.heap.size w w':=by
 have H0:=X3.new w #[.int .i64 0,.int .i64 0] 70
 have b0:=Xm (Below.refl w.heap.size w) (.cells #[.int .i64 0,.int .i64 0] 70)
 generalize hW:w.alloc (.cells #[.int .i64 0,.int .i64 0] 70)=W at *
 have hW':=Lib.hid hW
 clear hW
 obtain ⟨cH0_0,fH0_0⟩:=H0.2 0 _ rfl
 obtain ⟨cH0_1,fH0_1⟩:=H0.2 1 _ rfl
 have l0:=H0.1
 go_enter Tryz.func125,Tryz.ntmps125
 go_upto_region 1 with fail
 rw [hW'.out]
 clear hW'
 go_wp2
 refine bodyPost_ret (v:=.agg #[.int .i64 n,.int .i64 1]) (by simp [results,Tryz.results125,go_sem, *]) rfl ⟨rfl, ?_⟩
 exact ZF b0 (by omega) (o:=0) [_,_]
theorem slope_c (r:XN) (a:Yr) (h:Half) (w:World) (ha : -5000000≤h.a*r.bx∧h.a*r.bx≤5000000) (hb : -5000000≤h.b*r.by_∧h.b*r.by_≤5000000) :
 Calls Tryz.prog 221 #[XH r a,Zc h] w fun e w'=>e=.returned (.int .i64 (Zj r h))∧Below w.heap.size w w':=by
 go_enter Tryz.func221,Tryz.ntmps221
 go_wp2
 go_ret
 refine ⟨rfl, ?_⟩
 exact Xo
set_option maxRecDepth 100000 in
set_option maxHeartbeats 2000000 in
theorem mapped_c (m:List Int) (q:Int) (A:Option Addr) (c:Nat) (s:XJ) (w:World) (hm:m.length=4) (h0 : -2000000000≤m.getD 0 0*s.x∧m.getD 0 0*s.x≤2000000000) (h1 : -2000000000≤m.getD 1 0*s.y∧m.getD 1 0*s.y≤2000000000) (h2 : -2000000000≤m.getD 2 0*s.x∧m.getD 2 0*s.x≤2000000000) (h3 : -2000000000≤m.getD 3 0*s.y∧m.getD 3 0*s.y≤2000000000) (hd:1≤q*s.d∧q*s.d≤2000000) (hs:Sl 1 YP w A m) :
 Calls Tryz.prog 220 #[Yz s,.slice A m.length c,.int .i64 q] w fun e w'=>e=.returned (.tuple #[.int .i64 (m.getD 0 0*s.x+m.getD 1 0*s.y),.int .i64 (m.getD 2 0*s.x+m.getD 3 0*s.y),.int .i64 (q*s.d)])∧Below w.heap.size w w':=by
 have e:=four_of hm
 generalize m.getD 0 0=m0 at *
 generalize m.getD 1 0=m1 at *
 generalize m.getD 2 0=m2 at *
 generalize m.getD 3 0=m3 at *
 subst e
 have H0:=X3.new w #[.int .i64 s.x,.int .i64 s.y,.int .i64 s.d] 44
 have b0:=Xm (Below.refl w.heap.size w) (.cells #[.int .i64 s.x,.int .i64 s.y,.int .i64 s.d] 44)
 have hs0:=hs.below b0
 generalize hW:w.alloc (.cells #[.int .i64 s.x,.int .i64 s.y,.int .i64 s.d] 44)=W at *
 have hW':=Lib.hid hW
 clear hW
 obtain ⟨b,off,hA,hblt,hc⟩:=hs0.at_ (show 0<[m0,m1,m2,m3].length by simp)
 have g0:=hc 0 _ rfl
 obtain ⟨b1,off1,hA1,_,hc1⟩:=hs0.at_ (show 1<[m0,m1,m2,m3].length by simp)
 obtain ⟨b2,off2,hA2,_,hc2⟩:=hs0.at_ (show 2<[m0,m1,m2,m3].length by simp)
 obtain ⟨b3,off3,hA3,_,hc3⟩:=hs0.at_ (show 3<[m0,m1,m2,m3].length by simp)
 rw [hA] at hA1 hA2 hA3
 cases hA1;cases hA2;cases hA3
 have g1:=hc1 0 _ rfl
 have g2:=hc2 0 _ rfl
 have g3:=hc3 0 _ rfl
 subst hA
 simp only [Nat.mul_one,Nat.add_zero,List.getElem_cons_zero,List.getElem_cons_succ] at g0 g1 g2 g3
 clear hc hc1 hc2 hc3 hs0
 obtain ⟨cH0_0,fH0_0⟩:=H0.2 0 _ rfl
 obtain ⟨cH0_1,fH0_1⟩:=H0.2 1 _ rfl
 obtain ⟨cH0_2,fH0_2⟩:=H0.2 2 _ rfl
 have l0:=H0.1
 go_enter Tryz.func220,Tryz.ntmps220
 go_upto_region 1 with fail
 rw [hW'.out]
 clear hW'
 go_big_quiet (fail)
 go_wp2
 refine bodyPost_ret (v:=.tuple #[.int .i64 (m0*s.x+m1*s.y),.int .i64 (m2*s.x+m3*s.y),.int .i64 (q*s.d)]) (by simp [results,Tryz.results220,go_sem]) rfl ⟨rfl, ?_⟩
 exact Xo
set_option maxRecDepth 100000 in
set_option maxHeartbeats 4000000 in
theorem l11Top_c (r:XN) (a:Yr) (h:Half) (s:XJ) (w:World) (B:RoomB r) (M:MapB r s) (P:AdmP r s h) (hs:Sl 1 YP w a.map.A r.map) :
 Calls Tryz.prog 216 #[XH r a,Zc h,Yz s] w fun e w'=>e=.returned (.tuple #[.int .i64 (JV r s h),.int .i64 (YC r s)])∧Below w.heap.size w w':=by
 obtain ⟨h0,h1,h2,h3,hd⟩:=M
 obtain ⟨_,_,pc,px,py,_⟩:=P
 have e:=four_of B.len
 clear B
 obtain ⟨map,div,bx,by_,low,high,noise,limits⟩:=r
 simp only [JV,mapX,mapY,YC] at *
 generalize map.getD 0 0=m0 at *
 generalize map.getD 1 0=m1 at *
 generalize map.getD 2 0=m2 at *
 generalize map.getD 3 0=m3 at *
 subst e
 obtain ⟨W,hW⟩:∃ W,W=((w.alloc (.cells #[.slice a.map.A 4 a.map.c,.int .i64 div,.int .i64 bx,.int .i64 by_,.int .i64 low,.int .i64 high,.slice a.noise.A noise.length a.noise.c,.slice a.limits.A limits.length a.limits.c] 39)).alloc (.cells #[.int .i64 h.a,.int .i64 h.b,.int .i64 h.c] 175)).alloc (.cells #[.int .i64 s.x,.int .i64 s.y,.int .i64 s.d] 44):=⟨_,rfl⟩
 have HB:X3 W w.heap.size [.slice a.map.A 4 a.map.c,.int .i64 div,.int .i64 bx,.int .i64 by_,.int .i64 low,.int .i64 high,.slice a.noise.A noise.length a.noise.c,.slice a.limits.A limits.length a.limits.c]:=by
  rw [hW]
  exact Yy
 have HH:X3 W (w.heap.size+1) [.int .i64 h.a,.int .i64 h.b,.int .i64 h.c]:=by
  rw [hW]
  exact Yy
 have HS:X3 W (w.heap.size+1+1) [.int .i64 s.x,.int .i64 s.y,.int .i64 s.d]:=by
  rw [hW]
  exact Yy
 have b0:Below w.heap.size w W:=by
  rw [hW]
  exact Xo
 have hs0:=hs.below b0
 have hW':=Lib.hid hW
 clear hW hs
 obtain ⟨b,off,hA,hblt,hc⟩:=hs0.at_ (show 0<[m0,m1,m2,m3].length by simp)
 have g0:=hc 0 _ rfl
 obtain ⟨b1,off1,hA1,_,hc1⟩:=hs0.at_ (show 1<[m0,m1,m2,m3].length by simp)
 obtain ⟨b2,off2,hA2,_,hc2⟩:=hs0.at_ (show 2<[m0,m1,m2,m3].length by simp)
 obtain ⟨b3,off3,hA3,_,hc3⟩:=hs0.at_ (show 3<[m0,m1,m2,m3].length by simp)
 rw [hA] at hA1 hA2 hA3
 cases hA1;cases hA2;cases hA3
 have g1:=hc1 0 _ rfl
 have g2:=hc2 0 _ rfl
 have g3:=hc3 0 _ rfl
 rw [hA] at HB hW'
 simp only [Nat.mul_one,Nat.add_zero,List.getElem_cons_zero,List.getElem_cons_succ] at g0 g1 g2 g3
 clear hc hc1 hc2 hc3 hs0
 obtain ⟨cHB_0,fHB_0⟩:=HB.2 0 _ rfl
 obtain ⟨cHB_1,fHB_1⟩:=HB.2 1 _ rfl
 obtain ⟨cHB_2,fHB_2⟩:=HB.2 2 _ rfl
 obtain ⟨cHB_3,fHB_3⟩:=HB.2 3 _ rfl
 obtain ⟨cHB_4,fHB_4⟩:=HB.2 4 _ rfl
 obtain ⟨cHB_5,fHB_5⟩:=HB.2 5 _ rfl
 obtain ⟨cHB_6,fHB_6⟩:=HB.2 6 _ rfl
 obtain ⟨cHB_7,fHB_7⟩:=HB.2 7 _ rfl
 obtain ⟨cHH_0,fHH_0⟩:=HH.2 0 _ rfl
 obtain ⟨cHH_1,fHH_1⟩:=HH.2 1 _ rfl
 obtain ⟨cHH_2,fHH_2⟩:=HH.2 2 _ rfl
 obtain ⟨cHS_0,fHS_0⟩:=HS.2 0 _ rfl
 obtain ⟨cHS_1,fHS_1⟩:=HS.2 1 _ rfl
 obtain ⟨cHS_2,fHS_2⟩:=HS.2 2 _ rfl
 have lB:=HB.1
 have lH:=HH.1
 have lS:=HS.1
 obtain ⟨⟨mA,mc⟩,nA,lA⟩:=a
 simp only at *
 subst hA
 go_enter Tryz.func216,Tryz.ntmps216
 go_upto_region 1 with fail
 rw [← hW'.out]
 clear hW'
 go_big_quiet (fail)
 go_upto_region 2 with fail
 go_big_quiet (fail)
 go_wp2
 refine bodyPost_ret (v:=.tuple #[.int .i64 (h.c*(div*s.d)-h.a*(m0*s.x+m1*s.y)-h.b*(m2*s.x+m3*s.y)),.int .i64 (div*s.d)]) (by simp [results,Tryz.results216,go_sem]) rfl ⟨rfl, ?_⟩
 exact Xo
set_option maxRecDepth 100000 in
set_option maxHeartbeats 8000000 in
theorem iMeet2_c (x y:YX) (w:World) (hx:x.In) (hy:y.In) :
 Calls Tryz.prog 242 #[Yf x,Yf y] w fun e w'=>e=.returned (ZZ (Yl x y))∧Below w.heap.size w w':=by
 have c1:=fun W=>iSpanOk_c x W hx
 have c2:=fun W=>iSpanOk_c y W hy
 obtain ⟨W,hW⟩:∃ W,W=((w.alloc (.cells #[.int .i64 x.low.n,.int .i64 x.low.d,.int .i64 x.high.n,.int .i64 x.high.d] 72)).alloc (.cells #[.int .i64 y.low.n,.int .i64 y.low.d,.int .i64 y.high.n,.int .i64 y.high.d] 72)).alloc (.cells #[.int .i64 0,.int .i64 0,.int .i64 0,.int .i64 0] 72):=⟨_,rfl⟩
 have HA:Xy W w.heap.size 72 [.int .i64 x.low.n,.int .i64 x.low.d,.int .i64 x.high.n,.int .i64 x.high.d]:=by
  rw [hW]
  exact ((Xy.new w [.int .i64 x.low.n,.int .i64 x.low.d,.int .i64 x.high.n,.int .i64 x.high.d] 72).alloc _).alloc _
 have HB:Xy W (w.heap.size+1) 72 [.int .i64 y.low.n,.int .i64 y.low.d,.int .i64 y.high.n,.int .i64 y.high.d]:=by
  rw [hW]
  have h1:=((Xy.new (w.alloc (.cells #[.int .i64 x.low.n,.int .i64 x.low.d,.int .i64 x.high.n,.int .i64 x.high.d] 72)) [.int .i64 y.low.n,.int .i64 y.low.d,.int .i64 y.high.n,.int .i64 y.high.d] 72).alloc (.cells #[.int .i64 0,.int .i64 0,.int .i64 0,.int .i64 0] 72))
  simp only [World.size_alloc] at h1
  exact h1
 have HR:Xy W (w.heap.size+1+1) 72 [.int .i64 0,.int .i64 0,.int .i64 0,.int .i64 0]:=by
  rw [hW]
  have h1:=Xy.new ((w.alloc (.cells #[.int .i64 x.low.n,.int .i64 x.low.d,.int .i64 x.high.n,.int .i64 x.high.d] 72)).alloc (.cells #[.int .i64 y.low.n,.int .i64 y.low.d,.int .i64 y.high.n,.int .i64 y.high.d] 72)) [.int .i64 0,.int .i64 0,.int .i64 0,.int .i64 0] 72
  simp only [World.size_alloc] at h1
  exact h1
 have b0:Below w.heap.size w W:=by
  rw [hW]
  exact Xo
 have zW:=XX HR
 have hW':=Lib.hid hW
 clear hW
 cases e1:Xv x
 ·have C:=Lib.hid (show Yl x y=none by unfold Yl;rw [if_neg (by rw [e1];simp)])
  rw [e1] at c1
  have HA_:=HA.has
  have HB_:=HB.has
  obtain ⟨cHA__0,fHA__0⟩:=HA_.2 0 _ rfl
  obtain ⟨cHA__1,fHA__1⟩:=HA_.2 1 _ rfl
  obtain ⟨cHA__2,fHA__2⟩:=HA_.2 2 _ rfl
  obtain ⟨cHA__3,fHA__3⟩:=HA_.2 3 _ rfl
  obtain ⟨cHB__0,fHB__0⟩:=HB_.2 0 _ rfl
  obtain ⟨cHB__1,fHB__1⟩:=HB_.2 1 _ rfl
  obtain ⟨cHB__2,fHB__2⟩:=HB_.2 2 _ rfl
  obtain ⟨cHB__3,fHB__3⟩:=HB_.2 3 _ rfl
  have lA:=HA_.1
  have lB:=HB_.1
  go_enter Tryz.func242,Tryz.ntmps242
  go_upto_region 1 with fail
  rw [← hW'.out]
  clear hW'
  go_wp2_with (fail)
  refine (c1 _).mono ?_
  rintro e w1 ⟨rfl,hb1⟩
  have b1:=Xh b0 hb1
  have HZ:=(HR.below hb1).has
  obtain ⟨cHZ_0,fHZ_0⟩:=HZ.2 0 _ rfl
  obtain ⟨cHZ_1,fHZ_1⟩:=HZ.2 1 _ rfl
  obtain ⟨cHZ_2,fHZ_2⟩:=HZ.2 2 _ rfl
  obtain ⟨cHZ_3,fHZ_3⟩:=HZ.2 3 _ rfl
  have lZ:=HZ.1
  go_wp2
  refine bodyPost_ret (v:=.tuple #[.agg #[.int .i64 0,.int .i64 0,.int .i64 0,.int .i64 0],.bool false]) (by simp [results,Tryz.results242,go_sem, *]) rfl ⟨by rw [C.out];rfl, ?_⟩
  exact ZF b1 (by omega) (o:=0) [_,_,_,_]
 rw [e1] at c1
 cases e2:Xv y
 ·have C:=Lib.hid (show Yl x y=none by unfold Yl;rw [if_neg (by rw [e2];simp)])
  rw [e2] at c2
  have HA_:=HA.has
  have HB_:=HB.has
  obtain ⟨cHA__0,fHA__0⟩:=HA_.2 0 _ rfl
  obtain ⟨cHA__1,fHA__1⟩:=HA_.2 1 _ rfl
  obtain ⟨cHA__2,fHA__2⟩:=HA_.2 2 _ rfl
  obtain ⟨cHA__3,fHA__3⟩:=HA_.2 3 _ rfl
  obtain ⟨cHB__0,fHB__0⟩:=HB_.2 0 _ rfl
  obtain ⟨cHB__1,fHB__1⟩:=HB_.2 1 _ rfl
  obtain ⟨cHB__2,fHB__2⟩:=HB_.2 2 _ rfl
  obtain ⟨cHB__3,fHB__3⟩:=HB_.2 3 _ rfl
  have lA:=HA_.1
  have lB:=HB_.1
  go_enter Tryz.func242,Tryz.ntmps242
  go_upto_region 1 with fail
  rw [← hW'.out]
  clear hW'
  go_wp2_with (fail)
  refine (c1 _).mono ?_
  rintro e w1 ⟨rfl,hb1⟩
  have r1:=Xn hb1
  have l1:=blt hb1 lB
  go_wp2_with (fail)
  refine (c2 _).mono ?_
  rintro e w2 ⟨rfl,hb2⟩
  have b2:=Xh (Xh b0 hb1) hb2
  have HZ:=((HR.below hb1).below hb2).has
  obtain ⟨cHZ_0,fHZ_0⟩:=HZ.2 0 _ rfl
  obtain ⟨cHZ_1,fHZ_1⟩:=HZ.2 1 _ rfl
  obtain ⟨cHZ_2,fHZ_2⟩:=HZ.2 2 _ rfl
  obtain ⟨cHZ_3,fHZ_3⟩:=HZ.2 3 _ rfl
  have lZ:=HZ.1
  go_wp2
  refine bodyPost_ret (v:=.tuple #[.agg #[.int .i64 0,.int .i64 0,.int .i64 0,.int .i64 0],.bool false]) (by simp [results,Tryz.results242,go_sem, *]) rfl ⟨by rw [C.out];rfl, ?_⟩
  exact ZF b2 (by omega) (o:=0) [_,_,_,_]
 rw [e2] at c2
 have ok1:=e1
 have ok2:=e2
 simp only [Xv,Bool.and_eq_true] at ok1 ok2
 have kM:=fun W=>iRatioMax_c x.low y.low W hx.1 hy.1
 have kN:=fun W=>iRatioMin_c x.high y.high W hx.2 hy.2
 have hmx:=ratioMax_in hx.1 hy.1
 have hmn:=ratioMin_in hx.2 hy.2
 have hdef:=Lib.hid (show Yl x y=if Xv ⟨Yb x.low y.low,Ya x.high y.high⟩=true then some ⟨Yb x.low y.low,Ya x.high y.high⟩ else none by unfold Yl;rw [e1,e2];simp)
 clear ok1 ok2 e1 e2
 obtain ⟨lw_,hlo⟩:∃ lw_,lw_=Yb x.low y.low:=⟨_,rfl⟩
 obtain ⟨up_,hhi⟩:∃ up_,up_=Ya x.high y.high:=⟨_,rfl⟩
 rw [← hlo] at kM hmx
 rw [← hhi] at kN hmn
 rw [← hlo,← hhi] at hdef
 clear hlo hhi
 have c3:=fun W=>iSpanOk_c ⟨lw_,up_⟩ W ⟨hmx,hmn⟩
 have HA_:=HA.has
 have HB_:=HB.has
 obtain ⟨cHA__0,fHA__0⟩:=HA_.2 0 _ rfl
 obtain ⟨cHA__1,fHA__1⟩:=HA_.2 1 _ rfl
 obtain ⟨cHA__2,fHA__2⟩:=HA_.2 2 _ rfl
 obtain ⟨cHA__3,fHA__3⟩:=HA_.2 3 _ rfl
 obtain ⟨cHB__0,fHB__0⟩:=HB_.2 0 _ rfl
 obtain ⟨cHB__1,fHB__1⟩:=HB_.2 1 _ rfl
 obtain ⟨cHB__2,fHB__2⟩:=HB_.2 2 _ rfl
 obtain ⟨cHB__3,fHB__3⟩:=HB_.2 3 _ rfl
 have lA:=HA_.1
 have lB:=HB_.1
 go_enter Tryz.func242,Tryz.ntmps242
 go_upto_region 1 with fail
 rw [← hW'.out]
 clear hW'
 go_wp2_with (fail)
 refine (c1 _).mono ?_
 rintro e w1 ⟨rfl,hb1⟩
 have r1:=Xn hb1
 have l1:=blt hb1 lB
 go_wp2_with (fail)
 refine (c2 _).mono ?_
 rintro e w2 ⟨rfl,hb2⟩
 have A2:=(HA.below hb1).below hb2
 have B2:=(HB.below hb1).below hb2
 have R2:=(HR.below hb1).below hb2
 have b2:=Xh (Xh b0 hb1) hb2
 clear HA_ HB_ cHA__0 cHA__1 cHA__2 cHA__3 fHA__0 fHA__1 fHA__2 fHA__3 cHB__0 cHB__1 cHB__2 cHB__3 fHB__0 fHB__1 fHB__2 fHB__3 lA lB HA HB HR b0 c1 c2 r1 l1 hb1 hb2
 go_upto_region 3 with fail
 have lA:=XX A2
 have lB:=XX B2
 have lR:=XX R2
 have hBWA:w2.heap.size≤w2.heap.size:=Nat.le_refl _
 have hTA_0:=A2
 have hTA_1:=B2
 have hTA_2:=R2
 obtain ⟨IA,hIA⟩:∃ I:Act→(Nat→Bool)→Act→World→Prop,I=(fun a0 L a w'=>Yk a0 a [16,17,18,19,20,21,22,23,24,25,26,6]∧Below (w2.heap.size) w2 w'∧(L 0=true→a.tmps[16]?.getD undef=.pointer (some ⟨w.heap.size,0,none⟩))∧(L 1=true→a.tmps[17]?.getD undef=.agg #[.int .i64 x.low.n,.int .i64 x.low.d])∧(L 2=true→a.tmps[18]?.getD undef=.pointer (some ⟨w.heap.size+1,0,none⟩))∧(L 3=true→a.tmps[19]?.getD undef=.agg #[.int .i64 y.low.n,.int .i64 y.low.d])∧(L 4=true→a.tmps[20]?.getD undef=X6 lw_)∧(L 5=true→a.tmps[21]?.getD undef=.pointer (some ⟨w.heap.size,2,none⟩))∧(L 6=true→a.tmps[22]?.getD undef=.agg #[.int .i64 x.high.n,.int .i64 x.high.d])∧(L 7=true→a.tmps[23]?.getD undef=.pointer (some ⟨w.heap.size+1,2,none⟩))∧(L 8=true→a.tmps[24]?.getD undef=.agg #[.int .i64 y.high.n,.int .i64 y.high.d])∧(L 9=true→a.tmps[25]?.getD undef=X6 up_)∧(L 10=true→a.tmps[26]?.getD undef=.agg #[.int .i64 lw_.n,.int .i64 lw_.d,.int .i64 up_.n,.int .i64 up_.d])∧(L 1=true→L 0=true)∧(L 3=true→L 2=true)∧(L 4=true→L 1=true)∧(L 4=true→L 3=true)∧(L 6=true→L 5=true)∧(L 8=true→L 7=true)∧(L 9=true→L 6=true)∧(L 9=true→L 8=true)∧(L 10=true→L 4=true)∧(L 10=true→L 9=true)∧(L 12=true→L 10=true)∧(L 12=true→L 11=true)∧(L 11=true→∃ g:Nat,a.tmps[6]?.getD undef=.pointer (some ⟨g,0,none⟩)∧w2.heap.size≤g∧(L 12=false→Xy w' g 72 [.int .i64 0,.int .i64 0,.int .i64 0,.int .i64 0])∧(L 12=true→Xy w' (g) 72 [.int .i64 lw_.n,.int .i64 lw_.d,.int .i64 up_.n,.int .i64 up_.d]))∧Xy w' (w.heap.size) 72 [.int .i64 x.low.n,.int .i64 x.low.d,.int .i64 x.high.n,.int .i64 x.high.d]∧Xy w' (w.heap.size+1) 72 [.int .i64 y.low.n,.int .i64 y.low.d,.int .i64 y.high.n,.int .i64 y.high.d]∧Xy w' (w.heap.size+1+1) 72 [.int .i64 0,.int .i64 0,.int .i64 0,.int .i64 0]):=⟨_,rfl⟩
 refine Jq (by kernel_rfl) (by kernel_rfl) IA ?h0 ?hs ?he
 case h0 =>
  rw [hIA]
  exact ⟨Yk.refl _ _,bR.drew,fun h=>absurd h (by simp),fun h=>absurd h (by simp),fun h=>absurd h (by simp),fun h=>absurd h (by simp),fun h=>absurd h (by simp),fun h=>absurd h (by simp),fun h=>absurd h (by simp),fun h=>absurd h (by simp),fun h=>absurd h (by simp),fun h=>absurd h (by simp),fun h=>absurd h (by simp),fun h=>absurd h (by simp),fun h=>absurd h (by simp),fun h=>absurd h (by simp),fun h=>absurd h (by simp),fun h=>absurd h (by simp),fun h=>absurd h (by simp),fun h=>absurd h (by simp),fun h=>absurd h (by simp),fun h=>absurd h (by simp),fun h=>absurd h (by simp),fun h=>absurd h (by simp),fun h=>absurd h (by simp),fun h=>absurd h (by simp),hTA_0,hTA_1,hTA_2⟩
 case hs =>
  intro L a w' i o ho hLi hd hI'
  rw [hIA] at hI'
  obtain ⟨C,S,ci0,ci1,ci2,ci3,ci4,ci5,ci6,ci7,ci8,ci9,ci10,cp1_0,cp3_2,cp4_1,cp4_3,cp6_5,cp8_7,cp9_6,cp9_8,cp10_4,cp10_9,cp12_10,cp12_11,ca3,cy0,cy1,cy2⟩:=hI'
  have hi:i<13:=by
   rcases Nat.lt_or_ge i 13 with h|h
   ·exact h
   ·rw [List.getElem?_eq_none (by simpa using h)] at ho;cases ho
  have zB:=S.size
  have hBw:w2.heap.size≤w'.heap.size:=Nat.le_trans hBWA zB
  obtain rfl|rfl|rfl|rfl|rfl|rfl|rfl|rfl|rfl|rfl|rfl|rfl|rfl:i=0∨i=1∨i=2∨i=3∨i=4∨i=5∨i=6∨i=7∨i=8∨i=9∨i=10∨i=11∨i=12:=by omega
  ·simp only [List.getElem?_cons_zero,Option.some.injEq] at ho
   subst ho
   rw [if_pos (by simp [Region.wanted])]
   have e0:a.tmps[2]?.getD undef=.pointer (some ⟨w.heap.size,0,none⟩):=C.get (by decide)
   simp [go_sem,Array.getD_eq_getD_getElem?,e0]
   rw [hIA]
   exact ⟨C.put (by decide) _,S,fun _=>Xc (C.lt (by simp)) _,XS ci1 (by decide) rfl,XS ci2 (by decide) rfl,XS ci3 (by decide) rfl,XS ci4 (by decide) rfl,XS ci5 (by decide) rfl,XS ci6 (by decide) rfl,XS ci7 (by decide) rfl,XS ci8 (by decide) rfl,XS ci9 (by decide) rfl,XS ci10 (by decide) rfl,fun _=>by simp,XW cp3_2 rfl,XW cp4_1 rfl,XW cp4_3 rfl,XW cp6_5 rfl,XW cp8_7 rfl,XW cp9_6 rfl,XW cp9_8 rfl,XW cp10_4 rfl,XW cp10_9 rfl,XW cp12_10 rfl,XW cp12_11 rfl,fun h=>by obtain ⟨g2,e2,hg2,y2,z2⟩:=ca3 (by simpa using h);exact ⟨g2,(Yq (by decide) _).trans e2,hg2,fun h=>y2 (by simpa using h),fun h=>z2 (by simpa using h)⟩,cy0,cy1,cy2⟩
  ·simp only [List.getElem?_cons_zero,List.getElem?_cons_succ,Option.some.injEq] at ho
   subst ho
   rw [if_pos (by simp [Region.wanted])]
   have d0:=hd { on:=0,ground:=.data } (by simp) (by decide)
   have v0:=ci0 d0
   have HT0:=cy0
   have HH0:=HT0.has
   have lH0:=HH0.1
   obtain ⟨cH0_0,fH0_0⟩:=HH0.2 0 _ rfl
   obtain ⟨cH0_1,fH0_1⟩:=HH0.2 1 _ rfl
   simp [go_sem,Array.getD_eq_getD_getElem?,v0,cH0_0,cH0_1]
   rw [hIA]
   exact ⟨C.put (by decide) _,S,XS ci0 (by decide) rfl,fun _=>Xc (C.lt (by simp)) _,XS ci2 (by decide) rfl,XS ci3 (by decide) rfl,XS ci4 (by decide) rfl,XS ci5 (by decide) rfl,XS ci6 (by decide) rfl,XS ci7 (by decide) rfl,XS ci8 (by decide) rfl,XS ci9 (by decide) rfl,XS ci10 (by decide) rfl,fun _=>by simp [d0],XW cp3_2 rfl,fun _=>by simp,XW cp4_3 rfl,XW cp6_5 rfl,XW cp8_7 rfl,XW cp9_6 rfl,XW cp9_8 rfl,XW cp10_4 rfl,XW cp10_9 rfl,XW cp12_10 rfl,XW cp12_11 rfl,fun h=>by obtain ⟨g2,e2,hg2,y2,z2⟩:=ca3 (by simpa using h);exact ⟨g2,(Yq (by decide) _).trans e2,hg2,fun h=>y2 (by simpa using h),fun h=>z2 (by simpa using h)⟩,cy0,cy1,cy2⟩
  ·simp only [List.getElem?_cons_zero,List.getElem?_cons_succ,Option.some.injEq] at ho
   subst ho
   rw [if_pos (by simp [Region.wanted])]
   have e0:a.tmps[3]?.getD undef=.pointer (some ⟨w.heap.size+1,0,none⟩):=C.get (by decide)
   simp [go_sem,Array.getD_eq_getD_getElem?,e0]
   rw [hIA]
   exact ⟨C.put (by decide) _,S,XS ci0 (by decide) rfl,XS ci1 (by decide) rfl,fun _=>Xc (C.lt (by simp)) _,XS ci3 (by decide) rfl,XS ci4 (by decide) rfl,XS ci5 (by decide) rfl,XS ci6 (by decide) rfl,XS ci7 (by decide) rfl,XS ci8 (by decide) rfl,XS ci9 (by decide) rfl,XS ci10 (by decide) rfl,XW cp1_0 rfl,fun _=>by simp,XW cp4_1 rfl,XW cp4_3 rfl,XW cp6_5 rfl,XW cp8_7 rfl,XW cp9_6 rfl,XW cp9_8 rfl,XW cp10_4 rfl,XW cp10_9 rfl,XW cp12_10 rfl,XW cp12_11 rfl,fun h=>by obtain ⟨g2,e2,hg2,y2,z2⟩:=ca3 (by simpa using h);exact ⟨g2,(Yq (by decide) _).trans e2,hg2,fun h=>y2 (by simpa using h),fun h=>z2 (by simpa using h)⟩,cy0,cy1,cy2⟩
  ·simp only [List.getElem?_cons_zero,List.getElem?_cons_succ,Option.some.injEq] at ho
   subst ho
   rw [if_pos (by simp [Region.wanted])]
   have d2:=hd { on:=2,ground:=.data } (by simp) (by decide)
   have v2:=ci2 d2
   have HT1:=cy1
   have HH1:=HT1.has
   have lH1:=HH1.1
   obtain ⟨cH1_0,fH1_0⟩:=HH1.2 0 _ rfl
   obtain ⟨cH1_1,fH1_1⟩:=HH1.2 1 _ rfl
   simp [go_sem,Array.getD_eq_getD_getElem?,v2,cH1_0,cH1_1]
   rw [hIA]
   exact ⟨C.put (by decide) _,S,XS ci0 (by decide) rfl,XS ci1 (by decide) rfl,XS ci2 (by decide) rfl,fun _=>Xc (C.lt (by simp)) _,XS ci4 (by decide) rfl,XS ci5 (by decide) rfl,XS ci6 (by decide) rfl,XS ci7 (by decide) rfl,XS ci8 (by decide) rfl,XS ci9 (by decide) rfl,XS ci10 (by decide) rfl,XW cp1_0 rfl,fun _=>by simp [d2],XW cp4_1 rfl,fun _=>by simp,XW cp6_5 rfl,XW cp8_7 rfl,XW cp9_6 rfl,XW cp9_8 rfl,XW cp10_4 rfl,XW cp10_9 rfl,XW cp12_10 rfl,XW cp12_11 rfl,fun h=>by obtain ⟨g2,e2,hg2,y2,z2⟩:=ca3 (by simpa using h);exact ⟨g2,(Yq (by decide) _).trans e2,hg2,fun h=>y2 (by simpa using h),fun h=>z2 (by simpa using h)⟩,cy0,cy1,cy2⟩
  ·simp only [List.getElem?_cons_zero,List.getElem?_cons_succ,Option.some.injEq] at ho
   subst ho
   rw [if_pos (by simp [Region.wanted])]
   have d1:=hd { on:=1,ground:=.data } (by simp) (by decide)
   have v1:=ci1 d1
   have d3:=hd { on:=3,ground:=.data } (by simp) (by decide)
   have v3:=ci3 d3
   simp [go_sem,Array.getD_eq_getD_getElem?,v1,v3]
   refine (kM _).mono ?_
   rintro e wx ⟨rfl,hbx⟩
   rw [hIA]
   exact ⟨C.put (by decide) _,S.trans (hbx.mono hBw),XS ci0 (by decide) rfl,XS ci1 (by decide) rfl,XS ci2 (by decide) rfl,XS ci3 (by decide) rfl,fun _=>Xc (C.lt (by simp)) _,XS ci5 (by decide) rfl,XS ci6 (by decide) rfl,XS ci7 (by decide) rfl,XS ci8 (by decide) rfl,XS ci9 (by decide) rfl,XS ci10 (by decide) rfl,XW cp1_0 rfl,XW cp3_2 rfl,fun _=>by simp [d1],fun _=>by simp [d3],XW cp6_5 rfl,XW cp8_7 rfl,XW cp9_6 rfl,XW cp9_8 rfl,fun _=>by simp,XW cp10_9 rfl,XW cp12_10 rfl,XW cp12_11 rfl,fun h=>by obtain ⟨g2,e2,hg2,y2,z2⟩:=ca3 (by simpa using h);exact ⟨g2,(Yq (by decide) _).trans e2,hg2,fun h=>(y2 (by simpa using h)).below hbx,fun h=>(z2 (by simpa using h)).below hbx⟩,(cy0).below hbx,(cy1).below hbx,(cy2).below hbx⟩
  ·simp only [List.getElem?_cons_zero,List.getElem?_cons_succ,Option.some.injEq] at ho
   subst ho
   rw [if_pos (by simp [Region.wanted])]
   have e0:a.tmps[2]?.getD undef=.pointer (some ⟨w.heap.size,0,none⟩):=C.get (by decide)
   simp [go_sem,Array.getD_eq_getD_getElem?,e0]
   rw [hIA]
   exact ⟨C.put (by decide) _,S,XS ci0 (by decide) rfl,XS ci1 (by decide) rfl,XS ci2 (by decide) rfl,XS ci3 (by decide) rfl,XS ci4 (by decide) rfl,fun _=>Xc (C.lt (by simp)) _,XS ci6 (by decide) rfl,XS ci7 (by decide) rfl,XS ci8 (by decide) rfl,XS ci9 (by decide) rfl,XS ci10 (by decide) rfl,XW cp1_0 rfl,XW cp3_2 rfl,XW cp4_1 rfl,XW cp4_3 rfl,fun _=>by simp,XW cp8_7 rfl,XW cp9_6 rfl,XW cp9_8 rfl,XW cp10_4 rfl,XW cp10_9 rfl,XW cp12_10 rfl,XW cp12_11 rfl,fun h=>by obtain ⟨g2,e2,hg2,y2,z2⟩:=ca3 (by simpa using h);exact ⟨g2,(Yq (by decide) _).trans e2,hg2,fun h=>y2 (by simpa using h),fun h=>z2 (by simpa using h)⟩,cy0,cy1,cy2⟩
  ·simp only [List.getElem?_cons_zero,List.getElem?_cons_succ,Option.some.injEq] at ho
   subst ho
   rw [if_pos (by simp [Region.wanted])]
   have d5:=hd { on:=5,ground:=.data } (by simp) (by decide)
   have v5:=ci5 d5
   have HT0:=cy0
   have HH0:=HT0.has
   have lH0:=HH0.1
   obtain ⟨cH0_2,fH0_2⟩:=HH0.2 2 _ rfl
   obtain ⟨cH0_3,fH0_3⟩:=HH0.2 3 _ rfl
   simp [go_sem,Array.getD_eq_getD_getElem?,v5,cH0_2,cH0_3]
   rw [hIA]
   exact ⟨C.put (by decide) _,S,XS ci0 (by decide) rfl,XS ci1 (by decide) rfl,XS ci2 (by decide) rfl,XS ci3 (by decide) rfl,XS ci4 (by decide) rfl,XS ci5 (by decide) rfl,fun _=>Xc (C.lt (by simp)) _,XS ci7 (by decide) rfl,XS ci8 (by decide) rfl,XS ci9 (by decide) rfl,XS ci10 (by decide) rfl,XW cp1_0 rfl,XW cp3_2 rfl,XW cp4_1 rfl,XW cp4_3 rfl,fun _=>by simp [d5],XW cp8_7 rfl,fun _=>by simp,XW cp9_8 rfl,XW cp10_4 rfl,XW cp10_9 rfl,XW cp12_10 rfl,XW cp12_11 rfl,fun h=>by obtain ⟨g2,e2,hg2,y2,z2⟩:=ca3 (by simpa using h);exact ⟨g2,(Yq (by decide) _).trans e2,hg2,fun h=>y2 (by simpa using h),fun h=>z2 (by simpa using h)⟩,cy0,cy1,cy2⟩
  ·simp only [List.getElem?_cons_zero,List.getElem?_cons_succ,Option.some.injEq] at ho
   subst ho
   rw [if_pos (by simp [Region.wanted])]
   have e0:a.tmps[3]?.getD undef=.pointer (some ⟨w.heap.size+1,0,none⟩):=C.get (by decide)
   simp [go_sem,Array.getD_eq_getD_getElem?,e0]
   rw [hIA]
   exact ⟨C.put (by decide) _,S,XS ci0 (by decide) rfl,XS ci1 (by decide) rfl,XS ci2 (by decide) rfl,XS ci3 (by decide) rfl,XS ci4 (by decide) rfl,XS ci5 (by decide) rfl,XS ci6 (by decide) rfl,fun _=>Xc (C.lt (by simp)) _,XS ci8 (by decide) rfl,XS ci9 (by decide) rfl,XS ci10 (by decide) rfl,XW cp1_0 rfl,XW cp3_2 rfl,XW cp4_1 rfl,XW cp4_3 rfl,XW cp6_5 rfl,fun _=>by simp,XW cp9_6 rfl,XW cp9_8 rfl,XW cp10_4 rfl,XW cp10_9 rfl,XW cp12_10 rfl,XW cp12_11 rfl,fun h=>by obtain ⟨g2,e2,hg2,y2,z2⟩:=ca3 (by simpa using h);exact ⟨g2,(Yq (by decide) _).trans e2,hg2,fun h=>y2 (by simpa using h),fun h=>z2 (by simpa using h)⟩,cy0,cy1,cy2⟩
  ·simp only [List.getElem?_cons_zero,List.getElem?_cons_succ,Option.some.injEq] at ho
   subst ho
   rw [if_pos (by simp [Region.wanted])]
   have d7:=hd { on:=7,ground:=.data } (by simp) (by decide)
   have v7:=ci7 d7
   have HT1:=cy1
   have HH1:=HT1.has
   have lH1:=HH1.1
   obtain ⟨cH1_2,fH1_2⟩:=HH1.2 2 _ rfl
   obtain ⟨cH1_3,fH1_3⟩:=HH1.2 3 _ rfl
   simp [go_sem,Array.getD_eq_getD_getElem?,v7,cH1_2,cH1_3]
   rw [hIA]
   exact ⟨C.put (by decide) _,S,XS ci0 (by decide) rfl,XS ci1 (by decide) rfl,XS ci2 (by decide) rfl,XS ci3 (by decide) rfl,XS ci4 (by decide) rfl,XS ci5 (by decide) rfl,XS ci6 (by decide) rfl,XS ci7 (by decide) rfl,fun _=>Xc (C.lt (by simp)) _,XS ci9 (by decide) rfl,XS ci10 (by decide) rfl,XW cp1_0 rfl,XW cp3_2 rfl,XW cp4_1 rfl,XW cp4_3 rfl,XW cp6_5 rfl,fun _=>by simp [d7],XW cp9_6 rfl,fun _=>by simp,XW cp10_4 rfl,XW cp10_9 rfl,XW cp12_10 rfl,XW cp12_11 rfl,fun h=>by obtain ⟨g2,e2,hg2,y2,z2⟩:=ca3 (by simpa using h);exact ⟨g2,(Yq (by decide) _).trans e2,hg2,fun h=>y2 (by simpa using h),fun h=>z2 (by simpa using h)⟩,cy0,cy1,cy2⟩
  ·simp only [List.getElem?_cons_zero,List.getElem?_cons_succ,Option.some.injEq] at ho
   subst ho
   rw [if_pos (by simp [Region.wanted])]
   have d6:=hd { on:=6,ground:=.data } (by simp) (by decide)
   have v6:=ci6 d6
   have d8:=hd { on:=8,ground:=.data } (by simp) (by decide)
   have v8:=ci8 d8
   simp [go_sem,Array.getD_eq_getD_getElem?,v6,v8]
   refine (kN _).mono ?_
   rintro e wx ⟨rfl,hbx⟩
   rw [hIA]
   exact ⟨C.put (by decide) _,S.trans (hbx.mono hBw),XS ci0 (by decide) rfl,XS ci1 (by decide) rfl,XS ci2 (by decide) rfl,XS ci3 (by decide) rfl,XS ci4 (by decide) rfl,XS ci5 (by decide) rfl,XS ci6 (by decide) rfl,XS ci7 (by decide) rfl,XS ci8 (by decide) rfl,fun _=>Xc (C.lt (by simp)) _,XS ci10 (by decide) rfl,XW cp1_0 rfl,XW cp3_2 rfl,XW cp4_1 rfl,XW cp4_3 rfl,XW cp6_5 rfl,XW cp8_7 rfl,fun _=>by simp [d6],fun _=>by simp [d8],XW cp10_4 rfl,fun _=>by simp,XW cp12_10 rfl,XW cp12_11 rfl,fun h=>by obtain ⟨g2,e2,hg2,y2,z2⟩:=ca3 (by simpa using h);exact ⟨g2,(Yq (by decide) _).trans e2,hg2,fun h=>(y2 (by simpa using h)).below hbx,fun h=>(z2 (by simpa using h)).below hbx⟩,(cy0).below hbx,(cy1).below hbx,(cy2).below hbx⟩
  ·simp only [List.getElem?_cons_zero,List.getElem?_cons_succ,Option.some.injEq] at ho
   subst ho
   rw [if_pos (by simp [Region.wanted])]
   have d4:=hd { on:=4,ground:=.data } (by simp) (by decide)
   have v4:=ci4 d4
   have d9:=hd { on:=9,ground:=.data } (by simp) (by decide)
   have v9:=ci9 d9
   simp [go_sem,Array.getD_eq_getD_getElem?,v4,v9]
   rw [hIA]
   exact ⟨C.put (by decide) _,S,XS ci0 (by decide) rfl,XS ci1 (by decide) rfl,XS ci2 (by decide) rfl,XS ci3 (by decide) rfl,XS ci4 (by decide) rfl,XS ci5 (by decide) rfl,XS ci6 (by decide) rfl,XS ci7 (by decide) rfl,XS ci8 (by decide) rfl,XS ci9 (by decide) rfl,fun _=>Xc (C.lt (by simp)) _,XW cp1_0 rfl,XW cp3_2 rfl,XW cp4_1 rfl,XW cp4_3 rfl,XW cp6_5 rfl,XW cp8_7 rfl,XW cp9_6 rfl,XW cp9_8 rfl,fun _=>by simp [d4],fun _=>by simp [d9],fun _=>by simp,XW cp12_11 rfl,fun h=>by obtain ⟨g2,e2,hg2,y2,z2⟩:=ca3 (by simpa using h);exact ⟨g2,(Yq (by decide) _).trans e2,hg2,fun h=>y2 (by simpa using h),fun h=>z2 (by simpa using h)⟩,cy0,cy1,cy2⟩
  ·simp only [List.getElem?_cons_zero,List.getElem?_cons_succ,Option.some.injEq] at ho
   subst ho
   rw [if_pos (by simp [Region.wanted])]
   simp [go_sem]
   rw [hIA]
   exact ⟨C.put (by decide) _,S.alloc hBw _,XS ci0 (by decide) rfl,XS ci1 (by decide) rfl,XS ci2 (by decide) rfl,XS ci3 (by decide) rfl,XS ci4 (by decide) rfl,XS ci5 (by decide) rfl,XS ci6 (by decide) rfl,XS ci7 (by decide) rfl,XS ci8 (by decide) rfl,XS ci9 (by decide) rfl,XS ci10 (by decide) rfl,XW cp1_0 rfl,XW cp3_2 rfl,XW cp4_1 rfl,XW cp4_3 rfl,XW cp6_5 rfl,XW cp8_7 rfl,XW cp9_6 rfl,XW cp9_8 rfl,XW cp10_4 rfl,XW cp10_9 rfl,XW cp12_10 rfl,fun _=>by simp,fun _=>⟨w'.heap.size,Xc (C.lt (by simp)) _,zB,fun _=>Xy.new w' [.int .i64 0,.int .i64 0,.int .i64 0,.int .i64 0] 72,fun h=>by have hq:=cp12_11 (by simpa using h);rw [hLi] at hq;cases hq⟩,(cy0).alloc _,(cy1).alloc _,(cy2).alloc _⟩
  ·simp only [List.getElem?_cons_zero,List.getElem?_cons_succ,Option.some.injEq] at ho
   subst ho
   rw [if_pos (by simp [Region.wanted])]
   have d10:=hd { on:=10,ground:=.data } (by simp) (by decide)
   have v10:=ci10 d10
   have d11:=hd { on:=11,ground:=.data } (by simp) (by decide)
   obtain ⟨gk,ek,hgk,yk,_⟩:=ca3 d11
   have HT3:=yk hLi
   have HH3:=HT3.has
   have lH3:=HH3.1
   obtain ⟨cH3_0,fH3_0⟩:=HH3.2 0 _ rfl
   obtain ⟨cH3_1,fH3_1⟩:=HH3.2 1 _ rfl
   obtain ⟨cH3_2,fH3_2⟩:=HH3.2 2 _ rfl
   obtain ⟨cH3_3,fH3_3⟩:=HH3.2 3 _ rfl
   simp [go_sem,Array.getD_eq_getD_getElem?,v10,ek,cH3_0,fH3_0,cH3_1,fH3_1,cH3_2,fH3_2,cH3_3,fH3_3]
   rw [hIA]
   exact ⟨C,Zd (by omega) [_,_,_,_] 0 _ S,kpK ci0 rfl,kpK ci1 rfl,kpK ci2 rfl,kpK ci3 rfl,kpK ci4 rfl,kpK ci5 rfl,kpK ci6 rfl,kpK ci7 rfl,kpK ci8 rfl,kpK ci9 rfl,kpK ci10 rfl,XW cp1_0 rfl,XW cp3_2 rfl,XW cp4_1 rfl,XW cp4_3 rfl,XW cp6_5 rfl,XW cp8_7 rfl,XW cp9_6 rfl,XW cp9_8 rfl,XW cp10_4 rfl,XW cp10_9 rfl,fun _=>by simp [d10],fun _=>by simp [d11],fun _=>⟨gk,ek,hgk,fun h=>by simp at h,fun _=>HT3.store (us:=[.int .i64 lw_.n,.int .i64 lw_.d,.int .i64 up_.n,.int .i64 up_.d]) rfl⟩,(cy0).other (g':=gk) (by have hl:=XX hTA_0;omega) [.int .i64 lw_.n,.int .i64 lw_.d,.int .i64 up_.n,.int .i64 up_.d] 0,(cy1).other (g':=gk) (by have hl:=XX hTA_1;omega) [.int .i64 lw_.n,.int .i64 lw_.d,.int .i64 up_.n,.int .i64 up_.d] 0,(cy2).other (g':=gk) (by have hl:=XX hTA_2;omega) [.int .i64 lw_.n,.int .i64 lw_.d,.int .i64 up_.n,.int .i64 up_.d] 0⟩
 case he =>
  intro L a' wA Y hI'
  rw [hIA] at hI'
  obtain ⟨C,hbA,ci0,ci1,ci2,ci3,ci4,ci5,ci6,ci7,ci8,ci9,ci10,cp1_0,cp3_2,cp4_1,cp4_3,cp6_5,cp8_7,cp9_6,cp9_8,cp10_4,cp10_9,cp12_10,cp12_11,ca3,cy0,cy1,cy2⟩:=hI'
  obtain ⟨gA_3,eA_b3,hgA_3,_,cz3⟩:=ca3 (Y 11 (by decide))
  have HTA_3:=cz3 (Y 12 (by decide))
  have HTA_0:=cy0
  have HTA_1:=cy1
  have HTA_2:=cy2
  have hout:=C.outG (by simp)
  simp only [List.foldl_cons,List.foldl_nil,eA_b3] at hout
  rw [hout]
  generalize a'.tmps[16]?.getD undef=xA_16
  generalize a'.tmps[17]?.getD undef=xA_17
  generalize a'.tmps[18]?.getD undef=xA_18
  generalize a'.tmps[19]?.getD undef=xA_19
  generalize a'.tmps[20]?.getD undef=xA_20
  generalize a'.tmps[21]?.getD undef=xA_21
  generalize a'.tmps[22]?.getD undef=xA_22
  generalize a'.tmps[23]?.getD undef=xA_23
  generalize a'.tmps[24]?.getD undef=xA_24
  generalize a'.tmps[25]?.getD undef=xA_25
  generalize a'.tmps[26]?.getD undef=xA_26
  clear hout hIA C Y ci0 ci1 ci2 ci3 ci4 ci5 ci6 ci7 ci8 ci9 ci10 cp1_0 cp3_2 cp4_1 cp4_3 cp6_5 cp8_7 cp9_6 cp9_8 cp10_4 cp10_9 cp12_10 cp12_11 ca3 cy0 cy1 cy2
  go_simp
  have HG:=HTA_3.has
  obtain ⟨cHG_0,fHG_0⟩:=HG.2 0 _ rfl
  obtain ⟨cHG_1,fHG_1⟩:=HG.2 1 _ rfl
  obtain ⟨cHG_2,fHG_2⟩:=HG.2 2 _ rfl
  obtain ⟨cHG_3,fHG_3⟩:=HG.2 3 _ rfl
  have lG:=HG.1
  go_wp2_with (fail)
  refine (c3 _).mono ?_
  rintro e w5 ⟨rfl,hb5⟩
  have R5:=HTA_2.below hb5
  have G5:=(HTA_3.below hb5).has
  have b5:=Xh (b2.trans (hbA.mono b2.size)) hb5
  clear HG cHG_0 cHG_1 cHG_2 cHG_3 fHG_0 fHG_1 fHG_2 fHG_3 lG
  cases e3:Xv ⟨lw_,up_⟩
  ·have C:=Lib.hid (hdef.out.trans (by rw [e3]))
   have HZ:=(R5).has
   obtain ⟨cHZ_0,fHZ_0⟩:=HZ.2 0 _ rfl
   obtain ⟨cHZ_1,fHZ_1⟩:=HZ.2 1 _ rfl
   obtain ⟨cHZ_2,fHZ_2⟩:=HZ.2 2 _ rfl
   obtain ⟨cHZ_3,fHZ_3⟩:=HZ.2 3 _ rfl
   have lZ:=HZ.1
   go_wp2
   refine bodyPost_ret (v:=.tuple #[.agg #[.int .i64 0,.int .i64 0,.int .i64 0,.int .i64 0],.bool false]) (by simp [results,Tryz.results242,go_sem, *]) rfl ⟨by rw [C.out];rfl, ?_⟩
   exact ZF b5 (by omega) (o:=0) [_,_,_,_]
  have C:=Lib.hid (hdef.out.trans (by rw [e3]))
  obtain ⟨cG5_0,fG5_0⟩:=G5.2 0 _ rfl
  obtain ⟨cG5_1,fG5_1⟩:=G5.2 1 _ rfl
  obtain ⟨cG5_2,fG5_2⟩:=G5.2 2 _ rfl
  obtain ⟨cG5_3,fG5_3⟩:=G5.2 3 _ rfl
  have lG:=G5.1
  have HZ:=(R5).has
  obtain ⟨cHZ_0,fHZ_0⟩:=HZ.2 0 _ rfl
  obtain ⟨cHZ_1,fHZ_1⟩:=HZ.2 1 _ rfl
  obtain ⟨cHZ_2,fHZ_2⟩:=HZ.2 2 _ rfl
  obtain ⟨cHZ_3,fHZ_3⟩:=HZ.2 3 _ rfl
  have lZ:=HZ.1
  go_wp2
  refine bodyPost_ret (v:=.tuple #[.agg #[.int .i64 lw_.n,.int .i64 lw_.d,.int .i64 up_.n,.int .i64 up_.d],.bool true]) (by simp [results,Tryz.results242,go_sem, *]) rfl ⟨by rw [C.out];rfl, ?_⟩
  exact ZF b5 (by omega) (o:=0) [_,_,_,_]
set_option maxRecDepth 100000 in
set_option maxHeartbeats 8000000 in
theorem sMeet2_c (x y:YX) (w:World) (hx:x.In) (hy:y.In) :
 Calls Tryz.prog 184 #[Yf x,Yf y] w fun e w'=>e=.returned (ZZ (Yl x y))∧Below w.heap.size w w':=by
 have c1:=fun W=>sSpanOk_c x W hx
 have c2:=fun W=>sSpanOk_c y W hy
 obtain ⟨W,hW⟩:∃ W,W=((w.alloc (.cells #[.int .i64 x.low.n,.int .i64 x.low.d,.int .i64 x.high.n,.int .i64 x.high.d] 72)).alloc (.cells #[.int .i64 y.low.n,.int .i64 y.low.d,.int .i64 y.high.n,.int .i64 y.high.d] 72)).alloc (.cells #[.int .i64 0,.int .i64 0,.int .i64 0,.int .i64 0] 72):=⟨_,rfl⟩
 have HA:Xy W w.heap.size 72 [.int .i64 x.low.n,.int .i64 x.low.d,.int .i64 x.high.n,.int .i64 x.high.d]:=by
  rw [hW]
  exact ((Xy.new w [.int .i64 x.low.n,.int .i64 x.low.d,.int .i64 x.high.n,.int .i64 x.high.d] 72).alloc _).alloc _
 have HB:Xy W (w.heap.size+1) 72 [.int .i64 y.low.n,.int .i64 y.low.d,.int .i64 y.high.n,.int .i64 y.high.d]:=by
  rw [hW]
  have h1:=((Xy.new (w.alloc (.cells #[.int .i64 x.low.n,.int .i64 x.low.d,.int .i64 x.high.n,.int .i64 x.high.d] 72)) [.int .i64 y.low.n,.int .i64 y.low.d,.int .i64 y.high.n,.int .i64 y.high.d] 72).alloc (.cells #[.int .i64 0,.int .i64 0,.int .i64 0,.int .i64 0] 72))
  simp only [World.size_alloc] at h1
  exact h1
 have HR:Xy W (w.heap.size+1+1) 72 [.int .i64 0,.int .i64 0,.int .i64 0,.int .i64 0]:=by
  rw [hW]
  have h1:=Xy.new ((w.alloc (.cells #[.int .i64 x.low.n,.int .i64 x.low.d,.int .i64 x.high.n,.int .i64 x.high.d] 72)).alloc (.cells #[.int .i64 y.low.n,.int .i64 y.low.d,.int .i64 y.high.n,.int .i64 y.high.d] 72)) [.int .i64 0,.int .i64 0,.int .i64 0,.int .i64 0] 72
  simp only [World.size_alloc] at h1
  exact h1
 have b0:Below w.heap.size w W:=by
  rw [hW]
  exact Xo
 have zW:=XX HR
 have hW':=Lib.hid hW
 clear hW
 cases e1:Xv x
 ·have C:=Lib.hid (show Yl x y=none by unfold Yl;rw [if_neg (by rw [e1];simp)])
  rw [e1] at c1
  have HA_:=HA.has
  have HB_:=HB.has
  obtain ⟨cHA__0,fHA__0⟩:=HA_.2 0 _ rfl
  obtain ⟨cHA__1,fHA__1⟩:=HA_.2 1 _ rfl
  obtain ⟨cHA__2,fHA__2⟩:=HA_.2 2 _ rfl
  obtain ⟨cHA__3,fHA__3⟩:=HA_.2 3 _ rfl
  obtain ⟨cHB__0,fHB__0⟩:=HB_.2 0 _ rfl
  obtain ⟨cHB__1,fHB__1⟩:=HB_.2 1 _ rfl
  obtain ⟨cHB__2,fHB__2⟩:=HB_.2 2 _ rfl
  obtain ⟨cHB__3,fHB__3⟩:=HB_.2 3 _ rfl
  have lA:=HA_.1
  have lB:=HB_.1
  go_enter Tryz.func184,Tryz.ntmps184
  go_upto_region 1 with fail
  rw [← hW'.out]
  clear hW'
  go_wp2_with (fail)
  refine (c1 _).mono ?_
  rintro e w1 ⟨rfl,hb1⟩
  have b1:=Xh b0 hb1
  have HZ:=(HR.below hb1).has
  obtain ⟨cHZ_0,fHZ_0⟩:=HZ.2 0 _ rfl
  obtain ⟨cHZ_1,fHZ_1⟩:=HZ.2 1 _ rfl
  obtain ⟨cHZ_2,fHZ_2⟩:=HZ.2 2 _ rfl
  obtain ⟨cHZ_3,fHZ_3⟩:=HZ.2 3 _ rfl
  have lZ:=HZ.1
  go_wp2
  refine bodyPost_ret (v:=.tuple #[.agg #[.int .i64 0,.int .i64 0,.int .i64 0,.int .i64 0],.bool false]) (by simp [results,Tryz.results184,go_sem, *]) rfl ⟨by rw [C.out];rfl, ?_⟩
  exact ZF b1 (by omega) (o:=0) [_,_,_,_]
 rw [e1] at c1
 cases e2:Xv y
 ·have C:=Lib.hid (show Yl x y=none by unfold Yl;rw [if_neg (by rw [e2];simp)])
  rw [e2] at c2
  have HA_:=HA.has
  have HB_:=HB.has
  obtain ⟨cHA__0,fHA__0⟩:=HA_.2 0 _ rfl
  obtain ⟨cHA__1,fHA__1⟩:=HA_.2 1 _ rfl
  obtain ⟨cHA__2,fHA__2⟩:=HA_.2 2 _ rfl
  obtain ⟨cHA__3,fHA__3⟩:=HA_.2 3 _ rfl
  obtain ⟨cHB__0,fHB__0⟩:=HB_.2 0 _ rfl
  obtain ⟨cHB__1,fHB__1⟩:=HB_.2 1 _ rfl
  obtain ⟨cHB__2,fHB__2⟩:=HB_.2 2 _ rfl
  obtain ⟨cHB__3,fHB__3⟩:=HB_.2 3 _ rfl
  have lA:=HA_.1
  have lB:=HB_.1
  go_enter Tryz.func184,Tryz.ntmps184
  go_upto_region 1 with fail
  rw [← hW'.out]
  clear hW'
  go_wp2_with (fail)
  refine (c1 _).mono ?_
  rintro e w1 ⟨rfl,hb1⟩
  have r1:=Xn hb1
  have l1:=blt hb1 lB
  go_wp2_with (fail)
  refine (c2 _).mono ?_
  rintro e w2 ⟨rfl,hb2⟩
  have b2:=Xh (Xh b0 hb1) hb2
  have HZ:=((HR.below hb1).below hb2).has
  obtain ⟨cHZ_0,fHZ_0⟩:=HZ.2 0 _ rfl
  obtain ⟨cHZ_1,fHZ_1⟩:=HZ.2 1 _ rfl
  obtain ⟨cHZ_2,fHZ_2⟩:=HZ.2 2 _ rfl
  obtain ⟨cHZ_3,fHZ_3⟩:=HZ.2 3 _ rfl
  have lZ:=HZ.1
  go_wp2
  refine bodyPost_ret (v:=.tuple #[.agg #[.int .i64 0,.int .i64 0,.int .i64 0,.int .i64 0],.bool false]) (by simp [results,Tryz.results184,go_sem, *]) rfl ⟨by rw [C.out];rfl, ?_⟩
  exact ZF b2 (by omega) (o:=0) [_,_,_,_]
 rw [e2] at c2
 have ok1:=e1
 have ok2:=e2
 simp only [Xv,Bool.and_eq_true] at ok1 ok2
 have kM:=fun W=>sRatioMax_c x.low y.low W hx.1 hy.1
 have kN:=fun W=>sRatioMin_c x.high y.high W hx.2 hy.2
 have hmx:=ratioMax_in hx.1 hy.1
 have hmn:=ratioMin_in hx.2 hy.2
 have hdef:=Lib.hid (show Yl x y=if Xv ⟨Yb x.low y.low,Ya x.high y.high⟩=true then some ⟨Yb x.low y.low,Ya x.high y.high⟩ else none by unfold Yl;rw [e1,e2];simp)
 clear ok1 ok2 e1 e2
 obtain ⟨lw_,hlo⟩:∃ lw_,lw_=Yb x.low y.low:=⟨_,rfl⟩
 obtain ⟨up_,hhi⟩:∃ up_,up_=Ya x.high y.high:=⟨_,rfl⟩
 rw [← hlo] at kM hmx
 rw [← hhi] at kN hmn
 rw [← hlo,← hhi] at hdef
 clear hlo hhi
 have c3:=fun W=>sSpanOk_c ⟨lw_,up_⟩ W ⟨hmx,hmn⟩
 have HA_:=HA.has
 have HB_:=HB.has
 obtain ⟨cHA__0,fHA__0⟩:=HA_.2 0 _ rfl
 obtain ⟨cHA__1,fHA__1⟩:=HA_.2 1 _ rfl
 obtain ⟨cHA__2,fHA__2⟩:=HA_.2 2 _ rfl
 obtain ⟨cHA__3,fHA__3⟩:=HA_.2 3 _ rfl
 obtain ⟨cHB__0,fHB__0⟩:=HB_.2 0 _ rfl
 obtain ⟨cHB__1,fHB__1⟩:=HB_.2 1 _ rfl
 obtain ⟨cHB__2,fHB__2⟩:=HB_.2 2 _ rfl
 obtain ⟨cHB__3,fHB__3⟩:=HB_.2 3 _ rfl
 have lA:=HA_.1
 have lB:=HB_.1
 go_enter Tryz.func184,Tryz.ntmps184
 go_upto_region 1 with fail
 rw [← hW'.out]
 clear hW'
 go_wp2_with (fail)
 refine (c1 _).mono ?_
 rintro e w1 ⟨rfl,hb1⟩
 have r1:=Xn hb1
 have l1:=blt hb1 lB
 go_wp2_with (fail)
 refine (c2 _).mono ?_
 rintro e w2 ⟨rfl,hb2⟩
 have A2:=(HA.below hb1).below hb2
 have B2:=(HB.below hb1).below hb2
 have R2:=(HR.below hb1).below hb2
 have b2:=Xh (Xh b0 hb1) hb2
 clear HA_ HB_ cHA__0 cHA__1 cHA__2 cHA__3 fHA__0 fHA__1 fHA__2 fHA__3 cHB__0 cHB__1 cHB__2 cHB__3 fHB__0 fHB__1 fHB__2 fHB__3 lA lB HA HB HR b0 c1 c2 r1 l1 hb1 hb2
 go_upto_region 3 with fail
 have lA:=XX A2
 have lB:=XX B2
 have lR:=XX R2
 have hBWA:w2.heap.size≤w2.heap.size:=Nat.le_refl _
 have hTA_0:=A2
 have hTA_1:=B2
 have hTA_2:=R2
 obtain ⟨IA,hIA⟩:∃ I:Act→(Nat→Bool)→Act→World→Prop,I=(fun a0 L a w'=>Yk a0 a [16,17,18,19,20,21,22,23,24,25,26,6]∧Below (w2.heap.size) w2 w'∧(L 0=true→a.tmps[16]?.getD undef=.pointer (some ⟨w.heap.size,0,none⟩))∧(L 1=true→a.tmps[17]?.getD undef=.agg #[.int .i64 x.low.n,.int .i64 x.low.d])∧(L 2=true→a.tmps[18]?.getD undef=.pointer (some ⟨w.heap.size+1,0,none⟩))∧(L 3=true→a.tmps[19]?.getD undef=.agg #[.int .i64 y.low.n,.int .i64 y.low.d])∧(L 4=true→a.tmps[20]?.getD undef=X6 lw_)∧(L 5=true→a.tmps[21]?.getD undef=.pointer (some ⟨w.heap.size,2,none⟩))∧(L 6=true→a.tmps[22]?.getD undef=.agg #[.int .i64 x.high.n,.int .i64 x.high.d])∧(L 7=true→a.tmps[23]?.getD undef=.pointer (some ⟨w.heap.size+1,2,none⟩))∧(L 8=true→a.tmps[24]?.getD undef=.agg #[.int .i64 y.high.n,.int .i64 y.high.d])∧(L 9=true→a.tmps[25]?.getD undef=X6 up_)∧(L 10=true→a.tmps[26]?.getD undef=.agg #[.int .i64 lw_.n,.int .i64 lw_.d,.int .i64 up_.n,.int .i64 up_.d])∧(L 1=true→L 0=true)∧(L 3=true→L 2=true)∧(L 4=true→L 1=true)∧(L 4=true→L 3=true)∧(L 6=true→L 5=true)∧(L 8=true→L 7=true)∧(L 9=true→L 6=true)∧(L 9=true→L 8=true)∧(L 10=true→L 4=true)∧(L 10=true→L 9=true)∧(L 12=true→L 10=true)∧(L 12=true→L 11=true)∧(L 11=true→∃ g:Nat,a.tmps[6]?.getD undef=.pointer (some ⟨g,0,none⟩)∧w2.heap.size≤g∧(L 12=false→Xy w' g 72 [.int .i64 0,.int .i64 0,.int .i64 0,.int .i64 0])∧(L 12=true→Xy w' (g) 72 [.int .i64 lw_.n,.int .i64 lw_.d,.int .i64 up_.n,.int .i64 up_.d]))∧Xy w' (w.heap.size) 72 [.int .i64 x.low.n,.int .i64 x.low.d,.int .i64 x.high.n,.int .i64 x.high.d]∧Xy w' (w.heap.size+1) 72 [.int .i64 y.low.n,.int .i64 y.low.d,.int .i64 y.high.n,.int .i64 y.high.d]∧Xy w' (w.heap.size+1+1) 72 [.int .i64 0,.int .i64 0,.int .i64 0,.int .i64 0]):=⟨_,rfl⟩
 refine Jq (by kernel_rfl) (by kernel_rfl) IA ?h0 ?hs ?he
 case h0 =>
  rw [hIA]
  exact ⟨Yk.refl _ _,bR.drew,fun h=>absurd h (by simp),fun h=>absurd h (by simp),fun h=>absurd h (by simp),fun h=>absurd h (by simp),fun h=>absurd h (by simp),fun h=>absurd h (by simp),fun h=>absurd h (by simp),fun h=>absurd h (by simp),fun h=>absurd h (by simp),fun h=>absurd h (by simp),fun h=>absurd h (by simp),fun h=>absurd h (by simp),fun h=>absurd h (by simp),fun h=>absurd h (by simp),fun h=>absurd h (by simp),fun h=>absurd h (by simp),fun h=>absurd h (by simp),fun h=>absurd h (by simp),fun h=>absurd h (by simp),fun h=>absurd h (by simp),fun h=>absurd h (by simp),fun h=>absurd h (by simp),fun h=>absurd h (by simp),fun h=>absurd h (by simp),hTA_0,hTA_1,hTA_2⟩
 case hs =>
  intro L a w' i o ho hLi hd hI'
  rw [hIA] at hI'
  obtain ⟨C,S,ci0,ci1,ci2,ci3,ci4,ci5,ci6,ci7,ci8,ci9,ci10,cp1_0,cp3_2,cp4_1,cp4_3,cp6_5,cp8_7,cp9_6,cp9_8,cp10_4,cp10_9,cp12_10,cp12_11,ca3,cy0,cy1,cy2⟩:=hI'
  have hi:i<13:=by
   rcases Nat.lt_or_ge i 13 with h|h
   ·exact h
   ·rw [List.getElem?_eq_none (by simpa using h)] at ho;cases ho
  have zB:=S.size
  have hBw:w2.heap.size≤w'.heap.size:=Nat.le_trans hBWA zB
  obtain rfl|rfl|rfl|rfl|rfl|rfl|rfl|rfl|rfl|rfl|rfl|rfl|rfl:i=0∨i=1∨i=2∨i=3∨i=4∨i=5∨i=6∨i=7∨i=8∨i=9∨i=10∨i=11∨i=12:=by omega
  ·simp only [List.getElem?_cons_zero,Option.some.injEq] at ho
   subst ho
   rw [if_pos (by simp [Region.wanted])]
   have e0:a.tmps[2]?.getD undef=.pointer (some ⟨w.heap.size,0,none⟩):=C.get (by decide)
   simp [go_sem,Array.getD_eq_getD_getElem?,e0]
   rw [hIA]
   exact ⟨C.put (by decide) _,S,fun _=>Xc (C.lt (by simp)) _,XS ci1 (by decide) rfl,XS ci2 (by decide) rfl,XS ci3 (by decide) rfl,XS ci4 (by decide) rfl,XS ci5 (by decide) rfl,XS ci6 (by decide) rfl,XS ci7 (by decide) rfl,XS ci8 (by decide) rfl,XS ci9 (by decide) rfl,XS ci10 (by decide) rfl,fun _=>by simp,XW cp3_2 rfl,XW cp4_1 rfl,XW cp4_3 rfl,XW cp6_5 rfl,XW cp8_7 rfl,XW cp9_6 rfl,XW cp9_8 rfl,XW cp10_4 rfl,XW cp10_9 rfl,XW cp12_10 rfl,XW cp12_11 rfl,fun h=>by obtain ⟨g2,e2,hg2,y2,z2⟩:=ca3 (by simpa using h);exact ⟨g2,(Yq (by decide) _).trans e2,hg2,fun h=>y2 (by simpa using h),fun h=>z2 (by simpa using h)⟩,cy0,cy1,cy2⟩
  ·simp only [List.getElem?_cons_zero,List.getElem?_cons_succ,Option.some.injEq] at ho
   subst ho
   rw [if_pos (by simp [Region.wanted])]
   have d0:=hd { on:=0,ground:=.data } (by simp) (by decide)
   have v0:=ci0 d0
   have HT0:=cy0
   have HH0:=HT0.has
   have lH0:=HH0.1
   obtain ⟨cH0_0,fH0_0⟩:=HH0.2 0 _ rfl
   obtain ⟨cH0_1,fH0_1⟩:=HH0.2 1 _ rfl
   simp [go_sem,Array.getD_eq_getD_getElem?,v0,cH0_0,cH0_1]
   rw [hIA]
   exact ⟨C.put (by decide) _,S,XS ci0 (by decide) rfl,fun _=>Xc (C.lt (by simp)) _,XS ci2 (by decide) rfl,XS ci3 (by decide) rfl,XS ci4 (by decide) rfl,XS ci5 (by decide) rfl,XS ci6 (by decide) rfl,XS ci7 (by decide) rfl,XS ci8 (by decide) rfl,XS ci9 (by decide) rfl,XS ci10 (by decide) rfl,fun _=>by simp [d0],XW cp3_2 rfl,fun _=>by simp,XW cp4_3 rfl,XW cp6_5 rfl,XW cp8_7 rfl,XW cp9_6 rfl,XW cp9_8 rfl,XW cp10_4 rfl,XW cp10_9 rfl,XW cp12_10 rfl,XW cp12_11 rfl,fun h=>by obtain ⟨g2,e2,hg2,y2,z2⟩:=ca3 (by simpa using h);exact ⟨g2,(Yq (by decide) _).trans e2,hg2,fun h=>y2 (by simpa using h),fun h=>z2 (by simpa using h)⟩,cy0,cy1,cy2⟩
  ·simp only [List.getElem?_cons_zero,List.getElem?_cons_succ,Option.some.injEq] at ho
   subst ho
   rw [if_pos (by simp [Region.wanted])]
   have e0:a.tmps[3]?.getD undef=.pointer (some ⟨w.heap.size+1,0,none⟩):=C.get (by decide)
   simp [go_sem,Array.getD_eq_getD_getElem?,e0]
   rw [hIA]
   exact ⟨C.put (by decide) _,S,XS ci0 (by decide) rfl,XS ci1 (by decide) rfl,fun _=>Xc (C.lt (by simp)) _,XS ci3 (by decide) rfl,XS ci4 (by decide) rfl,XS ci5 (by decide) rfl,XS ci6 (by decide) rfl,XS ci7 (by decide) rfl,XS ci8 (by decide) rfl,XS ci9 (by decide) rfl,XS ci10 (by decide) rfl,XW cp1_0 rfl,fun _=>by simp,XW cp4_1 rfl,XW cp4_3 rfl,XW cp6_5 rfl,XW cp8_7 rfl,XW cp9_6 rfl,XW cp9_8 rfl,XW cp10_4 rfl,XW cp10_9 rfl,XW cp12_10 rfl,XW cp12_11 rfl,fun h=>by obtain ⟨g2,e2,hg2,y2,z2⟩:=ca3 (by simpa using h);exact ⟨g2,(Yq (by decide) _).trans e2,hg2,fun h=>y2 (by simpa using h),fun h=>z2 (by simpa using h)⟩,cy0,cy1,cy2⟩
  ·simp only [List.getElem?_cons_zero,List.getElem?_cons_succ,Option.some.injEq] at ho
   subst ho
   rw [if_pos (by simp [Region.wanted])]
   have d2:=hd { on:=2,ground:=.data } (by simp) (by decide)
   have v2:=ci2 d2
   have HT1:=cy1
   have HH1:=HT1.has
   have lH1:=HH1.1
   obtain ⟨cH1_0,fH1_0⟩:=HH1.2 0 _ rfl
   obtain ⟨cH1_1,fH1_1⟩:=HH1.2 1 _ rfl
   simp [go_sem,Array.getD_eq_getD_getElem?,v2,cH1_0,cH1_1]
   rw [hIA]
   exact ⟨C.put (by decide) _,S,XS ci0 (by decide) rfl,XS ci1 (by decide) rfl,XS ci2 (by decide) rfl,fun _=>Xc (C.lt (by simp)) _,XS ci4 (by decide) rfl,XS ci5 (by decide) rfl,XS ci6 (by decide) rfl,XS ci7 (by decide) rfl,XS ci8 (by decide) rfl,XS ci9 (by decide) rfl,XS ci10 (by decide) rfl,XW cp1_0 rfl,fun _=>by simp [d2],XW cp4_1 rfl,fun _=>by simp,XW cp6_5 rfl,XW cp8_7 rfl,XW cp9_6 rfl,XW cp9_8 rfl,XW cp10_4 rfl,XW cp10_9 rfl,XW cp12_10 rfl,XW cp12_11 rfl,fun h=>by obtain ⟨g2,e2,hg2,y2,z2⟩:=ca3 (by simpa using h);exact ⟨g2,(Yq (by decide) _).trans e2,hg2,fun h=>y2 (by simpa using h),fun h=>z2 (by simpa using h)⟩,cy0,cy1,cy2⟩
  ·simp only [List.getElem?_cons_zero,List.getElem?_cons_succ,Option.some.injEq] at ho
   subst ho
   rw [if_pos (by simp [Region.wanted])]
   have d1:=hd { on:=1,ground:=.data } (by simp) (by decide)
   have v1:=ci1 d1
   have d3:=hd { on:=3,ground:=.data } (by simp) (by decide)
   have v3:=ci3 d3
   simp [go_sem,Array.getD_eq_getD_getElem?,v1,v3]
   refine (kM _).mono ?_
   rintro e wx ⟨rfl,hbx⟩
   rw [hIA]
   exact ⟨C.put (by decide) _,S.trans (hbx.mono hBw),XS ci0 (by decide) rfl,XS ci1 (by decide) rfl,XS ci2 (by decide) rfl,XS ci3 (by decide) rfl,fun _=>Xc (C.lt (by simp)) _,XS ci5 (by decide) rfl,XS ci6 (by decide) rfl,XS ci7 (by decide) rfl,XS ci8 (by decide) rfl,XS ci9 (by decide) rfl,XS ci10 (by decide) rfl,XW cp1_0 rfl,XW cp3_2 rfl,fun _=>by simp [d1],fun _=>by simp [d3],XW cp6_5 rfl,XW cp8_7 rfl,XW cp9_6 rfl,XW cp9_8 rfl,fun _=>by simp,XW cp10_9 rfl,XW cp12_10 rfl,XW cp12_11 rfl,fun h=>by obtain ⟨g2,e2,hg2,y2,z2⟩:=ca3 (by simpa using h);exact ⟨g2,(Yq (by decide) _).trans e2,hg2,fun h=>(y2 (by simpa using h)).below hbx,fun h=>(z2 (by simpa using h)).below hbx⟩,(cy0).below hbx,(cy1).below hbx,(cy2).below hbx⟩
  ·simp only [List.getElem?_cons_zero,List.getElem?_cons_succ,Option.some.injEq] at ho
   subst ho
   rw [if_pos (by simp [Region.wanted])]
   have e0:a.tmps[2]?.getD undef=.pointer (some ⟨w.heap.size,0,none⟩):=C.get (by decide)
   simp [go_sem,Array.getD_eq_getD_getElem?,e0]
   rw [hIA]
   exact ⟨C.put (by decide) _,S,XS ci0 (by decide) rfl,XS ci1 (by decide) rfl,XS ci2 (by decide) rfl,XS ci3 (by decide) rfl,XS ci4 (by decide) rfl,fun _=>Xc (C.lt (by simp)) _,XS ci6 (by decide) rfl,XS ci7 (by decide) rfl,XS ci8 (by decide) rfl,XS ci9 (by decide) rfl,XS ci10 (by decide) rfl,XW cp1_0 rfl,XW cp3_2 rfl,XW cp4_1 rfl,XW cp4_3 rfl,fun _=>by simp,XW cp8_7 rfl,XW cp9_6 rfl,XW cp9_8 rfl,XW cp10_4 rfl,XW cp10_9 rfl,XW cp12_10 rfl,XW cp12_11 rfl,fun h=>by obtain ⟨g2,e2,hg2,y2,z2⟩:=ca3 (by simpa using h);exact ⟨g2,(Yq (by decide) _).trans e2,hg2,fun h=>y2 (by simpa using h),fun h=>z2 (by simpa using h)⟩,cy0,cy1,cy2⟩
  ·simp only [List.getElem?_cons_zero,List.getElem?_cons_succ,Option.some.injEq] at ho
   subst ho
   rw [if_pos (by simp [Region.wanted])]
   have d5:=hd { on:=5,ground:=.data } (by simp) (by decide)
   have v5:=ci5 d5
   have HT0:=cy0
   have HH0:=HT0.has
   have lH0:=HH0.1
   obtain ⟨cH0_2,fH0_2⟩:=HH0.2 2 _ rfl
   obtain ⟨cH0_3,fH0_3⟩:=HH0.2 3 _ rfl
   simp [go_sem,Array.getD_eq_getD_getElem?,v5,cH0_2,cH0_3]
   rw [hIA]
   exact ⟨C.put (by decide) _,S,XS ci0 (by decide) rfl,XS ci1 (by decide) rfl,XS ci2 (by decide) rfl,XS ci3 (by decide) rfl,XS ci4 (by decide) rfl,XS ci5 (by decide) rfl,fun _=>Xc (C.lt (by simp)) _,XS ci7 (by decide) rfl,XS ci8 (by decide) rfl,XS ci9 (by decide) rfl,XS ci10 (by decide) rfl,XW cp1_0 rfl,XW cp3_2 rfl,XW cp4_1 rfl,XW cp4_3 rfl,fun _=>by simp [d5],XW cp8_7 rfl,fun _=>by simp,XW cp9_8 rfl,XW cp10_4 rfl,XW cp10_9 rfl,XW cp12_10 rfl,XW cp12_11 rfl,fun h=>by obtain ⟨g2,e2,hg2,y2,z2⟩:=ca3 (by simpa using h);exact ⟨g2,(Yq (by decide) _).trans e2,hg2,fun h=>y2 (by simpa using h),fun h=>z2 (by simpa using h)⟩,cy0,cy1,cy2⟩
  ·simp only [List.getElem?_cons_zero,List.getElem?_cons_succ,Option.some.injEq] at ho
   subst ho
   rw [if_pos (by simp [Region.wanted])]
   have e0:a.tmps[3]?.getD undef=.pointer (some ⟨w.heap.size+1,0,none⟩):=C.get (by decide)
   simp [go_sem,Array.getD_eq_getD_getElem?,e0]
   rw [hIA]
   exact ⟨C.put (by decide) _,S,XS ci0 (by decide) rfl,XS ci1 (by decide) rfl,XS ci2 (by decide) rfl,XS ci3 (by decide) rfl,XS ci4 (by decide) rfl,XS ci5 (by decide) rfl,XS ci6 (by decide) rfl,fun _=>Xc (C.lt (by simp)) _,XS ci8 (by decide) rfl,XS ci9 (by decide) rfl,XS ci10 (by decide) rfl,XW cp1_0 rfl,XW cp3_2 rfl,XW cp4_1 rfl,XW cp4_3 rfl,XW cp6_5 rfl,fun _=>by simp,XW cp9_6 rfl,XW cp9_8 rfl,XW cp10_4 rfl,XW cp10_9 rfl,XW cp12_10 rfl,XW cp12_11 rfl,fun h=>by obtain ⟨g2,e2,hg2,y2,z2⟩:=ca3 (by simpa using h);exact ⟨g2,(Yq (by decide) _).trans e2,hg2,fun h=>y2 (by simpa using h),fun h=>z2 (by simpa using h)⟩,cy0,cy1,cy2⟩
  ·simp only [List.getElem?_cons_zero,List.getElem?_cons_succ,Option.some.injEq] at ho
   subst ho
   rw [if_pos (by simp [Region.wanted])]
   have d7:=hd { on:=7,ground:=.data } (by simp) (by decide)
   have v7:=ci7 d7
   have HT1:=cy1
   have HH1:=HT1.has
   have lH1:=HH1.1
   obtain ⟨cH1_2,fH1_2⟩:=HH1.2 2 _ rfl
   obtain ⟨cH1_3,fH1_3⟩:=HH1.2 3 _ rfl
   simp [go_sem,Array.getD_eq_getD_getElem?,v7,cH1_2,cH1_3]
   rw [hIA]
   exact ⟨C.put (by decide) _,S,XS ci0 (by decide) rfl,XS ci1 (by decide) rfl,XS ci2 (by decide) rfl,XS ci3 (by decide) rfl,XS ci4 (by decide) rfl,XS ci5 (by decide) rfl,XS ci6 (by decide) rfl,XS ci7 (by decide) rfl,fun _=>Xc (C.lt (by simp)) _,XS ci9 (by decide) rfl,XS ci10 (by decide) rfl,XW cp1_0 rfl,XW cp3_2 rfl,XW cp4_1 rfl,XW cp4_3 rfl,XW cp6_5 rfl,fun _=>by simp [d7],XW cp9_6 rfl,fun _=>by simp,XW cp10_4 rfl,XW cp10_9 rfl,XW cp12_10 rfl,XW cp12_11 rfl,fun h=>by obtain ⟨g2,e2,hg2,y2,z2⟩:=ca3 (by simpa using h);exact ⟨g2,(Yq (by decide) _).trans e2,hg2,fun h=>y2 (by simpa using h),fun h=>z2 (by simpa using h)⟩,cy0,cy1,cy2⟩
  ·simp only [List.getElem?_cons_zero,List.getElem?_cons_succ,Option.some.injEq] at ho
   subst ho
   rw [if_pos (by simp [Region.wanted])]
   have d6:=hd { on:=6,ground:=.data } (by simp) (by decide)
   have v6:=ci6 d6
   have d8:=hd { on:=8,ground:=.data } (by simp) (by decide)
   have v8:=ci8 d8
   simp [go_sem,Array.getD_eq_getD_getElem?,v6,v8]
   refine (kN _).mono ?_
   rintro e wx ⟨rfl,hbx⟩
   rw [hIA]
   exact ⟨C.put (by decide) _,S.trans (hbx.mono hBw),XS ci0 (by decide) rfl,XS ci1 (by decide) rfl,XS ci2 (by decide) rfl,XS ci3 (by decide) rfl,XS ci4 (by decide) rfl,XS ci5 (by decide) rfl,XS ci6 (by decide) rfl,XS ci7 (by decide) rfl,XS ci8 (by decide) rfl,fun _=>Xc (C.lt (by simp)) _,XS ci10 (by decide) rfl,XW cp1_0 rfl,XW cp3_2 rfl,XW cp4_1 rfl,XW cp4_3 rfl,XW cp6_5 rfl,XW cp8_7 rfl,fun _=>by simp [d6],fun _=>by simp [d8],XW cp10_4 rfl,fun _=>by simp,XW cp12_10 rfl,XW cp12_11 rfl,fun h=>by obtain ⟨g2,e2,hg2,y2,z2⟩:=ca3 (by simpa using h);exact ⟨g2,(Yq (by decide) _).trans e2,hg2,fun h=>(y2 (by simpa using h)).below hbx,fun h=>(z2 (by simpa using h)).below hbx⟩,(cy0).below hbx,(cy1).below hbx,(cy2).below hbx⟩
  ·simp only [List.getElem?_cons_zero,List.getElem?_cons_succ,Option.some.injEq] at ho
   subst ho
   rw [if_pos (by simp [Region.wanted])]
   have d4:=hd { on:=4,ground:=.data } (by simp) (by decide)
   have v4:=ci4 d4
   have d9:=hd { on:=9,ground:=.data } (by simp) (by decide)
   have v9:=ci9 d9
   simp [go_sem,Array.getD_eq_getD_getElem?,v4,v9]
   rw [hIA]
   exact ⟨C.put (by decide) _,S,XS ci0 (by decide) rfl,XS ci1 (by decide) rfl,XS ci2 (by decide) rfl,XS ci3 (by decide) rfl,XS ci4 (by decide) rfl,XS ci5 (by decide) rfl,XS ci6 (by decide) rfl,XS ci7 (by decide) rfl,XS ci8 (by decide) rfl,XS ci9 (by decide) rfl,fun _=>Xc (C.lt (by simp)) _,XW cp1_0 rfl,XW cp3_2 rfl,XW cp4_1 rfl,XW cp4_3 rfl,XW cp6_5 rfl,XW cp8_7 rfl,XW cp9_6 rfl,XW cp9_8 rfl,fun _=>by simp [d4],fun _=>by simp [d9],fun _=>by simp,XW cp12_11 rfl,fun h=>by obtain ⟨g2,e2,hg2,y2,z2⟩:=ca3 (by simpa using h);exact ⟨g2,(Yq (by decide) _).trans e2,hg2,fun h=>y2 (by simpa using h),fun h=>z2 (by simpa using h)⟩,cy0,cy1,cy2⟩
  ·simp only [List.getElem?_cons_zero,List.getElem?_cons_succ,Option.some.injEq] at ho
   subst ho
   rw [if_pos (by simp [Region.wanted])]
   simp [go_sem]
   rw [hIA]
   exact ⟨C.put (by decide) _,S.alloc hBw _,XS ci0 (by decide) rfl,XS ci1 (by decide) rfl,XS ci2 (by decide) rfl,XS ci3 (by decide) rfl,XS ci4 (by decide) rfl,XS ci5 (by decide) rfl,XS ci6 (by decide) rfl,XS ci7 (by decide) rfl,XS ci8 (by decide) rfl,XS ci9 (by decide) rfl,XS ci10 (by decide) rfl,XW cp1_0 rfl,XW cp3_2 rfl,XW cp4_1 rfl,XW cp4_3 rfl,XW cp6_5 rfl,XW cp8_7 rfl,XW cp9_6 rfl,XW cp9_8 rfl,XW cp10_4 rfl,XW cp10_9 rfl,XW cp12_10 rfl,fun _=>by simp,fun _=>⟨w'.heap.size,Xc (C.lt (by simp)) _,zB,fun _=>Xy.new w' [.int .i64 0,.int .i64 0,.int .i64 0,.int .i64 0] 72,fun h=>by have hq:=cp12_11 (by simpa using h);rw [hLi] at hq;cases hq⟩,(cy0).alloc _,(cy1).alloc _,(cy2).alloc _⟩
  ·simp only [List.getElem?_cons_zero,List.getElem?_cons_succ,Option.some.injEq] at ho
   subst ho
   rw [if_pos (by simp [Region.wanted])]
   have d10:=hd { on:=10,ground:=.data } (by simp) (by decide)
   have v10:=ci10 d10
   have d11:=hd { on:=11,ground:=.data } (by simp) (by decide)
   obtain ⟨gk,ek,hgk,yk,_⟩:=ca3 d11
   have HT3:=yk hLi
   have HH3:=HT3.has
   have lH3:=HH3.1
   obtain ⟨cH3_0,fH3_0⟩:=HH3.2 0 _ rfl
   obtain ⟨cH3_1,fH3_1⟩:=HH3.2 1 _ rfl
   obtain ⟨cH3_2,fH3_2⟩:=HH3.2 2 _ rfl
   obtain ⟨cH3_3,fH3_3⟩:=HH3.2 3 _ rfl
   simp [go_sem,Array.getD_eq_getD_getElem?,v10,ek,cH3_0,fH3_0,cH3_1,fH3_1,cH3_2,fH3_2,cH3_3,fH3_3]
   rw [hIA]
   exact ⟨C,Zd (by omega) [_,_,_,_] 0 _ S,kpK ci0 rfl,kpK ci1 rfl,kpK ci2 rfl,kpK ci3 rfl,kpK ci4 rfl,kpK ci5 rfl,kpK ci6 rfl,kpK ci7 rfl,kpK ci8 rfl,kpK ci9 rfl,kpK ci10 rfl,XW cp1_0 rfl,XW cp3_2 rfl,XW cp4_1 rfl,XW cp4_3 rfl,XW cp6_5 rfl,XW cp8_7 rfl,XW cp9_6 rfl,XW cp9_8 rfl,XW cp10_4 rfl,XW cp10_9 rfl,fun _=>by simp [d10],fun _=>by simp [d11],fun _=>⟨gk,ek,hgk,fun h=>by simp at h,fun _=>HT3.store (us:=[.int .i64 lw_.n,.int .i64 lw_.d,.int .i64 up_.n,.int .i64 up_.d]) rfl⟩,(cy0).other (g':=gk) (by have hl:=XX hTA_0;omega) [.int .i64 lw_.n,.int .i64 lw_.d,.int .i64 up_.n,.int .i64 up_.d] 0,(cy1).other (g':=gk) (by have hl:=XX hTA_1;omega) [.int .i64 lw_.n,.int .i64 lw_.d,.int .i64 up_.n,.int .i64 up_.d] 0,(cy2).other (g':=gk) (by have hl:=XX hTA_2;omega) [.int .i64 lw_.n,.int .i64 lw_.d,.int .i64 up_.n,.int .i64 up_.d] 0⟩
 case he =>
  intro L a' wA Y hI'
  rw [hIA] at hI'
  obtain ⟨C,hbA,ci0,ci1,ci2,ci3,ci4,ci5,ci6,ci7,ci8,ci9,ci10,cp1_0,cp3_2,cp4_1,cp4_3,cp6_5,cp8_7,cp9_6,cp9_8,cp10_4,cp10_9,cp12_10,cp12_11,ca3,cy0,cy1,cy2⟩:=hI'
  obtain ⟨gA_3,eA_b3,hgA_3,_,cz3⟩:=ca3 (Y 11 (by decide))
  have HTA_3:=cz3 (Y 12 (by decide))
  have HTA_0:=cy0
  have HTA_1:=cy1
  have HTA_2:=cy2
  have hout:=C.outG (by simp)
  simp only [List.foldl_cons,List.foldl_nil,eA_b3] at hout
  rw [hout]
  generalize a'.tmps[16]?.getD undef=xA_16
  generalize a'.tmps[17]?.getD undef=xA_17
  generalize a'.tmps[18]?.getD undef=xA_18
  generalize a'.tmps[19]?.getD undef=xA_19
  generalize a'.tmps[20]?.getD undef=xA_20
  generalize a'.tmps[21]?.getD undef=xA_21
  generalize a'.tmps[22]?.getD undef=xA_22
  generalize a'.tmps[23]?.getD undef=xA_23
  generalize a'.tmps[24]?.getD undef=xA_24
  generalize a'.tmps[25]?.getD undef=xA_25
  generalize a'.tmps[26]?.getD undef=xA_26
  clear hout hIA C Y ci0 ci1 ci2 ci3 ci4 ci5 ci6 ci7 ci8 ci9 ci10 cp1_0 cp3_2 cp4_1 cp4_3 cp6_5 cp8_7 cp9_6 cp9_8 cp10_4 cp10_9 cp12_10 cp12_11 ca3 cy0 cy1 cy2
  go_simp
  have HG:=HTA_3.has
  obtain ⟨cHG_0,fHG_0⟩:=HG.2 0 _ rfl
  obtain ⟨cHG_1,fHG_1⟩:=HG.2 1 _ rfl
  obtain ⟨cHG_2,fHG_2⟩:=HG.2 2 _ rfl
  obtain ⟨cHG_3,fHG_3⟩:=HG.2 3 _ rfl
  have lG:=HG.1
  go_wp2_with (fail)
  refine (c3 _).mono ?_
  rintro e w5 ⟨rfl,hb5⟩
  have R5:=HTA_2.below hb5
  have G5:=(HTA_3.below hb5).has
  have b5:=Xh (b2.trans (hbA.mono b2.size)) hb5
  clear HG cHG_0 cHG_1 cHG_2 cHG_3 fHG_0 fHG_1 fHG_2 fHG_3 lG
  cases e3:Xv ⟨lw_,up_⟩
  ·have C:=Lib.hid (hdef.out.trans (by rw [e3]))
   have HZ:=(R5).has
   obtain ⟨cHZ_0,fHZ_0⟩:=HZ.2 0 _ rfl
   obtain ⟨cHZ_1,fHZ_1⟩:=HZ.2 1 _ rfl
   obtain ⟨cHZ_2,fHZ_2⟩:=HZ.2 2 _ rfl
   obtain ⟨cHZ_3,fHZ_3⟩:=HZ.2 3 _ rfl
   have lZ:=HZ.1
   go_wp2
   refine bodyPost_ret (v:=.tuple #[.agg #[.int .i64 0,.int .i64 0,.int .i64 0,.int .i64 0],.bool false]) (by simp [results,Tryz.results184,go_sem, *]) rfl ⟨by rw [C.out];rfl, ?_⟩
   exact ZF b5 (by omega) (o:=0) [_,_,_,_]
  have C:=Lib.hid (hdef.out.trans (by rw [e3]))
  obtain ⟨cG5_0,fG5_0⟩:=G5.2 0 _ rfl
  obtain ⟨cG5_1,fG5_1⟩:=G5.2 1 _ rfl
  obtain ⟨cG5_2,fG5_2⟩:=G5.2 2 _ rfl
  obtain ⟨cG5_3,fG5_3⟩:=G5.2 3 _ rfl
  have lG:=G5.1
  have HZ:=(R5).has
  obtain ⟨cHZ_0,fHZ_0⟩:=HZ.2 0 _ rfl
  obtain ⟨cHZ_1,fHZ_1⟩:=HZ.2 1 _ rfl
  obtain ⟨cHZ_2,fHZ_2⟩:=HZ.2 2 _ rfl
  obtain ⟨cHZ_3,fHZ_3⟩:=HZ.2 3 _ rfl
  have lZ:=HZ.1
  go_wp2
  refine bodyPost_ret (v:=.tuple #[.agg #[.int .i64 lw_.n,.int .i64 lw_.d,.int .i64 up_.n,.int .i64 up_.d],.bool true]) (by simp [results,Tryz.results184,go_sem, *]) rfl ⟨by rw [C.out];rfl, ?_⟩
  exact ZF b5 (by omega) (o:=0) [_,_,_,_]
end Go.Proofs.YtkjimfapbjdafaaGreat
end
section
namespace Go.Proofs.YtkjimfapbjdafaaGreat
open Go.RowKit
theorem adm_no {r:XN} {e:List Half} {s:XJ} (h:100000<s.d):XC r e s=none:=by unfold XC;rw [if_pos h]
theorem adm_def {r:XN} {e:List Half} {s:XJ} (h:¬ 100000<s.d):XC r e s=(admL r s e).bind fun w=>if Xv w=true then some w else none:=by unfold XC;rw [if_neg h]
variable {r:XN} {s:XJ} {e:List Half} {k:Nat} {v:YX} {h:Half}
theorem getD_half (q:k<e.length):e.getD k Xl=e[k]:=by rw [List.getD_eq_getElem?_getD,List.getElem?_eq_getElem q,Option.getD_some]
theorem adm_next (q:k<e.length) (hv:admL r s (e.take k)=some v) {u:YX} (hs:Jg r s v (e.getD k Xl)=some u):admL r s (e.take (k+1))=some u:=by
 rw [admL_take q,hv,Option.bind_some,← getD_half q,hs]
theorem adm_stop (q:k<e.length) (hv:admL r s (e.take k)=some v) (hs:Jg r s v (e.getD k Xl)=none):admL r s e=none :=
 admL_no q (by rw [admL_take q,hv,Option.bind_some,← getD_half q,hs])
theorem step_hi (hn:0<Zj r h):Jg r s v h=some ⟨v.low,Ya v.high (XG (JV r s h) (YC r s*Zj r h))⟩:=by unfold Jg;rw [if_pos hn]
theorem step_lo (hn:Zj r h<0):Jg r s v h=some ⟨Yb v.low (XG (-(JV r s h)) (-(YC r s)*Zj r h)),v.high⟩:=by unfold Jg;rw [if_neg (by omega),if_pos hn]
theorem step_eq (h0:Zj r h=0) (ht:¬ JV r s h<0):Jg r s v h=some v:=by unfold Jg;rw [if_neg (by omega),if_neg (by omega),if_neg ht]
theorem step_out (h0:Zj r h=0) (ht:JV r s h<0):Jg r s v h=none:=by unfold Jg;rw [if_neg (by omega),if_neg (by omega),if_pos ht]
theorem adm_bad (hd:¬ 100000<s.d) (hv:admL r s e=none):XC r e s=none:=by rw [adm_def hd,hv];rfl
theorem adm_bad2 (hd:¬ 100000<s.d) (hv:admL r s e=some v) (hk:Xv v=false):XC r e s=none:=by rw [adm_def hd,hv,Option.bind_some,if_neg (by rw [hk];simp)]
theorem adm_good (hd:¬ 100000<s.d) (hv:admL r s e=some v) (hk:Xv v=true):XC r e s=some v:=by rw [adm_def hd,hv,Option.bind_some,if_pos hk]
theorem sOne_c (n:Int) (w:World) (h : -1000≤n∧n≤1000) :
 Calls Tryz.prog 121 #[.int .i64 n,.int .i64 1] w fun e w'=>e=.returned (X6 ⟨n,1⟩)∧Below w.heap.size w w':=by
 have k:=JH n 1 w ⟨by omega,by omega⟩ ⟨by omega,by omega⟩
 rw [ratio_one h] at k
 exact k
set_option maxRecDepth 100000 in
set_option maxHeartbeats 3000000 in
theorem iAdmit_c (r:XN) (e:List Half) (s:XJ) (ra:Yr) (b:ZR) (w:World) (hr:XU r=true) (he:∀ h∈e,XD h=true) (hle:e.length≤40) (hs:X9 s=true) (hsR:Yo w r ra) (hsE:Sl 3 Xr w b.A e) :
 Calls Tryz.prog 163 #[XH r ra,.agg #[.slice b.A e.length b.c],Yz s] w fun x w'=>x=.returned (ZZ (XC r e s))∧Below w.heap.size w w':=by
 have B:=roomB hr
 obtain ⟨⟨lo1,lo2⟩,⟨hi1,hi2⟩⟩:(-1000≤r.low∧r.low≤1000)∧(-1000≤r.high∧r.high≤1000):=⟨B.low,by have:=B.low;have:=B.high;omega,B.high.2⟩
 refine Y4 Tryz.func163 rfl (n:=97) Tryz.ntmps163 (by simp) ?_
 intro a0 V O ha
 have s0:a0.tmps[0]?.getD undef=XH r ra:=ha 0 _ rfl;have s1:a0.tmps[1]?.getD undef=.agg #[.slice b.A e.length b.c]:=ha 1 _ rfl;have s2:a0.tmps[2]?.getD undef=Yz s:=ha 2 _ rfl;clear ha
 have S:=Below.refl w.heap.size w
 have hZ:=Nat.le_refl w.heap.size
 refine wp_seq ?_
 refine YK [3,4,5,6,7] [.pointer (some ⟨w.heap.size,0,none⟩),.pointer (some ⟨(w.heap.size+1),0,none⟩),.pointer (some ⟨(w.heap.size+2),0,none⟩),.pointer (some ⟨(w.heap.size+3),0,none⟩),.bool false] [some (.cells (Y6 r ra).toArray 39),some (.cells [.slice b.A e.length b.c].toArray 37),some (.cells [.int .i64 s.x,.int .i64 s.y,.int .i64 s.d].toArray 44),some (.cells [.int .i64 0,.int .i64 0,.int .i64 0,.int .i64 0].toArray 72),none] [0,1,2,3,4] [3,4,5,6,7] [0,1,2,3,4] (by kernel_rfl) (by rw [V];decide) (ec ?_ (ec ?_ (ec ?_ (ec ?_ (ec ?_ .nil))))) ?_
 ·intro a w' C hs N Q D;simp [go_sem,C.g rfl s0];rw [hs];exact D
 ·intro a w' C hs N Q D;simp [go_sem,C.g rfl s1];rw [hs];exact D
 ·intro a w' C hs N Q D;simp [go_sem,C.g rfl s2];rw [hs];exact D
 ·intro a w' C hs N Q D;simp [go_sem];rw [hs];exact D
 ·intro a w' C hs N Q D;simp [go_sem];exact D
 intro a1 w2 C X hb hO
 replace V:=C.size.trans V;replace O:=C.defers.trans O
 have s3:a1.tmps[3]?.getD undef=.pointer (some ⟨w.heap.size,0,none⟩):=X 0 (by decide)
 have s4:a1.tmps[4]?.getD undef=.pointer (some ⟨(w.heap.size+1),0,none⟩):=X 1 (by decide)
 have s5:a1.tmps[5]?.getD undef=.pointer (some ⟨(w.heap.size+2),0,none⟩):=X 2 (by decide)
 have s6:a1.tmps[6]?.getD undef=.pointer (some ⟨(w.heap.size+3),0,none⟩):=X 3 (by decide)
 have b3:Xy w2 w.heap.size 39 (Y6 r ra):=hO 0 _ rfl
 have b4:Xy w2 (w.heap.size+1) 37 [.slice b.A e.length b.c]:=hO 1 _ rfl
 have b5:Xy w2 (w.heap.size+2) 44 [.int .i64 s.x,.int .i64 s.y,.int .i64 s.d]:=hO 2 _ rfl
 have b6:Xy w2 (w.heap.size+3) 72 [.int .i64 0,.int .i64 0,.int .i64 0,.int .i64 0]:=hO 3 _ rfl
 have hG:=b6.lt
 replace S:=Xh S hb;have zw2:=Nat.le_trans hZ hb.size;replace hZ:=Nat.le_refl w2.heap.size;clear C X hb hO s0 s1 s2;refine Xj (wp_seq (wp_seq ?_))
 refine Xe (by kernel_rfl) [16,17,18] [some (.pointer (some ⟨(w.heap.size+2),2,none⟩)),some (.int .i64 s.d),some (.bool (decide (s.d > 100000)))] (X7 3) [16,17,18] [0,1,2] [] (fun _ _ _=>True) (by kernel_rfl) (by rw [V];decide) ?_ (en rfl ?_ (en rfl ?_ (en rfl ?_ .nil))) ?_
 ·exact fun _ _=>trivial
 ·intro T J K H _ _ D
  simp [go_sem,H.f.g rfl s5]
  exact (D _ _ H.k rfl trivial)
 ·intro T J K H _ _ D
  simp [go_sem,(gS J 16 (H.d 0 rfl rfl)),(b5.k0 H.k).cell]
  exact (D _ _ H.k rfl trivial)
 ·exact fun T J K H _ _ D=>Yc rfl (ev (H.d 1 rfl rfl)) rfl rfl rfl (D _ _ H.k rfl trivial)
 intro L a7 w8 Y C F X hX;replace V:=C.Z V;replace O:=C.E O;replace s3:=C.G s3;replace s4:=C.G s4;replace s5:=C.G s5;replace s6:=C.G s6;have s18:=gS a7 18 (X 2 _ rfl);replace b3:=b3.k0 F;replace b4:=b4.k0 F;replace b5:=b5.k0 F;replace b6:=b6.k0 F;replace hZ:=Nat.le_trans hZ F.size;replace S:=F.below0 S;clear C F X Y hX;refine Xj ?_
 rcases Bool.eq_false_or_eq_true (decide (s.d > 100000)) with q9|q9
 ·refine wp_cond_true (ev (vb s18 q9)) ?_
  refine wp_seq ?_
  have U:XI [] (fun L aa K=>ZI K (w.heap.size+3) 72 [.int .i64 0,.int .i64 0,.int .i64 0,.int .i64 0] (L 1) (fun _ vs=>vs=[.int .i64 0,.int .i64 0,.int .i64 0,.int .i64 0])):=by
   intro L aa K w' kk vv hkk hb hX
   have x0:=hX
   exact (x0.bel hb (fun _ h=>h))
  refine Xx U (by kernel_rfl) [19,0,7] [some (.agg #[.int .i64 0,.int .i64 0,.int .i64 0,.int .i64 0]),none,some (.bool false)] (X7 3) [19,7] [0,1,2] [(w.heap.size+3)] (by kernel_rfl) (by rw [V];decide) ?_ (en rfl ?_ (en rfl ?_ (en rfl ?_ .nil))) ?_
  ·exact fun _ h=>(⟨fun _=>b6.kp h (by simp),(fun h=>by cases h)⟩)
  ·intro T J K H _ _ D
   simp [go_sem]
   exact (D _ _ H.k rfl H.x)
  ·intro T J K H _ _ D
   have x0:=H.x
   have HT:=x0.1 H.n
   simp [go_sem,(gS J 19 (H.d 0 rfl rfl)),H.f.g rfl s6,HT.cell,HT.frz]
   exact D undef _ (H.k.store (.inr (by simp)) [.int .i64 0,.int .i64 0,.int .i64 0,.int .i64 0] 0) trivial (ZI.set HT (us:=[.int .i64 0,.int .i64 0,.int .i64 0,.int .i64 0]) rfl rfl)
  ·exact oACX rfl rfl fun _ _ _ _ h=>h
  intro L a10 w11 Y C F X hX;have x0:=hX;replace V:=C.Z V;replace O:=C.E O;replace s6:=C.G s6;have s7:=gS a10 7 (X 2 _ rfl);clear b6
  obtain ⟨_,b6,rfl⟩:=x0.2 (Y 1 (by decide))
  replace hZ:=Nat.le_trans hZ F.size
  replace S:=F.below S S.size (by simp<;>omega)
  clear C F X Y x0 U s3 s4 s5 s18 b3 b4 b5;refine Xj (wp_ret (YY ?_))
  refine bodyPost_ret (v:=.tuple #[.agg #[.int .i64 0,.int .i64 0,.int .i64 0,.int .i64 0],.bool false]) (by simp [results,Tryz.results163,go_sem,s6,b6.cell,s7]) O ?_
  exact ⟨by rw [adm_no (Ki q9)];rfl,S⟩
 ·have hd:¬ 100000<s.d:=by have:=Xg q9;omega
  have M:=mapB B hs (by omega)
  have hMd:=M.d
  refine wp_cond_false (ev (vb s18 q9)) ?_
  refine wp_skip (Xj (wp_seq ?_))
  have U:XI [8] (fun L aa K=>(L 7=true→Ye w8 aa K 8 72 [.int .i64 0,.int .i64 0,.int .i64 0,.int .i64 0] (L 8) (fun _ vs=>vs=[.int .i64 r.low,.int .i64 1,.int .i64 r.high,.int .i64 1]))):=by
   intro L aa K w' kk vv hkk hb hX
   have x0:=hX
   exact (fun h=>((x0 h).bel hb (fun _ h=>h)).put (hkk 8 (by simp)) _)
  refine Xx U (by kernel_rfl) [20,21,22,23,24,25,26,8,0] [some (.pointer (some ⟨w.heap.size,4,none⟩)),some (.int .i64 r.low),some (.agg #[.int .i64 r.low,.int .i64 1]),some (.pointer (some ⟨w.heap.size,5,none⟩)),some (.int .i64 r.high),some (.agg #[.int .i64 r.high,.int .i64 1]),some (.agg #[.int .i64 r.low,.int .i64 1,.int .i64 r.high,.int .i64 1]),none,none] ([[],[0],[0,1],[],[3],[0,1,2,3,4],[0,1,2,3,4,5],[],[0,1,2,3,4,5,6,7]]) [20,21,22,23,24,25,26,8] [0,1,2,3,4,5,6,7,8] [] (by kernel_rfl) (by rw [V];decide) ?_ (en rfl ?_ (en rfl ?_ (en rfl ?_ (en rfl ?_ (en rfl ?_ (en rfl ?_ (en rfl ?_ (en rfl ?_ (en rfl ?_ .nil))))))))) ?_
  ·exact fun _ h=>(fun h=>by cases h)
  ·intro T J K H _ _ D
   simp [go_sem,H.f.g rfl s3]
   exact (D _ _ H.k rfl (U.q rfl H.x))
  ·intro T J K H _ _ D
   simp [go_sem,(gS J 20 (H.d 0 rfl rfl)),(b3.k0 H.k).cell]
   exact (D _ _ H.k rfl (U.q rfl H.x))
  ·intro T J K H _ _ D
   simp [go_sem,(gS J 21 (H.d 1 rfl rfl))]
   refine (whole_c r.low K).mono ?_
   rintro x wx ⟨rfl,hb⟩
   exact (D _ _ (H.k.call hb) rfl (U.b rfl hb H.x))
  ·intro T J K H _ _ D
   simp [go_sem,H.f.g rfl s3]
   exact (D _ _ H.k rfl (U.q rfl H.x))
  ·intro T J K H _ _ D
   simp [go_sem,(gS J 23 (H.d 3 rfl rfl)),(b3.k0 H.k).cell]
   exact (D _ _ H.k rfl (U.q rfl H.x))
  ·intro T J K H _ _ D
   simp [go_sem,(gS J 24 (H.d 4 rfl rfl))]
   refine (whole_c r.high K).mono ?_
   rintro x wx ⟨rfl,hb⟩
   exact (D _ _ (H.k.call hb) rfl (U.b rfl hb H.x))
  ·intro T J K H _ _ D
   simp [go_sem,(gS J 22 (H.d 2 rfl rfl)),(gS J 25 (H.d 5 rfl rfl))]
   exact (D _ _ H.k rfl (U.q rfl H.x))
  ·intro T J K H _ _ D
   have x0:=H.x
   simp [go_sem]
   exact D _ _ (H.k.alloc _) trivial (fun _=>by rw [show ZB T 7 8=false from H.t 8 rfl];exact Ye.new (s:=8) (H.f.lt (by rw [V];decide)) H.k.size [.int .i64 0,.int .i64 0,.int .i64 0,.int .i64 0])
  ·intro T J K H _ _ D
   have x0:=H.x
   obtain ⟨g,eg,hg,y,_⟩:=x0 (H.r 7 rfl)
   have HT:=y H.n
   simp [go_sem,(gS J 26 (H.d 6 rfl rfl)),eg,HT.cell,HT.frz]
   exact D undef _ (H.k.store (.inl hg) [.int .i64 r.low,.int .i64 1,.int .i64 r.high,.int .i64 1] 0) trivial (fun _=>Ye.set eg hg HT (us:=[.int .i64 r.low,.int .i64 1,.int .i64 r.high,.int .i64 1]) rfl rfl)
  intro L a12 w13 Y C F X hX;have x0:=hX;replace V:=C.Z V;replace O:=C.E O;replace s3:=C.G s3;replace s4:=C.G s4;replace s5:=C.G s5;replace s6:=C.G s6;replace b3:=b3.k0 F;replace b4:=b4.k0 F;replace b5:=b5.k0 F;replace b6:=b6.k0 F
  obtain ⟨g14,s8,lg14,-,b14⟩:=x0 (Y 7 (by decide))
  obtain ⟨_,b14,rfl⟩:=b14 (Y 8 (by decide))
  have ug14:=b14.lt
  have zw8:=hZ;have zw13:=F.size;replace hZ:=Nat.le_refl w13.heap.size;replace S:=F.below0 S;clear C F X Y x0 U s18;refine Xj (wp_seq ?_)
  refine Xe (by kernel_rfl) [28,29,30,31,32,33,27,34,35,36,9,10,11] [some (Yz s),some (.pointer (some ⟨w.heap.size,0,none⟩)),some (.slice ra.map.A r.map.length ra.map.c),some (.pointer (some ⟨w.heap.size,1,none⟩)),some (.int .i64 r.div),some (.tuple #[.int .i64 (mapX r s),.int .i64 (mapY r s),.int .i64 (YC r s)]),some (.tuple #[.int .i64 (mapX r s),.int .i64 (mapY r s),.int .i64 (YC r s)]),some (.int .i64 (mapX r s)),some (.int .i64 (mapY r s)),some (.int .i64 (YC r s)),some (.int .i64 (mapX r s)),some (.int .i64 (mapY r s)),some (.int .i64 (YC r s))] (X7 13) [28,29,30,31,32,33,27,34,35,36,9,10,11] [0,1,2,3,4,5,6,7,8,9,10,11,12] [] (fun _ _ _=>True) (by kernel_rfl) (by rw [V];decide) ?_ (en rfl ?_ (en rfl ?_ (en rfl ?_ (en rfl ?_ (en rfl ?_ (en rfl ?_ (en rfl ?_ (en rfl ?_ (en rfl ?_ (en rfl ?_ (en rfl ?_ (en rfl ?_ (en rfl ?_ .nil))))))))))))) ?_
  ·exact fun _ _=>trivial
  ·intro T J K H _ _ D
   simp [go_sem,H.f.g rfl s5,(b5.k0 H.k).cell]
   exact (D _ _ H.k rfl trivial)
  ·intro T J K H _ _ D
   simp [go_sem,H.f.g rfl s3]
   exact (D _ _ H.k rfl trivial)
  ·intro T J K H _ _ D
   simp [go_sem,(gS J 29 (H.d 1 rfl rfl)),(b3.k0 H.k).cell]
   exact (D _ _ H.k rfl trivial)
  ·intro T J K H _ _ D
   simp [go_sem,H.f.g rfl s3]
   exact (D _ _ H.k rfl trivial)
  ·intro T J K H _ _ D
   simp [go_sem,(gS J 31 (H.d 3 rfl rfl)),(b3.k0 H.k).cell]
   exact (D _ _ H.k rfl trivial)
  ·intro T J K H _ _ D
   simp [go_sem,(gS J 28 (H.d 0 rfl rfl)),(gS J 30 (H.d 2 rfl rfl)),(gS J 32 (H.d 4 rfl rfl))]
   have hBi:=H.k.below0 S
   refine (mapped_c r.map r.div ra.map.A ra.map.c s K B.len M.x0 M.x1 M.y0 M.y1 M.d (hsR.below hBi).map).mono ?_
   rintro x wx ⟨rfl,hb⟩
   exact (D _ _ (H.k.call hb) rfl trivial)
  ·exact Jj 5 rfl rfl rfl rfl
  ·exact oEDT 6 rfl rfl rfl rfl rfl
  ·exact oEDT 6 rfl rfl rfl rfl rfl
  ·exact oEDT 6 rfl rfl rfl rfl rfl
  ·exact Ke 7 rfl rfl rfl rfl
  ·exact Ke 8 rfl rfl rfl rfl
  ·exact Ke 9 rfl rfl rfl rfl
  intro L a15 w16 Y C F X hX;replace V:=C.Z V;replace O:=C.E O;replace s3:=C.G s3;replace s4:=C.G s4;replace s6:=C.G s6;replace s8:=C.G s8;have s9:=gS a15 9 (X 10 _ rfl);have s10:=gS a15 10 (X 11 _ rfl);have s11:=gS a15 11 (X 12 _ rfl);replace b3:=b3.k0 F;replace b4:=b4.k0 F;replace b6:=b6.k0 F;replace b14:=b14.k0 F;replace hZ:=Nat.le_trans hZ F.size;replace S:=F.below0 S;clear C F X Y hX s5 b5;refine Xj (wp_seq (wp_seq ?_))
  refine Xe (by kernel_rfl) [37,38,39,40] [some (.pointer (some ⟨(w.heap.size+1),0,none⟩)),some (.slice b.A e.length b.c),some (.int .i64 (e.length:Int)),some (.int .i64 0)] (X7 4) [37,38,39,40] [0,1,2,3] [] (fun _ _ _=>True) (by kernel_rfl) (by rw [V];decide) ?_ (en rfl ?_ (en rfl ?_ (en rfl ?_ (en rfl ?_ .nil)))) ?_
  ·exact fun _ _=>trivial
  ·intro T J K H _ _ D
   simp [go_sem,H.f.g rfl s4]
   exact (D _ _ H.k rfl trivial)
  ·intro T J K H _ _ D
   simp [go_sem,(gS J 37 (H.d 0 rfl rfl)),(b4.k0 H.k).cell]
   exact (D _ _ H.k rfl trivial)
  ·intro T J K H _ _ D
   simp [go_sem,(gS J 38 (H.d 1 rfl rfl))]
   exact (D _ _ H.k rfl trivial)
  ·exact oMCT rfl rfl
  intro L a17 w18 Y C F X hX;replace V:=C.Z V;replace O:=C.E O;replace s3:=C.G s3;replace s6:=C.G s6;replace s8:=C.G s8;replace s9:=C.G s9;replace s10:=C.G s10;replace s11:=C.G s11;have s38:=gS a17 38 (X 1 _ rfl);have s39:=gS a17 39 (X 2 _ rfl);have s40:=gS a17 40 (X 3 _ rfl);replace b3:=b3.k0 F;replace b6:=b6.k0 F;replace b14:=b14.k0 F;replace hZ:=Nat.le_trans hZ F.size;replace S:=F.below0 S;clear C F X Y hX s4 b4;refine Xj (wp_block ?_)
  refine wp_loop (fun al wl=>al.tmps.size=97∧al.defers=[]∧∃ (k:Nat) (v:YX),(k≤e.length)∧(admL r s (e.take k)=some v)∧al.tmps[3]?.getD undef=.pointer (some ⟨w.heap.size,0,none⟩)∧al.tmps[6]?.getD undef=.pointer (some ⟨(w.heap.size+3),0,none⟩)∧al.tmps[8]?.getD undef=.pointer (some ⟨g14,0,none⟩)∧al.tmps[9]?.getD undef=.int .i64 (mapX r s)∧al.tmps[10]?.getD undef=.int .i64 (mapY r s)∧al.tmps[11]?.getD undef=.int .i64 (YC r s)∧al.tmps[38]?.getD undef=.slice b.A e.length b.c∧al.tmps[39]?.getD undef=.int .i64 (e.length:Int)∧al.tmps[40]?.getD undef=.int .i64 (k:Int)∧Xy wl w.heap.size 39 (Y6 r ra)∧Xy wl (w.heap.size+3) 72 [.int .i64 0,.int .i64 0,.int .i64 0,.int .i64 0]∧Xy wl g14 72 [.int .i64 v.low.n,.int .i64 v.low.d,.int .i64 v.high.n,.int .i64 v.high.d]∧Below w.heap.size w wl∧w13.heap.size≤wl.heap.size) (fun al _=>(e.length-(intOf (al.tmps[40]?.getD undef)).toNat)) ?_ ?_
  ·exact ⟨V,O,(0),(⟨⟨r.low,1⟩,⟨r.high,1⟩⟩),(Nat.zero_le _),(rfl),s3,s6,s8,s9,s10,s11,s38,s39,s40,b3,b6,b14,S,(by omega)⟩
  clear V O S hZ s3 s6 s8 s9 s10 s11 s38 s39 s40 b3 b6 b14
  rintro a19 w20 ⟨V,O,k,v,hk,hv,s3,s6,s8,s9,s10,s11,s38,s39,s40,b3,b6,b14,S,hZ⟩
  have zw20:=hZ;replace hZ:=Nat.le_refl w20.heap.size
  have hmu:(e.length-(intOf (a19.tmps[40]?.getD undef)).toNat)=(e.length-(intOf ((.int .i64 (k:Int)))).toNat):=by rw [s40]
  refine wp_seq ?_
  refine Xe (by kernel_rfl) [41] [some (.bool (decide ((k:Int)<(e.length:Int))))] (X7 1) [41] [0] [] (fun _ _ _=>True) (by kernel_rfl) (by rw [V];decide) ?_ (en rfl ?_ .nil) ?_
  ·exact fun _ _=>trivial
  ·exact fun T J K H _ _ D=>Yc rfl (ev (H.f.g rfl s40)) (ev (H.f.g rfl s39)) rfl rfl (D _ _ H.k rfl trivial)
  intro L a21 w22 Y C F X hX;replace V:=C.Z V;replace O:=C.E O;replace s3:=C.G s3;replace s6:=C.G s6;replace s8:=C.G s8;replace s9:=C.G s9;replace s10:=C.G s10;replace s11:=C.G s11;replace s38:=C.G s38;replace s39:=C.G s39;replace s40:=C.G s40;have s41:=gS a21 41 (X 0 _ rfl);replace b3:=b3.k0 F;replace b6:=b6.k0 F;replace b14:=b14.k0 F;replace hZ:=Nat.le_trans hZ F.size;replace S:=F.below0 S;clear C F X Y hX;refine Xj (wp_seq ?_)
  rcases Bool.eq_false_or_eq_true (decide ((k:Int)<(e.length:Int))) with q23|q23
  ·have hkl:k<e.length:=by have:=Ki q23;omega
   have hvo:=admL_ok B M he k hk v hv
   have hvi:v.In:=⟨Kv hvo.1,Kv hvo.2⟩
   have P:=admP B M (he _ (Zf hkl))
   obtain ⟨⟨pa1,pa2⟩,⟨pb1,pb2⟩,⟨pc1,pc2⟩,⟨px1,px2⟩,⟨py1,py2⟩,⟨pn1,pn2⟩⟩:=P
   have P:=admP B M (he _ (Zf hkl))
   obtain ⟨be,oe,ee_,fe⟩:=ElS.open_ (hsE.below S) (by omega)
   refine wp_cond_true (ev (vb s41 q23)) ?_
   refine wp_skip (Xj (wp_seq (wp_block (wp_seq ?_))))
   have U:XI [13] (fun L aa K=>(L 2=true→Ye w22 aa K 13 175 [.int .i64 0,.int .i64 0,.int .i64 0] (L 3) (fun _ vs=>vs=[.int .i64 ((e.getD k Xl).a),.int .i64 ((e.getD k Xl).b),.int .i64 ((e.getD k Xl).c)]))):=by
    intro L aa K w' kk vv hkk hb hX
    have x0:=hX
    exact (fun h=>((x0 h).bel hb (fun _ h=>h)).put (hkk 13 (by simp)) _)
   refine Xx U (by kernel_rfl) [42,43,13,0] [some (.pointer (some ⟨be,oe+k*3,none⟩)),some (Zc (e.getD k Xl)),none,none] (X7 4) [42,43,13] [0,1,2,3] [] (by kernel_rfl) (by rw [V];decide) ?_ (en rfl ?_ (en rfl ?_ (en rfl ?_ (en rfl ?_ .nil)))) ?_
   ·exact fun _ h=>(fun h=>by cases h)
   ·intro T J K H _ _ D
    simp [go_sem,H.f.g rfl s38,H.f.g rfl s40,hkl,ee_]
    exact (D _ _ H.k rfl (U.q rfl H.x))
   ·intro T J K H _ _ D
    have hE:=fe.kp H.k (by simp)
    simp [go_sem,(gS J 42 (H.d 0 rfl rfl)),(hE.at_ Xl (i:=k) (by omega) 0 (p:=oe+k*3) (by omega) rfl),(hE.at_ Xl (i:=k) (by omega) 1 (p:=oe+k*3+1) (by omega) rfl),(hE.at_ Xl (i:=k) (by omega) 2 (p:=oe+k*3+2) (by omega) rfl)]
    exact (D _ _ H.k rfl (U.q rfl H.x))
   ·intro T J K H _ _ D
    have x0:=H.x
    simp [go_sem]
    exact D _ _ (H.k.alloc _) trivial (fun _=>by rw [show ZB T 2 3=false from H.t 3 rfl];exact Ye.new (s:=13) (H.f.lt (by rw [V];decide)) H.k.size [.int .i64 0,.int .i64 0,.int .i64 0])
   ·intro T J K H _ _ D
    have x0:=H.x
    obtain ⟨g,eg,hg,y,_⟩:=x0 (H.r 2 rfl)
    have HT:=y H.n
    simp [go_sem,(gS J 43 (H.d 1 rfl rfl)),eg,HT.cell,HT.frz]
    exact D undef _ (H.k.store (.inl hg) [.int .i64 ((e.getD k Xl).a),.int .i64 ((e.getD k Xl).b),.int .i64 ((e.getD k Xl).c)] 0) trivial (fun _=>Ye.set eg hg HT (us:=[.int .i64 ((e.getD k Xl).a),.int .i64 ((e.getD k Xl).b),.int .i64 ((e.getD k Xl).c)]) rfl rfl)
   intro L a24 w25 Y C F X hX;have x0:=hX;replace V:=C.Z V;replace O:=C.E O;replace s3:=C.G s3;replace s6:=C.G s6;replace s8:=C.G s8;replace s9:=C.G s9;replace s10:=C.G s10;replace s11:=C.G s11;replace s38:=C.G s38;replace s39:=C.G s39;replace s40:=C.G s40;replace b3:=b3.k0 F;replace b6:=b6.k0 F;replace b14:=b14.k0 F
   obtain ⟨g26,s13,lg26,-,b26⟩:=x0 (Y 2 (by decide))
   obtain ⟨_,b26,rfl⟩:=b26 (Y 3 (by decide))
   have ug26:=b26.lt
   have zw22:=hZ;have zw25:=F.size;replace hZ:=Nat.le_refl w25.heap.size;replace S:=F.below0 S;clear C F X Y x0 U s41 fe;refine Xj (wp_seq ?_)
   refine Xe (by kernel_rfl) [44,45,46,47,48,49,50,51,52,53,54,55,56,57,14] [some (.pointer (some ⟨g26,2,none⟩)),some (.int .i64 ((e.getD k Xl).c)),some (.int .i64 (YC r s)),some (.int .i64 (((e.getD k Xl).c)*(YC r s))),some (.pointer (some ⟨g26,0,none⟩)),some (.int .i64 ((e.getD k Xl).a)),some (.int .i64 (mapX r s)),some (.int .i64 (((e.getD k Xl).a)*(mapX r s))),some (.int .i64 ((((e.getD k Xl).c)*(YC r s))-(((e.getD k Xl).a)*(mapX r s)))),some (.pointer (some ⟨g26,1,none⟩)),some (.int .i64 ((e.getD k Xl).b)),some (.int .i64 (mapY r s)),some (.int .i64 (((e.getD k Xl).b)*(mapY r s))),some (.int .i64 (((((e.getD k Xl).c)*(YC r s))-(((e.getD k Xl).a)*(mapX r s)))-(((e.getD k Xl).b)*(mapY r s)))),some (.int .i64 (((((e.getD k Xl).c)*(YC r s))-(((e.getD k Xl).a)*(mapX r s)))-(((e.getD k Xl).b)*(mapY r s))))] (X7 15) [44,45,46,47,48,49,50,51,52,53,54,55,56,57,14] [0,1,2,3,4,5,6,7,8,9,10,11,12,13,14] [] (fun _ _ _=>True) (by kernel_rfl) (by rw [V];decide) ?_ (en rfl ?_ (en rfl ?_ (en rfl ?_ (en rfl ?_ (en rfl ?_ (en rfl ?_ (en rfl ?_ (en rfl ?_ (en rfl ?_ (en rfl ?_ (en rfl ?_ (en rfl ?_ (en rfl ?_ (en rfl ?_ (en rfl ?_ .nil))))))))))))))) ?_
   ·exact fun _ _=>trivial
   ·intro T J K H _ _ D
    simp [go_sem,H.f.g rfl s13]
    exact (D _ _ H.k rfl trivial)
   ·intro T J K H _ _ D
    simp [go_sem,(gS J 44 (H.d 0 rfl rfl)),(b26.k0 H.k).cell]
    exact (D _ _ H.k rfl trivial)
   ·exact YA s11 rfl rfl rfl
   ·exact fun T J K H _ _ D=>Jr rfl (ev (H.d 1 rfl rfl)) (ev (H.d 2 rfl rfl)) (by omega) (D _ _ H.k rfl trivial)
   ·intro T J K H _ _ D
    simp [go_sem,H.f.g rfl s13]
    exact (D _ _ H.k rfl trivial)
   ·intro T J K H _ _ D
    simp [go_sem,(gS J 48 (H.d 4 rfl rfl)),(b26.k0 H.k).cell]
    exact (D _ _ H.k rfl trivial)
   ·exact YA s9 rfl rfl rfl
   ·exact fun T J K H _ _ D=>Jr rfl (ev (H.d 5 rfl rfl)) (ev (H.d 6 rfl rfl)) (by omega) (D _ _ H.k rfl trivial)
   ·exact fun T J K H _ _ D=>wp_sub rfl (ev (H.d 3 rfl rfl)) (ev (H.d 7 rfl rfl)) (by omega) (D _ _ H.k rfl trivial)
   ·intro T J K H _ _ D
    simp [go_sem,H.f.g rfl s13]
    exact (D _ _ H.k rfl trivial)
   ·intro T J K H _ _ D
    simp [go_sem,(gS J 53 (H.d 9 rfl rfl)),(b26.k0 H.k).cell]
    exact (D _ _ H.k rfl trivial)
   ·exact YA s10 rfl rfl rfl
   ·exact fun T J K H _ _ D=>Jr rfl (ev (H.d 10 rfl rfl)) (ev (H.d 11 rfl rfl)) (by omega) (D _ _ H.k rfl trivial)
   ·exact fun T J K H _ _ D=>wp_sub rfl (ev (H.d 8 rfl rfl)) (ev (H.d 12 rfl rfl)) (by omega) (D _ _ H.k rfl trivial)
   ·exact Ke 13 rfl rfl rfl rfl
   intro L a27 w28 Y C F X hX;replace V:=C.Z V;replace O:=C.E O;replace s3:=C.G s3;replace s6:=C.G s6;replace s8:=C.G s8;replace s9:=C.G s9;replace s10:=C.G s10;replace s11:=C.G s11;replace s38:=C.G s38;replace s39:=C.G s39;replace s40:=C.G s40;replace s13:=C.G s13;have s14:=gS a27 14 (X 14 _ rfl);replace b3:=b3.k0 F;replace b6:=b6.k0 F;replace b14:=b14.k0 F;replace b26:=b26.k0 F;replace hZ:=Nat.le_trans hZ F.size;replace S:=F.below0 S;clear C F X Y hX
   obtain ⟨T0,eT0⟩:∃ z:Int,z=((((e.getD k Xl).c)*(YC r s))-(((e.getD k Xl).a)*(mapX r s)))-(((e.getD k Xl).b)*(mapY r s)):=⟨_,rfl⟩
   rw [← eT0] at s14
   have hT0:JV r s (e.getD k Xl)=T0:=eT0.symm
   have hTb : -1000000000000000≤T0∧T0≤1000000000000000:=by rw [← hT0];unfold JV;omega
   refine Xj (wp_seq ?_)
   refine Xe (by kernel_rfl) [58,59,60,15] [some (XH r ra),some (Zc (e.getD k Xl)),some (.int .i64 (Zj r (e.getD k Xl))),some (.int .i64 (Zj r (e.getD k Xl)))] (X7 4) [58,59,60,15] [0,1,2,3] [] (fun _ _ _=>True) (by kernel_rfl) (by rw [V];decide) ?_ (en rfl ?_ (en rfl ?_ (en rfl ?_ (en rfl ?_ .nil)))) ?_
   ·exact fun _ _=>trivial
   ·intro T J K H _ _ D
    simp [go_sem,H.f.g rfl s3,(b3.k0 H.k).cell]
    exact (D _ _ H.k rfl trivial)
   ·intro T J K H _ _ D
    simp [go_sem,H.f.g rfl s13,(b26.k0 H.k).cell]
    exact (D _ _ H.k rfl trivial)
   ·intro T J K H _ _ D
    simp [go_sem,(gS J 58 (H.d 0 rfl rfl)),(gS J 59 (H.d 1 rfl rfl))]
    refine (slope_c r ra (e.getD k Xl) K ⟨pa1,pa2⟩ ⟨pb1,pb2⟩).mono ?_
    rintro x wx ⟨rfl,hb⟩
    exact (D _ _ (H.k.call hb) rfl trivial)
   ·exact Ke 2 rfl rfl rfl rfl
   intro L a29 w30 Y C F X hX;replace V:=C.Z V;replace O:=C.E O;replace s3:=C.G s3;replace s6:=C.G s6;replace s8:=C.G s8;replace s9:=C.G s9;replace s10:=C.G s10;replace s11:=C.G s11;replace s38:=C.G s38;replace s39:=C.G s39;replace s40:=C.G s40;replace s14:=C.G s14;have s15:=gS a29 15 (X 3 _ rfl);replace b3:=b3.k0 F;replace b6:=b6.k0 F;replace b14:=b14.k0 F;replace hZ:=Nat.le_trans hZ F.size;replace S:=F.below0 S;clear C F X Y hX s13 b26
   obtain ⟨N0,eN0⟩:∃ z:Int,z=Zj r (e.getD k Xl):=⟨_,rfl⟩
   rw [← eN0] at s15
   have hN0:Zj r (e.getD k Xl)=N0:=eN0.symm
   refine Xj (wp_block (wp_seq ?_))
   refine Xe (by kernel_rfl) [62,63,61] [some (.int .i64 N0),some (.bool (decide (N0 > 0))),some (.bool (decide (N0 > 0)))] (X7 3) [62,63,61] [0,1,2] [] (fun _ _ _=>True) (by kernel_rfl) (by rw [V];decide) ?_ (en rfl ?_ (en rfl ?_ (en rfl ?_ .nil))) ?_
   ·exact fun _ _=>trivial
   ·exact YA s15 rfl rfl rfl
   ·exact fun T J K H _ _ D=>Yc rfl (ev (H.d 0 rfl rfl)) rfl rfl rfl (D _ _ H.k rfl trivial)
   ·exact Ke 1 rfl rfl rfl rfl
   intro L a31 w32 Y C F X hX;replace V:=C.Z V;replace O:=C.E O;replace s3:=C.G s3;replace s6:=C.G s6;replace s8:=C.G s8;replace s9:=C.G s9;replace s10:=C.G s10;replace s11:=C.G s11;replace s38:=C.G s38;replace s39:=C.G s39;replace s40:=C.G s40;replace s14:=C.G s14;replace s15:=C.G s15;have s61:=gS a31 61 (X 2 _ rfl);replace b3:=b3.k0 F;replace b6:=b6.k0 F;replace b14:=b14.k0 F;replace hZ:=Nat.le_trans hZ F.size;replace S:=F.below0 S;clear C F X Y hX;refine Xj ?_
   rcases Bool.eq_false_or_eq_true (decide (N0 > 0)) with q33|q33
   ·have hn:0<Zj r (e.getD k Xl):=by have:=Ki q33;omega
    obtain ⟨ht,hdn⟩:=adm_high P M hn
    have h9:=step_hi (s:=s) (v:=v) hn
    rw [hT0] at ht h9
    rw [hN0] at hdn h9
    refine wp_cond_true (ev (vb s61 q33)) ?_
    have U:XI [] (fun L aa K=>ZI K g14 72 [.int .i64 v.low.n,.int .i64 v.low.d,.int .i64 v.high.n,.int .i64 v.high.d] (L 9) (fun _ vs=>vs=[.int .i64 v.low.n,.int .i64 v.low.d,.int .i64 ((Ya v.high (XG T0 ((YC r s)*N0))).n),.int .i64 ((Ya v.high (XG T0 ((YC r s)*N0))).d)])):=by
     intro L aa K w' kk vv hkk hb hX
     have x0:=hX
     exact (x0.bel hb (fun _ h=>h))
    refine Xx U (by kernel_rfl) [64,65,66,67,68,69,70,71,72,0] [some (.pointer (some ⟨g14,2,none⟩)),some (.agg #[.int .i64 v.high.n,.int .i64 v.high.d]),some (.int .i64 T0),some (.int .i64 (YC r s)),some (.int .i64 N0),some (.int .i64 ((YC r s)*N0)),some (X6 (XG T0 ((YC r s)*N0))),some (X6 (Ya v.high (XG T0 ((YC r s)*N0)))),some (.pointer (some ⟨g14,2,none⟩)),none] ([[],[0],[],[],[],[3,4],[2,3,4,5],[0,1,2,3,4,5,6],[0,1,2,3,4,5,6,7],[0,1,2,3,4,5,6,7,8]]) [64,65,66,67,68,69,70,71,72] [0,1,2,3,4,5,6,7,8,9] [g14] (by kernel_rfl) (by rw [V];decide) ?_ (en rfl ?_ (en rfl ?_ (en rfl ?_ (en rfl ?_ (en rfl ?_ (en rfl ?_ (en rfl ?_ (en rfl ?_ (en rfl ?_ (en rfl ?_ .nil)))))))))) ?_
    ·exact fun _ h=>(⟨fun _=>b14.kp h (by simp),(fun h=>by cases h)⟩)
    ·intro T J K H _ _ D
     simp [go_sem,H.f.g rfl s8]
     exact (D _ _ H.k rfl H.x)
    ·intro T J K H _ _ D
     have x0:=H.x
     have hb0:=x0.1 (H.t 9 rfl)
     simp [go_sem,(gS J 64 (H.d 0 rfl rfl)),hb0.cell]
     exact (D _ _ H.k rfl H.x)
    ·exact Kn s14 rfl rfl rfl fun _ _ _ _ h=>h
    ·exact Kn s11 rfl rfl rfl fun _ _ _ _ h=>h
    ·exact Kn s15 rfl rfl rfl fun _ _ _ _ h=>h
    ·exact fun T J K H _ _ D=>Jr rfl (ev (H.d 3 rfl rfl)) (ev (H.d 4 rfl rfl)) (by omega) (D _ _ H.k rfl H.x)
    ·intro T J K H _ _ D
     simp [go_sem,(gS J 66 (H.d 2 rfl rfl)),(gS J 69 (H.d 5 rfl rfl))]
     refine (iRatioOf_c T0 ((YC r s)*N0) K ⟨by omega,by omega⟩ ⟨by omega,by omega⟩).mono ?_
     rintro x wx ⟨rfl,hb⟩
     exact (D _ _ (H.k.call hb) rfl (U T J K _ none undef (by simp) hb H.x))
    ·intro T J K H _ _ D
     simp [go_sem,(gS J 65 (H.d 1 rfl rfl)),(gS J 70 (H.d 6 rfl rfl))]
     refine (iRatioMin_c v.high (XG T0 ((YC r s)*N0)) K hvi.2 (Kv (YN ht hdn).1)).mono ?_
     rintro x wx ⟨rfl,hb⟩
     exact (D _ _ (H.k.call hb) rfl (U T J K _ none undef (by simp) hb H.x))
    ·intro T J K H _ _ D
     simp [go_sem,H.f.g rfl s8]
     exact (D _ _ H.k rfl H.x)
    ·intro T J K H _ _ D
     have x0:=H.x
     have HT:=x0.1 H.n
     simp [go_sem,(gS J 72 (H.d 8 rfl rfl)),(gS J 71 (H.d 7 rfl rfl)),HT.cell,HT.frz]
     exact D undef _ (H.k.store (.inr (by simp)) [.int .i64 ((Ya v.high (XG T0 ((YC r s)*N0))).n),.int .i64 ((Ya v.high (XG T0 ((YC r s)*N0))).d)] 2) trivial (⟨(fun q=>by cases q),fun _=>⟨_,((HT.set_ 2 _).set_ 3 _),rfl⟩⟩)
    intro L a34 w35 Y C F X hX;have x0:=hX;replace V:=C.Z V;replace O:=C.E O;replace s3:=C.G s3;replace s6:=C.G s6;replace s8:=C.G s8;replace s9:=C.G s9;replace s10:=C.G s10;replace s11:=C.G s11;replace s38:=C.G s38;replace s39:=C.G s39;replace s40:=C.G s40
    replace b3:=b3.kp F (by simp<;>omega)
    replace b6:=b6.kp F (by simp<;>omega)
    clear b14
    obtain ⟨_,b14,rfl⟩:=x0.2 (Y 9 (by decide))
    replace hZ:=Nat.le_trans hZ F.size
    replace S:=F.below S S.size (by simp<;>omega)
    clear C F X Y x0 U s14 s15 s61;refine J0 (J0 (Xj ?_))
    refine Xe (by kernel_rfl) [91,40] [some (.int .i64 ((k:Int)+1)),some (.int .i64 ((k:Int)+1))] (X7 2) [91,40] [0,1] [] (fun L aa K=>(L 1=false→aa.tmps[40]?.getD undef=.int .i64 (k:Int))) (by kernel_rfl) (by rw [V];decide) ?_ (en rfl ?_ (en rfl ?_ .nil)) ?_
    ·exact fun _ h=>(fun _=>s40)
    ·intro T J K H _ _ D
     have x0:=H.x
     exact ZY rfl (ev (x0 (H.t 1 rfl))) rfl (by omega) (D _ _ H.k rfl (fun h=>(Xb (by decide) _).trans (x0 h)))
    ·intro T J K H _ _ D
     have x0:=H.x
     exact XF rfl (ev (H.d 0 rfl rfl)) (D _ _ H.k rfl (fun h=>by simp [ZB] at h))
    intro L a36 w37 Y C F X hX;have x0:=hX;replace V:=C.Z V;replace O:=C.E O;replace s3:=C.G s3;replace s6:=C.G s6;replace s8:=C.G s8;replace s9:=C.G s9;replace s10:=C.G s10;replace s11:=C.G s11;replace s38:=C.G s38;replace s39:=C.G s39;have s40:=gS a36 40 (X 1 _ rfl);replace b3:=b3.k0 F;replace b6:=b6.k0 F;replace b14:=b14.k0 F;replace hZ:=Nat.le_trans hZ F.size;replace S:=F.below0 S;clear C F X Y x0;refine Xj ?_
    refine ⟨?_, ?_⟩
    ·exact ⟨V,O,(k+1),(⟨⟨v.low.n,v.low.d⟩,⟨(Ya v.high (XG T0 ((YC r s)*N0))).n,(Ya v.high (XG T0 ((YC r s)*N0))).d⟩⟩),(by omega),(adm_next hkl hv h9),s3,s6,s8,s9,s10,s11,s38,s39,s40,b3,b6,b14,S,(by omega)⟩
    ·show (e.length-(intOf (a36.tmps[40]?.getD undef)).toNat)<_
     rw [s40,hmu];simp only [intOf];omega
   ·refine wp_cond_false (ev (vb s61 q33)) ?_
    refine wp_seq ?_
    refine Xe (by kernel_rfl) [74,75,73] [some (.int .i64 N0),some (.bool (decide (N0<0))),some (.bool (decide (N0<0)))] (X7 3) [74,75,73] [0,1,2] [] (fun _ _ _=>True) (by kernel_rfl) (by rw [V];decide) ?_ (en rfl ?_ (en rfl ?_ (en rfl ?_ .nil))) ?_
    ·exact fun _ _=>trivial
    ·exact YA s15 rfl rfl rfl
    ·exact fun T J K H _ _ D=>Yc rfl (ev (H.d 0 rfl rfl)) rfl rfl rfl (D _ _ H.k rfl trivial)
    ·exact Ke 1 rfl rfl rfl rfl
    intro L a38 w39 Y C F X hX;replace V:=C.Z V;replace O:=C.E O;replace s3:=C.G s3;replace s6:=C.G s6;replace s8:=C.G s8;replace s9:=C.G s9;replace s10:=C.G s10;replace s11:=C.G s11;replace s38:=C.G s38;replace s39:=C.G s39;replace s40:=C.G s40;replace s14:=C.G s14;replace s15:=C.G s15;have s73:=gS a38 73 (X 2 _ rfl);replace b3:=b3.k0 F;replace b6:=b6.k0 F;replace b14:=b14.k0 F;replace hZ:=Nat.le_trans hZ F.size;replace S:=F.below0 S;clear C F X Y hX s61;refine Xj ?_
    rcases Bool.eq_false_or_eq_true (decide (N0<0)) with q40|q40
    ·have hn:Zj r (e.getD k Xl)<0:=by have:=Ki q40;omega
     obtain ⟨ht,hdn⟩:=adm_low P M hn
     have h9:=step_lo (s:=s) (v:=v) hn
     rw [hT0] at ht h9
     rw [hN0] at hdn h9
     refine wp_cond_true (ev (vb s73 q40)) ?_
     have U:XI [] (fun L aa K=>ZI K g14 72 [.int .i64 v.low.n,.int .i64 v.low.d,.int .i64 v.high.n,.int .i64 v.high.d] (L 11) (fun _ vs=>vs=[.int .i64 ((Yb v.low (XG (-T0) ((-(YC r s))*N0))).n),.int .i64 ((Yb v.low (XG (-T0) ((-(YC r s))*N0))).d),.int .i64 v.high.n,.int .i64 v.high.d])):=by
      intro L aa K w' kk vv hkk hb hX
      have x0:=hX
      exact (x0.bel hb (fun _ h=>h))
     refine Xx U (by kernel_rfl) [76,77,78,79,80,81,82,83,84,85,86,0] [some (.pointer (some ⟨g14,0,none⟩)),some (.agg #[.int .i64 v.low.n,.int .i64 v.low.d]),some (.int .i64 T0),some (.int .i64 (-T0)),some (.int .i64 (YC r s)),some (.int .i64 (-(YC r s))),some (.int .i64 N0),some (.int .i64 ((-(YC r s))*N0)),some (X6 (XG (-T0) ((-(YC r s))*N0))),some (X6 (Yb v.low (XG (-T0) ((-(YC r s))*N0)))),some (.pointer (some ⟨g14,0,none⟩)),none] ([[],[0],[],[2],[],[4],[],[4,5,6],[2,3,4,5,6,7],[0,1,2,3,4,5,6,7,8],[0,1,2,3,4,5,6,7,8,9],[0,1,2,3,4,5,6,7,8,9,10]]) [76,77,78,79,80,81,82,83,84,85,86] [0,1,2,3,4,5,6,7,8,9,10,11] [g14] (by kernel_rfl) (by rw [V];decide) ?_ (en rfl ?_ (en rfl ?_ (en rfl ?_ (en rfl ?_ (en rfl ?_ (en rfl ?_ (en rfl ?_ (en rfl ?_ (en rfl ?_ (en rfl ?_ (en rfl ?_ (en rfl ?_ .nil)))))))))))) ?_
     ·exact fun _ h=>(⟨fun _=>b14.kp h (by simp),(fun h=>by cases h)⟩)
     ·intro T J K H _ _ D
      simp [go_sem,H.f.g rfl s8]
      exact (D _ _ H.k rfl H.x)
     ·intro T J K H _ _ D
      have x0:=H.x
      have hb0:=x0.1 (H.t 11 rfl)
      simp [go_sem,(gS J 76 (H.d 0 rfl rfl)),hb0.cell]
      exact (D _ _ H.k rfl H.x)
     ·exact Kn s14 rfl rfl rfl fun _ _ _ _ h=>h
     ·exact fun T J K H _ _ D=>wp_neg rfl (ev (H.d 2 rfl rfl)) (by omega) (D _ _ H.k rfl H.x)
     ·exact Kn s11 rfl rfl rfl fun _ _ _ _ h=>h
     ·exact fun T J K H _ _ D=>wp_neg rfl (ev (H.d 4 rfl rfl)) (by omega) (D _ _ H.k rfl H.x)
     ·exact Kn s15 rfl rfl rfl fun _ _ _ _ h=>h
     ·exact fun T J K H _ _ D=>Jr rfl (ev (H.d 5 rfl rfl)) (ev (H.d 6 rfl rfl)) (by omega) (D _ _ H.k rfl H.x)
     ·intro T J K H _ _ D
      simp [go_sem,(gS J 79 (H.d 3 rfl rfl)),(gS J 83 (H.d 7 rfl rfl))]
      refine (iRatioOf_c (-T0) ((-(YC r s))*N0) K ⟨by omega,by omega⟩ ⟨by omega,by omega⟩).mono ?_
      rintro x wx ⟨rfl,hb⟩
      exact (D _ _ (H.k.call hb) rfl (U T J K _ none undef (by simp) hb H.x))
     ·intro T J K H _ _ D
      simp [go_sem,(gS J 77 (H.d 1 rfl rfl)),(gS J 84 (H.d 8 rfl rfl))]
      refine (iRatioMax_c v.low (XG (-T0) ((-(YC r s))*N0)) K hvi.1 (Kv (YN ht hdn).1)).mono ?_
      rintro x wx ⟨rfl,hb⟩
      exact (D _ _ (H.k.call hb) rfl (U T J K _ none undef (by simp) hb H.x))
     ·intro T J K H _ _ D
      simp [go_sem,H.f.g rfl s8]
      exact (D _ _ H.k rfl H.x)
     ·intro T J K H _ _ D
      have x0:=H.x
      have HT:=x0.1 H.n
      simp [go_sem,(gS J 86 (H.d 10 rfl rfl)),(gS J 85 (H.d 9 rfl rfl)),HT.cell,HT.frz]
      exact D undef _ (H.k.store (.inr (by simp)) [.int .i64 ((Yb v.low (XG (-T0) ((-(YC r s))*N0))).n),.int .i64 ((Yb v.low (XG (-T0) ((-(YC r s))*N0))).d)] 0) trivial (⟨(fun q=>by cases q),fun _=>⟨_,((HT.set_ 0 _).set_ 1 _),rfl⟩⟩)
     intro L a41 w42 Y C F X hX;have x0:=hX;replace V:=C.Z V;replace O:=C.E O;replace s3:=C.G s3;replace s6:=C.G s6;replace s8:=C.G s8;replace s9:=C.G s9;replace s10:=C.G s10;replace s11:=C.G s11;replace s38:=C.G s38;replace s39:=C.G s39;replace s40:=C.G s40
     replace b3:=b3.kp F (by simp<;>omega)
     replace b6:=b6.kp F (by simp<;>omega)
     clear b14
     obtain ⟨_,b14,rfl⟩:=x0.2 (Y 11 (by decide))
     replace hZ:=Nat.le_trans hZ F.size
     replace S:=F.below S S.size (by simp<;>omega)
     clear C F X Y x0 U s14 s15 s73;refine J0 (J0 (Xj ?_))
     refine Xe (by kernel_rfl) [91,40] [some (.int .i64 ((k:Int)+1)),some (.int .i64 ((k:Int)+1))] (X7 2) [91,40] [0,1] [] (fun L aa K=>(L 1=false→aa.tmps[40]?.getD undef=.int .i64 (k:Int))) (by kernel_rfl) (by rw [V];decide) ?_ (en rfl ?_ (en rfl ?_ .nil)) ?_
     ·exact fun _ h=>(fun _=>s40)
     ·intro T J K H _ _ D
      have x0:=H.x
      exact ZY rfl (ev (x0 (H.t 1 rfl))) rfl (by omega) (D _ _ H.k rfl (fun h=>(Xb (by decide) _).trans (x0 h)))
     ·intro T J K H _ _ D
      have x0:=H.x
      exact XF rfl (ev (H.d 0 rfl rfl)) (D _ _ H.k rfl (fun h=>by simp [ZB] at h))
     intro L a43 w44 Y C F X hX;have x0:=hX;replace V:=C.Z V;replace O:=C.E O;replace s3:=C.G s3;replace s6:=C.G s6;replace s8:=C.G s8;replace s9:=C.G s9;replace s10:=C.G s10;replace s11:=C.G s11;replace s38:=C.G s38;replace s39:=C.G s39;have s40:=gS a43 40 (X 1 _ rfl);replace b3:=b3.k0 F;replace b6:=b6.k0 F;replace b14:=b14.k0 F;replace hZ:=Nat.le_trans hZ F.size;replace S:=F.below0 S;clear C F X Y x0;refine Xj ?_
     refine ⟨?_, ?_⟩
     ·exact ⟨V,O,(k+1),(⟨⟨(Yb v.low (XG (-T0) ((-(YC r s))*N0))).n,(Yb v.low (XG (-T0) ((-(YC r s))*N0))).d⟩,⟨v.high.n,v.high.d⟩⟩),(by omega),(adm_next hkl hv h9),s3,s6,s8,s9,s10,s11,s38,s39,s40,b3,b6,b14,S,(by omega)⟩
     ·show (e.length-(intOf (a43.tmps[40]?.getD undef)).toNat)<_
      rw [s40,hmu];simp only [intOf];omega
    ·refine wp_cond_false (ev (vb s73 q40)) ?_
     refine wp_seq ?_
     refine Xe (by kernel_rfl) [88,89,87] [some (.int .i64 T0),some (.bool (decide (T0<0))),some (.bool (decide (T0<0)))] (X7 3) [88,89,87] [0,1,2] [] (fun _ _ _=>True) (by kernel_rfl) (by rw [V];decide) ?_ (en rfl ?_ (en rfl ?_ (en rfl ?_ .nil))) ?_
     ·exact fun _ _=>trivial
     ·exact YA s14 rfl rfl rfl
     ·exact fun T J K H _ _ D=>Yc rfl (ev (H.d 0 rfl rfl)) rfl rfl rfl (D _ _ H.k rfl trivial)
     ·exact Ke 1 rfl rfl rfl rfl
     intro L a45 w46 Y C F X hX;replace V:=C.Z V;replace O:=C.E O;replace s3:=C.G s3;replace s6:=C.G s6;replace s8:=C.G s8;replace s9:=C.G s9;replace s10:=C.G s10;replace s11:=C.G s11;replace s38:=C.G s38;replace s39:=C.G s39;replace s40:=C.G s40;have s87:=gS a45 87 (X 2 _ rfl);replace b3:=b3.k0 F;replace b6:=b6.k0 F;replace b14:=b14.k0 F;replace hZ:=Nat.le_trans hZ F.size;replace S:=F.below0 S;clear C F X Y hX s14 s15 s73;refine Xj ?_
     rcases Bool.eq_false_or_eq_true (decide (T0<0)) with q47|q47
     ·have h9:=step_out (r:=r) (s:=s) (v:=v) (h:=(e.getD k Xl)) (by have:=Xg q33;have:=Xg q40;omega) (by have:=Ki q47;omega)
      refine wp_cond_true (ev (vb s87 q47)) ?_
      refine wp_seq ?_
      have U:XI [] (fun L aa K=>ZI K (w.heap.size+3) 72 [.int .i64 0,.int .i64 0,.int .i64 0,.int .i64 0] (L 1) (fun _ vs=>vs=[.int .i64 0,.int .i64 0,.int .i64 0,.int .i64 0])):=by
       intro L aa K w' kk vv hkk hb hX
       have x0:=hX
       exact (x0.bel hb (fun _ h=>h))
      refine Xx U (by kernel_rfl) [90,0,7] [some (.agg #[.int .i64 0,.int .i64 0,.int .i64 0,.int .i64 0]),none,some (.bool false)] (X7 3) [90,7] [0,1,2] [(w.heap.size+3)] (by kernel_rfl) (by rw [V];decide) ?_ (en rfl ?_ (en rfl ?_ (en rfl ?_ .nil))) ?_
      ·exact fun _ h=>(⟨fun _=>b6.kp h (by simp),(fun h=>by cases h)⟩)
      ·intro T J K H _ _ D
       simp [go_sem]
       exact (D _ _ H.k rfl H.x)
      ·intro T J K H _ _ D
       have x0:=H.x
       have HT:=x0.1 H.n
       simp [go_sem,(gS J 90 (H.d 0 rfl rfl)),H.f.g rfl s6,HT.cell,HT.frz]
       exact D undef _ (H.k.store (.inr (by simp)) [.int .i64 0,.int .i64 0,.int .i64 0,.int .i64 0] 0) trivial (ZI.set HT (us:=[.int .i64 0,.int .i64 0,.int .i64 0,.int .i64 0]) rfl rfl)
      ·exact oACX rfl rfl fun _ _ _ _ h=>h
      intro L a48 w49 Y C F X hX;have x0:=hX;replace V:=C.Z V;replace O:=C.E O;replace s6:=C.G s6;have s7:=gS a48 7 (X 2 _ rfl);clear b6
      obtain ⟨_,b6,rfl⟩:=x0.2 (Y 1 (by decide))
      replace hZ:=Nat.le_trans hZ F.size
      replace S:=F.below S S.size (by simp<;>omega)
      clear C F X Y x0 U s3 s8 s9 s10 s11 s38 s39 s40 s87 b3 b14;refine Xj (wp_ret ?_);refine JD (JD (YY (YY (JD (YY ?_)))))
      refine bodyPost_ret (v:=.tuple #[.agg #[.int .i64 0,.int .i64 0,.int .i64 0,.int .i64 0],.bool false]) (by simp [results,Tryz.results163,go_sem,s6,b6.cell,s7]) O ?_
      exact ⟨by rw [adm_bad hd (adm_stop hkl hv h9)];rfl,S⟩
     ·have h9:=step_eq (r:=r) (s:=s) (v:=v) (h:=(e.getD k Xl)) (by have:=Xg q33;have:=Xg q40;omega) (by have:=Xg q47;omega)
      refine wp_cond_false (ev (vb s87 q47)) ?_
      refine wp_skip ?_;refine J0 (J0 (Xj ?_))
      refine Xe (by kernel_rfl) [91,40] [some (.int .i64 ((k:Int)+1)),some (.int .i64 ((k:Int)+1))] (X7 2) [91,40] [0,1] [] (fun L aa K=>(L 1=false→aa.tmps[40]?.getD undef=.int .i64 (k:Int))) (by kernel_rfl) (by rw [V];decide) ?_ (en rfl ?_ (en rfl ?_ .nil)) ?_
      ·exact fun _ h=>(fun _=>s40)
      ·intro T J K H _ _ D
       have x0:=H.x
       exact ZY rfl (ev (x0 (H.t 1 rfl))) rfl (by omega) (D _ _ H.k rfl (fun h=>(Xb (by decide) _).trans (x0 h)))
      ·intro T J K H _ _ D
       have x0:=H.x
       exact XF rfl (ev (H.d 0 rfl rfl)) (D _ _ H.k rfl (fun h=>by simp [ZB] at h))
      intro L a50 w51 Y C F X hX;have x0:=hX;replace V:=C.Z V;replace O:=C.E O;replace s3:=C.G s3;replace s6:=C.G s6;replace s8:=C.G s8;replace s9:=C.G s9;replace s10:=C.G s10;replace s11:=C.G s11;replace s38:=C.G s38;replace s39:=C.G s39;have s40:=gS a50 40 (X 1 _ rfl);replace b3:=b3.k0 F;replace b6:=b6.k0 F;replace b14:=b14.k0 F;replace hZ:=Nat.le_trans hZ F.size;replace S:=F.below0 S;clear C F X Y x0 s87;refine Xj ?_
      refine ⟨?_, ?_⟩
      ·exact ⟨V,O,(k+1),(v),(by omega),(adm_next hkl hv h9),s3,s6,s8,s9,s10,s11,s38,s39,s40,b3,b6,b14,S,(by omega)⟩
      ·show (e.length-(intOf (a50.tmps[40]?.getD undef)).toNat)<_
       rw [s40,hmu];simp only [intOf];omega
  ·have ek:k=e.length:=by have:=Xg q23;omega
   have hvo:=admL_ok B M he k hk v hv
   have hvi:v.In:=⟨Kv hvo.1,Kv hvo.2⟩
   rw [ek,List.take_length] at hv
   refine wp_cond_false (ev (vb s41 q23)) ?_
   refine wp_exit ?_
   refine J7 (J7 (ib_x (Xj (wp_seq (wp_seq ?_)))))
   refine Xe (by kernel_rfl) [92,93,94] [some (Yf v),some (.bool (Xv v)),some (.bool (!(Xv v)))] (X7 3) [92,93,94] [0,1,2] [] (fun _ _ _=>True) (by kernel_rfl) (by rw [V];decide) ?_ (en rfl ?_ (en rfl ?_ (en rfl ?_ .nil))) ?_
   ·exact fun _ _=>trivial
   ·intro T J K H _ _ D
    simp [go_sem,H.f.g rfl s8,(b14.k0 H.k).cell]
    exact (D _ _ H.k rfl trivial)
   ·intro T J K H _ _ D
    simp [go_sem,(gS J 92 (H.d 0 rfl rfl))]
    refine (iSpanOk_c v K hvi).mono ?_
    rintro x wx ⟨rfl,hb⟩
    exact (D _ _ (H.k.call hb) rfl trivial)
   ·exact Jn 1 rfl rfl rfl rfl
   intro L a52 w53 Y C F X hX;replace V:=C.Z V;replace O:=C.E O;replace s6:=C.G s6;replace s8:=C.G s8;have s94:=gS a52 94 (X 2 _ rfl);replace b6:=b6.k0 F;replace b14:=b14.k0 F;replace hZ:=Nat.le_trans hZ F.size;replace S:=F.below0 S;clear C F X Y hX s3 s9 s10 s11 s38 s39 s40 s41 b3;refine Xj ?_
   rcases Bool.eq_false_or_eq_true (!(Xv v)) with q54|q54
   ·refine wp_cond_true (ev (vb s94 q54)) ?_
    refine wp_seq ?_
    have U:XI [] (fun L aa K=>ZI K (w.heap.size+3) 72 [.int .i64 0,.int .i64 0,.int .i64 0,.int .i64 0] (L 1) (fun _ vs=>vs=[.int .i64 0,.int .i64 0,.int .i64 0,.int .i64 0])):=by
     intro L aa K w' kk vv hkk hb hX
     have x0:=hX
     exact (x0.bel hb (fun _ h=>h))
    refine Xx U (by kernel_rfl) [95,0,7] [some (.agg #[.int .i64 0,.int .i64 0,.int .i64 0,.int .i64 0]),none,some (.bool false)] (X7 3) [95,7] [0,1,2] [(w.heap.size+3)] (by kernel_rfl) (by rw [V];decide) ?_ (en rfl ?_ (en rfl ?_ (en rfl ?_ .nil))) ?_
    ·exact fun _ h=>(⟨fun _=>b6.kp h (by simp),(fun h=>by cases h)⟩)
    ·intro T J K H _ _ D
     simp [go_sem]
     exact (D _ _ H.k rfl H.x)
    ·intro T J K H _ _ D
     have x0:=H.x
     have HT:=x0.1 H.n
     simp [go_sem,(gS J 95 (H.d 0 rfl rfl)),H.f.g rfl s6,HT.cell,HT.frz]
     exact D undef _ (H.k.store (.inr (by simp)) [.int .i64 0,.int .i64 0,.int .i64 0,.int .i64 0] 0) trivial (ZI.set HT (us:=[.int .i64 0,.int .i64 0,.int .i64 0,.int .i64 0]) rfl rfl)
    ·exact oACX rfl rfl fun _ _ _ _ h=>h
    intro L a55 w56 Y C F X hX;have x0:=hX;replace V:=C.Z V;replace O:=C.E O;replace s6:=C.G s6;have s7:=gS a55 7 (X 2 _ rfl);clear b6
    obtain ⟨_,b6,rfl⟩:=x0.2 (Y 1 (by decide))
    replace hZ:=Nat.le_trans hZ F.size
    replace S:=F.below S S.size (by simp<;>omega)
    clear C F X Y x0 U s8 s94 b14;refine Xj (wp_ret (YY ?_))
    refine bodyPost_ret (v:=.tuple #[.agg #[.int .i64 0,.int .i64 0,.int .i64 0,.int .i64 0],.bool false]) (by simp [results,Tryz.results163,go_sem,s6,b6.cell,s7]) O ?_
    exact ⟨by rw [adm_bad2 hd hv (not_t q54)];rfl,S⟩
   ·refine wp_cond_false (ev (vb s94 q54)) ?_
    refine wp_skip (Xj (wp_seq ?_))
    have U:XI [] (fun L aa K=>ZI K (w.heap.size+3) 72 [.int .i64 0,.int .i64 0,.int .i64 0,.int .i64 0] (L 1) (fun _ vs=>vs=[.int .i64 v.low.n,.int .i64 v.low.d,.int .i64 v.high.n,.int .i64 v.high.d])):=by
     intro L aa K w' kk vv hkk hb hX
     have x0:=hX
     exact (x0.bel hb (fun _ h=>h))
    refine Xx U (by kernel_rfl) [96,0,7] [some (Yf v),none,some (.bool true)] (X7 3) [96,7] [0,1,2] [(w.heap.size+3)] (by kernel_rfl) (by rw [V];decide) ?_ (en rfl ?_ (en rfl ?_ (en rfl ?_ .nil))) ?_
    ·exact fun _ h=>(⟨fun _=>b6.kp h (by simp),(fun h=>by cases h)⟩)
    ·intro T J K H _ _ D
     simp [go_sem,H.f.g rfl s8,(b14.kp H.k (by simp<;>omega)).cell]
     exact (D _ _ H.k rfl H.x)
    ·intro T J K H _ _ D
     have x0:=H.x
     have HT:=x0.1 H.n
     simp [go_sem,(gS J 96 (H.d 0 rfl rfl)),H.f.g rfl s6,HT.cell,HT.frz]
     exact D undef _ (H.k.store (.inr (by simp)) [.int .i64 v.low.n,.int .i64 v.low.d,.int .i64 v.high.n,.int .i64 v.high.d] 0) trivial (ZI.set HT (us:=[.int .i64 v.low.n,.int .i64 v.low.d,.int .i64 v.high.n,.int .i64 v.high.d]) rfl rfl)
    ·exact oACX rfl rfl fun _ _ _ _ h=>h
    intro L a57 w58 Y C F X hX;have x0:=hX;replace V:=C.Z V;replace O:=C.E O;replace s6:=C.G s6;have s7:=gS a57 7 (X 2 _ rfl);clear b6
    obtain ⟨_,b6,rfl⟩:=x0.2 (Y 1 (by decide))
    replace hZ:=Nat.le_trans hZ F.size
    replace S:=F.below S S.size (by simp<;>omega)
    clear C F X Y x0 U s8 s94 b14;refine Xj (wp_ret ?_)
    refine bodyPost_ret (v:=.tuple #[Yf v,.bool true]) (by simp [results,Tryz.results163,go_sem,s6,b6.cell,s7]) O ?_
    exact ⟨by rw [adm_good hd hv (Zv q54)];rfl,S⟩
set_option maxRecDepth 100000 in
set_option maxHeartbeats 3000000 in
theorem sAdmit_c (r:XN) (e:List Half) (s:XJ) (ra:Yr) (b:ZR) (w:World) (hr:XU r=true) (he:∀ h∈e,XD h=true) (hle:e.length≤40) (hs:X9 s=true) (hd:¬ 100000<s.d) (hsR:Yo w r ra) (hsE:Sl 3 Xr w b.A e) :
 Calls Tryz.prog 160 #[XH r ra,.agg #[.slice b.A e.length b.c],Yz s] w fun x w'=>x=.returned (ZZ (XC r e s))∧Below w.heap.size w w':=by
 have B:=roomB hr
 obtain ⟨⟨lo1,lo2⟩,⟨hi1,hi2⟩⟩:(-1000≤r.low∧r.low≤1000)∧(-1000≤r.high∧r.high≤1000):=⟨B.low,by have:=B.low;have:=B.high;omega,B.high.2⟩
 have M:=mapB B hs (by omega)
 have hMd:=M.d
 refine Y4 Tryz.func160 rfl (n:=82) Tryz.ntmps160 (by simp) ?_
 intro a0 V O ha
 have s0:a0.tmps[0]?.getD undef=XH r ra:=ha 0 _ rfl;have s1:a0.tmps[1]?.getD undef=.agg #[.slice b.A e.length b.c]:=ha 1 _ rfl;have s2:a0.tmps[2]?.getD undef=Yz s:=ha 2 _ rfl;clear ha
 have S:=Below.refl w.heap.size w
 have hZ:=Nat.le_refl w.heap.size
 refine wp_seq ?_
 refine YK [3,4,5,6,7] [.pointer (some ⟨w.heap.size,0,none⟩),.pointer (some ⟨(w.heap.size+1),0,none⟩),.pointer (some ⟨(w.heap.size+2),0,none⟩),.pointer (some ⟨(w.heap.size+3),0,none⟩),.bool false] [some (.cells (Y6 r ra).toArray 39),some (.cells [.slice b.A e.length b.c].toArray 37),some (.cells [.int .i64 s.x,.int .i64 s.y,.int .i64 s.d].toArray 44),some (.cells [.int .i64 0,.int .i64 0,.int .i64 0,.int .i64 0].toArray 72),none] [0,1,2,3,4] [3,4,5,6,7] [0,1,2,3,4] (by kernel_rfl) (by rw [V];decide) (ec ?_ (ec ?_ (ec ?_ (ec ?_ (ec ?_ .nil))))) ?_
 ·intro a w' C hs N Q D;simp [go_sem,C.g rfl s0];rw [hs];exact D
 ·intro a w' C hs N Q D;simp [go_sem,C.g rfl s1];rw [hs];exact D
 ·intro a w' C hs N Q D;simp [go_sem,C.g rfl s2];rw [hs];exact D
 ·intro a w' C hs N Q D;simp [go_sem];rw [hs];exact D
 ·intro a w' C hs N Q D;simp [go_sem];exact D
 intro a1 w2 C X hb hO
 replace V:=C.size.trans V;replace O:=C.defers.trans O
 have s3:a1.tmps[3]?.getD undef=.pointer (some ⟨w.heap.size,0,none⟩):=X 0 (by decide)
 have s4:a1.tmps[4]?.getD undef=.pointer (some ⟨(w.heap.size+1),0,none⟩):=X 1 (by decide)
 have s5:a1.tmps[5]?.getD undef=.pointer (some ⟨(w.heap.size+2),0,none⟩):=X 2 (by decide)
 have s6:a1.tmps[6]?.getD undef=.pointer (some ⟨(w.heap.size+3),0,none⟩):=X 3 (by decide)
 have b3:Xy w2 w.heap.size 39 (Y6 r ra):=hO 0 _ rfl
 have b4:Xy w2 (w.heap.size+1) 37 [.slice b.A e.length b.c]:=hO 1 _ rfl
 have b5:Xy w2 (w.heap.size+2) 44 [.int .i64 s.x,.int .i64 s.y,.int .i64 s.d]:=hO 2 _ rfl
 have b6:Xy w2 (w.heap.size+3) 72 [.int .i64 0,.int .i64 0,.int .i64 0,.int .i64 0]:=hO 3 _ rfl
 have hG:=b6.lt
 replace S:=Xh S hb;have zw2:=Nat.le_trans hZ hb.size;replace hZ:=Nat.le_refl w2.heap.size;clear C X hb hO s0 s1 s2;refine Xj (wp_seq ?_)
 have U:XI [8] (fun L aa K=>(L 7=true→Ye w2 aa K 8 72 [.int .i64 0,.int .i64 0,.int .i64 0,.int .i64 0] (L 8) (fun _ vs=>vs=[.int .i64 r.low,.int .i64 1,.int .i64 r.high,.int .i64 1]))):=by
  intro L aa K w' kk vv hkk hb hX
  have x0:=hX
  exact (fun h=>((x0 h).bel hb (fun _ h=>h)).put (hkk 8 (by simp)) _)
 refine Xx U (by kernel_rfl) [14,15,16,17,18,19,20,8,0] [some (.pointer (some ⟨w.heap.size,4,none⟩)),some (.int .i64 r.low),some (.agg #[.int .i64 r.low,.int .i64 1]),some (.pointer (some ⟨w.heap.size,5,none⟩)),some (.int .i64 r.high),some (.agg #[.int .i64 r.high,.int .i64 1]),some (.agg #[.int .i64 r.low,.int .i64 1,.int .i64 r.high,.int .i64 1]),none,none] ([[],[0],[0,1],[],[3],[0,1,2,3,4],[0,1,2,3,4,5],[],[0,1,2,3,4,5,6,7]]) [14,15,16,17,18,19,20,8] [0,1,2,3,4,5,6,7,8] [] (by kernel_rfl) (by rw [V];decide) ?_ (en rfl ?_ (en rfl ?_ (en rfl ?_ (en rfl ?_ (en rfl ?_ (en rfl ?_ (en rfl ?_ (en rfl ?_ (en rfl ?_ .nil))))))))) ?_
 ·exact fun _ h=>(fun h=>by cases h)
 ·intro T J K H _ _ D
  simp [go_sem,H.f.g rfl s3]
  exact (D _ _ H.k rfl (U.q rfl H.x))
 ·intro T J K H _ _ D
  simp [go_sem,(gS J 14 (H.d 0 rfl rfl)),(b3.k0 H.k).cell]
  exact (D _ _ H.k rfl (U.q rfl H.x))
 ·intro T J K H _ _ D
  simp [go_sem,(gS J 15 (H.d 1 rfl rfl))]
  refine (sOne_c r.low K ⟨by omega,by omega⟩).mono ?_
  rintro x wx ⟨rfl,hb⟩
  exact (D _ _ (H.k.call hb) rfl (U.b rfl hb H.x))
 ·intro T J K H _ _ D
  simp [go_sem,H.f.g rfl s3]
  exact (D _ _ H.k rfl (U.q rfl H.x))
 ·intro T J K H _ _ D
  simp [go_sem,(gS J 17 (H.d 3 rfl rfl)),(b3.k0 H.k).cell]
  exact (D _ _ H.k rfl (U.q rfl H.x))
 ·intro T J K H _ _ D
  simp [go_sem,(gS J 18 (H.d 4 rfl rfl))]
  refine (sOne_c r.high K ⟨by omega,by omega⟩).mono ?_
  rintro x wx ⟨rfl,hb⟩
  exact (D _ _ (H.k.call hb) rfl (U.b rfl hb H.x))
 ·intro T J K H _ _ D
  simp [go_sem,(gS J 16 (H.d 2 rfl rfl)),(gS J 19 (H.d 5 rfl rfl))]
  exact (D _ _ H.k rfl (U.q rfl H.x))
 ·intro T J K H _ _ D
  have x0:=H.x
  simp [go_sem]
  exact D _ _ (H.k.alloc _) trivial (fun _=>by rw [show ZB T 7 8=false from H.t 8 rfl];exact Ye.new (s:=8) (H.f.lt (by rw [V];decide)) H.k.size [.int .i64 0,.int .i64 0,.int .i64 0,.int .i64 0])
 ·intro T J K H _ _ D
  have x0:=H.x
  obtain ⟨g,eg,hg,y,_⟩:=x0 (H.r 7 rfl)
  have HT:=y H.n
  simp [go_sem,(gS J 20 (H.d 6 rfl rfl)),eg,HT.cell,HT.frz]
  exact D undef _ (H.k.store (.inl hg) [.int .i64 r.low,.int .i64 1,.int .i64 r.high,.int .i64 1] 0) trivial (fun _=>Ye.set eg hg HT (us:=[.int .i64 r.low,.int .i64 1,.int .i64 r.high,.int .i64 1]) rfl rfl)
 intro L a7 w8 Y C F X hX;have x0:=hX;replace V:=C.Z V;replace O:=C.E O;replace s3:=C.G s3;replace s4:=C.G s4;replace s5:=C.G s5;replace s6:=C.G s6;replace b3:=b3.k0 F;replace b4:=b4.k0 F;replace b5:=b5.k0 F;replace b6:=b6.k0 F
 obtain ⟨g9,s8,lg9,-,b9⟩:=x0 (Y 7 (by decide))
 obtain ⟨_,b9,rfl⟩:=b9 (Y 8 (by decide))
 have ug9:=b9.lt
 have zw8:=F.size;replace hZ:=Nat.le_refl w8.heap.size;replace S:=F.below0 S;clear C F X Y x0 U;refine Xj (wp_seq (wp_seq ?_))
 refine Xe (by kernel_rfl) [21,22,23,24] [some (.pointer (some ⟨(w.heap.size+1),0,none⟩)),some (.slice b.A e.length b.c),some (.int .i64 (e.length:Int)),some (.int .i64 0)] (X7 4) [21,22,23,24] [0,1,2,3] [] (fun _ _ _=>True) (by kernel_rfl) (by rw [V];decide) ?_ (en rfl ?_ (en rfl ?_ (en rfl ?_ (en rfl ?_ .nil)))) ?_
 ·exact fun _ _=>trivial
 ·intro T J K H _ _ D
  simp [go_sem,H.f.g rfl s4]
  exact (D _ _ H.k rfl trivial)
 ·intro T J K H _ _ D
  simp [go_sem,(gS J 21 (H.d 0 rfl rfl)),(b4.k0 H.k).cell]
  exact (D _ _ H.k rfl trivial)
 ·intro T J K H _ _ D
  simp [go_sem,(gS J 22 (H.d 1 rfl rfl))]
  exact (D _ _ H.k rfl trivial)
 ·exact oMCT rfl rfl
 intro L a10 w11 Y C F X hX;replace V:=C.Z V;replace O:=C.E O;replace s3:=C.G s3;replace s5:=C.G s5;replace s6:=C.G s6;replace s8:=C.G s8;have s22:=gS a10 22 (X 1 _ rfl);have s23:=gS a10 23 (X 2 _ rfl);have s24:=gS a10 24 (X 3 _ rfl);replace b3:=b3.k0 F;replace b5:=b5.k0 F;replace b6:=b6.k0 F;replace b9:=b9.k0 F;replace hZ:=Nat.le_trans hZ F.size;replace S:=F.below0 S;clear C F X Y hX s4 b4;refine Xj (wp_block ?_)
 refine wp_loop (fun al wl=>al.tmps.size=82∧al.defers=[]∧∃ (k:Nat) (v:YX),(k≤e.length)∧(admL r s (e.take k)=some v)∧al.tmps[3]?.getD undef=.pointer (some ⟨w.heap.size,0,none⟩)∧al.tmps[5]?.getD undef=.pointer (some ⟨(w.heap.size+2),0,none⟩)∧al.tmps[6]?.getD undef=.pointer (some ⟨(w.heap.size+3),0,none⟩)∧al.tmps[8]?.getD undef=.pointer (some ⟨g9,0,none⟩)∧al.tmps[22]?.getD undef=.slice b.A e.length b.c∧al.tmps[23]?.getD undef=.int .i64 (e.length:Int)∧al.tmps[24]?.getD undef=.int .i64 (k:Int)∧Xy wl w.heap.size 39 (Y6 r ra)∧Xy wl (w.heap.size+2) 44 [.int .i64 s.x,.int .i64 s.y,.int .i64 s.d]∧Xy wl (w.heap.size+3) 72 [.int .i64 0,.int .i64 0,.int .i64 0,.int .i64 0]∧Xy wl g9 72 [.int .i64 v.low.n,.int .i64 v.low.d,.int .i64 v.high.n,.int .i64 v.high.d]∧Below w.heap.size w wl∧w8.heap.size≤wl.heap.size) (fun al _=>(e.length-(intOf (al.tmps[24]?.getD undef)).toNat)) ?_ ?_
 ·exact ⟨V,O,(0),(⟨⟨r.low,1⟩,⟨r.high,1⟩⟩),(Nat.zero_le _),(rfl),s3,s5,s6,s8,s22,s23,s24,b3,b5,b6,b9,S,(by omega)⟩
 clear V O S hZ s3 s5 s6 s8 s22 s23 s24 b3 b5 b6 b9
 rintro a12 w13 ⟨V,O,k,v,hk,hv,s3,s5,s6,s8,s22,s23,s24,b3,b5,b6,b9,S,hZ⟩
 have zw13:=hZ;replace hZ:=Nat.le_refl w13.heap.size
 have hmu:(e.length-(intOf (a12.tmps[24]?.getD undef)).toNat)=(e.length-(intOf ((.int .i64 (k:Int)))).toNat):=by rw [s24]
 refine wp_seq ?_
 refine Xe (by kernel_rfl) [25] [some (.bool (decide ((k:Int)<(e.length:Int))))] (X7 1) [25] [0] [] (fun _ _ _=>True) (by kernel_rfl) (by rw [V];decide) ?_ (en rfl ?_ .nil) ?_
 ·exact fun _ _=>trivial
 ·exact fun T J K H _ _ D=>Yc rfl (ev (H.f.g rfl s24)) (ev (H.f.g rfl s23)) rfl rfl (D _ _ H.k rfl trivial)
 intro L a14 w15 Y C F X hX;replace V:=C.Z V;replace O:=C.E O;replace s3:=C.G s3;replace s5:=C.G s5;replace s6:=C.G s6;replace s8:=C.G s8;replace s22:=C.G s22;replace s23:=C.G s23;replace s24:=C.G s24;have s25:=gS a14 25 (X 0 _ rfl);replace b3:=b3.k0 F;replace b5:=b5.k0 F;replace b6:=b6.k0 F;replace b9:=b9.k0 F;replace hZ:=Nat.le_trans hZ F.size;replace S:=F.below0 S;clear C F X Y hX;refine Xj (wp_seq ?_)
 rcases Bool.eq_false_or_eq_true (decide ((k:Int)<(e.length:Int))) with q16|q16
 ·have hkl:k<e.length:=by have:=Ki q16;omega
  have hvo:=admL_ok B M he k hk v hv
  have hvi:v.In:=⟨Kv hvo.1,Kv hvo.2⟩
  have P:=admP B M (he _ (Zf hkl))
  obtain ⟨⟨pa1,pa2⟩,⟨pb1,pb2⟩,⟨pc1,pc2⟩,⟨px1,px2⟩,⟨py1,py2⟩,⟨pn1,pn2⟩⟩:=admP B M (he _ (Zf hkl))
  obtain ⟨be,oe,ee_,fe⟩:=ElS.open_ (hsE.below S) (by omega)
  refine wp_cond_true (ev (vb s25 q16)) ?_
  refine wp_skip (Xj (wp_seq (wp_block (wp_seq ?_))))
  have U:XI [10] (fun L aa K=>(L 2=true→Ye w15 aa K 10 175 [.int .i64 0,.int .i64 0,.int .i64 0] (L 3) (fun _ vs=>vs=[.int .i64 ((e.getD k Xl).a),.int .i64 ((e.getD k Xl).b),.int .i64 ((e.getD k Xl).c)]))):=by
   intro L aa K w' kk vv hkk hb hX
   have x0:=hX
   exact (fun h=>((x0 h).bel hb (fun _ h=>h)).put (hkk 10 (by simp)) _)
  refine Xx U (by kernel_rfl) [26,27,10,0] [some (.pointer (some ⟨be,oe+k*3,none⟩)),some (Zc (e.getD k Xl)),none,none] (X7 4) [26,27,10] [0,1,2,3] [] (by kernel_rfl) (by rw [V];decide) ?_ (en rfl ?_ (en rfl ?_ (en rfl ?_ (en rfl ?_ .nil)))) ?_
  ·exact fun _ h=>(fun h=>by cases h)
  ·intro T J K H _ _ D
   simp [go_sem,H.f.g rfl s22,H.f.g rfl s24,hkl,ee_]
   exact (D _ _ H.k rfl (U.q rfl H.x))
  ·intro T J K H _ _ D
   have hE:=fe.kp H.k (by simp)
   simp [go_sem,(gS J 26 (H.d 0 rfl rfl)),(hE.at_ Xl (i:=k) (by omega) 0 (p:=oe+k*3) (by omega) rfl),(hE.at_ Xl (i:=k) (by omega) 1 (p:=oe+k*3+1) (by omega) rfl),(hE.at_ Xl (i:=k) (by omega) 2 (p:=oe+k*3+2) (by omega) rfl)]
   exact (D _ _ H.k rfl (U.q rfl H.x))
  ·intro T J K H _ _ D
   have x0:=H.x
   simp [go_sem]
   exact D _ _ (H.k.alloc _) trivial (fun _=>by rw [show ZB T 2 3=false from H.t 3 rfl];exact Ye.new (s:=10) (H.f.lt (by rw [V];decide)) H.k.size [.int .i64 0,.int .i64 0,.int .i64 0])
  ·intro T J K H _ _ D
   have x0:=H.x
   obtain ⟨g,eg,hg,y,_⟩:=x0 (H.r 2 rfl)
   have HT:=y H.n
   simp [go_sem,(gS J 27 (H.d 1 rfl rfl)),eg,HT.cell,HT.frz]
   exact D undef _ (H.k.store (.inl hg) [.int .i64 ((e.getD k Xl).a),.int .i64 ((e.getD k Xl).b),.int .i64 ((e.getD k Xl).c)] 0) trivial (fun _=>Ye.set eg hg HT (us:=[.int .i64 ((e.getD k Xl).a),.int .i64 ((e.getD k Xl).b),.int .i64 ((e.getD k Xl).c)]) rfl rfl)
  intro L a17 w18 Y C F X hX;have x0:=hX;replace V:=C.Z V;replace O:=C.E O;replace s3:=C.G s3;replace s5:=C.G s5;replace s6:=C.G s6;replace s8:=C.G s8;replace s22:=C.G s22;replace s23:=C.G s23;replace s24:=C.G s24;replace b3:=b3.k0 F;replace b5:=b5.k0 F;replace b6:=b6.k0 F;replace b9:=b9.k0 F
  obtain ⟨g19,s10,lg19,-,b19⟩:=x0 (Y 2 (by decide))
  obtain ⟨_,b19,rfl⟩:=b19 (Y 3 (by decide))
  have ug19:=b19.lt
  have zw15:=hZ;have zw18:=F.size;replace hZ:=Nat.le_refl w18.heap.size;replace S:=F.below0 S;clear C F X Y x0 U s25 fe;refine Xj (wp_seq ?_)
  refine Xe (by kernel_rfl) [29,30,31,32,28,33,34,11,12] [some (XH r ra),some (Zc (e.getD k Xl)),some (Yz s),some (.tuple #[.int .i64 (JV r s (e.getD k Xl)),.int .i64 (YC r s)]),some (.tuple #[.int .i64 (JV r s (e.getD k Xl)),.int .i64 (YC r s)]),some (.int .i64 (JV r s (e.getD k Xl))),some (.int .i64 (YC r s)),some (.int .i64 (JV r s (e.getD k Xl))),some (.int .i64 (YC r s))] (X7 9) [29,30,31,32,28,33,34,11,12] [0,1,2,3,4,5,6,7,8] [] (fun _ _ _=>True) (by kernel_rfl) (by rw [V];decide) ?_ (en rfl ?_ (en rfl ?_ (en rfl ?_ (en rfl ?_ (en rfl ?_ (en rfl ?_ (en rfl ?_ (en rfl ?_ (en rfl ?_ .nil))))))))) ?_
  ·exact fun _ _=>trivial
  ·intro T J K H _ _ D
   simp [go_sem,H.f.g rfl s3,(b3.k0 H.k).cell]
   exact (D _ _ H.k rfl trivial)
  ·intro T J K H _ _ D
   simp [go_sem,H.f.g rfl s10,(b19.k0 H.k).cell]
   exact (D _ _ H.k rfl trivial)
  ·intro T J K H _ _ D
   simp [go_sem,H.f.g rfl s5,(b5.k0 H.k).cell]
   exact (D _ _ H.k rfl trivial)
  ·intro T J K H _ _ D
   simp [go_sem,(gS J 29 (H.d 0 rfl rfl)),(gS J 30 (H.d 1 rfl rfl)),(gS J 31 (H.d 2 rfl rfl))]
   have hBi:=H.k.below0 S
   refine (l11Top_c r ra (e.getD k Xl) s K B M P (hsR.below hBi).map).mono ?_
   rintro x wx ⟨rfl,hb⟩
   exact (D _ _ (H.k.call hb) rfl trivial)
  ·exact Jj 3 rfl rfl rfl rfl
  ·exact oEDT 4 rfl rfl rfl rfl rfl
  ·exact oEDT 4 rfl rfl rfl rfl rfl
  ·exact Ke 5 rfl rfl rfl rfl
  ·exact Ke 6 rfl rfl rfl rfl
  intro L a20 w21 Y C F X hX;replace V:=C.Z V;replace O:=C.E O;replace s3:=C.G s3;replace s5:=C.G s5;replace s6:=C.G s6;replace s8:=C.G s8;replace s22:=C.G s22;replace s23:=C.G s23;replace s24:=C.G s24;replace s10:=C.G s10;have s11:=gS a20 11 (X 7 _ rfl);have s12:=gS a20 12 (X 8 _ rfl);replace b3:=b3.k0 F;replace b5:=b5.k0 F;replace b6:=b6.k0 F;replace b9:=b9.k0 F;replace b19:=b19.k0 F;replace hZ:=Nat.le_trans hZ F.size;replace S:=F.below0 S;clear C F X Y hX
  obtain ⟨T0,eT0⟩:∃ z:Int,z=JV r s (e.getD k Xl):=⟨_,rfl⟩
  rw [← eT0] at s11
  have hT0:JV r s (e.getD k Xl)=T0:=eT0.symm
  have hTb : -1000000000000000≤T0∧T0≤1000000000000000:=by rw [← hT0];unfold JV;omega
  refine Xj (wp_seq ?_)
  refine Xe (by kernel_rfl) [35,36,37,38,39,40,41,42,43,44,45,13] [some (.pointer (some ⟨g19,0,none⟩)),some (.int .i64 ((e.getD k Xl).a)),some (.pointer (some ⟨w.heap.size,2,none⟩)),some (.int .i64 r.bx),some (.int .i64 (((e.getD k Xl).a)*r.bx)),some (.pointer (some ⟨g19,1,none⟩)),some (.int .i64 ((e.getD k Xl).b)),some (.pointer (some ⟨w.heap.size,3,none⟩)),some (.int .i64 r.by_),some (.int .i64 (((e.getD k Xl).b)*r.by_)),some (.int .i64 ((((e.getD k Xl).a)*r.bx)+(((e.getD k Xl).b)*r.by_))),some (.int .i64 ((((e.getD k Xl).a)*r.bx)+(((e.getD k Xl).b)*r.by_)))] (X7 12) [35,36,37,38,39,40,41,42,43,44,45,13] [0,1,2,3,4,5,6,7,8,9,10,11] [] (fun _ _ _=>True) (by kernel_rfl) (by rw [V];decide) ?_ (en rfl ?_ (en rfl ?_ (en rfl ?_ (en rfl ?_ (en rfl ?_ (en rfl ?_ (en rfl ?_ (en rfl ?_ (en rfl ?_ (en rfl ?_ (en rfl ?_ (en rfl ?_ .nil)))))))))))) ?_
  ·exact fun _ _=>trivial
  ·intro T J K H _ _ D
   simp [go_sem,H.f.g rfl s10]
   exact (D _ _ H.k rfl trivial)
  ·intro T J K H _ _ D
   simp [go_sem,(gS J 35 (H.d 0 rfl rfl)),(b19.k0 H.k).cell]
   exact (D _ _ H.k rfl trivial)
  ·intro T J K H _ _ D
   simp [go_sem,H.f.g rfl s3]
   exact (D _ _ H.k rfl trivial)
  ·intro T J K H _ _ D
   simp [go_sem,(gS J 37 (H.d 2 rfl rfl)),(b3.k0 H.k).cell]
   exact (D _ _ H.k rfl trivial)
  ·exact fun T J K H _ _ D=>Jr rfl (ev (H.d 1 rfl rfl)) (ev (H.d 3 rfl rfl)) (by omega) (D _ _ H.k rfl trivial)
  ·intro T J K H _ _ D
   simp [go_sem,H.f.g rfl s10]
   exact (D _ _ H.k rfl trivial)
  ·intro T J K H _ _ D
   simp [go_sem,(gS J 40 (H.d 5 rfl rfl)),(b19.k0 H.k).cell]
   exact (D _ _ H.k rfl trivial)
  ·intro T J K H _ _ D
   simp [go_sem,H.f.g rfl s3]
   exact (D _ _ H.k rfl trivial)
  ·intro T J K H _ _ D
   simp [go_sem,(gS J 42 (H.d 7 rfl rfl)),(b3.k0 H.k).cell]
   exact (D _ _ H.k rfl trivial)
  ·exact fun T J K H _ _ D=>Jr rfl (ev (H.d 6 rfl rfl)) (ev (H.d 8 rfl rfl)) (by omega) (D _ _ H.k rfl trivial)
  ·exact fun T J K H _ _ D=>ZY rfl (ev (H.d 4 rfl rfl)) (ev (H.d 9 rfl rfl)) (by omega) (D _ _ H.k rfl trivial)
  ·exact Ke 10 rfl rfl rfl rfl
  intro L a22 w23 Y C F X hX;replace V:=C.Z V;replace O:=C.E O;replace s3:=C.G s3;replace s5:=C.G s5;replace s6:=C.G s6;replace s8:=C.G s8;replace s22:=C.G s22;replace s23:=C.G s23;replace s24:=C.G s24;replace s11:=C.G s11;replace s12:=C.G s12;have s13:=gS a22 13 (X 11 _ rfl);replace b3:=b3.k0 F;replace b5:=b5.k0 F;replace b6:=b6.k0 F;replace b9:=b9.k0 F;replace hZ:=Nat.le_trans hZ F.size;replace S:=F.below0 S;clear C F X Y hX s10 b19
  obtain ⟨N0,eN0⟩:∃ z:Int,z=(((e.getD k Xl).a)*r.bx)+(((e.getD k Xl).b)*r.by_):=⟨_,rfl⟩
  rw [← eN0] at s13
  have hN0:Zj r (e.getD k Xl)=N0:=eN0.symm
  refine Xj (wp_block (wp_seq ?_))
  refine Xe (by kernel_rfl) [47,48,46] [some (.int .i64 N0),some (.bool (decide (N0 > 0))),some (.bool (decide (N0 > 0)))] (X7 3) [47,48,46] [0,1,2] [] (fun _ _ _=>True) (by kernel_rfl) (by rw [V];decide) ?_ (en rfl ?_ (en rfl ?_ (en rfl ?_ .nil))) ?_
  ·exact fun _ _=>trivial
  ·exact YA s13 rfl rfl rfl
  ·exact fun T J K H _ _ D=>Yc rfl (ev (H.d 0 rfl rfl)) rfl rfl rfl (D _ _ H.k rfl trivial)
  ·exact Ke 1 rfl rfl rfl rfl
  intro L a24 w25 Y C F X hX;replace V:=C.Z V;replace O:=C.E O;replace s3:=C.G s3;replace s5:=C.G s5;replace s6:=C.G s6;replace s8:=C.G s8;replace s22:=C.G s22;replace s23:=C.G s23;replace s24:=C.G s24;replace s11:=C.G s11;replace s12:=C.G s12;replace s13:=C.G s13;have s46:=gS a24 46 (X 2 _ rfl);replace b3:=b3.k0 F;replace b5:=b5.k0 F;replace b6:=b6.k0 F;replace b9:=b9.k0 F;replace hZ:=Nat.le_trans hZ F.size;replace S:=F.below0 S;clear C F X Y hX;refine Xj ?_
  rcases Bool.eq_false_or_eq_true (decide (N0 > 0)) with q26|q26
  ·have hn:0<Zj r (e.getD k Xl):=by have:=Ki q26;omega
   obtain ⟨ht,hdn⟩:=adm_high P M hn
   have h9:=step_hi (s:=s) (v:=v) hn
   rw [hT0] at ht h9
   rw [hN0] at hdn h9
   refine wp_cond_true (ev (vb s46 q26)) ?_
   have U:XI [] (fun L aa K=>ZI K g9 72 [.int .i64 v.low.n,.int .i64 v.low.d,.int .i64 v.high.n,.int .i64 v.high.d] (L 9) (fun _ vs=>vs=[.int .i64 v.low.n,.int .i64 v.low.d,.int .i64 ((Ya v.high (XG T0 ((YC r s)*N0))).n),.int .i64 ((Ya v.high (XG T0 ((YC r s)*N0))).d)])):=by
    intro L aa K w' kk vv hkk hb hX
    have x0:=hX
    exact (x0.bel hb (fun _ h=>h))
   refine Xx U (by kernel_rfl) [49,50,51,52,53,54,55,56,57,0] [some (.pointer (some ⟨g9,2,none⟩)),some (.agg #[.int .i64 v.high.n,.int .i64 v.high.d]),some (.int .i64 T0),some (.int .i64 (YC r s)),some (.int .i64 N0),some (.int .i64 ((YC r s)*N0)),some (X6 (XG T0 ((YC r s)*N0))),some (X6 (Ya v.high (XG T0 ((YC r s)*N0)))),some (.pointer (some ⟨g9,2,none⟩)),none] ([[],[0],[],[],[],[3,4],[2,3,4,5],[0,1,2,3,4,5,6],[0,1,2,3,4,5,6,7],[0,1,2,3,4,5,6,7,8]]) [49,50,51,52,53,54,55,56,57] [0,1,2,3,4,5,6,7,8,9] [g9] (by kernel_rfl) (by rw [V];decide) ?_ (en rfl ?_ (en rfl ?_ (en rfl ?_ (en rfl ?_ (en rfl ?_ (en rfl ?_ (en rfl ?_ (en rfl ?_ (en rfl ?_ (en rfl ?_ .nil)))))))))) ?_
   ·exact fun _ h=>(⟨fun _=>b9.kp h (by simp),(fun h=>by cases h)⟩)
   ·intro T J K H _ _ D
    simp [go_sem,H.f.g rfl s8]
    exact (D _ _ H.k rfl H.x)
   ·intro T J K H _ _ D
    have x0:=H.x
    have hb0:=x0.1 (H.t 9 rfl)
    simp [go_sem,(gS J 49 (H.d 0 rfl rfl)),hb0.cell]
    exact (D _ _ H.k rfl H.x)
   ·exact Kn s11 rfl rfl rfl fun _ _ _ _ h=>h
   ·exact Kn s12 rfl rfl rfl fun _ _ _ _ h=>h
   ·exact Kn s13 rfl rfl rfl fun _ _ _ _ h=>h
   ·exact fun T J K H _ _ D=>Jr rfl (ev (H.d 3 rfl rfl)) (ev (H.d 4 rfl rfl)) (by omega) (D _ _ H.k rfl H.x)
   ·intro T J K H _ _ D
    simp [go_sem,(gS J 51 (H.d 2 rfl rfl)),(gS J 54 (H.d 5 rfl rfl))]
    refine (JH T0 ((YC r s)*N0) K ⟨by omega,by omega⟩ ⟨by omega,by omega⟩).mono ?_
    rintro x wx ⟨rfl,hb⟩
    exact (D _ _ (H.k.call hb) rfl (U T J K _ none undef (by simp) hb H.x))
   ·intro T J K H _ _ D
    simp [go_sem,(gS J 50 (H.d 1 rfl rfl)),(gS J 55 (H.d 6 rfl rfl))]
    refine (sRatioMin_c v.high (XG T0 ((YC r s)*N0)) K hvi.2 (Kv (YN ht hdn).1)).mono ?_
    rintro x wx ⟨rfl,hb⟩
    exact (D _ _ (H.k.call hb) rfl (U T J K _ none undef (by simp) hb H.x))
   ·intro T J K H _ _ D
    simp [go_sem,H.f.g rfl s8]
    exact (D _ _ H.k rfl H.x)
   ·intro T J K H _ _ D
    have x0:=H.x
    have HT:=x0.1 H.n
    simp [go_sem,(gS J 57 (H.d 8 rfl rfl)),(gS J 56 (H.d 7 rfl rfl)),HT.cell,HT.frz]
    exact D undef _ (H.k.store (.inr (by simp)) [.int .i64 ((Ya v.high (XG T0 ((YC r s)*N0))).n),.int .i64 ((Ya v.high (XG T0 ((YC r s)*N0))).d)] 2) trivial (⟨(fun q=>by cases q),fun _=>⟨_,((HT.set_ 2 _).set_ 3 _),rfl⟩⟩)
   intro L a27 w28 Y C F X hX;have x0:=hX;replace V:=C.Z V;replace O:=C.E O;replace s3:=C.G s3;replace s5:=C.G s5;replace s6:=C.G s6;replace s8:=C.G s8;replace s22:=C.G s22;replace s23:=C.G s23;replace s24:=C.G s24
   replace b3:=b3.kp F (by simp<;>omega)
   replace b5:=b5.kp F (by simp<;>omega)
   replace b6:=b6.kp F (by simp<;>omega)
   clear b9
   obtain ⟨_,b9,rfl⟩:=x0.2 (Y 9 (by decide))
   replace hZ:=Nat.le_trans hZ F.size
   replace S:=F.below S S.size (by simp<;>omega)
   clear C F X Y x0 U s11 s12 s13 s46;refine J0 (J0 (Xj ?_))
   refine Xe (by kernel_rfl) [76,24] [some (.int .i64 ((k:Int)+1)),some (.int .i64 ((k:Int)+1))] (X7 2) [76,24] [0,1] [] (fun L aa K=>(L 1=false→aa.tmps[24]?.getD undef=.int .i64 (k:Int))) (by kernel_rfl) (by rw [V];decide) ?_ (en rfl ?_ (en rfl ?_ .nil)) ?_
   ·exact fun _ h=>(fun _=>s24)
   ·intro T J K H _ _ D
    have x0:=H.x
    exact ZY rfl (ev (x0 (H.t 1 rfl))) rfl (by omega) (D _ _ H.k rfl (fun h=>(Xb (by decide) _).trans (x0 h)))
   ·intro T J K H _ _ D
    have x0:=H.x
    exact XF rfl (ev (H.d 0 rfl rfl)) (D _ _ H.k rfl (fun h=>by simp [ZB] at h))
   intro L a29 w30 Y C F X hX;have x0:=hX;replace V:=C.Z V;replace O:=C.E O;replace s3:=C.G s3;replace s5:=C.G s5;replace s6:=C.G s6;replace s8:=C.G s8;replace s22:=C.G s22;replace s23:=C.G s23;have s24:=gS a29 24 (X 1 _ rfl);replace b3:=b3.k0 F;replace b5:=b5.k0 F;replace b6:=b6.k0 F;replace b9:=b9.k0 F;replace hZ:=Nat.le_trans hZ F.size;replace S:=F.below0 S;clear C F X Y x0;refine Xj ?_
   refine ⟨?_, ?_⟩
   ·exact ⟨V,O,(k+1),(⟨⟨v.low.n,v.low.d⟩,⟨(Ya v.high (XG T0 ((YC r s)*N0))).n,(Ya v.high (XG T0 ((YC r s)*N0))).d⟩⟩),(by omega),(adm_next hkl hv h9),s3,s5,s6,s8,s22,s23,s24,b3,b5,b6,b9,S,(by omega)⟩
   ·show (e.length-(intOf (a29.tmps[24]?.getD undef)).toNat)<_
    rw [s24,hmu];simp only [intOf];omega
  ·refine wp_cond_false (ev (vb s46 q26)) ?_
   refine wp_seq ?_
   refine Xe (by kernel_rfl) [59,60,58] [some (.int .i64 N0),some (.bool (decide (N0<0))),some (.bool (decide (N0<0)))] (X7 3) [59,60,58] [0,1,2] [] (fun _ _ _=>True) (by kernel_rfl) (by rw [V];decide) ?_ (en rfl ?_ (en rfl ?_ (en rfl ?_ .nil))) ?_
   ·exact fun _ _=>trivial
   ·exact YA s13 rfl rfl rfl
   ·exact fun T J K H _ _ D=>Yc rfl (ev (H.d 0 rfl rfl)) rfl rfl rfl (D _ _ H.k rfl trivial)
   ·exact Ke 1 rfl rfl rfl rfl
   intro L a31 w32 Y C F X hX;replace V:=C.Z V;replace O:=C.E O;replace s3:=C.G s3;replace s5:=C.G s5;replace s6:=C.G s6;replace s8:=C.G s8;replace s22:=C.G s22;replace s23:=C.G s23;replace s24:=C.G s24;replace s11:=C.G s11;replace s12:=C.G s12;replace s13:=C.G s13;have s58:=gS a31 58 (X 2 _ rfl);replace b3:=b3.k0 F;replace b5:=b5.k0 F;replace b6:=b6.k0 F;replace b9:=b9.k0 F;replace hZ:=Nat.le_trans hZ F.size;replace S:=F.below0 S;clear C F X Y hX s46;refine Xj ?_
   rcases Bool.eq_false_or_eq_true (decide (N0<0)) with q33|q33
   ·have hn:Zj r (e.getD k Xl)<0:=by have:=Ki q33;omega
    obtain ⟨ht,hdn⟩:=adm_low P M hn
    have h9:=step_lo (s:=s) (v:=v) hn
    rw [hT0] at ht h9
    rw [hN0] at hdn h9
    refine wp_cond_true (ev (vb s58 q33)) ?_
    have U:XI [] (fun L aa K=>ZI K g9 72 [.int .i64 v.low.n,.int .i64 v.low.d,.int .i64 v.high.n,.int .i64 v.high.d] (L 11) (fun _ vs=>vs=[.int .i64 ((Yb v.low (XG (-T0) ((-(YC r s))*N0))).n),.int .i64 ((Yb v.low (XG (-T0) ((-(YC r s))*N0))).d),.int .i64 v.high.n,.int .i64 v.high.d])):=by
     intro L aa K w' kk vv hkk hb hX
     have x0:=hX
     exact (x0.bel hb (fun _ h=>h))
    refine Xx U (by kernel_rfl) [61,62,63,64,65,66,67,68,69,70,71,0] [some (.pointer (some ⟨g9,0,none⟩)),some (.agg #[.int .i64 v.low.n,.int .i64 v.low.d]),some (.int .i64 T0),some (.int .i64 (-T0)),some (.int .i64 (YC r s)),some (.int .i64 (-(YC r s))),some (.int .i64 N0),some (.int .i64 ((-(YC r s))*N0)),some (X6 (XG (-T0) ((-(YC r s))*N0))),some (X6 (Yb v.low (XG (-T0) ((-(YC r s))*N0)))),some (.pointer (some ⟨g9,0,none⟩)),none] ([[],[0],[],[2],[],[4],[],[4,5,6],[2,3,4,5,6,7],[0,1,2,3,4,5,6,7,8],[0,1,2,3,4,5,6,7,8,9],[0,1,2,3,4,5,6,7,8,9,10]]) [61,62,63,64,65,66,67,68,69,70,71] [0,1,2,3,4,5,6,7,8,9,10,11] [g9] (by kernel_rfl) (by rw [V];decide) ?_ (en rfl ?_ (en rfl ?_ (en rfl ?_ (en rfl ?_ (en rfl ?_ (en rfl ?_ (en rfl ?_ (en rfl ?_ (en rfl ?_ (en rfl ?_ (en rfl ?_ (en rfl ?_ .nil)))))))))))) ?_
    ·exact fun _ h=>(⟨fun _=>b9.kp h (by simp),(fun h=>by cases h)⟩)
    ·intro T J K H _ _ D
     simp [go_sem,H.f.g rfl s8]
     exact (D _ _ H.k rfl H.x)
    ·intro T J K H _ _ D
     have x0:=H.x
     have hb0:=x0.1 (H.t 11 rfl)
     simp [go_sem,(gS J 61 (H.d 0 rfl rfl)),hb0.cell]
     exact (D _ _ H.k rfl H.x)
    ·exact Kn s11 rfl rfl rfl fun _ _ _ _ h=>h
    ·exact fun T J K H _ _ D=>wp_neg rfl (ev (H.d 2 rfl rfl)) (by omega) (D _ _ H.k rfl H.x)
    ·exact Kn s12 rfl rfl rfl fun _ _ _ _ h=>h
    ·exact fun T J K H _ _ D=>wp_neg rfl (ev (H.d 4 rfl rfl)) (by omega) (D _ _ H.k rfl H.x)
    ·exact Kn s13 rfl rfl rfl fun _ _ _ _ h=>h
    ·exact fun T J K H _ _ D=>Jr rfl (ev (H.d 5 rfl rfl)) (ev (H.d 6 rfl rfl)) (by omega) (D _ _ H.k rfl H.x)
    ·intro T J K H _ _ D
     simp [go_sem,(gS J 64 (H.d 3 rfl rfl)),(gS J 68 (H.d 7 rfl rfl))]
     refine (JH (-T0) ((-(YC r s))*N0) K ⟨by omega,by omega⟩ ⟨by omega,by omega⟩).mono ?_
     rintro x wx ⟨rfl,hb⟩
     exact (D _ _ (H.k.call hb) rfl (U T J K _ none undef (by simp) hb H.x))
    ·intro T J K H _ _ D
     simp [go_sem,(gS J 62 (H.d 1 rfl rfl)),(gS J 69 (H.d 8 rfl rfl))]
     refine (sRatioMax_c v.low (XG (-T0) ((-(YC r s))*N0)) K hvi.1 (Kv (YN ht hdn).1)).mono ?_
     rintro x wx ⟨rfl,hb⟩
     exact (D _ _ (H.k.call hb) rfl (U T J K _ none undef (by simp) hb H.x))
    ·intro T J K H _ _ D
     simp [go_sem,H.f.g rfl s8]
     exact (D _ _ H.k rfl H.x)
    ·intro T J K H _ _ D
     have x0:=H.x
     have HT:=x0.1 H.n
     simp [go_sem,(gS J 71 (H.d 10 rfl rfl)),(gS J 70 (H.d 9 rfl rfl)),HT.cell,HT.frz]
     exact D undef _ (H.k.store (.inr (by simp)) [.int .i64 ((Yb v.low (XG (-T0) ((-(YC r s))*N0))).n),.int .i64 ((Yb v.low (XG (-T0) ((-(YC r s))*N0))).d)] 0) trivial (⟨(fun q=>by cases q),fun _=>⟨_,((HT.set_ 0 _).set_ 1 _),rfl⟩⟩)
    intro L a34 w35 Y C F X hX;have x0:=hX;replace V:=C.Z V;replace O:=C.E O;replace s3:=C.G s3;replace s5:=C.G s5;replace s6:=C.G s6;replace s8:=C.G s8;replace s22:=C.G s22;replace s23:=C.G s23;replace s24:=C.G s24
    replace b3:=b3.kp F (by simp<;>omega)
    replace b5:=b5.kp F (by simp<;>omega)
    replace b6:=b6.kp F (by simp<;>omega)
    clear b9
    obtain ⟨_,b9,rfl⟩:=x0.2 (Y 11 (by decide))
    replace hZ:=Nat.le_trans hZ F.size
    replace S:=F.below S S.size (by simp<;>omega)
    clear C F X Y x0 U s11 s12 s13 s58;refine J0 (J0 (Xj ?_))
    refine Xe (by kernel_rfl) [76,24] [some (.int .i64 ((k:Int)+1)),some (.int .i64 ((k:Int)+1))] (X7 2) [76,24] [0,1] [] (fun L aa K=>(L 1=false→aa.tmps[24]?.getD undef=.int .i64 (k:Int))) (by kernel_rfl) (by rw [V];decide) ?_ (en rfl ?_ (en rfl ?_ .nil)) ?_
    ·exact fun _ h=>(fun _=>s24)
    ·intro T J K H _ _ D
     have x0:=H.x
     exact ZY rfl (ev (x0 (H.t 1 rfl))) rfl (by omega) (D _ _ H.k rfl (fun h=>(Xb (by decide) _).trans (x0 h)))
    ·intro T J K H _ _ D
     have x0:=H.x
     exact XF rfl (ev (H.d 0 rfl rfl)) (D _ _ H.k rfl (fun h=>by simp [ZB] at h))
    intro L a36 w37 Y C F X hX;have x0:=hX;replace V:=C.Z V;replace O:=C.E O;replace s3:=C.G s3;replace s5:=C.G s5;replace s6:=C.G s6;replace s8:=C.G s8;replace s22:=C.G s22;replace s23:=C.G s23;have s24:=gS a36 24 (X 1 _ rfl);replace b3:=b3.k0 F;replace b5:=b5.k0 F;replace b6:=b6.k0 F;replace b9:=b9.k0 F;replace hZ:=Nat.le_trans hZ F.size;replace S:=F.below0 S;clear C F X Y x0;refine Xj ?_
    refine ⟨?_, ?_⟩
    ·exact ⟨V,O,(k+1),(⟨⟨(Yb v.low (XG (-T0) ((-(YC r s))*N0))).n,(Yb v.low (XG (-T0) ((-(YC r s))*N0))).d⟩,⟨v.high.n,v.high.d⟩⟩),(by omega),(adm_next hkl hv h9),s3,s5,s6,s8,s22,s23,s24,b3,b5,b6,b9,S,(by omega)⟩
    ·show (e.length-(intOf (a36.tmps[24]?.getD undef)).toNat)<_
     rw [s24,hmu];simp only [intOf];omega
   ·refine wp_cond_false (ev (vb s58 q33)) ?_
    refine wp_seq ?_
    refine Xe (by kernel_rfl) [73,74,72] [some (.int .i64 T0),some (.bool (decide (T0<0))),some (.bool (decide (T0<0)))] (X7 3) [73,74,72] [0,1,2] [] (fun _ _ _=>True) (by kernel_rfl) (by rw [V];decide) ?_ (en rfl ?_ (en rfl ?_ (en rfl ?_ .nil))) ?_
    ·exact fun _ _=>trivial
    ·exact YA s11 rfl rfl rfl
    ·exact fun T J K H _ _ D=>Yc rfl (ev (H.d 0 rfl rfl)) rfl rfl rfl (D _ _ H.k rfl trivial)
    ·exact Ke 1 rfl rfl rfl rfl
    intro L a38 w39 Y C F X hX;replace V:=C.Z V;replace O:=C.E O;replace s3:=C.G s3;replace s5:=C.G s5;replace s6:=C.G s6;replace s8:=C.G s8;replace s22:=C.G s22;replace s23:=C.G s23;replace s24:=C.G s24;have s72:=gS a38 72 (X 2 _ rfl);replace b3:=b3.k0 F;replace b5:=b5.k0 F;replace b6:=b6.k0 F;replace b9:=b9.k0 F;replace hZ:=Nat.le_trans hZ F.size;replace S:=F.below0 S;clear C F X Y hX s11 s12 s13 s58;refine Xj ?_
    rcases Bool.eq_false_or_eq_true (decide (T0<0)) with q40|q40
    ·have h9:=step_out (r:=r) (s:=s) (v:=v) (h:=(e.getD k Xl)) (by have:=Xg q26;have:=Xg q33;omega) (by have:=Ki q40;omega)
     refine wp_cond_true (ev (vb s72 q40)) ?_
     refine wp_seq ?_
     have U:XI [] (fun L aa K=>ZI K (w.heap.size+3) 72 [.int .i64 0,.int .i64 0,.int .i64 0,.int .i64 0] (L 1) (fun _ vs=>vs=[.int .i64 0,.int .i64 0,.int .i64 0,.int .i64 0])):=by
      intro L aa K w' kk vv hkk hb hX
      have x0:=hX
      exact (x0.bel hb (fun _ h=>h))
     refine Xx U (by kernel_rfl) [75,0,7] [some (.agg #[.int .i64 0,.int .i64 0,.int .i64 0,.int .i64 0]),none,some (.bool false)] (X7 3) [75,7] [0,1,2] [(w.heap.size+3)] (by kernel_rfl) (by rw [V];decide) ?_ (en rfl ?_ (en rfl ?_ (en rfl ?_ .nil))) ?_
     ·exact fun _ h=>(⟨fun _=>b6.kp h (by simp),(fun h=>by cases h)⟩)
     ·intro T J K H _ _ D
      simp [go_sem]
      exact (D _ _ H.k rfl H.x)
     ·intro T J K H _ _ D
      have x0:=H.x
      have HT:=x0.1 H.n
      simp [go_sem,(gS J 75 (H.d 0 rfl rfl)),H.f.g rfl s6,HT.cell,HT.frz]
      exact D undef _ (H.k.store (.inr (by simp)) [.int .i64 0,.int .i64 0,.int .i64 0,.int .i64 0] 0) trivial (ZI.set HT (us:=[.int .i64 0,.int .i64 0,.int .i64 0,.int .i64 0]) rfl rfl)
     ·exact oACX rfl rfl fun _ _ _ _ h=>h
     intro L a41 w42 Y C F X hX;have x0:=hX;replace V:=C.Z V;replace O:=C.E O;replace s6:=C.G s6;have s7:=gS a41 7 (X 2 _ rfl);clear b6
     obtain ⟨_,b6,rfl⟩:=x0.2 (Y 1 (by decide))
     replace hZ:=Nat.le_trans hZ F.size
     replace S:=F.below S S.size (by simp<;>omega)
     clear C F X Y x0 U s3 s5 s8 s22 s23 s24 s72 b3 b5 b9;refine Xj (wp_ret ?_);refine JD (JD (YY (YY (JD (YY ?_)))))
     refine bodyPost_ret (v:=.tuple #[.agg #[.int .i64 0,.int .i64 0,.int .i64 0,.int .i64 0],.bool false]) (by simp [results,Tryz.results160,go_sem,s6,b6.cell,s7]) O ?_
     exact ⟨by rw [adm_bad hd (adm_stop hkl hv h9)];rfl,S⟩
    ·have h9:=step_eq (r:=r) (s:=s) (v:=v) (h:=(e.getD k Xl)) (by have:=Xg q26;have:=Xg q33;omega) (by have:=Xg q40;omega)
     refine wp_cond_false (ev (vb s72 q40)) ?_
     refine wp_skip ?_;refine J0 (J0 (Xj ?_))
     refine Xe (by kernel_rfl) [76,24] [some (.int .i64 ((k:Int)+1)),some (.int .i64 ((k:Int)+1))] (X7 2) [76,24] [0,1] [] (fun L aa K=>(L 1=false→aa.tmps[24]?.getD undef=.int .i64 (k:Int))) (by kernel_rfl) (by rw [V];decide) ?_ (en rfl ?_ (en rfl ?_ .nil)) ?_
     ·exact fun _ h=>(fun _=>s24)
     ·intro T J K H _ _ D
      have x0:=H.x
      exact ZY rfl (ev (x0 (H.t 1 rfl))) rfl (by omega) (D _ _ H.k rfl (fun h=>(Xb (by decide) _).trans (x0 h)))
     ·intro T J K H _ _ D
      have x0:=H.x
      exact XF rfl (ev (H.d 0 rfl rfl)) (D _ _ H.k rfl (fun h=>by simp [ZB] at h))
     intro L a43 w44 Y C F X hX;have x0:=hX;replace V:=C.Z V;replace O:=C.E O;replace s3:=C.G s3;replace s5:=C.G s5;replace s6:=C.G s6;replace s8:=C.G s8;replace s22:=C.G s22;replace s23:=C.G s23;have s24:=gS a43 24 (X 1 _ rfl);replace b3:=b3.k0 F;replace b5:=b5.k0 F;replace b6:=b6.k0 F;replace b9:=b9.k0 F;replace hZ:=Nat.le_trans hZ F.size;replace S:=F.below0 S;clear C F X Y x0 s72;refine Xj ?_
     refine ⟨?_, ?_⟩
     ·exact ⟨V,O,(k+1),(v),(by omega),(adm_next hkl hv h9),s3,s5,s6,s8,s22,s23,s24,b3,b5,b6,b9,S,(by omega)⟩
     ·show (e.length-(intOf (a43.tmps[24]?.getD undef)).toNat)<_
      rw [s24,hmu];simp only [intOf];omega
 ·have ek:k=e.length:=by have:=Xg q16;omega
  have hvo:=admL_ok B M he k hk v hv
  have hvi:v.In:=⟨Kv hvo.1,Kv hvo.2⟩
  rw [ek,List.take_length] at hv
  refine wp_cond_false (ev (vb s25 q16)) ?_
  refine wp_exit ?_
  refine J7 (J7 (ib_x (Xj (wp_seq (wp_seq ?_)))))
  refine Xe (by kernel_rfl) [77,78,79] [some (Yf v),some (.bool (Xv v)),some (.bool (!(Xv v)))] (X7 3) [77,78,79] [0,1,2] [] (fun _ _ _=>True) (by kernel_rfl) (by rw [V];decide) ?_ (en rfl ?_ (en rfl ?_ (en rfl ?_ .nil))) ?_
  ·exact fun _ _=>trivial
  ·intro T J K H _ _ D
   simp [go_sem,H.f.g rfl s8,(b9.k0 H.k).cell]
   exact (D _ _ H.k rfl trivial)
  ·intro T J K H _ _ D
   simp [go_sem,(gS J 77 (H.d 0 rfl rfl))]
   refine (sSpanOk_c v K hvi).mono ?_
   rintro x wx ⟨rfl,hb⟩
   exact (D _ _ (H.k.call hb) rfl trivial)
  ·exact Jn 1 rfl rfl rfl rfl
  intro L a45 w46 Y C F X hX;replace V:=C.Z V;replace O:=C.E O;replace s6:=C.G s6;replace s8:=C.G s8;have s79:=gS a45 79 (X 2 _ rfl);replace b6:=b6.k0 F;replace b9:=b9.k0 F;replace hZ:=Nat.le_trans hZ F.size;replace S:=F.below0 S;clear C F X Y hX s3 s5 s22 s23 s24 s25 b3 b5;refine Xj ?_
  rcases Bool.eq_false_or_eq_true (!(Xv v)) with q47|q47
  ·refine wp_cond_true (ev (vb s79 q47)) ?_
   refine wp_seq ?_
   have U:XI [] (fun L aa K=>ZI K (w.heap.size+3) 72 [.int .i64 0,.int .i64 0,.int .i64 0,.int .i64 0] (L 1) (fun _ vs=>vs=[.int .i64 0,.int .i64 0,.int .i64 0,.int .i64 0])):=by
    intro L aa K w' kk vv hkk hb hX
    have x0:=hX
    exact (x0.bel hb (fun _ h=>h))
   refine Xx U (by kernel_rfl) [80,0,7] [some (.agg #[.int .i64 0,.int .i64 0,.int .i64 0,.int .i64 0]),none,some (.bool false)] (X7 3) [80,7] [0,1,2] [(w.heap.size+3)] (by kernel_rfl) (by rw [V];decide) ?_ (en rfl ?_ (en rfl ?_ (en rfl ?_ .nil))) ?_
   ·exact fun _ h=>(⟨fun _=>b6.kp h (by simp),(fun h=>by cases h)⟩)
   ·intro T J K H _ _ D
    simp [go_sem]
    exact (D _ _ H.k rfl H.x)
   ·intro T J K H _ _ D
    have x0:=H.x
    have HT:=x0.1 H.n
    simp [go_sem,(gS J 80 (H.d 0 rfl rfl)),H.f.g rfl s6,HT.cell,HT.frz]
    exact D undef _ (H.k.store (.inr (by simp)) [.int .i64 0,.int .i64 0,.int .i64 0,.int .i64 0] 0) trivial (ZI.set HT (us:=[.int .i64 0,.int .i64 0,.int .i64 0,.int .i64 0]) rfl rfl)
   ·exact oACX rfl rfl fun _ _ _ _ h=>h
   intro L a48 w49 Y C F X hX;have x0:=hX;replace V:=C.Z V;replace O:=C.E O;replace s6:=C.G s6;have s7:=gS a48 7 (X 2 _ rfl);clear b6
   obtain ⟨_,b6,rfl⟩:=x0.2 (Y 1 (by decide))
   replace hZ:=Nat.le_trans hZ F.size
   replace S:=F.below S S.size (by simp<;>omega)
   clear C F X Y x0 U s8 s79 b9;refine Xj (wp_ret (YY ?_))
   refine bodyPost_ret (v:=.tuple #[.agg #[.int .i64 0,.int .i64 0,.int .i64 0,.int .i64 0],.bool false]) (by simp [results,Tryz.results160,go_sem,s6,b6.cell,s7]) O ?_
   exact ⟨by rw [adm_bad2 hd hv (not_t q47)];rfl,S⟩
  ·refine wp_cond_false (ev (vb s79 q47)) ?_
   refine wp_skip (Xj (wp_seq ?_))
   have U:XI [] (fun L aa K=>ZI K (w.heap.size+3) 72 [.int .i64 0,.int .i64 0,.int .i64 0,.int .i64 0] (L 1) (fun _ vs=>vs=[.int .i64 v.low.n,.int .i64 v.low.d,.int .i64 v.high.n,.int .i64 v.high.d])):=by
    intro L aa K w' kk vv hkk hb hX
    have x0:=hX
    exact (x0.bel hb (fun _ h=>h))
   refine Xx U (by kernel_rfl) [81,0,7] [some (Yf v),none,some (.bool true)] (X7 3) [81,7] [0,1,2] [(w.heap.size+3)] (by kernel_rfl) (by rw [V];decide) ?_ (en rfl ?_ (en rfl ?_ (en rfl ?_ .nil))) ?_
   ·exact fun _ h=>(⟨fun _=>b6.kp h (by simp),(fun h=>by cases h)⟩)
   ·intro T J K H _ _ D
    simp [go_sem,H.f.g rfl s8,(b9.kp H.k (by simp<;>omega)).cell]
    exact (D _ _ H.k rfl H.x)
   ·intro T J K H _ _ D
    have x0:=H.x
    have HT:=x0.1 H.n
    simp [go_sem,(gS J 81 (H.d 0 rfl rfl)),H.f.g rfl s6,HT.cell,HT.frz]
    exact D undef _ (H.k.store (.inr (by simp)) [.int .i64 v.low.n,.int .i64 v.low.d,.int .i64 v.high.n,.int .i64 v.high.d] 0) trivial (ZI.set HT (us:=[.int .i64 v.low.n,.int .i64 v.low.d,.int .i64 v.high.n,.int .i64 v.high.d]) rfl rfl)
   ·exact oACX rfl rfl fun _ _ _ _ h=>h
   intro L a50 w51 Y C F X hX;have x0:=hX;replace V:=C.Z V;replace O:=C.E O;replace s6:=C.G s6;have s7:=gS a50 7 (X 2 _ rfl);clear b6
   obtain ⟨_,b6,rfl⟩:=x0.2 (Y 1 (by decide))
   replace hZ:=Nat.le_trans hZ F.size
   replace S:=F.below S S.size (by simp<;>omega)
   clear C F X Y x0 U s8 s79 b9;refine Xj (wp_ret ?_)
   refine bodyPost_ret (v:=.tuple #[Yf v,.bool true]) (by simp [results,Tryz.results160,go_sem,s6,b6.cell,s7]) O ?_
   exact ⟨by rw [adm_good hd hv (Zv q47)];rfl,S⟩
end Go.Proofs.YtkjimfapbjdafaaGreat
end
section
namespace Go.Proofs.YtkjimfapbjdafaaGreat
open Go.RowKit
set_option maxRecDepth 100000 in
set_option maxHeartbeats 8000000 in
theorem iRobustOf_c (r:XN) (p:List Half) (ra:Yr) (b:ZR) (w:World) (hn:Xk r≤1048576) (hin:Za r) (hs:Yo w r ra) (hnl:Y5 ra) (hlp:p.length≤1048576) (hpi:∀ h∈p,h.In) (hsp:Sl 3 Xr w b.A p) (hnb:b.A=none→b.c=0) :
 Calls Tryz.prog 113 #[XH r ra,Yu p b] w fun e w'=>∃ v R,e=.returned (.tuple #[.agg #[v],.bool (Yg r p)])∧(Yg r p=true→R=Yj r p)∧R.length≤40∧XY 175 3 Xr w' w.heap.size v R∧Below w.heap.size w w':=by
 obtain ⟨W,hW⟩:∃ W,W=((w.alloc (.cells #[.slice ra.map.A (List.length r.map) ra.map.c,.int .i64 r.div,.int .i64 r.bx,.int .i64 r.by_,.int .i64 r.low,.int .i64 r.high,.slice ra.noise.A (List.length r.noise) ra.noise.c,.slice ra.limits.A (List.length r.limits) ra.limits.c] 39)).alloc (.cells #[.slice b.A p.length b.c] 37)).alloc (.cells #[.slice none 0 0] 37):=⟨_,rfl⟩
 have HA:Xy W w.heap.size 39 [.slice ra.map.A (List.length r.map) ra.map.c,.int .i64 r.div,.int .i64 r.bx,.int .i64 r.by_,.int .i64 r.low,.int .i64 r.high,.slice ra.noise.A (List.length r.noise) ra.noise.c,.slice ra.limits.A (List.length r.limits) ra.limits.c]:=by
  rw [hW];exact ((Xy.new w [.slice ra.map.A (List.length r.map) ra.map.c,.int .i64 r.div,.int .i64 r.bx,.int .i64 r.by_,.int .i64 r.low,.int .i64 r.high,.slice ra.noise.A (List.length r.noise) ra.noise.c,.slice ra.limits.A (List.length r.limits) ra.limits.c] 39).alloc _).alloc _
 have HB:Xy W (w.heap.size+1) 37 [.slice b.A p.length b.c]:=by
  have h1:=(Xy.new (w.alloc (.cells #[.slice ra.map.A (List.length r.map) ra.map.c,.int .i64 r.div,.int .i64 r.bx,.int .i64 r.by_,.int .i64 r.low,.int .i64 r.high,.slice ra.noise.A (List.length r.noise) ra.noise.c,.slice ra.limits.A (List.length r.limits) ra.limits.c] 39)) [.slice b.A p.length b.c] 37).alloc (.cells #[.slice none 0 0] 37)
  simp only [World.size_alloc] at h1;rw [hW];exact h1
 have HR:Xy W (w.heap.size+1+1) 37 [.slice none 0 0]:=by
  have h1:=Xy.new ((w.alloc (.cells #[.slice ra.map.A (List.length r.map) ra.map.c,.int .i64 r.div,.int .i64 r.bx,.int .i64 r.by_,.int .i64 r.low,.int .i64 r.high,.slice ra.noise.A (List.length r.noise) ra.noise.c,.slice ra.limits.A (List.length r.limits) ra.limits.c] 39)).alloc (.cells #[.slice b.A p.length b.c] 37)) [.slice none 0 0] 37
  simp only [World.size_alloc] at h1;rw [hW];exact h1
 have b0:Below w.heap.size w W:=by
  rw [hW]
  exact Xo
 have zW:=XX HR
 have hs0:=hs.below b0
 have sp:=hsp.below b0
 have hW':=Lib.hid hW
 clear hW hs hsp
 have HA_:=HA.has
 have HB_:=HB.has
 obtain ⟨cHA__0,fHA__0⟩:=HA_.2 0 _ rfl
 obtain ⟨cHA__1,fHA__1⟩:=HA_.2 1 _ rfl
 obtain ⟨cHA__2,fHA__2⟩:=HA_.2 2 _ rfl
 obtain ⟨cHA__3,fHA__3⟩:=HA_.2 3 _ rfl
 obtain ⟨cHA__4,fHA__4⟩:=HA_.2 4 _ rfl
 obtain ⟨cHA__5,fHA__5⟩:=HA_.2 5 _ rfl
 obtain ⟨cHA__6,fHA__6⟩:=HA_.2 6 _ rfl
 obtain ⟨cHA__7,fHA__7⟩:=HA_.2 7 _ rfl
 obtain ⟨cHB__0,fHB__0⟩:=HB_.2 0 _ rfl
 have lA:=HA_.1
 have lB:=HB_.1
 have cv:=fun W=>iIsVoid_c p b W
 have hdef:=Lib.hid (show Yg r p=(!decide (p.length=0)&&Zp r p && !decide ((Yj r p).length=0)) from rfl)
 by_cases h0:p.length=0
 ·have C:=Lib.hid (show Yg r p=false by rw [hdef.out,decide_eq_true h0];rfl)
  rw [decide_eq_true h0] at cv
  clear h0
  go_enter Tryz.func113,Tryz.ntmps113
  go_upto_region 1 with fail
  rw [← hW'.out]
  clear hW'
  go_wp2_with (fail)
  refine (cv _).mono ?_
  rintro e w1 ⟨rfl,hb1⟩
  have R1:=(HR.below hb1).has
  have b1:=Xh b0 hb1
  obtain ⟨cR1_0,fR1_0⟩:=R1.2 0 _ rfl
  have lR:=R1.1
  go_wp2
  refine bodyPost_ret (v:=.tuple #[.agg #[.slice none 0 0],.bool false]) (by simp [results,Tryz.results113,go_sem,cR1_0]) rfl ⟨.slice none 0 0,[],by rw [C.out],(fun h=>by rw [C.out] at h;cases h),by simp,⟨none,0,rfl,World.ownsRow_nil _ _ _ _⟩,YO b1 (by simp only;omega) _⟩
 have hp0:=Lib.hid h0
 rw [decide_eq_false h0] at cv
 clear h0
 have cr:=fun W h1 h2=>iRob_c r p ra b W hn hin h1 hnl hlp hpi h2 hnb
 have hro:=KY (rpR_ok r p)
 go_enter Tryz.func113,Tryz.ntmps113
 go_upto_region 1 with fail
 rw [← hW'.out]
 clear hW'
 go_wp2_with (fail)
 refine (cv _).mono ?_
 rintro e w1 ⟨rfl,hb1⟩
 have r1:=Xn hb1
 have l1:=blt hb1 lA
 have l2:=blt hb1 lB
 go_wp2_with (fail)
 refine (cr _ (hs0.below hb1) (sp.below hb1)).mono ?_
 rintro e w2 ⟨v2,rfl,N2,hb2⟩
 obtain ⟨Av,cv2,rfl,o3⟩:=N2
 obtain ⟨R,hR⟩:∃ R,R=Yj r p:=⟨_,rfl⟩
 obtain ⟨ok,hok⟩:∃ ok,ok=Zp r p:=⟨_,rfl⟩
 rw [← hR] at o3 hro
 rw [← hR,← hok]
 have N2:XY 175 3 Xr w2 w1.heap.size (.slice Av R.length cv2) R:=⟨Av,cv2,rfl,o3⟩
 have hR':=Lib.hid hR
 have hok':=Lib.hid hok
 clear hR hok o3
 have T3:Xy (w2.alloc (.cells #[.slice Av R.length cv2] 37)) w2.heap.size 37 [.slice Av R.length cv2]:=Xy.new w2 [.slice Av R.length cv2] 37
 have R3:=((HR.below hb1).below hb2).alloc (.cells #[.slice Av R.length cv2] 37)
 have N3:=N2.alloc (.cells #[.slice Av R.length cv2] 37)
 have b3:=Xm (Xh (Xh b0 hb1) hb2) (.cells #[.slice Av R.length cv2] 37)
 have z3:=Nat.lt_of_lt_of_le zW (Nat.le_trans hb1.size hb2.size);have z1:=hb1.size;clear HA_ HB_ cHA__0 cHA__1 cHA__2 cHA__3 cHA__4 cHA__5 cHA__6 cHA__7 fHA__0 fHA__1 fHA__2 fHA__3 fHA__4 fHA__5 fHA__6 fHA__7 cHB__0 fHB__0 lA lB HA HB HR b0 hs0 sp r1 l1 l2 hb1 hb2 N2 cv cr
 go_upto_region 4 with fail
 generalize w2.alloc (.cells #[.slice Av R.length cv2] 37)=w3 at *
 generalize w2.heap.size=g2 at *
 have cv:=fun W=>iIsVoid_c R ⟨Av,cv2⟩ W
 obtain ⟨vd,hvd⟩:∃ vd,vd=decide (R.length=0):=⟨_,rfl⟩
 rw [← hvd] at cv
 have hvd':=Lib.hid hvd
 have hBWA:w.heap.size+1+1≤w3.heap.size:=by have:=XX R3;omega
 have hTA_0:=T3
 have hTA_1:=R3
 have lT:=XX T3
 have lR:=XX R3
 clear hvd
 cases ok
 ·have C:=Lib.hid (show Yg r p=false by rw [hdef.out,← hok'.out];simp)
  have hKA_0:=N3
  obtain ⟨IA,hIA⟩:∃ I:Act→(Nat→Bool)→Act→World→Prop,I=(fun a0 L a w'=>Yk a0 a [17,18,19,20,21,22,23,5]∧Below (w.heap.size+1+1) w3 w'∧(L 0=true→a.tmps[17]?.getD undef=.agg #[.slice Av R.length cv2])∧(L 1=true→a.tmps[18]?.getD undef=.bool false)∧(L 2=true→a.tmps[19]?.getD undef=.bool false)∧(L 3=true→a.tmps[20]?.getD undef=undef)∧(L 4=true→a.tmps[21]?.getD undef=undef)∧(L 5=true→a.tmps[22]?.getD undef=undef)∧(L 6=true→a.tmps[23]?.getD undef=.bool false)∧(L 8=true→a.tmps[5]?.getD undef=.bool false)∧(L 2=true→L 1=true)∧(L 6=true→L 2=true)∧(L 7=true→L 0=true)∧(L 8=true→L 6=true)∧Xy w' (g2) 37 [.slice Av R.length cv2]∧(L 7=false→Xy w' (w.heap.size+1+1) 37 [.slice none 0 0])∧(L 7=true→Xy w' (w.heap.size+1+1) 37 [.slice Av R.length cv2])∧(XY 175 3 Xr w' w1.heap.size (.slice Av R.length cv2) R)):=⟨_,rfl⟩
  refine Jq (by kernel_rfl) (by kernel_rfl) IA ?h0 ?hs ?he
  case h0 =>
   rw [hIA]
   exact ⟨Yk.refl _ _,bR.drew,fun h=>absurd h (by simp),fun h=>absurd h (by simp),fun h=>absurd h (by simp),fun h=>absurd h (by simp),fun h=>absurd h (by simp),fun h=>absurd h (by simp),fun h=>absurd h (by simp),fun h=>absurd h (by simp),fun h=>absurd h (by simp),fun h=>absurd h (by simp),fun h=>absurd h (by simp),fun h=>absurd h (by simp),hTA_0,fun _=>hTA_1,fun h=>absurd h (by simp),hKA_0⟩
  case hs =>
   intro L a w' i o ho hLi hd hI'
   rw [hIA] at hI'
   obtain ⟨C,S,ci0,ci1,ci2,ci3,ci4,ci5,ci6,ci8,cp2_1,cp6_2,cp7_0,cp8_6,cy0,cy1,cz1,ck0⟩:=hI'
   have hi:i<9:=by
    rcases Nat.lt_or_ge i 9 with h|h
    ·exact h
    ·rw [List.getElem?_eq_none (by simpa using h)] at ho;cases ho
   have zB:=S.size
   have hBw:w.heap.size+1+1≤w'.heap.size:=Nat.le_trans hBWA zB
   obtain rfl|rfl|rfl|rfl|rfl|rfl|rfl|rfl|rfl:i=0∨i=1∨i=2∨i=3∨i=4∨i=5∨i=6∨i=7∨i=8:=by omega
   ·simp only [List.getElem?_cons_zero,Option.some.injEq] at ho
    subst ho
    rw [if_pos (by simp [Region.wanted])]
    have e0:a.tmps[6]?.getD undef=.pointer (some ⟨g2,0,none⟩):=C.get (by decide)
    have HT0:=cy0
    have HH0:=HT0.has
    have lH0:=HH0.1
    obtain ⟨cH0_0,fH0_0⟩:=HH0.2 0 _ rfl
    simp [go_sem,Array.getD_eq_getD_getElem?,e0,cH0_0]
    rw [hIA]
    exact ⟨C.put (by decide) _,S,fun _=>Xc (C.lt (by simp)) _,XS ci1 (by decide) rfl,XS ci2 (by decide) rfl,XS ci3 (by decide) rfl,XS ci4 (by decide) rfl,XS ci5 (by decide) rfl,XS ci6 (by decide) rfl,XS ci8 (by decide) rfl,XW cp2_1 rfl,XW cp6_2 rfl,fun _=>by simp,XW cp8_6 rfl,cy0,knK cy1 rfl,fun h=>cz1 (by simpa using h),ck0⟩
   ·simp only [List.getElem?_cons_zero,List.getElem?_cons_succ,Option.some.injEq] at ho
    subst ho
    rw [if_pos (by simp [Region.wanted])]
    have e0:a.tmps[7]?.getD undef=.bool false:=C.get (by decide)
    simp [go_sem,Array.getD_eq_getD_getElem?,e0]
    rw [hIA]
    exact ⟨C.put (by decide) _,S,XS ci0 (by decide) rfl,fun _=>Xc (C.lt (by simp)) _,XS ci2 (by decide) rfl,XS ci3 (by decide) rfl,XS ci4 (by decide) rfl,XS ci5 (by decide) rfl,XS ci6 (by decide) rfl,XS ci8 (by decide) rfl,fun _=>by simp,XW cp6_2 rfl,XW cp7_0 rfl,XW cp8_6 rfl,cy0,knK cy1 rfl,fun h=>cz1 (by simpa using h),ck0⟩
   ·simp only [List.getElem?_cons_zero,List.getElem?_cons_succ,Option.some.injEq] at ho
    subst ho
    rw [if_pos (by simp [Region.wanted])]
    have d1:=hd { on:=1,ground:=.data } (by simp) (by decide)
    have v1:=ci1 d1
    simp [go_sem,Array.getD_eq_getD_getElem?,v1]
    rw [hIA]
    exact ⟨C.put (by decide) _,S,XS ci0 (by decide) rfl,XS ci1 (by decide) rfl,fun _=>Xc (C.lt (by simp)) _,XS ci3 (by decide) rfl,XS ci4 (by decide) rfl,XS ci5 (by decide) rfl,XS ci6 (by decide) rfl,XS ci8 (by decide) rfl,fun _=>by simp [d1],fun _=>by simp,XW cp7_0 rfl,XW cp8_6 rfl,cy0,knK cy1 rfl,fun h=>cz1 (by simpa using h),ck0⟩
   ·simp only [List.getElem?_cons_zero,List.getElem?_cons_succ,Option.some.injEq] at ho
    subst ho
    have dg:=hd { on:=2,ground:=.guard } (by simp) (by decide)
    have vg:=ci2 dg
    rw [if_neg (unwanted_of rfl rfl rfl vg (by decide))]
    rw [hIA]
    exact ⟨C.put (by decide) _,S,XS ci0 (by decide) rfl,XS ci1 (by decide) rfl,XS ci2 (by decide) rfl,fun _=>Xc (C.lt (by simp)) _,XS ci4 (by decide) rfl,XS ci5 (by decide) rfl,XS ci6 (by decide) rfl,XS ci8 (by decide) rfl,XW cp2_1 rfl,XW cp6_2 rfl,XW cp7_0 rfl,XW cp8_6 rfl,cy0,knK cy1 rfl,fun h=>cz1 (by simpa using h),ck0⟩
   ·simp only [List.getElem?_cons_zero,List.getElem?_cons_succ,Option.some.injEq] at ho
    subst ho
    have dg:=hd { on:=2,ground:=.guard } (by simp) (by decide)
    have vg:=ci2 dg
    rw [if_neg (unwanted_of rfl rfl rfl vg (by decide))]
    rw [hIA]
    exact ⟨C.put (by decide) _,S,XS ci0 (by decide) rfl,XS ci1 (by decide) rfl,XS ci2 (by decide) rfl,XS ci3 (by decide) rfl,fun _=>Xc (C.lt (by simp)) _,XS ci5 (by decide) rfl,XS ci6 (by decide) rfl,XS ci8 (by decide) rfl,XW cp2_1 rfl,XW cp6_2 rfl,XW cp7_0 rfl,XW cp8_6 rfl,cy0,knK cy1 rfl,fun h=>cz1 (by simpa using h),ck0⟩
   ·simp only [List.getElem?_cons_zero,List.getElem?_cons_succ,Option.some.injEq] at ho
    subst ho
    have dg:=hd { on:=2,ground:=.guard } (by simp) (by decide)
    have vg:=ci2 dg
    rw [if_neg (unwanted_of rfl rfl rfl vg (by decide))]
    rw [hIA]
    exact ⟨C.put (by decide) _,S,XS ci0 (by decide) rfl,XS ci1 (by decide) rfl,XS ci2 (by decide) rfl,XS ci3 (by decide) rfl,XS ci4 (by decide) rfl,fun _=>Xc (C.lt (by simp)) _,XS ci6 (by decide) rfl,XS ci8 (by decide) rfl,XW cp2_1 rfl,XW cp6_2 rfl,XW cp7_0 rfl,XW cp8_6 rfl,cy0,knK cy1 rfl,fun h=>cz1 (by simpa using h),ck0⟩
   ·simp only [List.getElem?_cons_zero,List.getElem?_cons_succ,Option.some.injEq] at ho
    subst ho
    rw [if_pos (by simp [Region.wanted])]
    have d2:=hd { on:=2,ground:=.data } (by simp) (by decide)
    have v2:=ci2 d2
    simp [go_sem,Array.getD_eq_getD_getElem?,v2]
    rw [hIA]
    exact ⟨C.put (by decide) _,S,XS ci0 (by decide) rfl,XS ci1 (by decide) rfl,XS ci2 (by decide) rfl,XS ci3 (by decide) rfl,XS ci4 (by decide) rfl,XS ci5 (by decide) rfl,fun _=>Xc (C.lt (by simp)) _,XS ci8 (by decide) rfl,XW cp2_1 rfl,fun _=>by simp [d2],XW cp7_0 rfl,fun _=>by simp,cy0,knK cy1 rfl,fun h=>cz1 (by simpa using h),ck0⟩
   ·simp only [List.getElem?_cons_zero,List.getElem?_cons_succ,Option.some.injEq] at ho
    subst ho
    rw [if_pos (by simp [Region.wanted])]
    have e0:a.tmps[4]?.getD undef=.pointer (some ⟨w.heap.size+1+1,0,none⟩):=C.get (by decide)
    have d0:=hd { on:=0,ground:=.data } (by simp) (by decide)
    have v0:=ci0 d0
    have HT1:=cy1 hLi
    have HH1:=HT1.has
    have lH1:=HH1.1
    obtain ⟨cH1_0,fH1_0⟩:=HH1.2 0 _ rfl
    simp [go_sem,Array.getD_eq_getD_getElem?,e0,v0,cH1_0,fH1_0]
    rw [hIA]
    exact ⟨C,Zd (by omega) [_] 0 _ S,kpK ci0 rfl,kpK ci1 rfl,kpK ci2 rfl,kpK ci3 rfl,kpK ci4 rfl,kpK ci5 rfl,kpK ci6 rfl,kpK ci8 rfl,XW cp2_1 rfl,XW cp6_2 rfl,fun _=>by simp [d0],XW cp8_6 rfl,(cy0).other (g':=w.heap.size+1+1) (by omega) [.slice Av R.length cv2] 0,fun h=>by simp at h,fun _=>HT1.store (us:=[.slice Av R.length cv2]) rfl,(ck0).otherC ((ck0).typ HT1 (by decide)) [.slice Av R.length cv2] 0⟩
   ·simp only [List.getElem?_cons_zero,List.getElem?_cons_succ,Option.some.injEq] at ho
    subst ho
    rw [if_pos (by simp [Region.wanted])]
    have d6:=hd { on:=6,ground:=.data } (by simp) (by decide)
    have v6:=ci6 d6
    simp [go_sem,Array.getD_eq_getD_getElem?,v6]
    rw [hIA]
    exact ⟨C.put (by decide) _,S,XS ci0 (by decide) rfl,XS ci1 (by decide) rfl,XS ci2 (by decide) rfl,XS ci3 (by decide) rfl,XS ci4 (by decide) rfl,XS ci5 (by decide) rfl,XS ci6 (by decide) rfl,fun _=>Xc (C.lt (by simp)) _,XW cp2_1 rfl,XW cp6_2 rfl,XW cp7_0 rfl,fun _=>by simp [d6],cy0,knK cy1 rfl,fun h=>cz1 (by simpa using h),ck0⟩
  case he =>
   intro L a' wA Y hI'
   rw [hIA] at hI'
   obtain ⟨C,hbA,ci0,ci1,ci2,ci3,ci4,ci5,ci6,ci8,cp2_1,cp6_2,cp7_0,cp8_6,cy0,cy1,cz1,ck0⟩:=hI'
   have eA_8:=ci8 (Y 8 (by decide))
   have HTA_0:=cy0
   have HTA_1:=cz1 (Y 7 (by decide))
   have NKA_0:=ck0
   have hout:=C.outG (by simp)
   simp only [List.foldl_cons,List.foldl_nil,eA_8] at hout
   rw [hout]
   generalize a'.tmps[17]?.getD undef=xA_17
   generalize a'.tmps[18]?.getD undef=xA_18
   generalize a'.tmps[19]?.getD undef=xA_19
   generalize a'.tmps[20]?.getD undef=xA_20
   generalize a'.tmps[21]?.getD undef=xA_21
   generalize a'.tmps[22]?.getD undef=xA_22
   generalize a'.tmps[23]?.getD undef=xA_23
   clear hout hIA C Y ci0 ci1 ci2 ci3 ci4 ci5 ci6 ci8 cp2_1 cp6_2 cp7_0 cp8_6 cy0 cy1 cz1 ck0
   go_simp
   have HF:=HTA_1.has
   obtain ⟨cHF_0,fHF_0⟩:=HF.2 0 _ rfl
   have lF:=HF.1
   go_wp2
   refine bodyPost_ret (v:=.tuple #[.agg #[.slice Av R.length cv2],.bool false]) (by simp [results,Tryz.results113,go_sem, *]) rfl ⟨.slice Av R.length cv2,R,by rw [C.out],fun _=>hR'.out,hro, ?_,b3.trans (hbA.mono (by omega))⟩
   exact NKA_0.mono (by omega)
 ·have C:=Lib.hid (show Yg r p = !vd by rw [hdef.out,← hok'.out,← hR'.out,decide_eq_false hp0.out,← hvd'.out];simp)
  have hKA_0:=N3
  obtain ⟨IA,hIA⟩:∃ I:Act→(Nat→Bool)→Act→World→Prop,I=(fun a0 L a w'=>Yk a0 a [17,18,19,20,21,22,23,5]∧Below (w.heap.size+1+1) w3 w'∧(L 0=true→a.tmps[17]?.getD undef=.agg #[.slice Av R.length cv2])∧(L 1=true→a.tmps[18]?.getD undef=.bool true)∧(L 2=true→a.tmps[19]?.getD undef=.bool true)∧(L 3=true→a.tmps[20]?.getD undef=.agg #[.slice Av R.length cv2])∧(L 4=true→a.tmps[21]?.getD undef=.bool (vd))∧(L 5=true→a.tmps[22]?.getD undef=.bool (!vd))∧(L 6=true→a.tmps[23]?.getD undef=.bool (!vd))∧(L 8=true→a.tmps[5]?.getD undef=.bool (!vd))∧(L 2=true→L 1=true)∧(L 4=true→L 3=true)∧(L 5=true→L 4=true)∧(L 6=true→L 2=true)∧(L 6=true→L 5=true)∧(L 7=true→L 0=true)∧(L 8=true→L 6=true)∧Xy w' (g2) 37 [.slice Av R.length cv2]∧(L 7=false→Xy w' (w.heap.size+1+1) 37 [.slice none 0 0])∧(L 7=true→Xy w' (w.heap.size+1+1) 37 [.slice Av R.length cv2])∧(XY 175 3 Xr w' w1.heap.size (.slice Av R.length cv2) R)):=⟨_,rfl⟩
  refine Jq (by kernel_rfl) (by kernel_rfl) IA ?h0 ?hs ?he
  case h0 =>
   rw [hIA]
   exact ⟨Yk.refl _ _,bR.drew,fun h=>absurd h (by simp),fun h=>absurd h (by simp),fun h=>absurd h (by simp),fun h=>absurd h (by simp),fun h=>absurd h (by simp),fun h=>absurd h (by simp),fun h=>absurd h (by simp),fun h=>absurd h (by simp),fun h=>absurd h (by simp),fun h=>absurd h (by simp),fun h=>absurd h (by simp),fun h=>absurd h (by simp),fun h=>absurd h (by simp),fun h=>absurd h (by simp),fun h=>absurd h (by simp),hTA_0,fun _=>hTA_1,fun h=>absurd h (by simp),hKA_0⟩
  case hs =>
   intro L a w' i o ho hLi hd hI'
   rw [hIA] at hI'
   obtain ⟨C,S,ci0,ci1,ci2,ci3,ci4,ci5,ci6,ci8,cp2_1,cp4_3,cp5_4,cp6_2,cp6_5,cp7_0,cp8_6,cy0,cy1,cz1,ck0⟩:=hI'
   have hi:i<9:=by
    rcases Nat.lt_or_ge i 9 with h|h
    ·exact h
    ·rw [List.getElem?_eq_none (by simpa using h)] at ho;cases ho
   have zB:=S.size
   have hBw:w.heap.size+1+1≤w'.heap.size:=Nat.le_trans hBWA zB
   obtain rfl|rfl|rfl|rfl|rfl|rfl|rfl|rfl|rfl:i=0∨i=1∨i=2∨i=3∨i=4∨i=5∨i=6∨i=7∨i=8:=by omega
   ·simp only [List.getElem?_cons_zero,Option.some.injEq] at ho
    subst ho
    rw [if_pos (by simp [Region.wanted])]
    have e0:a.tmps[6]?.getD undef=.pointer (some ⟨g2,0,none⟩):=C.get (by decide)
    have HT0:=cy0
    have HH0:=HT0.has
    have lH0:=HH0.1
    obtain ⟨cH0_0,fH0_0⟩:=HH0.2 0 _ rfl
    simp [go_sem,Array.getD_eq_getD_getElem?,e0,cH0_0]
    rw [hIA]
    exact ⟨C.put (by decide) _,S,fun _=>Xc (C.lt (by simp)) _,XS ci1 (by decide) rfl,XS ci2 (by decide) rfl,XS ci3 (by decide) rfl,XS ci4 (by decide) rfl,XS ci5 (by decide) rfl,XS ci6 (by decide) rfl,XS ci8 (by decide) rfl,XW cp2_1 rfl,XW cp4_3 rfl,XW cp5_4 rfl,XW cp6_2 rfl,XW cp6_5 rfl,fun _=>by simp,XW cp8_6 rfl,cy0,knK cy1 rfl,fun h=>cz1 (by simpa using h),ck0⟩
   ·simp only [List.getElem?_cons_zero,List.getElem?_cons_succ,Option.some.injEq] at ho
    subst ho
    rw [if_pos (by simp [Region.wanted])]
    have e0:a.tmps[7]?.getD undef=.bool true:=C.get (by decide)
    simp [go_sem,Array.getD_eq_getD_getElem?,e0]
    rw [hIA]
    exact ⟨C.put (by decide) _,S,XS ci0 (by decide) rfl,fun _=>Xc (C.lt (by simp)) _,XS ci2 (by decide) rfl,XS ci3 (by decide) rfl,XS ci4 (by decide) rfl,XS ci5 (by decide) rfl,XS ci6 (by decide) rfl,XS ci8 (by decide) rfl,fun _=>by simp,XW cp4_3 rfl,XW cp5_4 rfl,XW cp6_2 rfl,XW cp6_5 rfl,XW cp7_0 rfl,XW cp8_6 rfl,cy0,knK cy1 rfl,fun h=>cz1 (by simpa using h),ck0⟩
   ·simp only [List.getElem?_cons_zero,List.getElem?_cons_succ,Option.some.injEq] at ho
    subst ho
    rw [if_pos (by simp [Region.wanted])]
    have d1:=hd { on:=1,ground:=.data } (by simp) (by decide)
    have v1:=ci1 d1
    simp [go_sem,Array.getD_eq_getD_getElem?,v1]
    rw [hIA]
    exact ⟨C.put (by decide) _,S,XS ci0 (by decide) rfl,XS ci1 (by decide) rfl,fun _=>Xc (C.lt (by simp)) _,XS ci3 (by decide) rfl,XS ci4 (by decide) rfl,XS ci5 (by decide) rfl,XS ci6 (by decide) rfl,XS ci8 (by decide) rfl,fun _=>by simp [d1],XW cp4_3 rfl,XW cp5_4 rfl,fun _=>by simp,XW cp6_5 rfl,XW cp7_0 rfl,XW cp8_6 rfl,cy0,knK cy1 rfl,fun h=>cz1 (by simpa using h),ck0⟩
   ·simp only [List.getElem?_cons_zero,List.getElem?_cons_succ,Option.some.injEq] at ho
    subst ho
    have dg:=hd { on:=2,ground:=.guard } (by simp) (by decide)
    have vg:=ci2 dg
    rw [if_pos (wanted_of rfl rfl rfl vg)]
    have e0:a.tmps[6]?.getD undef=.pointer (some ⟨g2,0,none⟩):=C.get (by decide)
    have HT0:=cy0
    have HH0:=HT0.has
    have lH0:=HH0.1
    obtain ⟨cH0_0,fH0_0⟩:=HH0.2 0 _ rfl
    simp [go_sem,Array.getD_eq_getD_getElem?,e0,cH0_0]
    rw [hIA]
    exact ⟨C.put (by decide) _,S,XS ci0 (by decide) rfl,XS ci1 (by decide) rfl,XS ci2 (by decide) rfl,fun _=>Xc (C.lt (by simp)) _,XS ci4 (by decide) rfl,XS ci5 (by decide) rfl,XS ci6 (by decide) rfl,XS ci8 (by decide) rfl,XW cp2_1 rfl,fun _=>by simp,XW cp5_4 rfl,XW cp6_2 rfl,XW cp6_5 rfl,XW cp7_0 rfl,XW cp8_6 rfl,cy0,knK cy1 rfl,fun h=>cz1 (by simpa using h),ck0⟩
   ·simp only [List.getElem?_cons_zero,List.getElem?_cons_succ,Option.some.injEq] at ho
    subst ho
    have dg:=hd { on:=2,ground:=.guard } (by simp) (by decide)
    have vg:=ci2 dg
    rw [if_pos (wanted_of rfl rfl rfl vg)]
    have d3:=hd { on:=3,ground:=.data } (by simp) (by decide)
    have v3:=ci3 d3
    simp [go_sem,Array.getD_eq_getD_getElem?,v3]
    refine (cv _).mono ?_
    rintro e wx ⟨rfl,hbx⟩
    rw [hIA]
    exact ⟨C.put (by decide) _,S.trans (hbx.mono hBw),XS ci0 (by decide) rfl,XS ci1 (by decide) rfl,XS ci2 (by decide) rfl,XS ci3 (by decide) rfl,fun _=>Xc (C.lt (by simp)) _,XS ci5 (by decide) rfl,XS ci6 (by decide) rfl,XS ci8 (by decide) rfl,XW cp2_1 rfl,fun _=>by simp [d3],fun _=>by simp,XW cp6_2 rfl,XW cp6_5 rfl,XW cp7_0 rfl,XW cp8_6 rfl,(cy0).below hbx,fun h=>(cy1 (by simpa using h)).below hbx,fun h=>(cz1 (by simpa using h)).below hbx,(ck0).below hbx Xu⟩
   ·simp only [List.getElem?_cons_zero,List.getElem?_cons_succ,Option.some.injEq] at ho
    subst ho
    have dg:=hd { on:=2,ground:=.guard } (by simp) (by decide)
    have vg:=ci2 dg
    rw [if_pos (wanted_of rfl rfl rfl vg)]
    have d4:=hd { on:=4,ground:=.data } (by simp) (by decide)
    have v4:=ci4 d4
    simp [go_sem,Array.getD_eq_getD_getElem?,v4]
    rw [hIA]
    exact ⟨C.put (by decide) _,S,XS ci0 (by decide) rfl,XS ci1 (by decide) rfl,XS ci2 (by decide) rfl,XS ci3 (by decide) rfl,XS ci4 (by decide) rfl,fun _=>Xc (C.lt (by simp)) _,XS ci6 (by decide) rfl,XS ci8 (by decide) rfl,XW cp2_1 rfl,XW cp4_3 rfl,fun _=>by simp [d4],XW cp6_2 rfl,fun _=>by simp,XW cp7_0 rfl,XW cp8_6 rfl,cy0,knK cy1 rfl,fun h=>cz1 (by simpa using h),ck0⟩
   ·simp only [List.getElem?_cons_zero,List.getElem?_cons_succ,Option.some.injEq] at ho
    subst ho
    rw [if_pos (by simp [Region.wanted])]
    have d2:=hd { on:=2,ground:=.data } (by simp) (by decide)
    have v2:=ci2 d2
    have d5:=hd { on:=5,ground:=.data } (by simp) (by decide)
    have v5:=ci5 d5
    simp [go_sem,Array.getD_eq_getD_getElem?,v2,v5]
    rw [hIA]
    exact ⟨C.put (by decide) _,S,XS ci0 (by decide) rfl,XS ci1 (by decide) rfl,XS ci2 (by decide) rfl,XS ci3 (by decide) rfl,XS ci4 (by decide) rfl,XS ci5 (by decide) rfl,fun _=>Xc (C.lt (by simp)) _,XS ci8 (by decide) rfl,XW cp2_1 rfl,XW cp4_3 rfl,XW cp5_4 rfl,fun _=>by simp [d2],fun _=>by simp [d5],XW cp7_0 rfl,fun _=>by simp,cy0,knK cy1 rfl,fun h=>cz1 (by simpa using h),ck0⟩
   ·simp only [List.getElem?_cons_zero,List.getElem?_cons_succ,Option.some.injEq] at ho
    subst ho
    rw [if_pos (by simp [Region.wanted])]
    have e0:a.tmps[4]?.getD undef=.pointer (some ⟨w.heap.size+1+1,0,none⟩):=C.get (by decide)
    have d0:=hd { on:=0,ground:=.data } (by simp) (by decide)
    have v0:=ci0 d0
    have HT1:=cy1 hLi
    have HH1:=HT1.has
    have lH1:=HH1.1
    obtain ⟨cH1_0,fH1_0⟩:=HH1.2 0 _ rfl
    simp [go_sem,Array.getD_eq_getD_getElem?,e0,v0,cH1_0,fH1_0]
    rw [hIA]
    exact ⟨C,Zd (by omega) [_] 0 _ S,kpK ci0 rfl,kpK ci1 rfl,kpK ci2 rfl,kpK ci3 rfl,kpK ci4 rfl,kpK ci5 rfl,kpK ci6 rfl,kpK ci8 rfl,XW cp2_1 rfl,XW cp4_3 rfl,XW cp5_4 rfl,XW cp6_2 rfl,XW cp6_5 rfl,fun _=>by simp [d0],XW cp8_6 rfl,(cy0).other (g':=w.heap.size+1+1) (by omega) [.slice Av R.length cv2] 0,fun h=>by simp at h,fun _=>HT1.store (us:=[.slice Av R.length cv2]) rfl,(ck0).otherC ((ck0).typ HT1 (by decide)) [.slice Av R.length cv2] 0⟩
   ·simp only [List.getElem?_cons_zero,List.getElem?_cons_succ,Option.some.injEq] at ho
    subst ho
    rw [if_pos (by simp [Region.wanted])]
    have d6:=hd { on:=6,ground:=.data } (by simp) (by decide)
    have v6:=ci6 d6
    simp [go_sem,Array.getD_eq_getD_getElem?,v6]
    rw [hIA]
    exact ⟨C.put (by decide) _,S,XS ci0 (by decide) rfl,XS ci1 (by decide) rfl,XS ci2 (by decide) rfl,XS ci3 (by decide) rfl,XS ci4 (by decide) rfl,XS ci5 (by decide) rfl,XS ci6 (by decide) rfl,fun _=>Xc (C.lt (by simp)) _,XW cp2_1 rfl,XW cp4_3 rfl,XW cp5_4 rfl,XW cp6_2 rfl,XW cp6_5 rfl,XW cp7_0 rfl,fun _=>by simp [d6],cy0,knK cy1 rfl,fun h=>cz1 (by simpa using h),ck0⟩
  case he =>
   intro L a' wA Y hI'
   rw [hIA] at hI'
   obtain ⟨C,hbA,ci0,ci1,ci2,ci3,ci4,ci5,ci6,ci8,cp2_1,cp4_3,cp5_4,cp6_2,cp6_5,cp7_0,cp8_6,cy0,cy1,cz1,ck0⟩:=hI'
   have eA_8:=ci8 (Y 8 (by decide))
   have HTA_0:=cy0
   have HTA_1:=cz1 (Y 7 (by decide))
   have NKA_0:=ck0
   have hout:=C.outG (by simp)
   simp only [List.foldl_cons,List.foldl_nil,eA_8] at hout
   rw [hout]
   generalize a'.tmps[17]?.getD undef=xA_17
   generalize a'.tmps[18]?.getD undef=xA_18
   generalize a'.tmps[19]?.getD undef=xA_19
   generalize a'.tmps[20]?.getD undef=xA_20
   generalize a'.tmps[21]?.getD undef=xA_21
   generalize a'.tmps[22]?.getD undef=xA_22
   generalize a'.tmps[23]?.getD undef=xA_23
   clear hout hIA C Y ci0 ci1 ci2 ci3 ci4 ci5 ci6 ci8 cp2_1 cp4_3 cp5_4 cp6_2 cp6_5 cp7_0 cp8_6 cy0 cy1 cz1 ck0
   go_simp
   have HF:=HTA_1.has
   obtain ⟨cHF_0,fHF_0⟩:=HF.2 0 _ rfl
   have lF:=HF.1
   go_wp2
   refine bodyPost_ret (v:=.tuple #[.agg #[.slice Av R.length cv2],.bool (!vd)]) (by simp [results,Tryz.results113,go_sem, *]) rfl ⟨.slice Av R.length cv2,R,by rw [C.out],fun _=>hR'.out,hro, ?_,b3.trans (hbA.mono (by omega))⟩
   exact NKA_0.mono (by omega)
end Go.Proofs.YtkjimfapbjdafaaGreat
end
section
namespace Go.Proofs.YtkjimfapbjdafaaGreat
open Go.RowKit
theorem accS_succ {A:XJ→Option YX} {l:List XJ} {k:Nat} {v:YX} (h:KC A l k=some v) (hk:k<l.length):KC A l (k+1)=(A l[k]).bind fun u=>if k=0 then some u else Yl v u:=by
 rw [KC,h,Option.bind_some,List.getD_eq_getElem?_getD,List.getElem?_eq_getElem hk];rfl
theorem meetSp_ok {a b c:YX} (h:Yl a b=some c):Xv c=true:=by
 unfold Yl at h
 split at h
 ·rename_i q;cases h;exact q.2.2
 ·cases h
theorem spanOk_r {s:YX} (h:Xv s=true):Xp s.low=true∧Xp s.high=true:=by
 simp only [Xv,Bool.and_eq_true] at h
 exact ⟨h.1.1,h.1.2⟩
theorem Jz {r:XN} {e:List Half} {s:XJ} {c:YX} (h:XC r e s=some c):Xv c=true:=by
 unfold XC at h
 split at h
 ·cases h
 ·cases q:admL r s e with
  | none=>rw [q] at h;cases h
  | some w =>
   rw [q] at h
   simp only [Option.bind_some] at h
   split at h
   ·cases h;assumption
   ·cases h
theorem span_In {s:YX} (h:Xv s=true):s.In:=⟨Kv (spanOk_r h).1,Kv (spanOk_r h).2⟩
set_option maxRecDepth 100000 in
set_option maxHeartbeats 3000000 in
theorem iAdmAll_c (r:XN) (e:List Half) (l:List XJ) (ra:Yr) (b c:ZR) (w:World) (hr:XU r=true) (he:∀ h∈e,XD h=true) (hle:e.length≤40) (hl:∀ t∈l,X9 t=true) (hln:l.length≤4) (hsR:Yo w r ra) (hsE:Sl 3 Xr w b.A e) (hsL:Sl 3 KR w c.A l) :
 Calls Tryz.prog 188 #[XH r ra,Yu e b,.slice c.A l.length c.c] w fun x w'=>x=.returned (ZZ (KC (fun t=>XC r e t) l l.length))∧Below w.heap.size w w':=by
 obtain ⟨W,hW⟩:∃ W,W=(((w.alloc (.cells #[.slice ra.map.A (List.length r.map) ra.map.c,.int .i64 r.div,.int .i64 r.bx,.int .i64 r.by_,.int .i64 r.low,.int .i64 r.high,.slice ra.noise.A (List.length r.noise) ra.noise.c,.slice ra.limits.A (List.length r.limits) ra.limits.c] 39)).alloc (.cells #[.slice b.A e.length b.c] 37)).alloc (.cells #[.int .i64 0,.int .i64 0,.int .i64 0,.int .i64 0] 72)).alloc (.cells #[.int .i64 0,.int .i64 0,.int .i64 0,.int .i64 0] 72):=⟨_,rfl⟩
 have HB:Xy W w.heap.size 39 [.slice ra.map.A (List.length r.map) ra.map.c,.int .i64 r.div,.int .i64 r.bx,.int .i64 r.by_,.int .i64 r.low,.int .i64 r.high,.slice ra.noise.A (List.length r.noise) ra.noise.c,.slice ra.limits.A (List.length r.limits) ra.limits.c]:=by
  rw [hW];exact (((Xy.new w [.slice ra.map.A (List.length r.map) ra.map.c,.int .i64 r.div,.int .i64 r.bx,.int .i64 r.by_,.int .i64 r.low,.int .i64 r.high,.slice ra.noise.A (List.length r.noise) ra.noise.c,.slice ra.limits.A (List.length r.limits) ra.limits.c] 39).alloc _).alloc _).alloc _
 have HE:Xy W (w.heap.size+1) 37 [.slice b.A e.length b.c]:=by
  have h1:=(((Xy.new (w.alloc (.cells #[.slice ra.map.A (List.length r.map) ra.map.c,.int .i64 r.div,.int .i64 r.bx,.int .i64 r.by_,.int .i64 r.low,.int .i64 r.high,.slice ra.noise.A (List.length r.noise) ra.noise.c,.slice ra.limits.A (List.length r.limits) ra.limits.c] 39)) [.slice b.A e.length b.c] 37).alloc (.cells #[.int .i64 0,.int .i64 0,.int .i64 0,.int .i64 0] 72)).alloc (.cells #[.int .i64 0,.int .i64 0,.int .i64 0,.int .i64 0] 72))
  simp only [World.size_alloc] at h1;rw [hW];exact h1
 have HZ:Xy W (w.heap.size+1+1) 72 [.int .i64 0,.int .i64 0,.int .i64 0,.int .i64 0]:=by
  have h1:=(Xy.new ((w.alloc (.cells #[.slice ra.map.A (List.length r.map) ra.map.c,.int .i64 r.div,.int .i64 r.bx,.int .i64 r.by_,.int .i64 r.low,.int .i64 r.high,.slice ra.noise.A (List.length r.noise) ra.noise.c,.slice ra.limits.A (List.length r.limits) ra.limits.c] 39)).alloc (.cells #[.slice b.A e.length b.c] 37)) [.int .i64 0,.int .i64 0,.int .i64 0,.int .i64 0] 72).alloc (.cells #[.int .i64 0,.int .i64 0,.int .i64 0,.int .i64 0] 72)
  simp only [World.size_alloc] at h1;rw [hW];exact h1
 have HV:Xy W (w.heap.size+1+1+1) 72 [.int .i64 0,.int .i64 0,.int .i64 0,.int .i64 0]:=by
  have h1:=Xy.new (((w.alloc (.cells #[.slice ra.map.A (List.length r.map) ra.map.c,.int .i64 r.div,.int .i64 r.bx,.int .i64 r.by_,.int .i64 r.low,.int .i64 r.high,.slice ra.noise.A (List.length r.noise) ra.noise.c,.slice ra.limits.A (List.length r.limits) ra.limits.c] 39)).alloc (.cells #[.slice b.A e.length b.c] 37)).alloc (.cells #[.int .i64 0,.int .i64 0,.int .i64 0,.int .i64 0] 72)) [.int .i64 0,.int .i64 0,.int .i64 0,.int .i64 0] 72
  simp only [World.size_alloc] at h1;rw [hW];exact h1
 have b0:Below w.heap.size w W:=by
  rw [hW]
  exact Xo
 have hW':=Lib.hid hW
 clear hW
 obtain ⟨A,hA⟩:∃ A:XJ→Option YX,A=fun t=>XC r e t:=⟨_,rfl⟩
 rw [← hA]
 have hok:∀ t u,A t=some u→Xv u=true:=by intro t u h;rw [hA] at h;exact Jz h
 have hcA:∀ t∈l,∀ W,Yo W r ra→Sl 3 Xr W b.A e→Calls Tryz.prog 163 #[XH r ra,Yu e b,Yz t] W fun x w'=>x=.returned (ZZ (A t))∧Below W.heap.size W w':=by
  intro t ht W h1 h2;rw [hA];exact iAdmit_c r e t ra b W hr he hle (hl t ht) h1 h2
 clear hA hr he hl
 go_enter Tryz.func188,Tryz.ntmps188
 go_upto_region 2 with fail
 rw [← hW'.out]
 clear hW';have zW:=XX HV
 go_wp2
 go_loopw [9,10,11,12,15] (fun _ _ _ _ i wr=>∃ k:Nat,k≤l.length∧i=.int .i64 k∧∃ v:YX,KC A l k=some v∧Xy wr (w.heap.size+1+1+1) 72 [.int .i64 v.low.n,.int .i64 v.low.d,.int .i64 v.high.n,.int .i64 v.high.d]∧Xy wr (w.heap.size+1+1) 72 [.int .i64 0,.int .i64 0,.int .i64 0,.int .i64 0]∧Xy wr w.heap.size 39 [.slice ra.map.A (List.length r.map) ra.map.c,.int .i64 r.div,.int .i64 r.bx,.int .i64 r.by_,.int .i64 r.low,.int .i64 r.high,.slice ra.noise.A (List.length r.noise) ra.noise.c,.slice ra.limits.A (List.length r.limits) ra.limits.c]∧Xy wr (w.heap.size+1) 37 [.slice b.A e.length b.c]∧Below w.heap.size w wr) (fun _ _ _ _ i _=>l.length-(intOf i).toNat)
 case atStart=>exact ⟨0,Nat.zero_le _,rfl,Xd,rfl,HV,HZ,HB,HE,b0⟩
 case round =>
  obtain ⟨k,hk,rfl,v,hv,TV,TZ,TB,TE,hbr⟩:=hrel
  have lTV:=XX TV
  by_cases hlt:k<l.length
  ·obtain ⟨bb,off,hLA,hblt,hc⟩:=(hsL.below hbr).at_ hlt
   have g0:=hc 0 _ rfl
   have g1:=hc 1 _ rfl
   have g2:=hc 2 _ rfl
   simp only [Nat.add_zero] at g0
   have htk:=Lib.hid (accS_succ hv hlt)
   have hno:=Lib.hid (fun h=>accS_no (A:=A) (l:=l) (k:=k+1) (n:=l.length) h (by omega))
   have hct:=hcA _ (List.getElem_mem hlt)
   have hvv:k≠0→Xv v=true:=by
    intro h0
    obtain ⟨j,rfl⟩:∃ j,k=j+1:=⟨k-1,by omega⟩
    cases hj:KC A l j with
    | none=>rw [KC,hj] at hv;cases hv
    | some x =>
     rw [accS_succ hj (by omega)] at hv
     cases hx:A (l[j]'(by omega)) with
     | none=>rw [hx] at hv;cases hv
     | some y =>
      rw [hx,Option.bind_some] at hv
      split at hv
      ·cases hv;exact hok _ _ hx
      ·exact meetSp_ok hv
   clear hc hv hcA
   have hokt:=hok l[k]
   generalize l[k]=s at *
   have sR:=(hsR.below hbr).below (Xm bR (.cells #[.int .i64 s.x,.int .i64 s.y,.int .i64 s.d] 44))
   have sE:=(hsE.below hbr).below (Xm bR (.cells #[.int .i64 s.x,.int .i64 s.y,.int .i64 s.d] 44))
   have XV:=TV.alloc (.cells #[.int .i64 s.x,.int .i64 s.y,.int .i64 s.d] 44)
   have XZ:=TZ.alloc (.cells #[.int .i64 s.x,.int .i64 s.y,.int .i64 s.d] 44)
   have XB:=TB.alloc (.cells #[.int .i64 s.x,.int .i64 s.y,.int .i64 s.d] 44)
   have XE:=TE.alloc (.cells #[.int .i64 s.x,.int .i64 s.y,.int .i64 s.d] 44)
   have bx:=Xm hbr (.cells #[.int .i64 s.x,.int .i64 s.y,.int .i64 s.d] 44)
   have XP:=X3.new wr #[.int .i64 s.x,.int .i64 s.y,.int .i64 s.d] 44
   rw [hLA]
   go_upto_region 5 with fail
   clear g0 g1 g2 hblt TV TZ TB TE hbr
   generalize wr.alloc (.cells #[.int .i64 s.x,.int .i64 s.y,.int .i64 s.d] 44)=wx at *
   generalize wr.heap.size=gx at *
   obtain ⟨cXP_0,fXP_0⟩:=XP.2 0 _ rfl
   obtain ⟨cXP_1,fXP_1⟩:=XP.2 1 _ rfl
   obtain ⟨cXP_2,fXP_2⟩:=XP.2 2 _ rfl
   have lX:=XP.1
   have HB_:=XB.has
   obtain ⟨cHB__0,fHB__0⟩:=HB_.2 0 _ rfl
   obtain ⟨cHB__1,fHB__1⟩:=HB_.2 1 _ rfl
   obtain ⟨cHB__2,fHB__2⟩:=HB_.2 2 _ rfl
   obtain ⟨cHB__3,fHB__3⟩:=HB_.2 3 _ rfl
   obtain ⟨cHB__4,fHB__4⟩:=HB_.2 4 _ rfl
   obtain ⟨cHB__5,fHB__5⟩:=HB_.2 5 _ rfl
   obtain ⟨cHB__6,fHB__6⟩:=HB_.2 6 _ rfl
   obtain ⟨cHB__7,fHB__7⟩:=HB_.2 7 _ rfl
   have lB:=HB_.1
   have HE_:=XE.has
   obtain ⟨cHE__0,fHE__0⟩:=HE_.2 0 _ rfl
   have lE:=HE_.1
   have kt:=hct _ sR sE
   cases hadm:A s with
   | none =>
    rw [hadm] at kt htk
    simp only [ZZ] at kt
    go_wp2_with (fail)
    refine kt.mono ?_
    rintro x wy ⟨rfl,hby⟩
    have YV:=XV.below hby
    have YZ:=XZ.below hby
    have YB:=XB.below hby
    have YE:=XE.below hby
    have by_:=Xh bx hby
    have C:=Lib.hid (hno.out htk.out)
    have WZ:=YZ.alloc (.cells #[.int .i64 Xd.low.n,.int .i64 Xd.low.d,.int .i64 Xd.high.n,.int .i64 Xd.high.d] 72)
    have bz:=Xm by_ (.cells #[.int .i64 Xd.low.n,.int .i64 Xd.low.d,.int .i64 Xd.high.n,.int .i64 Xd.high.d] 72)
    have lz:=XX YZ
    go_upto_region 6 with fail
    clear kt XP cXP_0 cXP_1 cXP_2 fXP_0 fXP_1 fXP_2 lX HB_ cHB__0 fHB__0 cHB__1 fHB__1 cHB__2 fHB__2 cHB__3 fHB__3 cHB__4 fHB__4 cHB__5 fHB__5 cHB__6 fHB__6 cHB__7 fHB__7 lB HE_ cHE__0 fHE__0 lE XV XZ XB XE hct sR sE bx hby hadm
    generalize wy.alloc (.cells #[.int .i64 Xd.low.n,.int .i64 Xd.low.d,.int .i64 Xd.high.n,.int .i64 Xd.high.d] 72)=wz at *
    have HZZ:=(WZ).has
    obtain ⟨cHZZ_0,fHZZ_0⟩:=HZZ.2 0 _ rfl
    obtain ⟨cHZZ_1,fHZZ_1⟩:=HZZ.2 1 _ rfl
    obtain ⟨cHZZ_2,fHZZ_2⟩:=HZZ.2 2 _ rfl
    obtain ⟨cHZZ_3,fHZZ_3⟩:=HZZ.2 3 _ rfl
    have lZZ:=HZZ.1
    go_wp2
    refine bodyPost_ret (v:=.tuple #[.agg #[.int .i64 0,.int .i64 0,.int .i64 0,.int .i64 0],.bool false]) (by simp [results,Tryz.results188,go_sem, *]) rfl ⟨by rw [C.out];rfl, ?_⟩
    exact below_cells4 bz (by omega) [_,_,_,_] 0
   | some u =>
    rw [hadm] at kt htk
    simp only [ZZ] at kt
    go_wp2_with (fail)
    refine kt.mono ?_
    rintro x wy ⟨rfl,hby⟩
    have YV:=XV.below hby
    have YZ:=XZ.below hby
    have YB:=XB.below hby
    have YE:=XE.below hby
    have by_:=Xh bx hby
    have hu:=hokt _ hadm
    have WV:=YV.alloc (.cells #[.int .i64 u.low.n,.int .i64 u.low.d,.int .i64 u.high.n,.int .i64 u.high.d] 72)
    have WZ:=YZ.alloc (.cells #[.int .i64 u.low.n,.int .i64 u.low.d,.int .i64 u.high.n,.int .i64 u.high.d] 72)
    have WB:=YB.alloc (.cells #[.int .i64 u.low.n,.int .i64 u.low.d,.int .i64 u.high.n,.int .i64 u.high.d] 72)
    have WE:=YE.alloc (.cells #[.int .i64 u.low.n,.int .i64 u.low.d,.int .i64 u.high.n,.int .i64 u.high.d] 72)
    have WU:=Xy.new wy [.int .i64 u.low.n,.int .i64 u.low.d,.int .i64 u.high.n,.int .i64 u.high.d] 72
    have bz:=Xm by_ (.cells #[.int .i64 u.low.n,.int .i64 u.low.d,.int .i64 u.high.n,.int .i64 u.high.d] 72)
    have lgy:w.heap.size+1+1+1<wy.heap.size:=XX YV
    go_upto_region 6 with fail
    clear kt XP cXP_0 cXP_1 cXP_2 fXP_0 fXP_1 fXP_2 lX HB_ cHB__0 fHB__0 cHB__1 fHB__1 cHB__2 fHB__2 cHB__3 fHB__3 cHB__4 fHB__4 cHB__5 fHB__5 cHB__6 fHB__6 cHB__7 fHB__7 lB HE_ cHE__0 fHE__0 lE XV XZ XB XE hct sR sE bx hby hadm
    generalize wy.alloc (.cells #[.int .i64 u.low.n,.int .i64 u.low.d,.int .i64 u.high.n,.int .i64 u.high.d] 72)=wz at *
    generalize wy.heap.size=gu at *
    have lwz:=XX WU
    have HU:=WU.has
    obtain ⟨cHU_0,fHU_0⟩:=HU.2 0 _ rfl
    obtain ⟨cHU_1,fHU_1⟩:=HU.2 1 _ rfl
    obtain ⟨cHU_2,fHU_2⟩:=HU.2 2 _ rfl
    obtain ⟨cHU_3,fHU_3⟩:=HU.2 3 _ rfl
    have lU:=HU.1
    have HV_:=WV.has
    obtain ⟨cHV__0,fHV__0⟩:=HV_.2 0 _ rfl
    obtain ⟨cHV__1,fHV__1⟩:=HV_.2 1 _ rfl
    obtain ⟨cHV__2,fHV__2⟩:=HV_.2 2 _ rfl
    obtain ⟨cHV__3,fHV__3⟩:=HV_.2 3 _ rfl
    have lV:=HV_.1
    by_cases hk0:k=0
    ·subst hk0
     go_wp2
     go_roundw
     case rel=>exact ⟨0+1,by omega,by go_num,u,htk.out,WV.store (us:=[.int .i64 u.low.n,.int .i64 u.low.d,.int .i64 u.high.n,.int .i64 u.high.d]) rfl,WZ.other (by omega) [_,_,_,_] 0,WB.other (by omega) [_,_,_,_] 0,WE.other (by omega) [_,_,_,_] 0,below_cells4 bz (by omega) [_,_,_,_] 0⟩
     case measure=>simp [intOf];omega
    have hpos:(0:Int)<(k:Int):=by omega
    have htk2:=Lib.hid (htk.out.trans ((Option.bind_some _ _).trans (if_neg hk0)))
    have km:=fun W=>iMeet2_c v u W (span_In (hvv hk0)) (span_In hu)
    have hgt:decide ((k:Int) > 0)=true:=decide_eq_true hpos
    cases hm:Yl v u with
    | none =>
     rw [hm] at km htk2
     simp only [ZZ] at km
     go_wp2_with (fail)
     refine (km _).mono ?_
     rintro x w5 ⟨rfl,hb5⟩
     have VV:=WV.below hb5
     have VZ:=WZ.below hb5
     have VB:=WB.below hb5
     have VE:=WE.below hb5
     have VU:=WU.below hb5
     have b5:=Xh bz hb5
     have l5:=XX VU
     have z5:=hb5.size;clear HU cHU_0 cHU_1 cHU_2 cHU_3 fHU_0 fHU_1 fHU_2 fHU_3 lU HV_ cHV__0 cHV__1 cHV__2 cHV__3 fHV__0 fHV__1 fHV__2 fHV__3 lV
     have HU:=VU.has
     obtain ⟨cHU_0,fHU_0⟩:=HU.2 0 _ rfl
     obtain ⟨cHU_1,fHU_1⟩:=HU.2 1 _ rfl
     obtain ⟨cHU_2,fHU_2⟩:=HU.2 2 _ rfl
     obtain ⟨cHU_3,fHU_3⟩:=HU.2 3 _ rfl
     have lU:=HU.1
     have C:=Lib.hid (hno.out htk2.out)
     have UZ:Xy ((((w5.setCell ⟨gu,0,none⟩ (.int .i64 Xd.low.n)).setCell ⟨gu,1,none⟩ (.int .i64 Xd.low.d)).setCell ⟨gu,2,none⟩ (.int .i64 Xd.high.n)).setCell ⟨gu,3,none⟩ (.int .i64 Xd.high.d)) (w.heap.size+1+1) 72 [.int .i64 0,.int .i64 0,.int .i64 0,.int .i64 0]:=VZ.other (g':=gu) (by omega) [.int .i64 Xd.low.n,.int .i64 Xd.low.d,.int .i64 Xd.high.n,.int .i64 Xd.high.d] 0
     have b6:Below w.heap.size w ((((w5.setCell ⟨gu,0,none⟩ (.int .i64 Xd.low.n)).setCell ⟨gu,1,none⟩ (.int .i64 Xd.low.d)).setCell ⟨gu,2,none⟩ (.int .i64 Xd.high.n)).setCell ⟨gu,3,none⟩ (.int .i64 Xd.high.d)):=below_cells4 b5 (g:=gu) (by omega) [.int .i64 Xd.low.n,.int .i64 Xd.low.d,.int .i64 Xd.high.n,.int .i64 Xd.high.d] 0
     have z6:=XX UZ
     go_upto_region 8 with fail
     generalize ((((w5.setCell ⟨gu,0,none⟩ (.int .i64 Xd.low.n)).setCell ⟨gu,1,none⟩ (.int .i64 Xd.low.d)).setCell ⟨gu,2,none⟩ (.int .i64 Xd.high.n)).setCell ⟨gu,3,none⟩ (.int .i64 Xd.high.d))=w6 at *
     have HZZ:=(UZ).has
     obtain ⟨cHZZ_0,fHZZ_0⟩:=HZZ.2 0 _ rfl
     obtain ⟨cHZZ_1,fHZZ_1⟩:=HZZ.2 1 _ rfl
     obtain ⟨cHZZ_2,fHZZ_2⟩:=HZZ.2 2 _ rfl
     obtain ⟨cHZZ_3,fHZZ_3⟩:=HZZ.2 3 _ rfl
     have lZZ:=HZZ.1
     go_wp2
     refine bodyPost_ret (v:=.tuple #[.agg #[.int .i64 0,.int .i64 0,.int .i64 0,.int .i64 0],.bool false]) (by simp [results,Tryz.results188,go_sem, *]) rfl ⟨by rw [C.out];rfl, ?_⟩
     exact below_cells4 b6 (by omega) [_,_,_,_] 0
    | some m =>
     rw [hm] at km htk2
     simp only [ZZ] at km
     go_wp2_with (fail)
     refine (km _).mono ?_
     rintro x w5 ⟨rfl,hb5⟩
     have VV:=WV.below hb5
     have VZ:=WZ.below hb5
     have VB:=WB.below hb5
     have VE:=WE.below hb5
     have VU:=WU.below hb5
     have b5:=Xh bz hb5
     have l5:=XX VU
     have z5:=hb5.size;clear HU cHU_0 cHU_1 cHU_2 cHU_3 fHU_0 fHU_1 fHU_2 fHU_3 lU HV_ cHV__0 cHV__1 cHV__2 cHV__3 fHV__0 fHV__1 fHV__2 fHV__3 lV
     have HU:=VU.has
     obtain ⟨cHU_0,fHU_0⟩:=HU.2 0 _ rfl
     obtain ⟨cHU_1,fHU_1⟩:=HU.2 1 _ rfl
     obtain ⟨cHU_2,fHU_2⟩:=HU.2 2 _ rfl
     obtain ⟨cHU_3,fHU_3⟩:=HU.2 3 _ rfl
     have lU:=HU.1
     have UV:Xy ((((w5.setCell ⟨gu,0,none⟩ (.int .i64 m.low.n)).setCell ⟨gu,1,none⟩ (.int .i64 m.low.d)).setCell ⟨gu,2,none⟩ (.int .i64 m.high.n)).setCell ⟨gu,3,none⟩ (.int .i64 m.high.d)) (w.heap.size+1+1+1) 72 [.int .i64 v.low.n,.int .i64 v.low.d,.int .i64 v.high.n,.int .i64 v.high.d]:=VV.other (g':=gu) (by omega) [.int .i64 m.low.n,.int .i64 m.low.d,.int .i64 m.high.n,.int .i64 m.high.d] 0
     have UZ:Xy ((((w5.setCell ⟨gu,0,none⟩ (.int .i64 m.low.n)).setCell ⟨gu,1,none⟩ (.int .i64 m.low.d)).setCell ⟨gu,2,none⟩ (.int .i64 m.high.n)).setCell ⟨gu,3,none⟩ (.int .i64 m.high.d)) (w.heap.size+1+1) 72 [.int .i64 0,.int .i64 0,.int .i64 0,.int .i64 0]:=VZ.other (g':=gu) (by omega) [.int .i64 m.low.n,.int .i64 m.low.d,.int .i64 m.high.n,.int .i64 m.high.d] 0
     have UB:Xy ((((w5.setCell ⟨gu,0,none⟩ (.int .i64 m.low.n)).setCell ⟨gu,1,none⟩ (.int .i64 m.low.d)).setCell ⟨gu,2,none⟩ (.int .i64 m.high.n)).setCell ⟨gu,3,none⟩ (.int .i64 m.high.d)) w.heap.size 39 [.slice ra.map.A (List.length r.map) ra.map.c,.int .i64 r.div,.int .i64 r.bx,.int .i64 r.by_,.int .i64 r.low,.int .i64 r.high,.slice ra.noise.A (List.length r.noise) ra.noise.c,.slice ra.limits.A (List.length r.limits) ra.limits.c]:=VB.other (g':=gu) (by omega) [.int .i64 m.low.n,.int .i64 m.low.d,.int .i64 m.high.n,.int .i64 m.high.d] 0
     have UE:Xy ((((w5.setCell ⟨gu,0,none⟩ (.int .i64 m.low.n)).setCell ⟨gu,1,none⟩ (.int .i64 m.low.d)).setCell ⟨gu,2,none⟩ (.int .i64 m.high.n)).setCell ⟨gu,3,none⟩ (.int .i64 m.high.d)) (w.heap.size+1) 37 [.slice b.A e.length b.c]:=VE.other (g':=gu) (by omega) [.int .i64 m.low.n,.int .i64 m.low.d,.int .i64 m.high.n,.int .i64 m.high.d] 0
     have UU:Xy ((((w5.setCell ⟨gu,0,none⟩ (.int .i64 m.low.n)).setCell ⟨gu,1,none⟩ (.int .i64 m.low.d)).setCell ⟨gu,2,none⟩ (.int .i64 m.high.n)).setCell ⟨gu,3,none⟩ (.int .i64 m.high.d)) gu 72 [.int .i64 m.low.n,.int .i64 m.low.d,.int .i64 m.high.n,.int .i64 m.high.d]:=VU.store (us:=[.int .i64 m.low.n,.int .i64 m.low.d,.int .i64 m.high.n,.int .i64 m.high.d]) rfl
     have b6:Below w.heap.size w ((((w5.setCell ⟨gu,0,none⟩ (.int .i64 m.low.n)).setCell ⟨gu,1,none⟩ (.int .i64 m.low.d)).setCell ⟨gu,2,none⟩ (.int .i64 m.high.n)).setCell ⟨gu,3,none⟩ (.int .i64 m.high.d)):=below_cells4 b5 (g:=gu) (by omega) [.int .i64 m.low.n,.int .i64 m.low.d,.int .i64 m.high.n,.int .i64 m.high.d] 0
     go_upto_region 8 with fail
     generalize ((((w5.setCell ⟨gu,0,none⟩ (.int .i64 m.low.n)).setCell ⟨gu,1,none⟩ (.int .i64 m.low.d)).setCell ⟨gu,2,none⟩ (.int .i64 m.high.n)).setCell ⟨gu,3,none⟩ (.int .i64 m.high.d))=w6 at *
     have HUU:=UU.has
     obtain ⟨cHUU_0,fHUU_0⟩:=HUU.2 0 _ rfl
     obtain ⟨cHUU_1,fHUU_1⟩:=HUU.2 1 _ rfl
     obtain ⟨cHUU_2,fHUU_2⟩:=HUU.2 2 _ rfl
     obtain ⟨cHUU_3,fHUU_3⟩:=HUU.2 3 _ rfl
     have lUU:=HUU.1
     have HUV:=UV.has
     obtain ⟨cHUV_0,fHUV_0⟩:=HUV.2 0 _ rfl
     obtain ⟨cHUV_1,fHUV_1⟩:=HUV.2 1 _ rfl
     obtain ⟨cHUV_2,fHUV_2⟩:=HUV.2 2 _ rfl
     obtain ⟨cHUV_3,fHUV_3⟩:=HUV.2 3 _ rfl
     have lUV:=HUV.1
     go_wp2
     go_roundw
     case rel=>exact ⟨k+1,by omega,by go_num,m,htk2.out,UV.store (us:=[.int .i64 m.low.n,.int .i64 m.low.d,.int .i64 m.high.n,.int .i64 m.high.d]) rfl,UZ.other (by omega) [_,_,_,_] 0,UB.other (by omega) [_,_,_,_] 0,UE.other (by omega) [_,_,_,_] 0,below_cells4 b6 (by omega) [_,_,_,_] 0⟩
     case measure=>simp [intOf];omega
  ·obtain rfl:k=l.length:=by omega
   have C:=Lib.hid hv
   clear hv
   have HV_:=TV.has
   obtain ⟨cHV__0,fHV__0⟩:=HV_.2 0 _ rfl
   obtain ⟨cHV__1,fHV__1⟩:=HV_.2 1 _ rfl
   obtain ⟨cHV__2,fHV__2⟩:=HV_.2 2 _ rfl
   obtain ⟨cHV__3,fHV__3⟩:=HV_.2 3 _ rfl
   have lV:=HV_.1
   have HZZ:=(TZ).has
   obtain ⟨cHZZ_0,fHZZ_0⟩:=HZZ.2 0 _ rfl
   obtain ⟨cHZZ_1,fHZZ_1⟩:=HZZ.2 1 _ rfl
   obtain ⟨cHZZ_2,fHZZ_2⟩:=HZZ.2 2 _ rfl
   obtain ⟨cHZZ_3,fHZZ_3⟩:=HZZ.2 3 _ rfl
   have lZZ:=HZZ.1
   go_wp2
   refine bodyPost_ret (v:=.tuple #[.agg #[.int .i64 v.low.n,.int .i64 v.low.d,.int .i64 v.high.n,.int .i64 v.high.d],.bool true]) (by simp [results,Tryz.results188,go_sem, *]) rfl ⟨by rw [C.out];rfl, ?_⟩
   exact below_cells4 hbr (by omega) [_,_,_,_] 0
end Go.Proofs.YtkjimfapbjdafaaGreat
end
