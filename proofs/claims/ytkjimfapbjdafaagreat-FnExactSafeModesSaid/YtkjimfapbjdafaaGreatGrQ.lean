/-
 Valid rooms: of the reference, part b.
 Conditions: the slices hold at most 2^20 elements.
-/
import Derived.Test.YtkjimfapbjdafaaGreatRoom
import Derived.Test.YtkjimfapbjdafaaGreatGrX
import Derived.Deep.DrawnRows
import Derived.Test.YtkjimfapbjdafaaGreatRoomSa
section
namespace Go.Proofs.YtkjimfapbjdafaaGreat
open Go.RowKit
attribute [local go_sem ↓] Go.wp_at_zero Go.wp_at_succ
set_option maxRecDepth 100000 in
set_option maxHeartbeats 60000000 in
theorem sRoomX6f (x:XN) (a:Yr) (w:World) (hn:Xk x≤1048576) (hin:Za x) (hs:Yo w x a) (hnl:Y5 a) (e0:Kg x.map x.div=true) (e1:(det x.map != 0)=true) (e2:YR x.bx (-100) 100=true) (e3:YR x.by_ (-100) 100=true) (e4:YR x.low (-1000) 1000=true) (e5:YR x.high x.low 1000=true) (e6:Xt x.noise=false) :
 Calls Tryz.prog 118 #[XH x a] w fun e w'=>e=.returned (.bool (XU x))∧Below w.heap.size w w':=by
 obtain ⟨map,div,bx,by_,low,high,noise,limits⟩:=x
 simp only [Xk] at hn
 obtain ⟨hm,hno,hli⟩:=hs
 obtain ⟨hno⟩:=hno
 obtain ⟨hli⟩:=hli
 obtain ⟨_,_,_,_,_,_,⟨inn⟩,⟨inl⟩⟩:=hin
 obtain ⟨nn,nl⟩:=hnl
 obtain ⟨⟨mA,mc⟩,⟨nA,nc⟩,⟨lA,lc⟩⟩:=a
 simp only at hm hno hli inn inl nn nl hn
 dsimp only at e0 e1 e2 e3 e4 e5 e6
 have c0:=fun W h=>K6 mA map mc div W (by omega) h
 have c2:=fun W=>XT bx (-100) 100 W
 have c3:=fun W=>XT by_ (-100) 100 W
 have c4:=fun W=>XT low (-1000) 1000 W
 have c5:=fun W=>XT high low 1000 W
 have c8:=fun W=>Yw noise ⟨nA,nc⟩ W
 have c9:=fun W=>Yw limits ⟨lA,lc⟩ W
 have c6:=fun W h=>Yi noise ⟨nA,nc⟩ W (by omega) inn h nn
 have c7:=fun W h=>Yi limits ⟨lA,lc⟩ W (by omega) inl h nl
 clear inn inl nn nl
 rw [e0] at c0
 obtain ⟨m0,m1,m2,m3,rfl,hx0,hx1,hx2,hx3⟩:=KG e0
 have p1:=Kr hx0 hx3
 have p2:=Kr hx1 hx2
 obtain ⟨b,off,rfl,hblt,hcm⟩:=hm (by simp)
 have g0:=hcm 0 (by simp) 0 _ rfl
 have g1:=hcm 1 (by simp) 0 _ rfl
 have g2:=hcm 2 (by simp) 0 _ rfl
 have g3:=hcm 3 (by simp) 0 _ rfl
 simp only [Nat.zero_mul,Nat.one_mul,Nat.add_zero] at g0 g1 g2 g3
 simp only [List.length_cons,List.length_nil,Nat.zero_add,Nat.reduceAdd] at c0
 have v1:IntKind.i64.wrap (m0*m3)=m0*m3:=IntWalk.i64_in _ (by omega)
 have v2:IntKind.i64.wrap (m1*m2)=m1*m2:=IntWalk.i64_in _ (by omega)
 have v3:IntKind.i64.wrap (m0*m3-m1*m2)=m0*m3-m1*m2:=IntWalk.i64_in _ (by omega)
 have hdt:=Lib.hid (show det [m0,m1,m2,m3]=m0*m3-m1*m2 from rfl)
 replace e0:=Lib.hid e0
 change (m0*m3-m1*m2 != 0)=_ at e1
 rw [e2] at c2
 replace e2:=Lib.hid e2
 rw [e3] at c3
 replace e3:=Lib.hid e3
 rw [e4] at c4
 replace e4:=Lib.hid e4
 rw [e5] at c5
 replace e5:=Lib.hid e5
 rw [e6] at c6
 replace e6:=Lib.hid e6
 go_enter Tryz.func118,Tryz.ntmps118
 go_upto_region 1 with fail
 dsimp only [List.append]
 have HW:=X3.new w #[.slice (some ⟨b,off,none⟩) 4 mc,.int .i64 div,.int .i64 bx,.int .i64 by_,.int .i64 low,.int .i64 high,.slice nA noise.length nc,.slice lA limits.length lc] 39
 have bW:=Xm (Below.refl w.heap.size w) (.cells #[.slice (some ⟨b,off,none⟩) 4 mc,.int .i64 div,.int .i64 bx,.int .i64 by_,.int .i64 low,.int .i64 high,.slice nA noise.length nc,.slice lA limits.length lc] 39)
 generalize hW:w.alloc (.cells #[.slice (some ⟨b,off,none⟩) 4 mc,.int .i64 div,.int .i64 bx,.int .i64 by_,.int .i64 low,.int .i64 high,.slice nA noise.length nc,.slice lA limits.length lc] 39)=W at *
 clear hW
 have hmW:=Sl.below hm bW
 have hnoW:=Sl.below hno bW
 have hliW:=Sl.below hli bW
 clear hm hno hli
 obtain ⟨cHW_0,fHW_0⟩:=HW.2 0 _ rfl
 obtain ⟨cHW_1,fHW_1⟩:=HW.2 1 _ rfl
 obtain ⟨cHW_2,fHW_2⟩:=HW.2 2 _ rfl
 obtain ⟨cHW_3,fHW_3⟩:=HW.2 3 _ rfl
 obtain ⟨cHW_4,fHW_4⟩:=HW.2 4 _ rfl
 obtain ⟨cHW_5,fHW_5⟩:=HW.2 5 _ rfl
 obtain ⟨cHW_6,fHW_6⟩:=HW.2 6 _ rfl
 obtain ⟨cHW_7,fHW_7⟩:=HW.2 7 _ rfl
 have hx0:=Wx.cell W HW.1
 have hxb:=Wx.cell W (blt bW hblt)
 have gW0:=(Xn bW b off hblt).trans g0
 have gW1:=(Xn bW b (off+1) hblt).trans g1
 have gW2:=(Xn bW b (off+2) hblt).trans g2
 have gW3:=(Xn bW b (off+3) hblt).trans g3
 clear g0 g1 g2 g3 hcm
 refine JT (by kernel_rfl) (by kernel_rfl) ?_
 repeat (go_big_quiet_step ((first|(go_at_call 189;exact Y0 (c0 _ (Sl.below hmW (Wx.below _ _))))|(go_at_call 127;first|(with_reducible exact Y0 (c2 _))|(with_reducible exact Y0 (c3 _))|(with_reducible exact Y0 (c4 _))|(with_reducible exact Y0 (c5 _)))|(go_at_call 119;first|(with_reducible exact Ka (c6 _ (Sl.below hnoW (Wx.below _ _))))|(with_reducible exact Ka (c7 _ (Sl.below hliW (Wx.below _ _)))))|(go_at_call 96;first|(with_reducible exact Ka (c8 _))|(with_reducible exact Ka (c9 _))))))
 refine wpQuiet_nil ?_
 intro w1 hw1
 have hb1:=Xh bW (Wx.out hw1)
 clear hw1 hx0 hxb
 go_wp2
 go_ret
 exact ⟨Xi (by simp only [XU,KD,hdt.out,e0.out,e1,e2.out,e3.out,e4.out,e5.out,e6.out,Bool.and_false,Bool.false_and]),hb1⟩
end Go.Proofs.YtkjimfapbjdafaaGreat
end
section
namespace Go.Proofs.YtkjimfapbjdafaaGreat
open Go.RowKit
attribute [local go_sem ↓] Go.wp_at_zero Go.wp_at_succ
set_option maxRecDepth 100000 in
set_option maxHeartbeats 60000000 in
theorem sRoomX7f (x:XN) (a:Yr) (w:World) (hn:Xk x≤1048576) (hin:Za x) (hs:Yo w x a) (hnl:Y5 a) (e0:Kg x.map x.div=true) (e1:(det x.map != 0)=true) (e2:YR x.bx (-100) 100=true) (e3:YR x.by_ (-100) 100=true) (e4:YR x.low (-1000) 1000=true) (e5:YR x.high x.low 1000=true) (e6:Xt x.noise=true) (e7:Xt x.limits=false) :
 Calls Tryz.prog 118 #[XH x a] w fun e w'=>e=.returned (.bool (XU x))∧Below w.heap.size w w':=by
 obtain ⟨map,div,bx,by_,low,high,noise,limits⟩:=x
 simp only [Xk] at hn
 obtain ⟨hm,hno,hli⟩:=hs
 obtain ⟨hno⟩:=hno
 obtain ⟨hli⟩:=hli
 obtain ⟨_,_,_,_,_,_,⟨inn⟩,⟨inl⟩⟩:=hin
 obtain ⟨nn,nl⟩:=hnl
 obtain ⟨⟨mA,mc⟩,⟨nA,nc⟩,⟨lA,lc⟩⟩:=a
 simp only at hm hno hli inn inl nn nl hn
 dsimp only at e0 e1 e2 e3 e4 e5 e6 e7
 have c0:=fun W h=>K6 mA map mc div W (by omega) h
 have c2:=fun W=>XT bx (-100) 100 W
 have c3:=fun W=>XT by_ (-100) 100 W
 have c4:=fun W=>XT low (-1000) 1000 W
 have c5:=fun W=>XT high low 1000 W
 have c8:=fun W=>Yw noise ⟨nA,nc⟩ W
 have c9:=fun W=>Yw limits ⟨lA,lc⟩ W
 have c6:=fun W h=>Yi noise ⟨nA,nc⟩ W (by omega) inn h nn
 have c7:=fun W h=>Yi limits ⟨lA,lc⟩ W (by omega) inl h nl
 clear inn inl nn nl
 rw [e0] at c0
 obtain ⟨m0,m1,m2,m3,rfl,hx0,hx1,hx2,hx3⟩:=KG e0
 have p1:=Kr hx0 hx3
 have p2:=Kr hx1 hx2
 obtain ⟨b,off,rfl,hblt,hcm⟩:=hm (by simp)
 have g0:=hcm 0 (by simp) 0 _ rfl
 have g1:=hcm 1 (by simp) 0 _ rfl
 have g2:=hcm 2 (by simp) 0 _ rfl
 have g3:=hcm 3 (by simp) 0 _ rfl
 simp only [Nat.zero_mul,Nat.one_mul,Nat.add_zero] at g0 g1 g2 g3
 simp only [List.length_cons,List.length_nil,Nat.zero_add,Nat.reduceAdd] at c0
 have v1:IntKind.i64.wrap (m0*m3)=m0*m3:=IntWalk.i64_in _ (by omega)
 have v2:IntKind.i64.wrap (m1*m2)=m1*m2:=IntWalk.i64_in _ (by omega)
 have v3:IntKind.i64.wrap (m0*m3-m1*m2)=m0*m3-m1*m2:=IntWalk.i64_in _ (by omega)
 have hdt:=Lib.hid (show det [m0,m1,m2,m3]=m0*m3-m1*m2 from rfl)
 replace e0:=Lib.hid e0
 change (m0*m3-m1*m2 != 0)=_ at e1
 rw [e2] at c2
 replace e2:=Lib.hid e2
 rw [e3] at c3
 replace e3:=Lib.hid e3
 rw [e4] at c4
 replace e4:=Lib.hid e4
 rw [e5] at c5
 replace e5:=Lib.hid e5
 rw [e6] at c6
 replace e6:=Lib.hid e6
 rw [e7] at c7
 replace e7:=Lib.hid e7
 go_enter Tryz.func118,Tryz.ntmps118
 go_upto_region 1 with fail
 dsimp only [List.append]
 have HW:=X3.new w #[.slice (some ⟨b,off,none⟩) 4 mc,.int .i64 div,.int .i64 bx,.int .i64 by_,.int .i64 low,.int .i64 high,.slice nA noise.length nc,.slice lA limits.length lc] 39
 have bW:=Xm (Below.refl w.heap.size w) (.cells #[.slice (some ⟨b,off,none⟩) 4 mc,.int .i64 div,.int .i64 bx,.int .i64 by_,.int .i64 low,.int .i64 high,.slice nA noise.length nc,.slice lA limits.length lc] 39)
 generalize hW:w.alloc (.cells #[.slice (some ⟨b,off,none⟩) 4 mc,.int .i64 div,.int .i64 bx,.int .i64 by_,.int .i64 low,.int .i64 high,.slice nA noise.length nc,.slice lA limits.length lc] 39)=W at *
 clear hW
 have hmW:=Sl.below hm bW
 have hnoW:=Sl.below hno bW
 have hliW:=Sl.below hli bW
 clear hm hno hli
 obtain ⟨cHW_0,fHW_0⟩:=HW.2 0 _ rfl
 obtain ⟨cHW_1,fHW_1⟩:=HW.2 1 _ rfl
 obtain ⟨cHW_2,fHW_2⟩:=HW.2 2 _ rfl
 obtain ⟨cHW_3,fHW_3⟩:=HW.2 3 _ rfl
 obtain ⟨cHW_4,fHW_4⟩:=HW.2 4 _ rfl
 obtain ⟨cHW_5,fHW_5⟩:=HW.2 5 _ rfl
 obtain ⟨cHW_6,fHW_6⟩:=HW.2 6 _ rfl
 obtain ⟨cHW_7,fHW_7⟩:=HW.2 7 _ rfl
 have hx0:=Wx.cell W HW.1
 have hxb:=Wx.cell W (blt bW hblt)
 have gW0:=(Xn bW b off hblt).trans g0
 have gW1:=(Xn bW b (off+1) hblt).trans g1
 have gW2:=(Xn bW b (off+2) hblt).trans g2
 have gW3:=(Xn bW b (off+3) hblt).trans g3
 clear g0 g1 g2 g3 hcm
 refine JT (by kernel_rfl) (by kernel_rfl) ?_
 repeat (go_big_quiet_step ((first|(go_at_call 189;exact Y0 (c0 _ (Sl.below hmW (Wx.below _ _))))|(go_at_call 127;first|(with_reducible exact Y0 (c2 _))|(with_reducible exact Y0 (c3 _))|(with_reducible exact Y0 (c4 _))|(with_reducible exact Y0 (c5 _)))|(go_at_call 119;first|(with_reducible exact Ka (c6 _ (Sl.below hnoW (Wx.below _ _))))|(with_reducible exact Ka (c7 _ (Sl.below hliW (Wx.below _ _)))))|(go_at_call 96;first|(with_reducible exact Ka (c8 _))|(with_reducible exact Ka (c9 _))))))
 refine wpQuiet_nil ?_
 intro w1 hw1
 have hb1:=Xh bW (Wx.out hw1)
 clear hw1 hx0 hxb
 go_wp2
 go_ret
 exact ⟨Xi (by simp only [XU,KD,hdt.out,e0.out,e1,e2.out,e3.out,e4.out,e5.out,e6.out,e7.out,Bool.and_false]),hb1⟩
end Go.Proofs.YtkjimfapbjdafaaGreat
end
section
namespace Go.Proofs.YtkjimfapbjdafaaGreat
open Go.RowKit
attribute [local go_sem ↓] Go.wp_at_zero Go.wp_at_succ
set_option maxRecDepth 100000 in
set_option maxHeartbeats 60000000 in
theorem sRoomX8t (x:XN) (a:Yr) (w:World) (hn:Xk x≤1048576) (hin:Za x) (hs:Yo w x a) (hnl:Y5 a) (e0:Kg x.map x.div=true) (e1:(det x.map != 0)=true) (e2:YR x.bx (-100) 100=true) (e3:YR x.by_ (-100) 100=true) (e4:YR x.low (-1000) 1000=true) (e5:YR x.high x.low 1000=true) (e6:Xt x.noise=true) (e7:Xt x.limits=true) (e8:decide (List.length x.noise=0)=true) :
 Calls Tryz.prog 118 #[XH x a] w fun e w'=>e=.returned (.bool (XU x))∧Below w.heap.size w w':=by
 obtain ⟨map,div,bx,by_,low,high,noise,limits⟩:=x
 simp only [Xk] at hn
 obtain ⟨hm,hno,hli⟩:=hs
 obtain ⟨hno⟩:=hno
 obtain ⟨hli⟩:=hli
 obtain ⟨_,_,_,_,_,_,⟨inn⟩,⟨inl⟩⟩:=hin
 obtain ⟨nn,nl⟩:=hnl
 obtain ⟨⟨mA,mc⟩,⟨nA,nc⟩,⟨lA,lc⟩⟩:=a
 simp only at hm hno hli inn inl nn nl hn
 dsimp only at e0 e1 e2 e3 e4 e5 e6 e7 e8
 have c0:=fun W h=>K6 mA map mc div W (by omega) h
 have c2:=fun W=>XT bx (-100) 100 W
 have c3:=fun W=>XT by_ (-100) 100 W
 have c4:=fun W=>XT low (-1000) 1000 W
 have c5:=fun W=>XT high low 1000 W
 have c8:=fun W=>Yw noise ⟨nA,nc⟩ W
 have c9:=fun W=>Yw limits ⟨lA,lc⟩ W
 have c6:=fun W h=>Yi noise ⟨nA,nc⟩ W (by omega) inn h nn
 have c7:=fun W h=>Yi limits ⟨lA,lc⟩ W (by omega) inl h nl
 clear inn inl nn nl
 rw [e0] at c0
 obtain ⟨m0,m1,m2,m3,rfl,hx0,hx1,hx2,hx3⟩:=KG e0
 have p1:=Kr hx0 hx3
 have p2:=Kr hx1 hx2
 obtain ⟨b,off,rfl,hblt,hcm⟩:=hm (by simp)
 have g0:=hcm 0 (by simp) 0 _ rfl
 have g1:=hcm 1 (by simp) 0 _ rfl
 have g2:=hcm 2 (by simp) 0 _ rfl
 have g3:=hcm 3 (by simp) 0 _ rfl
 simp only [Nat.zero_mul,Nat.one_mul,Nat.add_zero] at g0 g1 g2 g3
 simp only [List.length_cons,List.length_nil,Nat.zero_add,Nat.reduceAdd] at c0
 have v1:IntKind.i64.wrap (m0*m3)=m0*m3:=IntWalk.i64_in _ (by omega)
 have v2:IntKind.i64.wrap (m1*m2)=m1*m2:=IntWalk.i64_in _ (by omega)
 have v3:IntKind.i64.wrap (m0*m3-m1*m2)=m0*m3-m1*m2:=IntWalk.i64_in _ (by omega)
 have hdt:=Lib.hid (show det [m0,m1,m2,m3]=m0*m3-m1*m2 from rfl)
 replace e0:=Lib.hid e0
 change (m0*m3-m1*m2 != 0)=_ at e1
 rw [e2] at c2
 replace e2:=Lib.hid e2
 rw [e3] at c3
 replace e3:=Lib.hid e3
 rw [e4] at c4
 replace e4:=Lib.hid e4
 rw [e5] at c5
 replace e5:=Lib.hid e5
 rw [e6] at c6
 replace e6:=Lib.hid e6
 rw [e7] at c7
 replace e7:=Lib.hid e7
 rw [e8] at c8
 replace e8:=Lib.hid e8
 go_enter Tryz.func118,Tryz.ntmps118
 go_upto_region 1 with fail
 dsimp only [List.append]
 have HW:=X3.new w #[.slice (some ⟨b,off,none⟩) 4 mc,.int .i64 div,.int .i64 bx,.int .i64 by_,.int .i64 low,.int .i64 high,.slice nA noise.length nc,.slice lA limits.length lc] 39
 have bW:=Xm (Below.refl w.heap.size w) (.cells #[.slice (some ⟨b,off,none⟩) 4 mc,.int .i64 div,.int .i64 bx,.int .i64 by_,.int .i64 low,.int .i64 high,.slice nA noise.length nc,.slice lA limits.length lc] 39)
 generalize hW:w.alloc (.cells #[.slice (some ⟨b,off,none⟩) 4 mc,.int .i64 div,.int .i64 bx,.int .i64 by_,.int .i64 low,.int .i64 high,.slice nA noise.length nc,.slice lA limits.length lc] 39)=W at *
 clear hW
 have hmW:=Sl.below hm bW
 have hnoW:=Sl.below hno bW
 have hliW:=Sl.below hli bW
 clear hm hno hli
 obtain ⟨cHW_0,fHW_0⟩:=HW.2 0 _ rfl
 obtain ⟨cHW_1,fHW_1⟩:=HW.2 1 _ rfl
 obtain ⟨cHW_2,fHW_2⟩:=HW.2 2 _ rfl
 obtain ⟨cHW_3,fHW_3⟩:=HW.2 3 _ rfl
 obtain ⟨cHW_4,fHW_4⟩:=HW.2 4 _ rfl
 obtain ⟨cHW_5,fHW_5⟩:=HW.2 5 _ rfl
 obtain ⟨cHW_6,fHW_6⟩:=HW.2 6 _ rfl
 obtain ⟨cHW_7,fHW_7⟩:=HW.2 7 _ rfl
 have hx0:=Wx.cell W HW.1
 have hxb:=Wx.cell W (blt bW hblt)
 have gW0:=(Xn bW b off hblt).trans g0
 have gW1:=(Xn bW b (off+1) hblt).trans g1
 have gW2:=(Xn bW b (off+2) hblt).trans g2
 have gW3:=(Xn bW b (off+3) hblt).trans g3
 clear g0 g1 g2 g3 hcm
 refine JT (by kernel_rfl) (by kernel_rfl) ?_
 repeat (go_big_quiet_step ((first|(go_at_call 189;exact Y0 (c0 _ (Sl.below hmW (Wx.below _ _))))|(go_at_call 127;first|(with_reducible exact Y0 (c2 _))|(with_reducible exact Y0 (c3 _))|(with_reducible exact Y0 (c4 _))|(with_reducible exact Y0 (c5 _)))|(go_at_call 119;first|(with_reducible exact Ka (c6 _ (Sl.below hnoW (Wx.below _ _))))|(with_reducible exact Ka (c7 _ (Sl.below hliW (Wx.below _ _)))))|(go_at_call 96;first|(with_reducible exact Ka (c8 _))|(with_reducible exact Ka (c9 _))))))
 refine wpQuiet_nil ?_
 intro w1 hw1
 have hb1:=Xh bW (Wx.out hw1)
 clear hw1 hx0 hxb
 go_wp2
 go_ret
 exact ⟨Xi (by simp only [XU,KD,hdt.out,e0.out,e1,e2.out,e3.out,e4.out,e5.out,e6.out,e7.out,e8.out];rfl),hb1⟩
end Go.Proofs.YtkjimfapbjdafaaGreat
end
section
namespace Go.Proofs.YtkjimfapbjdafaaGreat
open Go.RowKit
attribute [local go_sem ↓] Go.wp_at_zero Go.wp_at_succ
set_option maxRecDepth 100000 in
set_option maxHeartbeats 60000000 in
theorem sRoomX9f (x:XN) (a:Yr) (w:World) (hn:Xk x≤1048576) (hin:Za x) (hs:Yo w x a) (hnl:Y5 a) (e0:Kg x.map x.div=true) (e1:(det x.map != 0)=true) (e2:YR x.bx (-100) 100=true) (e3:YR x.by_ (-100) 100=true) (e4:YR x.low (-1000) 1000=true) (e5:YR x.high x.low 1000=true) (e6:Xt x.noise=true) (e7:Xt x.limits=true) (e8:decide (List.length x.noise=0)=false) (e9:decide (List.length x.limits=0)=false) :
 Calls Tryz.prog 118 #[XH x a] w fun e w'=>e=.returned (.bool (XU x))∧Below w.heap.size w w':=by
 obtain ⟨map,div,bx,by_,low,high,noise,limits⟩:=x
 simp only [Xk] at hn
 obtain ⟨hm,hno,hli⟩:=hs
 obtain ⟨hno⟩:=hno
 obtain ⟨hli⟩:=hli
 obtain ⟨_,_,_,_,_,_,⟨inn⟩,⟨inl⟩⟩:=hin
 obtain ⟨nn,nl⟩:=hnl
 obtain ⟨⟨mA,mc⟩,⟨nA,nc⟩,⟨lA,lc⟩⟩:=a
 simp only at hm hno hli inn inl nn nl hn
 dsimp only at e0 e1 e2 e3 e4 e5 e6 e7 e8 e9
 have c0:=fun W h=>K6 mA map mc div W (by omega) h
 have c2:=fun W=>XT bx (-100) 100 W
 have c3:=fun W=>XT by_ (-100) 100 W
 have c4:=fun W=>XT low (-1000) 1000 W
 have c5:=fun W=>XT high low 1000 W
 have c8:=fun W=>Yw noise ⟨nA,nc⟩ W
 have c9:=fun W=>Yw limits ⟨lA,lc⟩ W
 have c6:=fun W h=>Yi noise ⟨nA,nc⟩ W (by omega) inn h nn
 have c7:=fun W h=>Yi limits ⟨lA,lc⟩ W (by omega) inl h nl
 clear inn inl nn nl
 rw [e0] at c0
 obtain ⟨m0,m1,m2,m3,rfl,hx0,hx1,hx2,hx3⟩:=KG e0
 have p1:=Kr hx0 hx3
 have p2:=Kr hx1 hx2
 obtain ⟨b,off,rfl,hblt,hcm⟩:=hm (by simp)
 have g0:=hcm 0 (by simp) 0 _ rfl
 have g1:=hcm 1 (by simp) 0 _ rfl
 have g2:=hcm 2 (by simp) 0 _ rfl
 have g3:=hcm 3 (by simp) 0 _ rfl
 simp only [Nat.zero_mul,Nat.one_mul,Nat.add_zero] at g0 g1 g2 g3
 simp only [List.length_cons,List.length_nil,Nat.zero_add,Nat.reduceAdd] at c0
 have v1:IntKind.i64.wrap (m0*m3)=m0*m3:=IntWalk.i64_in _ (by omega)
 have v2:IntKind.i64.wrap (m1*m2)=m1*m2:=IntWalk.i64_in _ (by omega)
 have v3:IntKind.i64.wrap (m0*m3-m1*m2)=m0*m3-m1*m2:=IntWalk.i64_in _ (by omega)
 have hdt:=Lib.hid (show det [m0,m1,m2,m3]=m0*m3-m1*m2 from rfl)
 replace e0:=Lib.hid e0
 change (m0*m3-m1*m2 != 0)=_ at e1
 rw [e2] at c2
 replace e2:=Lib.hid e2
 rw [e3] at c3
 replace e3:=Lib.hid e3
 rw [e4] at c4
 replace e4:=Lib.hid e4
 rw [e5] at c5
 replace e5:=Lib.hid e5
 rw [e6] at c6
 replace e6:=Lib.hid e6
 rw [e7] at c7
 replace e7:=Lib.hid e7
 rw [e8] at c8
 replace e8:=Lib.hid e8
 rw [e9] at c9
 replace e9:=Lib.hid e9
 go_enter Tryz.func118,Tryz.ntmps118
 go_upto_region 1 with fail
 dsimp only [List.append]
 have HW:=X3.new w #[.slice (some ⟨b,off,none⟩) 4 mc,.int .i64 div,.int .i64 bx,.int .i64 by_,.int .i64 low,.int .i64 high,.slice nA noise.length nc,.slice lA limits.length lc] 39
 have bW:=Xm (Below.refl w.heap.size w) (.cells #[.slice (some ⟨b,off,none⟩) 4 mc,.int .i64 div,.int .i64 bx,.int .i64 by_,.int .i64 low,.int .i64 high,.slice nA noise.length nc,.slice lA limits.length lc] 39)
 generalize hW:w.alloc (.cells #[.slice (some ⟨b,off,none⟩) 4 mc,.int .i64 div,.int .i64 bx,.int .i64 by_,.int .i64 low,.int .i64 high,.slice nA noise.length nc,.slice lA limits.length lc] 39)=W at *
 clear hW
 have hmW:=Sl.below hm bW
 have hnoW:=Sl.below hno bW
 have hliW:=Sl.below hli bW
 clear hm hno hli
 obtain ⟨cHW_0,fHW_0⟩:=HW.2 0 _ rfl
 obtain ⟨cHW_1,fHW_1⟩:=HW.2 1 _ rfl
 obtain ⟨cHW_2,fHW_2⟩:=HW.2 2 _ rfl
 obtain ⟨cHW_3,fHW_3⟩:=HW.2 3 _ rfl
 obtain ⟨cHW_4,fHW_4⟩:=HW.2 4 _ rfl
 obtain ⟨cHW_5,fHW_5⟩:=HW.2 5 _ rfl
 obtain ⟨cHW_6,fHW_6⟩:=HW.2 6 _ rfl
 obtain ⟨cHW_7,fHW_7⟩:=HW.2 7 _ rfl
 have hx0:=Wx.cell W HW.1
 have hxb:=Wx.cell W (blt bW hblt)
 have gW0:=(Xn bW b off hblt).trans g0
 have gW1:=(Xn bW b (off+1) hblt).trans g1
 have gW2:=(Xn bW b (off+2) hblt).trans g2
 have gW3:=(Xn bW b (off+3) hblt).trans g3
 clear g0 g1 g2 g3 hcm
 refine JT (by kernel_rfl) (by kernel_rfl) ?_
 repeat (go_big_quiet_step ((first|(go_at_call 189;exact Y0 (c0 _ (Sl.below hmW (Wx.below _ _))))|(go_at_call 127;first|(with_reducible exact Y0 (c2 _))|(with_reducible exact Y0 (c3 _))|(with_reducible exact Y0 (c4 _))|(with_reducible exact Y0 (c5 _)))|(go_at_call 119;first|(with_reducible exact Ka (c6 _ (Sl.below hnoW (Wx.below _ _))))|(with_reducible exact Ka (c7 _ (Sl.below hliW (Wx.below _ _)))))|(go_at_call 96;first|(with_reducible exact Ka (c8 _))|(with_reducible exact Ka (c9 _))))))
 refine wpQuiet_nil ?_
 intro w1 hw1
 have hb1:=Xh bW (Wx.out hw1)
 clear hw1 hx0 hxb
 go_wp2
 go_ret
 exact ⟨Xi (by simp only [XU,KD,hdt.out,e0.out,e1,e2.out,e3.out,e4.out,e5.out,e6.out,e7.out,e8.out,e9.out];rfl),hb1⟩
end Go.Proofs.YtkjimfapbjdafaaGreat
end
section
namespace Go.Proofs.YtkjimfapbjdafaaGreat
open Go.RowKit
attribute [local go_sem ↓] Go.wp_at_zero Go.wp_at_succ
set_option maxRecDepth 100000 in
set_option maxHeartbeats 60000000 in
theorem sRoomX9t (x:XN) (a:Yr) (w:World) (hn:Xk x≤1048576) (hin:Za x) (hs:Yo w x a) (hnl:Y5 a) (e0:Kg x.map x.div=true) (e1:(det x.map != 0)=true) (e2:YR x.bx (-100) 100=true) (e3:YR x.by_ (-100) 100=true) (e4:YR x.low (-1000) 1000=true) (e5:YR x.high x.low 1000=true) (e6:Xt x.noise=true) (e7:Xt x.limits=true) (e8:decide (List.length x.noise=0)=false) (e9:decide (List.length x.limits=0)=true) :
 Calls Tryz.prog 118 #[XH x a] w fun e w'=>e=.returned (.bool (XU x))∧Below w.heap.size w w':=by
 obtain ⟨map,div,bx,by_,low,high,noise,limits⟩:=x
 simp only [Xk] at hn
 obtain ⟨hm,hno,hli⟩:=hs
 obtain ⟨hno⟩:=hno
 obtain ⟨hli⟩:=hli
 obtain ⟨_,_,_,_,_,_,⟨inn⟩,⟨inl⟩⟩:=hin
 obtain ⟨nn,nl⟩:=hnl
 obtain ⟨⟨mA,mc⟩,⟨nA,nc⟩,⟨lA,lc⟩⟩:=a
 simp only at hm hno hli inn inl nn nl hn
 dsimp only at e0 e1 e2 e3 e4 e5 e6 e7 e8 e9
 have c0:=fun W h=>K6 mA map mc div W (by omega) h
 have c2:=fun W=>XT bx (-100) 100 W
 have c3:=fun W=>XT by_ (-100) 100 W
 have c4:=fun W=>XT low (-1000) 1000 W
 have c5:=fun W=>XT high low 1000 W
 have c8:=fun W=>Yw noise ⟨nA,nc⟩ W
 have c9:=fun W=>Yw limits ⟨lA,lc⟩ W
 have c6:=fun W h=>Yi noise ⟨nA,nc⟩ W (by omega) inn h nn
 have c7:=fun W h=>Yi limits ⟨lA,lc⟩ W (by omega) inl h nl
 clear inn inl nn nl
 rw [e0] at c0
 obtain ⟨m0,m1,m2,m3,rfl,hx0,hx1,hx2,hx3⟩:=KG e0
 have p1:=Kr hx0 hx3
 have p2:=Kr hx1 hx2
 obtain ⟨b,off,rfl,hblt,hcm⟩:=hm (by simp)
 have g0:=hcm 0 (by simp) 0 _ rfl
 have g1:=hcm 1 (by simp) 0 _ rfl
 have g2:=hcm 2 (by simp) 0 _ rfl
 have g3:=hcm 3 (by simp) 0 _ rfl
 simp only [Nat.zero_mul,Nat.one_mul,Nat.add_zero] at g0 g1 g2 g3
 simp only [List.length_cons,List.length_nil,Nat.zero_add,Nat.reduceAdd] at c0
 have v1:IntKind.i64.wrap (m0*m3)=m0*m3:=IntWalk.i64_in _ (by omega)
 have v2:IntKind.i64.wrap (m1*m2)=m1*m2:=IntWalk.i64_in _ (by omega)
 have v3:IntKind.i64.wrap (m0*m3-m1*m2)=m0*m3-m1*m2:=IntWalk.i64_in _ (by omega)
 have hdt:=Lib.hid (show det [m0,m1,m2,m3]=m0*m3-m1*m2 from rfl)
 replace e0:=Lib.hid e0
 change (m0*m3-m1*m2 != 0)=_ at e1
 rw [e2] at c2
 replace e2:=Lib.hid e2
 rw [e3] at c3
 replace e3:=Lib.hid e3
 rw [e4] at c4
 replace e4:=Lib.hid e4
 rw [e5] at c5
 replace e5:=Lib.hid e5
 rw [e6] at c6
 replace e6:=Lib.hid e6
 rw [e7] at c7
 replace e7:=Lib.hid e7
 rw [e8] at c8
 replace e8:=Lib.hid e8
 rw [e9] at c9
 replace e9:=Lib.hid e9
 go_enter Tryz.func118,Tryz.ntmps118
 go_upto_region 1 with fail
 dsimp only [List.append]
 have HW:=X3.new w #[.slice (some ⟨b,off,none⟩) 4 mc,.int .i64 div,.int .i64 bx,.int .i64 by_,.int .i64 low,.int .i64 high,.slice nA noise.length nc,.slice lA limits.length lc] 39
 have bW:=Xm (Below.refl w.heap.size w) (.cells #[.slice (some ⟨b,off,none⟩) 4 mc,.int .i64 div,.int .i64 bx,.int .i64 by_,.int .i64 low,.int .i64 high,.slice nA noise.length nc,.slice lA limits.length lc] 39)
 generalize hW:w.alloc (.cells #[.slice (some ⟨b,off,none⟩) 4 mc,.int .i64 div,.int .i64 bx,.int .i64 by_,.int .i64 low,.int .i64 high,.slice nA noise.length nc,.slice lA limits.length lc] 39)=W at *
 clear hW
 have hmW:=Sl.below hm bW
 have hnoW:=Sl.below hno bW
 have hliW:=Sl.below hli bW
 clear hm hno hli
 obtain ⟨cHW_0,fHW_0⟩:=HW.2 0 _ rfl
 obtain ⟨cHW_1,fHW_1⟩:=HW.2 1 _ rfl
 obtain ⟨cHW_2,fHW_2⟩:=HW.2 2 _ rfl
 obtain ⟨cHW_3,fHW_3⟩:=HW.2 3 _ rfl
 obtain ⟨cHW_4,fHW_4⟩:=HW.2 4 _ rfl
 obtain ⟨cHW_5,fHW_5⟩:=HW.2 5 _ rfl
 obtain ⟨cHW_6,fHW_6⟩:=HW.2 6 _ rfl
 obtain ⟨cHW_7,fHW_7⟩:=HW.2 7 _ rfl
 have hx0:=Wx.cell W HW.1
 have hxb:=Wx.cell W (blt bW hblt)
 have gW0:=(Xn bW b off hblt).trans g0
 have gW1:=(Xn bW b (off+1) hblt).trans g1
 have gW2:=(Xn bW b (off+2) hblt).trans g2
 have gW3:=(Xn bW b (off+3) hblt).trans g3
 clear g0 g1 g2 g3 hcm
 refine JT (by kernel_rfl) (by kernel_rfl) ?_
 repeat (go_big_quiet_step ((first|(go_at_call 189;exact Y0 (c0 _ (Sl.below hmW (Wx.below _ _))))|(go_at_call 127;first|(with_reducible exact Y0 (c2 _))|(with_reducible exact Y0 (c3 _))|(with_reducible exact Y0 (c4 _))|(with_reducible exact Y0 (c5 _)))|(go_at_call 119;first|(with_reducible exact Ka (c6 _ (Sl.below hnoW (Wx.below _ _))))|(with_reducible exact Ka (c7 _ (Sl.below hliW (Wx.below _ _)))))|(go_at_call 96;first|(with_reducible exact Ka (c8 _))|(with_reducible exact Ka (c9 _))))))
 refine wpQuiet_nil ?_
 intro w1 hw1
 have hb1:=Xh bW (Wx.out hw1)
 clear hw1 hx0 hxb
 go_wp2
 go_ret
 exact ⟨Xi (by simp only [XU,KD,hdt.out,e0.out,e1,e2.out,e3.out,e4.out,e5.out,e6.out,e7.out,e8.out,e9.out];rfl),hb1⟩
end Go.Proofs.YtkjimfapbjdafaaGreat
end
section
namespace Go.Proofs.YtkjimfapbjdafaaGreat
open Go.RowKit
attribute [local go_sem ↓] Go.wp_at_zero Go.wp_at_succ
set_option maxRecDepth 100000 in
set_option maxHeartbeats 60000000 in
theorem sRoomOk_c (x:XN) (a:Yr) (w:World) (hn:Xk x≤1048576) (hin:Za x) (hs:Yo w x a) (hnl:Y5 a) :
 Calls Tryz.prog 118 #[XH x a] w fun e w'=>e=.returned (.bool (XU x))∧Below w.heap.size w w':=by
 cases e0:Kg x.map x.div
 ·exact sRoomX0f x a w hn hin hs hnl e0
 ·cases e1:(det x.map != 0)
  ·exact sRoomX1f x a w hn hin hs hnl e0 e1
  ·cases e2:YR x.bx (-100) 100
   ·exact sRoomX2f x a w hn hin hs hnl e0 e1 e2
   ·cases e3:YR x.by_ (-100) 100
    ·exact sRoomX3f x a w hn hin hs hnl e0 e1 e2 e3
    ·cases e4:YR x.low (-1000) 1000
     ·exact sRoomX4f x a w hn hin hs hnl e0 e1 e2 e3 e4
     ·cases e5:YR x.high x.low 1000
      ·exact sRoomX5f x a w hn hin hs hnl e0 e1 e2 e3 e4 e5
      ·cases e6:Xt x.noise
       ·exact sRoomX6f x a w hn hin hs hnl e0 e1 e2 e3 e4 e5 e6
       ·cases e7:Xt x.limits
        ·exact sRoomX7f x a w hn hin hs hnl e0 e1 e2 e3 e4 e5 e6 e7
        ·cases e8:decide (List.length x.noise=0)
         ·cases e9:decide (List.length x.limits=0)
          ·exact sRoomX9f x a w hn hin hs hnl e0 e1 e2 e3 e4 e5 e6 e7 e8 e9
          ·exact sRoomX9t x a w hn hin hs hnl e0 e1 e2 e3 e4 e5 e6 e7 e8 e9
         ·exact sRoomX8t x a w hn hin hs hnl e0 e1 e2 e3 e4 e5 e6 e7 e8
end Go.Proofs.YtkjimfapbjdafaaGreat
end
