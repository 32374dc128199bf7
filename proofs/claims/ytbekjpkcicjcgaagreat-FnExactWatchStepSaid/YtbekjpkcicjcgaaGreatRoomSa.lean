/-
 Valid rooms: of the reference, part a.
 Conditions: the slices hold at most 2^20 elements.
-/
import Derived.Test.YtbekjpkcicjcgaaGreatRoom
import Derived.Test.YtbekjpkcicjcgaaGreatGrX
import Derived.Deep.DrawnRows
set_option maxHeartbeats 60000000
set_option maxRecDepth 100000
namespace Go.Proofs.YtbekjpkcicjcgaaGreat
open Go.RowKit
attribute [local go_sem ↓] Go.wp_at_zero Go.wp_at_succ
theorem sRoomX0f (x:XU) (a:Yn) (w:World) (hn:Xy x<=1048576) (hin:Zh x) (hs:Ym w x a) (hnl:YJ a) (e0:YC x.map x.div=false) :
 Calls Tryz.prog 172 #[Ya x a] w λ e w'=>e=.returned (.bool (XM x))/\Below w.heap.size w w':=by
 obtain ⟨map,div,bx,by_,low,high,noise,limits⟩:=x;simp only [Xy] at hn;obtain ⟨hm,hno,hli⟩:=hs;obtain ⟨hno⟩:=hno;obtain ⟨hli⟩:=hli;obtain ⟨_,_,_,_,_,_,⟨inn⟩,⟨inl⟩⟩:=hin;obtain ⟨nn,nl⟩:=hnl;obtain ⟨⟨mA,mc⟩,⟨nA,nc⟩,⟨lA,lc⟩⟩:=a;simp only at hm hno hli inn inl nn nl hn;dsimp only at e0
 have c0:=λ W h=>KD mA map mc div W (by omega) h;have c2:=λ W=>XT bx (-100) 100 W;have c3:=λ W=>XT by_ (-100) 100 W;have c4:=λ W=>XT low (-1000) 1000 W;have c5:=λ W=>XT high low 1000 W;have c8:=λ W=>Yh noise ⟨nA,nc⟩ W;have c9:=λ W=>Yh limits ⟨lA,lc⟩ W;have c6:=λ W h=>XY noise ⟨nA,nc⟩ W (by omega) inn h nn;have c7:=λ W h=>XY limits ⟨lA,lc⟩ W (by omega) inl h nl;clear inn inl nn nl;rw [e0] at c0;replace e0:=Lib.hid e0;go_enter Tryz.func172,Tryz.ntmps172
 go_upto_region 1 with fail
 dsimp only [List.append]
 go_big_quiet ((go_at_call 195;exact Yb (c0 _ (Sl.below hm (by exact Xl)))))
 go_wp2
 go_ret
 refine ⟨Xi (by simp only [XM,Kl,e0.out];rfl), ?_⟩;exact Xl
theorem sRoomX1f (x:XU) (a:Yn) (w:World) (hn:Xy x<=1048576) (hin:Zh x) (hs:Ym w x a) (hnl:YJ a) (e0:YC x.map x.div=true) (e1:(det x.map != 0)=false) :
 Calls Tryz.prog 172 #[Ya x a] w λ e w'=>e=.returned (.bool (XM x))/\Below w.heap.size w w':=by
 obtain ⟨map,div,bx,by_,low,high,noise,limits⟩:=x;simp only [Xy] at hn;obtain ⟨hm,hno,hli⟩:=hs;obtain ⟨hno⟩:=hno;obtain ⟨hli⟩:=hli;obtain ⟨_,_,_,_,_,_,⟨inn⟩,⟨inl⟩⟩:=hin;obtain ⟨nn,nl⟩:=hnl;obtain ⟨⟨mA,mc⟩,⟨nA,nc⟩,⟨lA,lc⟩⟩:=a;simp only at hm hno hli inn inl nn nl hn;dsimp only at e0 e1
 have c0:=λ W h=>KD mA map mc div W Oz h;have c2:=λ W=>XT bx (-100) 100 W;have c3:=λ W=>XT by_ (-100) 100 W;have c4:=λ W=>XT low (-1000) 1000 W;have c5:=λ W=>XT high low 1000 W;have c8:=λ W=>Yh noise ⟨nA,nc⟩ W;have c9:=λ W=>Yh limits ⟨lA,lc⟩ W;have c6:=λ W h=>XY noise ⟨nA,nc⟩ W Oz inn h nn;have c7:=λ W h=>XY limits ⟨lA,lc⟩ W Oz inl h nl;clear inn inl nn nl;rw [e0] at c0;obtain ⟨m0,m1,m2,m3,rfl,hx0,hx1,hx2,hx3⟩:=KF e0;have p1:=Ke hx0 hx3;have p2:=Ke hx1 hx2;obtain ⟨b,off,rfl,hblt,hcm⟩:=hm Sz;have g0:=hcm 0 Sz 0 _ rfl;have g1:=hcm 1 Sz 0 _ rfl;have g2:=hcm 2 Sz 0 _ rfl;have g3:=hcm 3 Sz 0 _ rfl;simp only [Nat.zero_mul,Nat.one_mul,Nat.add_zero] at g0 g1 g2 g3;simp only [List.length_cons,List.length_nil,Nat.zero_add,Nat.reduceAdd] at c0;have v1:IntKind.i64.wrap (m0*m3)=m0*m3:=IntWalk.i64_in _ Oz;have v2:IntKind.i64.wrap (m1*m2)=m1*m2:=IntWalk.i64_in _ Oz;have v3:IntKind.i64.wrap (m0*m3-m1*m2)=m0*m3-m1*m2:=IntWalk.i64_in _ Oz;have hdt:=Lib.hid (show det [m0,m1,m2,m3]=m0*m3-m1*m2 from rfl);replace e0:=Lib.hid e0;change (m0*m3-m1*m2 != 0)=_ at e1
 go_enter Tryz.func172,Tryz.ntmps172
 go_upto_region 1 with fail
 dsimp only [List.append]
 go_big_quiet (first|(go_at_call 195;exact Yb (c0 _ (Sl.below hm (by exact Xl))))|(go_at_call 129;first|(with_reducible exact Yb (c2 _))|(with_reducible exact Yb (c3 _))|(with_reducible exact Yb (c4 _))|(with_reducible exact Yb (c5 _))))
 go_wp2
 go_ret
 refine ⟨Xi (by simp only [XM,Kl,hdt.out,e0.out,e1];rfl), ?_⟩;exact Xl
theorem sRoomX2f (x:XU) (a:Yn) (w:World) (hn:Xy x<=1048576) (hin:Zh x) (hs:Ym w x a) (hnl:YJ a) (e0:YC x.map x.div=true) (e1:(det x.map != 0)=true) (e2:ZL x.bx (-100) 100=false) :
 Calls Tryz.prog 172 #[Ya x a] w λ e w'=>e=.returned (.bool (XM x))/\Below w.heap.size w w':=by
 obtain ⟨map,div,bx,by_,low,high,noise,limits⟩:=x;simp only [Xy] at hn;obtain ⟨hm,hno,hli⟩:=hs;obtain ⟨hno⟩:=hno;obtain ⟨hli⟩:=hli;obtain ⟨_,_,_,_,_,_,⟨inn⟩,⟨inl⟩⟩:=hin;obtain ⟨nn,nl⟩:=hnl;obtain ⟨⟨mA,mc⟩,⟨nA,nc⟩,⟨lA,lc⟩⟩:=a;simp only at hm hno hli inn inl nn nl hn;dsimp only at e0 e1 e2
 have c0:=λ W h=>KD mA map mc div W Oz h;have c2:=λ W=>XT bx (-100) 100 W;have c3:=λ W=>XT by_ (-100) 100 W;have c4:=λ W=>XT low (-1000) 1000 W;have c5:=λ W=>XT high low 1000 W;have c8:=λ W=>Yh noise ⟨nA,nc⟩ W;have c9:=λ W=>Yh limits ⟨lA,lc⟩ W;have c6:=λ W h=>XY noise ⟨nA,nc⟩ W Oz inn h nn;have c7:=λ W h=>XY limits ⟨lA,lc⟩ W Oz inl h nl;clear inn inl nn nl;rw [e0] at c0;obtain ⟨m0,m1,m2,m3,rfl,hx0,hx1,hx2,hx3⟩:=KF e0;have p1:=Ke hx0 hx3;have p2:=Ke hx1 hx2;obtain ⟨b,off,rfl,hblt,hcm⟩:=hm Sz;have g0:=hcm 0 Sz 0 _ rfl;have g1:=hcm 1 Sz 0 _ rfl;have g2:=hcm 2 Sz 0 _ rfl;have g3:=hcm 3 Sz 0 _ rfl;simp only [Nat.zero_mul,Nat.one_mul,Nat.add_zero] at g0 g1 g2 g3;simp only [List.length_cons,List.length_nil,Nat.zero_add,Nat.reduceAdd] at c0;have v1:IntKind.i64.wrap (m0*m3)=m0*m3:=IntWalk.i64_in _ Oz;have v2:IntKind.i64.wrap (m1*m2)=m1*m2:=IntWalk.i64_in _ Oz;have v3:IntKind.i64.wrap (m0*m3-m1*m2)=m0*m3-m1*m2:=IntWalk.i64_in _ Oz;have hdt:=Lib.hid (show det [m0,m1,m2,m3]=m0*m3-m1*m2 from rfl);replace e0:=Lib.hid e0;change (m0*m3-m1*m2 != 0)=_ at e1
 rw [e2] at c2;replace e2:=Lib.hid e2;go_enter Tryz.func172,Tryz.ntmps172
 go_upto_region 1 with fail
 dsimp only [List.append]
 go_big_quiet (first|(go_at_call 195;exact Yb (c0 _ (Sl.below hm (by exact Xl))))|(go_at_call 129;first|(with_reducible exact Yb (c2 _))|(with_reducible exact Yb (c3 _))|(with_reducible exact Yb (c4 _))|(with_reducible exact Yb (c5 _))))
 go_wp2
 go_ret
 refine ⟨Xi (by simp only [XM,Kl,hdt.out,e0.out,e1,e2.out];rfl), ?_⟩;exact Xl
theorem sRoomX3f (x:XU) (a:Yn) (w:World) (hn:Xy x<=1048576) (hin:Zh x) (hs:Ym w x a) (hnl:YJ a) (e0:YC x.map x.div=true) (e1:(det x.map != 0)=true) (e2:ZL x.bx (-100) 100=true) (e3:ZL x.by_ (-100) 100=false) :
 Calls Tryz.prog 172 #[Ya x a] w λ e w'=>e=.returned (.bool (XM x))/\Below w.heap.size w w':=by
 obtain ⟨map,div,bx,by_,low,high,noise,limits⟩:=x;simp only [Xy] at hn;obtain ⟨hm,hno,hli⟩:=hs;obtain ⟨hno⟩:=hno;obtain ⟨hli⟩:=hli;obtain ⟨_,_,_,_,_,_,⟨inn⟩,⟨inl⟩⟩:=hin;obtain ⟨nn,nl⟩:=hnl;obtain ⟨⟨mA,mc⟩,⟨nA,nc⟩,⟨lA,lc⟩⟩:=a;simp only at hm hno hli inn inl nn nl hn;dsimp only at e0 e1 e2 e3
 have c0:=λ W h=>KD mA map mc div W Oz h;have c2:=λ W=>XT bx (-100) 100 W;have c3:=λ W=>XT by_ (-100) 100 W;have c4:=λ W=>XT low (-1000) 1000 W;have c5:=λ W=>XT high low 1000 W;have c8:=λ W=>Yh noise ⟨nA,nc⟩ W;have c9:=λ W=>Yh limits ⟨lA,lc⟩ W;have c6:=λ W h=>XY noise ⟨nA,nc⟩ W Oz inn h nn;have c7:=λ W h=>XY limits ⟨lA,lc⟩ W Oz inl h nl;clear inn inl nn nl;rw [e0] at c0;obtain ⟨m0,m1,m2,m3,rfl,hx0,hx1,hx2,hx3⟩:=KF e0;have p1:=Ke hx0 hx3;have p2:=Ke hx1 hx2;obtain ⟨b,off,rfl,hblt,hcm⟩:=hm Sz;have g0:=hcm 0 Sz 0 _ rfl;have g1:=hcm 1 Sz 0 _ rfl;have g2:=hcm 2 Sz 0 _ rfl;have g3:=hcm 3 Sz 0 _ rfl;simp only [Nat.zero_mul,Nat.one_mul,Nat.add_zero] at g0 g1 g2 g3;simp only [List.length_cons,List.length_nil,Nat.zero_add,Nat.reduceAdd] at c0;have v1:IntKind.i64.wrap (m0*m3)=m0*m3:=IntWalk.i64_in _ Oz;have v2:IntKind.i64.wrap (m1*m2)=m1*m2:=IntWalk.i64_in _ Oz;have v3:IntKind.i64.wrap (m0*m3-m1*m2)=m0*m3-m1*m2:=IntWalk.i64_in _ Oz;have hdt:=Lib.hid (show det [m0,m1,m2,m3]=m0*m3-m1*m2 from rfl);replace e0:=Lib.hid e0;change (m0*m3-m1*m2 != 0)=_ at e1
 rw [e2] at c2;replace e2:=Lib.hid e2;rw [e3] at c3;replace e3:=Lib.hid e3;go_enter Tryz.func172,Tryz.ntmps172
 go_upto_region 1 with fail
 dsimp only [List.append]
 go_big_quiet (first|(go_at_call 195;exact Yb (c0 _ (Sl.below hm (by exact Xl))))|(go_at_call 129;first|(with_reducible exact Yb (c2 _))|(with_reducible exact Yb (c3 _))|(with_reducible exact Yb (c4 _))|(with_reducible exact Yb (c5 _))))
 go_wp2
 go_ret
 refine ⟨Xi (by simp only [XM,Kl,hdt.out,e0.out,e1,e2.out,e3.out];rfl), ?_⟩;exact Xl
theorem sRoomX4f (x:XU) (a:Yn) (w:World) (hn:Xy x<=1048576) (hin:Zh x) (hs:Ym w x a) (hnl:YJ a) (e0:YC x.map x.div=true) (e1:(det x.map != 0)=true) (e2:ZL x.bx (-100) 100=true) (e3:ZL x.by_ (-100) 100=true) (e4:ZL x.low (-1000) 1000=false) :
 Calls Tryz.prog 172 #[Ya x a] w λ e w'=>e=.returned (.bool (XM x))/\Below w.heap.size w w':=by
 obtain ⟨map,div,bx,by_,low,high,noise,limits⟩:=x;simp only [Xy] at hn;obtain ⟨hm,hno,hli⟩:=hs;obtain ⟨hno⟩:=hno;obtain ⟨hli⟩:=hli;obtain ⟨_,_,_,_,_,_,⟨inn⟩,⟨inl⟩⟩:=hin;obtain ⟨nn,nl⟩:=hnl;obtain ⟨⟨mA,mc⟩,⟨nA,nc⟩,⟨lA,lc⟩⟩:=a;simp only at hm hno hli inn inl nn nl hn;dsimp only at e0 e1 e2 e3 e4
 have c0:=λ W h=>KD mA map mc div W Oz h;have c2:=λ W=>XT bx (-100) 100 W;have c3:=λ W=>XT by_ (-100) 100 W;have c4:=λ W=>XT low (-1000) 1000 W;have c5:=λ W=>XT high low 1000 W;have c8:=λ W=>Yh noise ⟨nA,nc⟩ W;have c9:=λ W=>Yh limits ⟨lA,lc⟩ W;have c6:=λ W h=>XY noise ⟨nA,nc⟩ W Oz inn h nn;have c7:=λ W h=>XY limits ⟨lA,lc⟩ W Oz inl h nl;clear inn inl nn nl;rw [e0] at c0;obtain ⟨m0,m1,m2,m3,rfl,hx0,hx1,hx2,hx3⟩:=KF e0;have p1:=Ke hx0 hx3;have p2:=Ke hx1 hx2;obtain ⟨b,off,rfl,hblt,hcm⟩:=hm Sz;have g0:=hcm 0 Sz 0 _ rfl;have g1:=hcm 1 Sz 0 _ rfl;have g2:=hcm 2 Sz 0 _ rfl;have g3:=hcm 3 Sz 0 _ rfl;simp only [Nat.zero_mul,Nat.one_mul,Nat.add_zero] at g0 g1 g2 g3;simp only [List.length_cons,List.length_nil,Nat.zero_add,Nat.reduceAdd] at c0;have v1:IntKind.i64.wrap (m0*m3)=m0*m3:=IntWalk.i64_in _ Oz;have v2:IntKind.i64.wrap (m1*m2)=m1*m2:=IntWalk.i64_in _ Oz;have v3:IntKind.i64.wrap (m0*m3-m1*m2)=m0*m3-m1*m2:=IntWalk.i64_in _ Oz;have hdt:=Lib.hid (show det [m0,m1,m2,m3]=m0*m3-m1*m2 from rfl);replace e0:=Lib.hid e0;change (m0*m3-m1*m2 != 0)=_ at e1
 rw [e2] at c2;replace e2:=Lib.hid e2;rw [e3] at c3;replace e3:=Lib.hid e3;rw [e4] at c4;replace e4:=Lib.hid e4;go_enter Tryz.func172,Tryz.ntmps172
 go_upto_region 1 with fail
 dsimp only [List.append]
 go_big_quiet (first|(go_at_call 195;exact Yb (c0 _ (Sl.below hm (by exact Xl))))|(go_at_call 129;first|(with_reducible exact Yb (c2 _))|(with_reducible exact Yb (c3 _))|(with_reducible exact Yb (c4 _))|(with_reducible exact Yb (c5 _))))
 go_wp2
 go_ret
 refine ⟨Xi (by simp only [XM,Kl,hdt.out,e0.out,e1,e2.out,e3.out,e4.out];rfl), ?_⟩;exact Xl
theorem sRoomX5f (x:XU) (a:Yn) (w:World) (hn:Xy x<=1048576) (hin:Zh x) (hs:Ym w x a) (hnl:YJ a) (e0:YC x.map x.div=true) (e1:(det x.map != 0)=true) (e2:ZL x.bx (-100) 100=true) (e3:ZL x.by_ (-100) 100=true) (e4:ZL x.low (-1000) 1000=true) (e5:ZL x.high x.low 1000=false) :
 Calls Tryz.prog 172 #[Ya x a] w λ e w'=>e=.returned (.bool (XM x))/\Below w.heap.size w w':=by
 obtain ⟨map,div,bx,by_,low,high,noise,limits⟩:=x;simp only [Xy] at hn;obtain ⟨hm,hno,hli⟩:=hs;obtain ⟨hno⟩:=hno;obtain ⟨hli⟩:=hli;obtain ⟨_,_,_,_,_,_,⟨inn⟩,⟨inl⟩⟩:=hin;obtain ⟨nn,nl⟩:=hnl;obtain ⟨⟨mA,mc⟩,⟨nA,nc⟩,⟨lA,lc⟩⟩:=a;simp only at hm hno hli inn inl nn nl hn;dsimp only at e0 e1 e2 e3 e4 e5
 have c0:=λ W h=>KD mA map mc div W Oz h;have c2:=λ W=>XT bx (-100) 100 W;have c3:=λ W=>XT by_ (-100) 100 W;have c4:=λ W=>XT low (-1000) 1000 W;have c5:=λ W=>XT high low 1000 W;have c8:=λ W=>Yh noise ⟨nA,nc⟩ W;have c9:=λ W=>Yh limits ⟨lA,lc⟩ W;have c6:=λ W h=>XY noise ⟨nA,nc⟩ W Oz inn h nn;have c7:=λ W h=>XY limits ⟨lA,lc⟩ W Oz inl h nl;clear inn inl nn nl;rw [e0] at c0;obtain ⟨m0,m1,m2,m3,rfl,hx0,hx1,hx2,hx3⟩:=KF e0;have p1:=Ke hx0 hx3;have p2:=Ke hx1 hx2;obtain ⟨b,off,rfl,hblt,hcm⟩:=hm Sz;have g0:=hcm 0 Sz 0 _ rfl;have g1:=hcm 1 Sz 0 _ rfl;have g2:=hcm 2 Sz 0 _ rfl;have g3:=hcm 3 Sz 0 _ rfl;simp only [Nat.zero_mul,Nat.one_mul,Nat.add_zero] at g0 g1 g2 g3;simp only [List.length_cons,List.length_nil,Nat.zero_add,Nat.reduceAdd] at c0;have v1:IntKind.i64.wrap (m0*m3)=m0*m3:=IntWalk.i64_in _ Oz;have v2:IntKind.i64.wrap (m1*m2)=m1*m2:=IntWalk.i64_in _ Oz;have v3:IntKind.i64.wrap (m0*m3-m1*m2)=m0*m3-m1*m2:=IntWalk.i64_in _ Oz;have hdt:=Lib.hid (show det [m0,m1,m2,m3]=m0*m3-m1*m2 from rfl);replace e0:=Lib.hid e0;change (m0*m3-m1*m2 != 0)=_ at e1
 rw [e2] at c2;replace e2:=Lib.hid e2;rw [e3] at c3;replace e3:=Lib.hid e3;rw [e4] at c4;replace e4:=Lib.hid e4;rw [e5] at c5;replace e5:=Lib.hid e5;go_enter Tryz.func172,Tryz.ntmps172
 go_upto_region 1 with fail
 dsimp only [List.append]
 go_big_quiet (first|(go_at_call 195;exact Yb (c0 _ (Sl.below hm (by exact Xl))))|(go_at_call 129;first|(with_reducible exact Yb (c2 _))|(with_reducible exact Yb (c3 _))|(with_reducible exact Yb (c4 _))|(with_reducible exact Yb (c5 _))))
 go_wp2
 go_ret
 refine ⟨Xi (by simp only [XM,Kl,hdt.out,e0.out,e1,e2.out,e3.out,e4.out,e5.out];rfl), ?_⟩;exact Xl
end Go.Proofs.YtbekjpkcicjcgaaGreat
