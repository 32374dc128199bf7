/-
 Valid rooms: of the reference, part a.
 Conditions: the slices hold at most 2^20 elements.
-/
import Derived.Deep.DrawnRows
import Derived.Test.YtbekjpkcicjcgabGreatLawLowRegionsK
set_option maxHeartbeats 60000000
set_option maxRecDepth 100000
namespace Go.Proofs.YtbekjpkcicjcgabGreat
open Go.RowKit
attribute [local go_sem ↓] Go.wp_at_zero Go.wp_at_succ
theorem sRoomX0f (x:XK) (a:Yq) (w:World) (hn:XA x<=1048576) (hin:ZR x) (hs:Y4 w x a) (hnl:Zq a) (e0:ZT x.map x.div=false) :
 Calls Tryz.prog 53 #[Ye x a] w λ e w'=>e=.returned (.bool (XG x))/\Below w.heap.size w w':=by
 obtain ⟨map,div,bx,by_,low,high,noise,limits⟩:=x;simp only [XA] at hn;obtain ⟨hm,hno,hli⟩:=hs;obtain ⟨hno⟩:=hno;obtain ⟨hli⟩:=hli;obtain ⟨_,_,_,_,_,_,⟨inn⟩,⟨inl⟩⟩:=hin;obtain ⟨nn,nl⟩:=hnl;obtain ⟨⟨mA,mc⟩,⟨nA,nc⟩,⟨lA,lc⟩⟩:=a;simp only at hm hno hli inn inl nn nl hn;dsimp only at e0
 have c0:=λ W h=>KH mA map mc div W (by omega) h;have c2:=λ W=>XQ bx (-100) 100 W;have c3:=λ W=>XQ by_ (-100) 100 W;have c4:=λ W=>XQ low (-1000) 1000 W;have c5:=λ W=>XQ high low 1000 W;have c8:=λ W=>Yl noise ⟨nA,nc⟩ W;have c9:=λ W=>Yl limits ⟨lA,lc⟩ W;have c6:=λ W h=>XY noise ⟨nA,nc⟩ W (by omega) inn h nn;have c7:=λ W h=>XY limits ⟨lA,lc⟩ W (by omega) inl h nl;clear inn inl nn nl;rw [e0] at c0;replace e0:=Lib.hid e0;go_enter Tryz.func53,Tryz.ntmps53
 go_upto_region 1 with fail
 dsimp only [List.append]
 go_big_quiet ((go_at_call 95;exact XT (c0 _ (Sl.below hm (by exact Xn)))))
 go_wp2
 go_ret
 refine ⟨Xi (by simp only [XG,Ke,e0.out];rfl), ?_⟩;exact Xn
theorem sRoomX1f (x:XK) (a:Yq) (w:World) (hn:XA x<=1048576) (hin:ZR x) (hs:Y4 w x a) (hnl:Zq a) (e0:ZT x.map x.div=true) (e1:(det x.map != 0)=false) :
 Calls Tryz.prog 53 #[Ye x a] w λ e w'=>e=.returned (.bool (XG x))/\Below w.heap.size w w':=by
 obtain ⟨map,div,bx,by_,low,high,noise,limits⟩:=x;simp only [XA] at hn;obtain ⟨hm,hno,hli⟩:=hs;obtain ⟨hno⟩:=hno;obtain ⟨hli⟩:=hli;obtain ⟨_,_,_,_,_,_,⟨inn⟩,⟨inl⟩⟩:=hin;obtain ⟨nn,nl⟩:=hnl;obtain ⟨⟨mA,mc⟩,⟨nA,nc⟩,⟨lA,lc⟩⟩:=a;simp only at hm hno hli inn inl nn nl hn;dsimp only at e0 e1
 have c0:=λ W h=>KH mA map mc div W (by omega) h;have c2:=λ W=>XQ bx (-100) 100 W;have c3:=λ W=>XQ by_ (-100) 100 W;have c4:=λ W=>XQ low (-1000) 1000 W;have c5:=λ W=>XQ high low 1000 W;have c8:=λ W=>Yl noise ⟨nA,nc⟩ W;have c9:=λ W=>Yl limits ⟨lA,lc⟩ W;have c6:=λ W h=>XY noise ⟨nA,nc⟩ W (by omega) inn h nn;have c7:=λ W h=>XY limits ⟨lA,lc⟩ W (by omega) inl h nl;clear inn inl nn nl;rw [e0] at c0;obtain ⟨m0,m1,m2,m3,rfl,hx0,hx1,hx2,hx3⟩:=Kh e0;have p1:=Z6 hx0 hx3;have p2:=Z6 hx1 hx2;obtain ⟨b,off,rfl,hblt,hcm⟩:=hm (by simp);have g0:=hcm 0 (by simp) 0 _ rfl;have g1:=hcm 1 (by simp) 0 _ rfl;have g2:=hcm 2 (by simp) 0 _ rfl;have g3:=hcm 3 (by simp) 0 _ rfl;simp only [Nat.zero_mul,Nat.one_mul,Nat.add_zero] at g0 g1 g2 g3;simp only [List.length_cons,List.length_nil,Nat.zero_add,Nat.reduceAdd] at c0;have v1:IntKind.i64.wrap (m0*m3)=m0*m3:=IntWalk.i64_in _ (by omega);have v2:IntKind.i64.wrap (m1*m2)=m1*m2:=IntWalk.i64_in _ (by omega);have v3:IntKind.i64.wrap (m0*m3-m1*m2)=m0*m3-m1*m2:=IntWalk.i64_in _ (by omega);have hdt:=Lib.hid (show det [m0,m1,m2,m3]=m0*m3-m1*m2 from rfl);replace e0:=Lib.hid e0;change (m0*m3-m1*m2 != 0)=_ at e1
 go_enter Tryz.func53,Tryz.ntmps53
 go_upto_region 1 with fail
 dsimp only [List.append]
 go_big_quiet (first|(go_at_call 95;exact XT (c0 _ (Sl.below hm (by exact Xn))))|(go_at_call 96;first|(with_reducible exact XT (c2 _))|(with_reducible exact XT (c3 _))|(with_reducible exact XT (c4 _))|(with_reducible exact XT (c5 _))))
 go_wp2
 go_ret
 refine ⟨Xi (by simp only [XG,Ke,hdt.out,e0.out,e1];rfl), ?_⟩;exact Xn
theorem sRoomX2f (x:XK) (a:Yq) (w:World) (hn:XA x<=1048576) (hin:ZR x) (hs:Y4 w x a) (hnl:Zq a) (e0:ZT x.map x.div=true) (e1:(det x.map != 0)=true) (e2:Zo x.bx (-100) 100=false) :
 Calls Tryz.prog 53 #[Ye x a] w λ e w'=>e=.returned (.bool (XG x))/\Below w.heap.size w w':=by
 obtain ⟨map,div,bx,by_,low,high,noise,limits⟩:=x;simp only [XA] at hn;obtain ⟨hm,hno,hli⟩:=hs;obtain ⟨hno⟩:=hno;obtain ⟨hli⟩:=hli;obtain ⟨_,_,_,_,_,_,⟨inn⟩,⟨inl⟩⟩:=hin;obtain ⟨nn,nl⟩:=hnl;obtain ⟨⟨mA,mc⟩,⟨nA,nc⟩,⟨lA,lc⟩⟩:=a;simp only at hm hno hli inn inl nn nl hn;dsimp only at e0 e1 e2
 have c0:=λ W h=>KH mA map mc div W (by omega) h;have c2:=λ W=>XQ bx (-100) 100 W;have c3:=λ W=>XQ by_ (-100) 100 W;have c4:=λ W=>XQ low (-1000) 1000 W;have c5:=λ W=>XQ high low 1000 W;have c8:=λ W=>Yl noise ⟨nA,nc⟩ W;have c9:=λ W=>Yl limits ⟨lA,lc⟩ W;have c6:=λ W h=>XY noise ⟨nA,nc⟩ W (by omega) inn h nn;have c7:=λ W h=>XY limits ⟨lA,lc⟩ W (by omega) inl h nl;clear inn inl nn nl;rw [e0] at c0;obtain ⟨m0,m1,m2,m3,rfl,hx0,hx1,hx2,hx3⟩:=Kh e0;have p1:=Z6 hx0 hx3;have p2:=Z6 hx1 hx2;obtain ⟨b,off,rfl,hblt,hcm⟩:=hm (by simp);have g0:=hcm 0 (by simp) 0 _ rfl;have g1:=hcm 1 (by simp) 0 _ rfl;have g2:=hcm 2 (by simp) 0 _ rfl;have g3:=hcm 3 (by simp) 0 _ rfl;simp only [Nat.zero_mul,Nat.one_mul,Nat.add_zero] at g0 g1 g2 g3;simp only [List.length_cons,List.length_nil,Nat.zero_add,Nat.reduceAdd] at c0;have v1:IntKind.i64.wrap (m0*m3)=m0*m3:=IntWalk.i64_in _ (by omega);have v2:IntKind.i64.wrap (m1*m2)=m1*m2:=IntWalk.i64_in _ (by omega);have v3:IntKind.i64.wrap (m0*m3-m1*m2)=m0*m3-m1*m2:=IntWalk.i64_in _ (by omega);have hdt:=Lib.hid (show det [m0,m1,m2,m3]=m0*m3-m1*m2 from rfl);replace e0:=Lib.hid e0;change (m0*m3-m1*m2 != 0)=_ at e1
 rw [e2] at c2;replace e2:=Lib.hid e2;go_enter Tryz.func53,Tryz.ntmps53
 go_upto_region 1 with fail
 dsimp only [List.append]
 go_big_quiet (first|(go_at_call 95;exact XT (c0 _ (Sl.below hm (by exact Xn))))|(go_at_call 96;first|(with_reducible exact XT (c2 _))|(with_reducible exact XT (c3 _))|(with_reducible exact XT (c4 _))|(with_reducible exact XT (c5 _))))
 go_wp2
 go_ret
 refine ⟨Xi (by simp only [XG,Ke,hdt.out,e0.out,e1,e2.out];rfl), ?_⟩;exact Xn
theorem sRoomX3f (x:XK) (a:Yq) (w:World) (hn:XA x<=1048576) (hin:ZR x) (hs:Y4 w x a) (hnl:Zq a) (e0:ZT x.map x.div=true) (e1:(det x.map != 0)=true) (e2:Zo x.bx (-100) 100=true) (e3:Zo x.by_ (-100) 100=false) :
 Calls Tryz.prog 53 #[Ye x a] w λ e w'=>e=.returned (.bool (XG x))/\Below w.heap.size w w':=by
 obtain ⟨map,div,bx,by_,low,high,noise,limits⟩:=x;simp only [XA] at hn;obtain ⟨hm,hno,hli⟩:=hs;obtain ⟨hno⟩:=hno;obtain ⟨hli⟩:=hli;obtain ⟨_,_,_,_,_,_,⟨inn⟩,⟨inl⟩⟩:=hin;obtain ⟨nn,nl⟩:=hnl;obtain ⟨⟨mA,mc⟩,⟨nA,nc⟩,⟨lA,lc⟩⟩:=a;simp only at hm hno hli inn inl nn nl hn;dsimp only at e0 e1 e2 e3
 have c0:=λ W h=>KH mA map mc div W (by omega) h;have c2:=λ W=>XQ bx (-100) 100 W;have c3:=λ W=>XQ by_ (-100) 100 W;have c4:=λ W=>XQ low (-1000) 1000 W;have c5:=λ W=>XQ high low 1000 W;have c8:=λ W=>Yl noise ⟨nA,nc⟩ W;have c9:=λ W=>Yl limits ⟨lA,lc⟩ W;have c6:=λ W h=>XY noise ⟨nA,nc⟩ W (by omega) inn h nn;have c7:=λ W h=>XY limits ⟨lA,lc⟩ W (by omega) inl h nl;clear inn inl nn nl;rw [e0] at c0;obtain ⟨m0,m1,m2,m3,rfl,hx0,hx1,hx2,hx3⟩:=Kh e0;have p1:=Z6 hx0 hx3;have p2:=Z6 hx1 hx2;obtain ⟨b,off,rfl,hblt,hcm⟩:=hm (by simp);have g0:=hcm 0 (by simp) 0 _ rfl;have g1:=hcm 1 (by simp) 0 _ rfl;have g2:=hcm 2 (by simp) 0 _ rfl;have g3:=hcm 3 (by simp) 0 _ rfl;simp only [Nat.zero_mul,Nat.one_mul,Nat.add_zero] at g0 g1 g2 g3;simp only [List.length_cons,List.length_nil,Nat.zero_add,Nat.reduceAdd] at c0;have v1:IntKind.i64.wrap (m0*m3)=m0*m3:=IntWalk.i64_in _ (by omega);have v2:IntKind.i64.wrap (m1*m2)=m1*m2:=IntWalk.i64_in _ (by omega);have v3:IntKind.i64.wrap (m0*m3-m1*m2)=m0*m3-m1*m2:=IntWalk.i64_in _ (by omega);have hdt:=Lib.hid (show det [m0,m1,m2,m3]=m0*m3-m1*m2 from rfl);replace e0:=Lib.hid e0;change (m0*m3-m1*m2 != 0)=_ at e1
 rw [e2] at c2;replace e2:=Lib.hid e2;rw [e3] at c3;replace e3:=Lib.hid e3;go_enter Tryz.func53,Tryz.ntmps53
 go_upto_region 1 with fail
 dsimp only [List.append]
 go_big_quiet (first|(go_at_call 95;exact XT (c0 _ (Sl.below hm (by exact Xn))))|(go_at_call 96;first|(with_reducible exact XT (c2 _))|(with_reducible exact XT (c3 _))|(with_reducible exact XT (c4 _))|(with_reducible exact XT (c5 _))))
 go_wp2
 go_ret
 refine ⟨Xi (by simp only [XG,Ke,hdt.out,e0.out,e1,e2.out,e3.out];rfl), ?_⟩;exact Xn
theorem sRoomX4f (x:XK) (a:Yq) (w:World) (hn:XA x<=1048576) (hin:ZR x) (hs:Y4 w x a) (hnl:Zq a) (e0:ZT x.map x.div=true) (e1:(det x.map != 0)=true) (e2:Zo x.bx (-100) 100=true) (e3:Zo x.by_ (-100) 100=true) (e4:Zo x.low (-1000) 1000=false) :
 Calls Tryz.prog 53 #[Ye x a] w λ e w'=>e=.returned (.bool (XG x))/\Below w.heap.size w w':=by
 obtain ⟨map,div,bx,by_,low,high,noise,limits⟩:=x;simp only [XA] at hn;obtain ⟨hm,hno,hli⟩:=hs;obtain ⟨hno⟩:=hno;obtain ⟨hli⟩:=hli;obtain ⟨_,_,_,_,_,_,⟨inn⟩,⟨inl⟩⟩:=hin;obtain ⟨nn,nl⟩:=hnl;obtain ⟨⟨mA,mc⟩,⟨nA,nc⟩,⟨lA,lc⟩⟩:=a;simp only at hm hno hli inn inl nn nl hn;dsimp only at e0 e1 e2 e3 e4
 have c0:=λ W h=>KH mA map mc div W (by omega) h;have c2:=λ W=>XQ bx (-100) 100 W;have c3:=λ W=>XQ by_ (-100) 100 W;have c4:=λ W=>XQ low (-1000) 1000 W;have c5:=λ W=>XQ high low 1000 W;have c8:=λ W=>Yl noise ⟨nA,nc⟩ W;have c9:=λ W=>Yl limits ⟨lA,lc⟩ W;have c6:=λ W h=>XY noise ⟨nA,nc⟩ W (by omega) inn h nn;have c7:=λ W h=>XY limits ⟨lA,lc⟩ W (by omega) inl h nl;clear inn inl nn nl;rw [e0] at c0;obtain ⟨m0,m1,m2,m3,rfl,hx0,hx1,hx2,hx3⟩:=Kh e0;have p1:=Z6 hx0 hx3;have p2:=Z6 hx1 hx2;obtain ⟨b,off,rfl,hblt,hcm⟩:=hm (by simp);have g0:=hcm 0 (by simp) 0 _ rfl;have g1:=hcm 1 (by simp) 0 _ rfl;have g2:=hcm 2 (by simp) 0 _ rfl;have g3:=hcm 3 (by simp) 0 _ rfl;simp only [Nat.zero_mul,Nat.one_mul,Nat.add_zero] at g0 g1 g2 g3;simp only [List.length_cons,List.length_nil,Nat.zero_add,Nat.reduceAdd] at c0;have v1:IntKind.i64.wrap (m0*m3)=m0*m3:=IntWalk.i64_in _ (by omega);have v2:IntKind.i64.wrap (m1*m2)=m1*m2:=IntWalk.i64_in _ (by omega);have v3:IntKind.i64.wrap (m0*m3-m1*m2)=m0*m3-m1*m2:=IntWalk.i64_in _ (by omega);have hdt:=Lib.hid (show det [m0,m1,m2,m3]=m0*m3-m1*m2 from rfl);replace e0:=Lib.hid e0;change (m0*m3-m1*m2 != 0)=_ at e1
 rw [e2] at c2;replace e2:=Lib.hid e2;rw [e3] at c3;replace e3:=Lib.hid e3;rw [e4] at c4;replace e4:=Lib.hid e4;go_enter Tryz.func53,Tryz.ntmps53
 go_upto_region 1 with fail
 dsimp only [List.append]
 go_big_quiet (first|(go_at_call 95;exact XT (c0 _ (Sl.below hm (by exact Xn))))|(go_at_call 96;first|(with_reducible exact XT (c2 _))|(with_reducible exact XT (c3 _))|(with_reducible exact XT (c4 _))|(with_reducible exact XT (c5 _))))
 go_wp2
 go_ret
 refine ⟨Xi (by simp only [XG,Ke,hdt.out,e0.out,e1,e2.out,e3.out,e4.out];rfl), ?_⟩;exact Xn
theorem sRoomX5f (x:XK) (a:Yq) (w:World) (hn:XA x<=1048576) (hin:ZR x) (hs:Y4 w x a) (hnl:Zq a) (e0:ZT x.map x.div=true) (e1:(det x.map != 0)=true) (e2:Zo x.bx (-100) 100=true) (e3:Zo x.by_ (-100) 100=true) (e4:Zo x.low (-1000) 1000=true) (e5:Zo x.high x.low 1000=false) :
 Calls Tryz.prog 53 #[Ye x a] w λ e w'=>e=.returned (.bool (XG x))/\Below w.heap.size w w':=by
 obtain ⟨map,div,bx,by_,low,high,noise,limits⟩:=x;simp only [XA] at hn;obtain ⟨hm,hno,hli⟩:=hs;obtain ⟨hno⟩:=hno;obtain ⟨hli⟩:=hli;obtain ⟨_,_,_,_,_,_,⟨inn⟩,⟨inl⟩⟩:=hin;obtain ⟨nn,nl⟩:=hnl;obtain ⟨⟨mA,mc⟩,⟨nA,nc⟩,⟨lA,lc⟩⟩:=a;simp only at hm hno hli inn inl nn nl hn;dsimp only at e0 e1 e2 e3 e4 e5
 have c0:=λ W h=>KH mA map mc div W (by omega) h;have c2:=λ W=>XQ bx (-100) 100 W;have c3:=λ W=>XQ by_ (-100) 100 W;have c4:=λ W=>XQ low (-1000) 1000 W;have c5:=λ W=>XQ high low 1000 W;have c8:=λ W=>Yl noise ⟨nA,nc⟩ W;have c9:=λ W=>Yl limits ⟨lA,lc⟩ W;have c6:=λ W h=>XY noise ⟨nA,nc⟩ W (by omega) inn h nn;have c7:=λ W h=>XY limits ⟨lA,lc⟩ W (by omega) inl h nl;clear inn inl nn nl;rw [e0] at c0;obtain ⟨m0,m1,m2,m3,rfl,hx0,hx1,hx2,hx3⟩:=Kh e0;have p1:=Z6 hx0 hx3;have p2:=Z6 hx1 hx2;obtain ⟨b,off,rfl,hblt,hcm⟩:=hm (by simp);have g0:=hcm 0 (by simp) 0 _ rfl;have g1:=hcm 1 (by simp) 0 _ rfl;have g2:=hcm 2 (by simp) 0 _ rfl;have g3:=hcm 3 (by simp) 0 _ rfl;simp only [Nat.zero_mul,Nat.one_mul,Nat.add_zero] at g0 g1 g2 g3;simp only [List.length_cons,List.length_nil,Nat.zero_add,Nat.reduceAdd] at c0;have v1:IntKind.i64.wrap (m0*m3)=m0*m3:=IntWalk.i64_in _ (by omega);have v2:IntKind.i64.wrap (m1*m2)=m1*m2:=IntWalk.i64_in _ (by omega);have v3:IntKind.i64.wrap (m0*m3-m1*m2)=m0*m3-m1*m2:=IntWalk.i64_in _ (by omega);have hdt:=Lib.hid (show det [m0,m1,m2,m3]=m0*m3-m1*m2 from rfl);replace e0:=Lib.hid e0;change (m0*m3-m1*m2 != 0)=_ at e1
 rw [e2] at c2;replace e2:=Lib.hid e2;rw [e3] at c3;replace e3:=Lib.hid e3;rw [e4] at c4;replace e4:=Lib.hid e4;rw [e5] at c5;replace e5:=Lib.hid e5;go_enter Tryz.func53,Tryz.ntmps53
 go_upto_region 1 with fail
 dsimp only [List.append]
 go_big_quiet (first|(go_at_call 95;exact XT (c0 _ (Sl.below hm (by exact Xn))))|(go_at_call 96;first|(with_reducible exact XT (c2 _))|(with_reducible exact XT (c3 _))|(with_reducible exact XT (c4 _))|(with_reducible exact XT (c5 _))))
 go_wp2
 go_ret
 refine ⟨Xi (by simp only [XG,Ke,hdt.out,e0.out,e1,e2.out,e3.out,e4.out,e5.out];rfl), ?_⟩;exact Xn
end Go.Proofs.YtbekjpkcicjcgabGreat
