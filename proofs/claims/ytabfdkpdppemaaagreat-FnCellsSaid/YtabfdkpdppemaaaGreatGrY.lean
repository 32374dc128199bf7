/-
 The next spot of a room and the step of the loop: of the program and of the reference.
 Conditions: the slices hold at most 2^20 elements.
-/
import Derived.Test.YtabfdkpdppemaaaGreatNextMQc
set_option maxHeartbeats 3000000
set_option maxRecDepth 100000
namespace Go.Proofs.YtabfdkpdppemaaaGreat
open Go.RowKit
theorem iMapped_c (r:XK) (s:XQ) (ra:Y9) (w:World) (hr:X0 r=true) (hs:Xv s=true) (hd:s.d<=100000) (hsl:Y8 w r ra) :
 Calls Tryz.prog 192 #[YQ s,.slice ra.map.A r.map.length ra.map.c,.int .i64 r.div] w λ x w'=>x=.returned (.tuple #[.int .i64 (Ju r s),.int .i64 (JA r s),.int .i64 (Ys r s)])/\Below w.heap.size w w':=by
 have B:=roomB hr;have M:=mapB B hs hd;exact mapped_c r.map r.div ra.map.A ra.map.c s w B.len M.x0 M.x1 M.y0 M.y1 M.d hsl.map
theorem rok_bd2 {r:X5} (h:Xe r=true):(-1000000000000000000<=r.n/\r.n<=1000000000000000000)/\1<=r.d/\r.d<=1000000000000000:=by
 obtain ⟨⟨a,b⟩,⟨c,d⟩,_⟩:=ZO.1 h;exact ⟨⟨by omega,by omega⟩,by omega,by omega⟩
theorem isDriven_c (u:X5) (w:World) (hu:u.In) :
 Calls Tryz.prog 199 #[XO u] w λ x w'=>x=.returned (.bool (drivenOk u))/\Below w.heap.size w w':=by
 refine Yw Tryz.func199 rfl (n:=16) Tryz.ntmps199 (by simp) ?_;intro a0 V R ha;have s0:a0.tmps[0]?.getD undef=XO u:=ha 0 _ rfl;clear ha;have T:=Below.refl w.heap.size w;have W:=Nat.le_refl w.heap.size;refine wp_seq ?_;refine Yp [1,2] [.pointer (some ⟨w.heap.size,0,none⟩),.bool false] [some (.cells [.int .i64 u.n,.int .i64 u.d].toArray 36),none] [0,1] [1,2] [0,1] (by kernel_rfl) (by rw [V];decide) (ec ?_ (ec ?_ .nil)) ?_
 ·intro a w' O hs N Q C;simp [go_sem,O.g rfl s0];rw [hs];exact C
 ·intro a w' O hs N Q C;simp [go_sem];exact C
 intro a1 w2 O S hb hO;replace V:=O.size.trans V;replace R:=O.defers.trans R;have s1:a1.tmps[1]?.getD undef=.pointer (some ⟨w.heap.size,0,none⟩):=S 0 (by decide);have b3:Xx w2 w.heap.size 36 [.int .i64 u.n,.int .i64 u.d]:=hO 0 _ rfl;have hG:=b3.lt;replace T:=Xf T hb;have zw2:=Nat.le_trans W hb.size;replace W:=Nat.le_refl w2.heap.size;clear O S hb hO s0;refine Xk (wp_seq ?_);refine Xj [3,4,5,6,7,8,9,10,11,12,13,14,15,2] [some (XO u),some (.bool (Xe u)),some (.bool (Xe u)),some ((bif Xe u then (.pointer (some ⟨w.heap.size,0,none⟩):Value) else undef)),some ((bif Xe u then (.int .i64 u.n:Value) else undef)),some ((bif Xe u then (.pointer (some ⟨w.heap.size,1,none⟩):Value) else undef)),some ((bif Xe u then (.int .i64 u.d:Value) else undef)),some ((bif Xe u then (.int .i64 ((-1000)*u.d):Value) else undef)),some ((bif Xe u then (.pointer (some ⟨w.heap.size,1,none⟩):Value) else undef)),some ((bif Xe u then (.int .i64 u.d:Value) else undef)),some ((bif Xe u then (.int .i64 (1000*u.d):Value) else undef)),some ((bif Xe u then (.bool (Z7 u.n ((-1000)*u.d) (1000*u.d)):Value) else undef)),some (.bool (Xe u&&Z7 u.n ((-1000)*u.d) (1000*u.d))),some (.bool (Xe u&&Z7 u.n ((-1000)*u.d) (1000*u.d)))] (Yb 14) [3,4,5,6,7,8,9,10,11,12,13,14,15,2] [] (λ _ _ _=>True) ?_ (e2 ?_ ?_ (en rfl ?_ (eg ?_ (eg ?_ (eg ?_ (eg ?_ (eg ?_ (eg ?_ (eg ?_ (eg ?_ (eg ?_ (e2 ?_ ?_ .nil)))))))))))) ?_
 ·exact λ _ _=>trivial
 ·intro I D F H _ _ C;simp [go_sem,H.f.g rfl s1,(b3.k0 H.k).cell];exact (C _ _ H.k rfl trivial)
 ·intro I D F H _ _ C;simp [go_sem,(gS D 3 (H.d 0 rfl rfl))];refine (Z3 u F hu).mono ?_;rintro x wx ⟨rfl,hb⟩;exact (C _ _ (H.k.call hb) rfl trivial)
 ·exact YA 1 rfl rfl rfl rfl
 ·intro I D F H _ _ C;refine Ji rfl rfl rfl (H.d 2 rfl rfl) (λ qg=>C _ _ H.k (XC qg).symm trivial) λ qg=>?_;simp [go_sem,H.f.g rfl s1];exact (C _ _ H.k (Xr qg).symm trivial)
 ·intro I D F H _ _ C;refine Ji rfl rfl rfl (H.d 2 rfl rfl) (λ qg=>C _ _ H.k (XC qg).symm trivial) λ qg=>?_;simp [go_sem,(show D.tmps[6]?.getD undef=_ from (H.d 3 rfl rfl).trans (Xr qg)),(b3.k0 H.k).cell];exact (C _ _ H.k (Xr qg).symm trivial)
 ·intro I D F H _ _ C;refine Ji rfl rfl rfl (H.d 2 rfl rfl) (λ qg=>C _ _ H.k (XC qg).symm trivial) λ qg=>?_;simp [go_sem,H.f.g rfl s1];exact (C _ _ H.k (Xr qg).symm trivial)
 ·intro I D F H _ _ C;refine Ji rfl rfl rfl (H.d 2 rfl rfl) (λ qg=>C _ _ H.k (XC qg).symm trivial) λ qg=>?_;simp [go_sem,(show D.tmps[8]?.getD undef=_ from (H.d 5 rfl rfl).trans (Xr qg)),(b3.k0 H.k).cell];exact (C _ _ H.k (Xr qg).symm trivial)
 ·intro I D F H _ _ C;refine Ji rfl rfl rfl (H.d 2 rfl rfl) (λ qg=>C _ _ H.k (XC qg).symm trivial) λ qg=>?_;exact Y0 rfl rfl (ev ((H.d 6 rfl rfl).trans (Xr qg))) (by have k:=rok_bd2 qg;omega) (C _ _ H.k (Xr qg).symm trivial)
 ·intro I D F H _ _ C;refine Ji rfl rfl rfl (H.d 2 rfl rfl) (λ qg=>C _ _ H.k (XC qg).symm trivial) λ qg=>?_;simp [go_sem,H.f.g rfl s1];exact (C _ _ H.k (Xr qg).symm trivial)
 ·intro I D F H _ _ C;refine Ji rfl rfl rfl (H.d 2 rfl rfl) (λ qg=>C _ _ H.k (XC qg).symm trivial) λ qg=>?_;simp [go_sem,(show D.tmps[11]?.getD undef=_ from (H.d 8 rfl rfl).trans (Xr qg)),(b3.k0 H.k).cell];exact (C _ _ H.k (Xr qg).symm trivial)
 ·intro I D F H _ _ C;refine Ji rfl rfl rfl (H.d 2 rfl rfl) (λ qg=>C _ _ H.k (XC qg).symm trivial) λ qg=>?_;exact Y0 rfl rfl (ev ((H.d 9 rfl rfl).trans (Xr qg))) (by have k:=rok_bd2 qg;omega) (C _ _ H.k (Xr qg).symm trivial)
 ·intro I D F H _ _ C;refine Ji rfl rfl rfl (H.d 2 rfl rfl) (λ qg=>C _ _ H.k (XC qg).symm trivial) λ qg=>?_;simp [go_sem,(show D.tmps[7]?.getD undef=_ from (H.d 4 rfl rfl).trans (Xr qg)),(show D.tmps[10]?.getD undef=_ from (H.d 7 rfl rfl).trans (Xr qg)),(show D.tmps[13]?.getD undef=_ from (H.d 10 rfl rfl).trans (Xr qg))];refine (Ye u.n ((-1000)*u.d) (1000*u.d) F).mono ?_;rintro x wx ⟨rfl,rfl⟩;exact (C _ _ H.k (Xr qg).symm trivial)
 ·exact λ I D F H _ _ C=>XN rfl (ev (H.d 2 rfl rfl)) (λ h=>(ev ((H.d 11 rfl rfl).trans (Xr h))).trans (Jr h)) (λ h=>Js h) (C _ _ H.k rfl trivial)
 ·exact ZT 12 rfl rfl rfl rfl
 intro L a4 w5 X O P S U;replace V:=O.Z V;replace R:=O.E R;have s2:=gS a4 2 (S 13 _ rfl);replace W:=Nat.le_trans W P.size;replace T:=P.below0 T;clear O P S X U s1 b3;refine Xk (wp_ret ?_);refine bodyPost_ret (v:=.bool (Xe u&&Z7 u.n ((-1000)*u.d) (1000*u.d))) (by simp [results,Tryz.results199,go_sem,s2]) R ?_;exact ⟨rfl,T⟩
theorem iNext_c (r:XK) (s:XQ) (u:X5) (v:XQ) (ra:Y9) (w:World) (hr:X0 r=true) (hsl:Y8 w r ra) (hsi:s.In) (hui:u.In) (hvi:v.In) :
 Calls Tryz.prog 124 #[X9 r ra,YQ s,XO u,YQ v] w λ x w'=>x=.returned (optSpotV (nxtO r s u v))/\Below w.heap.size w w':=by
 refine Yw Tryz.func124 rfl (n:=105) Tryz.ntmps124 (by simp) ?_;intro a0 V R ha;have s0:a0.tmps[0]?.getD undef=X9 r ra:=ha 0 _ rfl;have s1:a0.tmps[1]?.getD undef=YQ s:=ha 1 _ rfl;have s2:a0.tmps[2]?.getD undef=XO u:=ha 2 _ rfl;have s3:a0.tmps[3]?.getD undef=YQ v:=ha 3 _ rfl;clear ha;have T:=Below.refl w.heap.size w;have W:=Nat.le_refl w.heap.size;refine wp_seq ?_;refine Yp [4,5,6,7,8,9] [.pointer (some ⟨w.heap.size,0,none⟩),.pointer (some ⟨(w.heap.size+1),0,none⟩),.pointer (some ⟨(w.heap.size+2),0,none⟩),.pointer (some ⟨(w.heap.size+3),0,none⟩),.pointer (some ⟨(w.heap.size+4),0,none⟩),.bool false] [some (.cells (Yq r ra).toArray 28),some (.cells [.int .i64 s.x,.int .i64 s.y,.int .i64 s.d].toArray 30),some (.cells [.int .i64 u.n,.int .i64 u.d].toArray 36),some (.cells [.int .i64 v.x,.int .i64 v.y,.int .i64 v.d].toArray 30),some (.cells [.int .i64 0,.int .i64 0,.int .i64 0].toArray 30),none] [0,1,2,3,4,5] [4,5,6,7,8,9] [0,1,2,3,4,5] (by kernel_rfl) (by rw [V];decide) (ec ?_ (ec ?_ (ec ?_ (ec ?_ (ec ?_ (ec ?_ .nil)))))) ?_
 ·intro a w' O hs N Q C;simp [go_sem,O.g rfl s0];rw [hs];exact C
 ·intro a w' O hs N Q C;simp [go_sem,O.g rfl s1];rw [hs];exact C
 ·intro a w' O hs N Q C;simp [go_sem,O.g rfl s2];rw [hs];exact C
 ·intro a w' O hs N Q C;simp [go_sem,O.g rfl s3];rw [hs];exact C
 ·intro a w' O hs N Q C;simp [go_sem];rw [hs];exact C
 ·intro a w' O hs N Q C;simp [go_sem];exact C
 intro a1 w2 O S hb hO;replace V:=O.size.trans V;replace R:=O.defers.trans R;have s4:a1.tmps[4]?.getD undef=.pointer (some ⟨w.heap.size,0,none⟩):=S 0 (by decide);have s5:a1.tmps[5]?.getD undef=.pointer (some ⟨(w.heap.size+1),0,none⟩):=S 1 (by decide);have s6:a1.tmps[6]?.getD undef=.pointer (some ⟨(w.heap.size+2),0,none⟩):=S 2 (by decide);have s7:a1.tmps[7]?.getD undef=.pointer (some ⟨(w.heap.size+3),0,none⟩):=S 3 (by decide);have s8:a1.tmps[8]?.getD undef=.pointer (some ⟨(w.heap.size+4),0,none⟩):=S 4 (by decide);have b3:Xx w2 w.heap.size 28 (Yq r ra):=hO 0 _ rfl;have b4:Xx w2 (w.heap.size+1) 30 [.int .i64 s.x,.int .i64 s.y,.int .i64 s.d]:=hO 1 _ rfl;have b5:Xx w2 (w.heap.size+2) 36 [.int .i64 u.n,.int .i64 u.d]:=hO 2 _ rfl;have b6:Xx w2 (w.heap.size+3) 30 [.int .i64 v.x,.int .i64 v.y,.int .i64 v.d]:=hO 3 _ rfl;have b7:Xx w2 (w.heap.size+4) 30 [.int .i64 0,.int .i64 0,.int .i64 0]:=hO 4 _ rfl;have hG:=b7.lt;replace T:=Xf T hb;have zw2:=Nat.le_trans W hb.size;replace W:=Nat.le_refl w2.heap.size;clear O S hb hO s0 s1 s2 s3;refine Xk (wp_seq (wp_seq ?_));refine Xj [13,14,15,16,17,18,19,20,21,22,23,24,25,26,27,28,29,30,31,32,33,34,35,36,37,38,39,40] [some (YQ s),some (.bool (Xv s)),some (.bool (!(Xv s))),some (.bool (!(Xv s))),some ((bif !(Xv s) then undef else (YQ v:Value))),some ((bif !(Xv s) then undef else (.bool (Xv v):Value))),some ((bif !(Xv s) then undef else (.bool (!(Xv v)):Value))),some (.bool (!(Xv s) || !(Xv v))),some (.bool (!(Xv s) || !(Xv v))),some ((bif (!(Xv s) || !(Xv v)) then undef else (.pointer (some ⟨(w.heap.size+1),2,none⟩):Value))),some ((bif (!(Xv s) || !(Xv v)) then undef else (.int .i64 s.d:Value))),some ((bif (!(Xv s) || !(Xv v)) then undef else (.bool (decide (s.d > 100000)):Value))),some (.bool ((!(Xv s) || !(Xv v))||decide (s.d > 100000))),some (.bool ((!(Xv s) || !(Xv v))||decide (s.d > 100000))),some ((bif ((!(Xv s) || !(Xv v))||decide (s.d > 100000)) then undef else (.pointer (some ⟨(w.heap.size+3),2,none⟩):Value))),some ((bif ((!(Xv s) || !(Xv v))||decide (s.d > 100000)) then undef else (.int .i64 v.d:Value))),some ((bif ((!(Xv s) || !(Xv v))||decide (s.d > 100000)) then undef else (.bool (decide (v.d > 1000)):Value))),some (.bool (((!(Xv s) || !(Xv v))||decide (s.d > 100000))||decide (v.d > 1000))),some (.bool (((!(Xv s) || !(Xv v))||decide (s.d > 100000))||decide (v.d > 1000))),some ((bif (((!(Xv s) || !(Xv v))||decide (s.d > 100000))||decide (v.d > 1000)) then undef else (.pointer (some ⟨(w.heap.size+2),1,none⟩):Value))),some ((bif (((!(Xv s) || !(Xv v))||decide (s.d > 100000))||decide (v.d > 1000)) then undef else (.int .i64 u.d:Value))),some ((bif (((!(Xv s) || !(Xv v))||decide (s.d > 100000))||decide (v.d > 1000)) then undef else (.bool (decide (u.d > 1000)):Value))),some (.bool ((((!(Xv s) || !(Xv v))||decide (s.d > 100000))||decide (v.d > 1000))||decide (u.d > 1000))),some (.bool ((((!(Xv s) || !(Xv v))||decide (s.d > 100000))||decide (v.d > 1000))||decide (u.d > 1000))),some ((bif ((((!(Xv s) || !(Xv v))||decide (s.d > 100000))||decide (v.d > 1000))||decide (u.d > 1000)) then undef else (XO u:Value))),some ((bif ((((!(Xv s) || !(Xv v))||decide (s.d > 100000))||decide (v.d > 1000))||decide (u.d > 1000)) then undef else (.bool (drivenOk u):Value))),some ((bif ((((!(Xv s) || !(Xv v))||decide (s.d > 100000))||decide (v.d > 1000))||decide (u.d > 1000)) then undef else (.bool (!(drivenOk u)):Value))),some (.bool (((((!(Xv s) || !(Xv v))||decide (s.d > 100000))||decide (v.d > 1000))||decide (u.d > 1000)) || !(drivenOk u)))] (Yb 28) [13,14,15,16,17,18,19,20,21,22,23,24,25,26,27,28,29,30,31,32,33,34,35,36,37,38,39,40] [] (λ _ _ _=>True) ?_ (e4 ?_ ?_ ?_ ?_ (eg ?_ (eg ?_ (eg ?_ (e2 ?_ ?_ (eg ?_ (eg ?_ (eg ?_ (e2 ?_ ?_ (eg ?_ (eg ?_ (eg ?_ (e2 ?_ ?_ (eg ?_ (eg ?_ (eg ?_ (e2 ?_ ?_ (eg ?_ (eg ?_ (eg ?_ (en rfl ?_ .nil))))))))))))))))))))) ?_
 ·exact λ _ _=>trivial
 ·intro I D F H _ _ C;simp [go_sem,H.f.g rfl s5,(b4.k0 H.k).cell];exact (C _ _ H.k rfl trivial)
 ·intro I D F H _ _ C;simp [go_sem,(gS D 13 (H.d 0 rfl rfl))];refine (Jj s F hsi).mono ?_;rintro x wx ⟨rfl,hb⟩;exact (C _ _ (H.k.call hb) rfl trivial)
 ·exact Ky 1 rfl rfl rfl rfl
 ·exact YA 2 rfl rfl rfl rfl
 ·intro I D F H _ _ C;refine wgf rfl rfl rfl (H.d 3 rfl rfl) (λ qg=>C _ _ H.k (Xr qg).symm trivial) λ qg=>?_;simp [go_sem,H.f.g rfl s7,(b6.k0 H.k).cell];exact (C _ _ H.k (XC qg).symm trivial)
 ·intro I D F H _ _ C;refine wgf rfl rfl rfl (H.d 3 rfl rfl) (λ qg=>C _ _ H.k (Xr qg).symm trivial) λ qg=>?_;simp [go_sem,(show D.tmps[17]?.getD undef=_ from (H.d 4 rfl rfl).trans (XC qg))];refine (Jj v F hvi).mono ?_;rintro x wx ⟨rfl,hb⟩;exact (C _ _ (H.k.call hb) (XC qg).symm trivial)
 ·intro I D F H _ _ C;refine wgf rfl rfl rfl (H.d 3 rfl rfl) (λ qg=>C _ _ H.k (Xr qg).symm trivial) λ qg=>?_;exact ZR rfl (ev ((H.d 5 rfl rfl).trans (XC qg))) (C _ _ H.k (XC qg).symm trivial)
 ·exact oPOT 3 6 rfl rfl rfl rfl rfl rfl
 ·exact YA 7 rfl rfl rfl rfl
 ·intro I D F H _ _ C;refine wgf rfl rfl rfl (H.d 8 rfl rfl) (λ qg=>C _ _ H.k (Xr qg).symm trivial) λ qg=>?_;simp [go_sem,H.f.g rfl s5];exact (C _ _ H.k (XC qg).symm trivial)
 ·intro I D F H _ _ C;refine wgf rfl rfl rfl (H.d 8 rfl rfl) (λ qg=>C _ _ H.k (Xr qg).symm trivial) λ qg=>?_;simp [go_sem,(show D.tmps[22]?.getD undef=_ from (H.d 9 rfl rfl).trans (XC qg)),(b4.k0 H.k).cell];exact (C _ _ H.k (XC qg).symm trivial)
 ·intro I D F H _ _ C;refine wgf rfl rfl rfl (H.d 8 rfl rfl) (λ qg=>C _ _ H.k (Xr qg).symm trivial) λ qg=>?_;exact X8 rfl (ev ((H.d 10 rfl rfl).trans (XC qg))) rfl rfl rfl (C _ _ H.k (XC qg).symm trivial)
 ·exact oPOT 8 11 rfl rfl rfl rfl rfl rfl
 ·exact YA 12 rfl rfl rfl rfl
 ·intro I D F H _ _ C;refine wgf rfl rfl rfl (H.d 13 rfl rfl) (λ qg=>C _ _ H.k (Xr qg).symm trivial) λ qg=>?_;simp [go_sem,H.f.g rfl s7];exact (C _ _ H.k (XC qg).symm trivial)
 ·intro I D F H _ _ C;refine wgf rfl rfl rfl (H.d 13 rfl rfl) (λ qg=>C _ _ H.k (Xr qg).symm trivial) λ qg=>?_;simp [go_sem,(show D.tmps[27]?.getD undef=_ from (H.d 14 rfl rfl).trans (XC qg)),(b6.k0 H.k).cell];exact (C _ _ H.k (XC qg).symm trivial)
 ·intro I D F H _ _ C;refine wgf rfl rfl rfl (H.d 13 rfl rfl) (λ qg=>C _ _ H.k (Xr qg).symm trivial) λ qg=>?_;exact X8 rfl (ev ((H.d 15 rfl rfl).trans (XC qg))) rfl rfl rfl (C _ _ H.k (XC qg).symm trivial)
 ·exact oPOT 13 16 rfl rfl rfl rfl rfl rfl
 ·exact YA 17 rfl rfl rfl rfl
 ·intro I D F H _ _ C;refine wgf rfl rfl rfl (H.d 18 rfl rfl) (λ qg=>C _ _ H.k (Xr qg).symm trivial) λ qg=>?_;simp [go_sem,H.f.g rfl s6];exact (C _ _ H.k (XC qg).symm trivial)
 ·intro I D F H _ _ C;refine wgf rfl rfl rfl (H.d 18 rfl rfl) (λ qg=>C _ _ H.k (Xr qg).symm trivial) λ qg=>?_;simp [go_sem,(show D.tmps[32]?.getD undef=_ from (H.d 19 rfl rfl).trans (XC qg)),(b5.k0 H.k).cell];exact (C _ _ H.k (XC qg).symm trivial)
 ·intro I D F H _ _ C;refine wgf rfl rfl rfl (H.d 18 rfl rfl) (λ qg=>C _ _ H.k (Xr qg).symm trivial) λ qg=>?_;exact X8 rfl (ev ((H.d 20 rfl rfl).trans (XC qg))) rfl rfl rfl (C _ _ H.k (XC qg).symm trivial)
 ·exact oPOT 18 21 rfl rfl rfl rfl rfl rfl
 ·exact YA 22 rfl rfl rfl rfl
 ·intro I D F H _ _ C;refine wgf rfl rfl rfl (H.d 23 rfl rfl) (λ qg=>C _ _ H.k (Xr qg).symm trivial) λ qg=>?_;simp [go_sem,H.f.g rfl s6,(b5.k0 H.k).cell];exact (C _ _ H.k (XC qg).symm trivial)
 ·intro I D F H _ _ C;refine wgf rfl rfl rfl (H.d 23 rfl rfl) (λ qg=>C _ _ H.k (Xr qg).symm trivial) λ qg=>?_;simp [go_sem,(show D.tmps[37]?.getD undef=_ from (H.d 24 rfl rfl).trans (XC qg))];refine (isDriven_c u F hui).mono ?_;rintro x wx ⟨rfl,hb⟩;exact (C _ _ (H.k.call hb) (XC qg).symm trivial)
 ·intro I D F H _ _ C;refine wgf rfl rfl rfl (H.d 23 rfl rfl) (λ qg=>C _ _ H.k (Xr qg).symm trivial) λ qg=>?_;exact ZR rfl (ev ((H.d 25 rfl rfl).trans (XC qg))) (C _ _ H.k (XC qg).symm trivial)
 ·exact oPOT 23 26 rfl rfl rfl rfl rfl rfl
 intro L a8 w9 X O P S U;replace V:=O.Z V;replace R:=O.E R;replace s4:=O.G s4;replace s5:=O.G s5;replace s6:=O.G s6;replace s7:=O.G s7;replace s8:=O.G s8;have s40:=gS a8 40 (S 27 _ rfl);replace b3:=b3.k0 P;replace b4:=b4.k0 P;replace b5:=b5.k0 P;replace b6:=b6.k0 P;replace b7:=b7.k0 P;replace W:=Nat.le_trans W P.size;replace T:=P.below0 T;clear O P S X U;refine Xk ?_;rcases Bool.eq_false_or_eq_true (((((!(Xv s) || !(Xv v))||decide (s.d > 100000))||decide (v.d > 1000))||decide (u.d > 1000)) || !(drivenOk u)) with q10|q10
 ·refine wp_cond_true (ev (vb s40 q10)) ?_;refine wp_seq ?_;have J:XF [] (λ L aa F=>Yc F (w.heap.size+4) 30 [.int .i64 0,.int .i64 0,.int .i64 0] (L 1) (λ _ vs=>vs=[.int .i64 0,.int .i64 0,.int .i64 0])):=by
   intro L aa F w' kk vv hkk hb U;have x0:=U;exact (x0.bel hb (λ _ h=>h))
  refine Xt J [41,0,9] [some (.agg #[.int .i64 0,.int .i64 0,.int .i64 0]),none,some (.bool false)] (Yb 3) [41,9] [(w.heap.size+4)] ?_ (e2 ?_ ?_ (en rfl ?_ .nil)) ?_
  ·exact λ _ h=>(⟨λ _=>b7.kp h (by simp),(λ h=>by cases h)⟩)
  ·intro I D F H _ _ C;simp [go_sem];exact (C _ _ H.k rfl H.x)
  ·intro I D F H _ _ C;have x0:=H.x;have Y:=x0.1 H.n;simp [go_sem,(gS D 41 (H.d 0 rfl rfl)),H.f.g rfl s8,Y.cell,Y.frz];exact C undef _ (H.k.store (.inr (by simp)) [.int .i64 0,.int .i64 0,.int .i64 0] 0) trivial (Yc.set Y (us:=[.int .i64 0,.int .i64 0,.int .i64 0]) rfl rfl)
  ·exact oACX rfl rfl λ _ _ _ _ h=>h
  intro L a11 w12 X O P S U;have x0:=U;replace V:=O.Z V;replace R:=O.E R;replace s8:=O.G s8;have s9:=gS a11 9 (S 2 _ rfl);clear b7;obtain ⟨_,b7,rfl⟩:=x0.2 (X 1 (by decide));replace W:=Nat.le_trans W P.size;replace T:=P.below T T.size (by simp<;>omega);clear O P S X x0 J s4 s5 s6 s7 s40 b3 b4 b5 b6;refine Xk (wp_ret (Km ?_));refine bodyPost_ret (v:=.tuple #[.agg #[.int .i64 0,.int .i64 0,.int .i64 0],.bool false]) (by simp [results,Tryz.results124,go_sem,s8,b7.cell,s9]) R ?_;exact ⟨by rw [nxt_no ((nxtBad_i hr).trans q10)];rfl,T⟩
 ·have hbad:nxtBad r s u v=false:=(nxtBad_i hr).trans q10;have K:=nxt_in hbad;have B:=roomB hr;have M:=mapB B K.sok K.sd;have hv0:=(ZL.1 K.vok).1;obtain ⟨_,hvx,hvy,_⟩:=ZL.1 K.vok;have hMX : -4000000000<=Ju r s/\Ju r s<=4000000000:=by have:=M.x0;have:=M.x1;unfold Ju;omega
  have hMY : -4000000000<=JA r s/\JA r s<=4000000000:=by have:=M.y0;have:=M.y1;unfold JA;omega
  have hvd:=K.vd;obtain ⟨n1,n2,n3,n4,n5,n6,n7⟩:=nxt_bd hMX M.d B.bx K.ud K.un ⟨hv0.1,hvd⟩ hvx;obtain ⟨m1,m2,m3,_,m5,m6,_⟩:=nxt_bd hMY M.d B.by_ K.ud K.un ⟨hv0.1,hvd⟩ hvy;have hMD:=M.d;refine wp_cond_false (ev (vb s40 q10)) ?_;refine wp_skip (Xk (wp_seq ?_));refine Xj [43,44,45,46,47,48,42,49,50,51,10,11,12] [some (YQ s),some (.pointer (some ⟨w.heap.size,0,none⟩)),some (.slice ra.map.A r.map.length ra.map.c),some (.pointer (some ⟨w.heap.size,1,none⟩)),some (.int .i64 r.div),some (.tuple #[.int .i64 (Ju r s),.int .i64 (JA r s),.int .i64 (Ys r s)]),some (.tuple #[.int .i64 (Ju r s),.int .i64 (JA r s),.int .i64 (Ys r s)]),some (.int .i64 (Ju r s)),some (.int .i64 (JA r s)),some (.int .i64 (Ys r s)),some (.int .i64 (Ju r s)),some (.int .i64 (JA r s)),some (.int .i64 (Ys r s))] (Yb 13) [43,44,45,46,47,48,42,49,50,51,10,11,12] [] (λ _ _ _=>True) ?_ (e4 ?_ ?_ ?_ ?_ (e4 ?_ ?_ ?_ ?_ (e4 ?_ ?_ ?_ ?_ (en rfl ?_ .nil)))) ?_
  ·exact λ _ _=>trivial
  ·intro I D F H _ _ C;simp [go_sem,H.f.g rfl s5,(b4.k0 H.k).cell];exact (C _ _ H.k rfl trivial)
  ·intro I D F H _ _ C;simp [go_sem,H.f.g rfl s4];exact (C _ _ H.k rfl trivial)
  ·intro I D F H _ _ C;simp [go_sem,(gS D 44 (H.d 1 rfl rfl)),(b3.k0 H.k).cell];exact (C _ _ H.k rfl trivial)
  ·intro I D F H _ _ C;simp [go_sem,H.f.g rfl s4];exact (C _ _ H.k rfl trivial)
  ·intro I D F H _ _ C;simp [go_sem,(gS D 46 (H.d 3 rfl rfl)),(b3.k0 H.k).cell];exact (C _ _ H.k rfl trivial)
  ·intro I D F H _ _ C;simp [go_sem,(gS D 43 (H.d 0 rfl rfl)),(gS D 45 (H.d 2 rfl rfl)),(gS D 47 (H.d 4 rfl rfl))];have hBi:=H.k.below0 T;refine (iMapped_c r s ra F hr K.sok K.sd (hsl.below hBi)).mono ?_;rintro x wx ⟨rfl,hb⟩;exact (C _ _ (H.k.call hb) rfl trivial)
  ·exact YA 5 rfl rfl rfl rfl
  ·exact oEDT 6 rfl rfl rfl rfl rfl
  ·exact oEDT 6 rfl rfl rfl rfl rfl
  ·exact oEDT 6 rfl rfl rfl rfl rfl
  ·exact ZT 7 rfl rfl rfl rfl
  ·exact ZT 8 rfl rfl rfl rfl
  ·exact ZT 9 rfl rfl rfl rfl
  intro L a13 w14 X O P S U;replace V:=O.Z V;replace R:=O.E R;replace s4:=O.G s4;replace s6:=O.G s6;replace s7:=O.G s7;replace s8:=O.G s8;have s10:=gS a13 10 (S 10 _ rfl);have s11:=gS a13 11 (S 11 _ rfl);have s12:=gS a13 12 (S 12 _ rfl);replace b3:=b3.k0 P;replace b5:=b5.k0 P;replace b6:=b6.k0 P;replace b7:=b7.k0 P;replace W:=Nat.le_trans W P.size;replace T:=P.below0 T;clear O P S X U s5 s40 b4;refine Xk (wp_seq ?_);have J:XF [10] (λ L aa F=>(L 12=false->aa.tmps[10]?.getD undef=.int .i64 (Ju r s))):=by
   intro L aa F w' kk vv hkk hb U;have x0:=U;exact (λ h=>(Xa (hkk 10 (by simp)) vv).trans (x0 h))
  refine Xt J [52,53,54,55,56,57,58,59,60,61,62,63,10] [some (.int .i64 (Ju r s)),some (.pointer (some ⟨(w.heap.size+2),1,none⟩)),some (.int .i64 u.d),some (.int .i64 ((Ju r s)*u.d)),some (.pointer (some ⟨w.heap.size,2,none⟩)),some (.int .i64 r.bx),some (.pointer (some ⟨(w.heap.size+2),0,none⟩)),some (.int .i64 u.n),some (.int .i64 (r.bx*u.n)),some (.int .i64 (Ys r s)),some (.int .i64 ((r.bx*u.n)*(Ys r s))),some (.int .i64 (((Ju r s)*u.d)+((r.bx*u.n)*(Ys r s)))),some (.int .i64 (((Ju r s)*u.d)+((r.bx*u.n)*(Ys r s))))] (Yb 13) [52,53,54,55,56,57,58,59,60,61,62,63,10] [] ?_ (e4 ?_ ?_ ?_ ?_ (e4 ?_ ?_ ?_ ?_ (e4 ?_ ?_ ?_ ?_ (en rfl ?_ .nil)))) ?_
  ·exact λ _ h=>(λ _=>s10)
  ·intro I D F H _ _ C;have x0:=H.x;exact Xy rfl (ev (x0 (H.t 12 rfl))) (C _ _ H.k rfl (J I D F _ (some 52) _ (by simp) bR H.x))
  ·intro I D F H _ _ C;simp [go_sem,H.f.g rfl s6];exact (C _ _ H.k rfl (J I D F _ (some 53) _ (by simp) bR H.x))
  ·intro I D F H _ _ C;simp [go_sem,(gS D 53 (H.d 1 rfl rfl)),(b5.k0 H.k).cell];exact (C _ _ H.k rfl (J I D F _ (some 54) _ (by simp) bR H.x))
  ·exact λ I D F H _ _ C=>Y0 rfl (ev (H.d 0 rfl rfl)) (ev (H.d 2 rfl rfl)) (by omega) (C _ _ H.k rfl (J I D F _ (some 55) _ (by simp) bR H.x))
  ·intro I D F H _ _ C;simp [go_sem,H.f.g rfl s4];exact (C _ _ H.k rfl (J I D F _ (some 56) _ (by simp) bR H.x))
  ·intro I D F H _ _ C;simp [go_sem,(gS D 56 (H.d 4 rfl rfl)),(b3.k0 H.k).cell];exact (C _ _ H.k rfl (J I D F _ (some 57) _ (by simp) bR H.x))
  ·intro I D F H _ _ C;simp [go_sem,H.f.g rfl s6];exact (C _ _ H.k rfl (J I D F _ (some 58) _ (by simp) bR H.x))
  ·intro I D F H _ _ C;simp [go_sem,(gS D 58 (H.d 6 rfl rfl)),(b5.k0 H.k).cell];exact (C _ _ H.k rfl (J I D F _ (some 59) _ (by simp) bR H.x))
  ·exact λ I D F H _ _ C=>Y0 rfl (ev (H.d 5 rfl rfl)) (ev (H.d 7 rfl rfl)) (by omega) (C _ _ H.k rfl (J I D F _ (some 60) _ (by simp) bR H.x))
  ·exact λ I D F H _ _ C=>Xy rfl (ev (H.f.g rfl s12)) (C _ _ H.k rfl (J I D F _ (some 61) _ (by simp) bR H.x))
  ·exact λ I D F H _ _ C=>Y0 rfl (ev (H.d 8 rfl rfl)) (ev (H.d 9 rfl rfl)) (by omega) (C _ _ H.k rfl (J I D F _ (some 62) _ (by simp) bR H.x))
  ·exact λ I D F H _ _ C=>Zc rfl (ev (H.d 3 rfl rfl)) (ev (H.d 10 rfl rfl)) (by omega) (C _ _ H.k rfl (J I D F _ (some 63) _ (by simp) bR H.x))
  ·intro I D F H _ _ C;have x0:=H.x;exact ZF rfl (ev (H.d 11 rfl rfl)) (C _ _ H.k rfl (λ h=>by simp [Yh] at h))
  intro L a15 w16 X O P S U;have x0:=U;replace V:=O.Z V;replace R:=O.E R;replace s4:=O.G s4;replace s6:=O.G s6;replace s7:=O.G s7;replace s8:=O.G s8;replace s11:=O.G s11;replace s12:=O.G s12;have s10:=gS a15 10 (S 12 _ rfl);replace b3:=b3.k0 P;replace b5:=b5.k0 P;replace b6:=b6.k0 P;replace b7:=b7.k0 P;replace W:=Nat.le_trans W P.size;replace T:=P.below0 T;clear O P S X x0 J;refine Xk (wp_seq ?_);have J:XF [11] (λ L aa F=>(L 12=false->aa.tmps[11]?.getD undef=.int .i64 (JA r s))):=by
   intro L aa F w' kk vv hkk hb U;have x0:=U;exact (λ h=>(Xa (hkk 11 (by simp)) vv).trans (x0 h))
  refine Xt J [64,65,66,67,68,69,70,71,72,73,74,75,11] [some (.int .i64 (JA r s)),some (.pointer (some ⟨(w.heap.size+2),1,none⟩)),some (.int .i64 u.d),some (.int .i64 ((JA r s)*u.d)),some (.pointer (some ⟨w.heap.size,3,none⟩)),some (.int .i64 r.by_),some (.pointer (some ⟨(w.heap.size+2),0,none⟩)),some (.int .i64 u.n),some (.int .i64 (r.by_*u.n)),some (.int .i64 (Ys r s)),some (.int .i64 ((r.by_*u.n)*(Ys r s))),some (.int .i64 (((JA r s)*u.d)+((r.by_*u.n)*(Ys r s)))),some (.int .i64 (((JA r s)*u.d)+((r.by_*u.n)*(Ys r s))))] (Yb 13) [64,65,66,67,68,69,70,71,72,73,74,75,11] [] ?_ (e4 ?_ ?_ ?_ ?_ (e4 ?_ ?_ ?_ ?_ (e4 ?_ ?_ ?_ ?_ (en rfl ?_ .nil)))) ?_
  ·exact λ _ h=>(λ _=>s11)
  ·intro I D F H _ _ C;have x0:=H.x;exact Xy rfl (ev (x0 (H.t 12 rfl))) (C _ _ H.k rfl (J I D F _ (some 64) _ (by simp) bR H.x))
  ·intro I D F H _ _ C;simp [go_sem,H.f.g rfl s6];exact (C _ _ H.k rfl (J I D F _ (some 65) _ (by simp) bR H.x))
  ·intro I D F H _ _ C;simp [go_sem,(gS D 65 (H.d 1 rfl rfl)),(b5.k0 H.k).cell];exact (C _ _ H.k rfl (J I D F _ (some 66) _ (by simp) bR H.x))
  ·exact λ I D F H _ _ C=>Y0 rfl (ev (H.d 0 rfl rfl)) (ev (H.d 2 rfl rfl)) (by omega) (C _ _ H.k rfl (J I D F _ (some 67) _ (by simp) bR H.x))
  ·intro I D F H _ _ C;simp [go_sem,H.f.g rfl s4];exact (C _ _ H.k rfl (J I D F _ (some 68) _ (by simp) bR H.x))
  ·intro I D F H _ _ C;simp [go_sem,(gS D 68 (H.d 4 rfl rfl)),(b3.k0 H.k).cell];exact (C _ _ H.k rfl (J I D F _ (some 69) _ (by simp) bR H.x))
  ·intro I D F H _ _ C;simp [go_sem,H.f.g rfl s6];exact (C _ _ H.k rfl (J I D F _ (some 70) _ (by simp) bR H.x))
  ·intro I D F H _ _ C;simp [go_sem,(gS D 70 (H.d 6 rfl rfl)),(b5.k0 H.k).cell];exact (C _ _ H.k rfl (J I D F _ (some 71) _ (by simp) bR H.x))
  ·exact λ I D F H _ _ C=>Y0 rfl (ev (H.d 5 rfl rfl)) (ev (H.d 7 rfl rfl)) (by omega) (C _ _ H.k rfl (J I D F _ (some 72) _ (by simp) bR H.x))
  ·exact λ I D F H _ _ C=>Xy rfl (ev (H.f.g rfl s12)) (C _ _ H.k rfl (J I D F _ (some 73) _ (by simp) bR H.x))
  ·exact λ I D F H _ _ C=>Y0 rfl (ev (H.d 8 rfl rfl)) (ev (H.d 9 rfl rfl)) (by omega) (C _ _ H.k rfl (J I D F _ (some 74) _ (by simp) bR H.x))
  ·exact λ I D F H _ _ C=>Zc rfl (ev (H.d 3 rfl rfl)) (ev (H.d 10 rfl rfl)) (by omega) (C _ _ H.k rfl (J I D F _ (some 75) _ (by simp) bR H.x))
  ·intro I D F H _ _ C;have x0:=H.x;exact ZF rfl (ev (H.d 11 rfl rfl)) (C _ _ H.k rfl (λ h=>by simp [Yh] at h))
  intro L a17 w18 X O P S U;have x0:=U;replace V:=O.Z V;replace R:=O.E R;replace s6:=O.G s6;replace s7:=O.G s7;replace s8:=O.G s8;replace s12:=O.G s12;replace s10:=O.G s10;have s11:=gS a17 11 (S 12 _ rfl);replace b5:=b5.k0 P;replace b6:=b6.k0 P;replace b7:=b7.k0 P;replace W:=Nat.le_trans W P.size;replace T:=P.below0 T;clear O P S X x0 J s4 b3;refine Xk (wp_seq ?_);have J:XF [12] (λ L aa F=>(L 4=false->aa.tmps[12]?.getD undef=.int .i64 (Ys r s))):=by
   intro L aa F w' kk vv hkk hb U;have x0:=U;exact (λ h=>(Xa (hkk 12 (by simp)) vv).trans (x0 h))
  refine Xt J [76,77,78,79,12] [some (.int .i64 (Ys r s)),some (.pointer (some ⟨(w.heap.size+2),1,none⟩)),some (.int .i64 u.d),some (.int .i64 ((Ys r s)*u.d)),some (.int .i64 ((Ys r s)*u.d))] (Yb 5) [76,77,78,79,12] [] ?_ (e4 ?_ ?_ ?_ ?_ (en rfl ?_ .nil)) ?_
  ·exact λ _ h=>(λ _=>s12)
  ·intro I D F H _ _ C;have x0:=H.x;exact Xy rfl (ev (x0 (H.t 4 rfl))) (C _ _ H.k rfl (J I D F _ (some 76) _ (by simp) bR H.x))
  ·intro I D F H _ _ C;simp [go_sem,H.f.g rfl s6];exact (C _ _ H.k rfl (J I D F _ (some 77) _ (by simp) bR H.x))
  ·intro I D F H _ _ C;simp [go_sem,(gS D 77 (H.d 1 rfl rfl)),(b5.k0 H.k).cell];exact (C _ _ H.k rfl (J I D F _ (some 78) _ (by simp) bR H.x))
  ·exact λ I D F H _ _ C=>Y0 rfl (ev (H.d 0 rfl rfl)) (ev (H.d 2 rfl rfl)) (by omega) (C _ _ H.k rfl (J I D F _ (some 79) _ (by simp) bR H.x))
  ·intro I D F H _ _ C;have x0:=H.x;exact ZF rfl (ev (H.d 3 rfl rfl)) (C _ _ H.k rfl (λ h=>by simp [Yh] at h))
  intro L a19 w20 X O P S U;have x0:=U;replace V:=O.Z V;replace R:=O.E R;replace s7:=O.G s7;replace s8:=O.G s8;replace s10:=O.G s10;replace s11:=O.G s11;have s12:=gS a19 12 (S 4 _ rfl);replace b6:=b6.k0 P;replace b7:=b7.k0 P;replace W:=Nat.le_trans W P.size;replace T:=P.below0 T;clear O P S X x0 J s6 b5;refine Xk (wp_seq ?_);have J:XF [] (λ L aa F=>Yc F (w.heap.size+4) 30 [.int .i64 0,.int .i64 0,.int .i64 0] (L 25) (λ _ vs=>vs=[.int .i64 (((nxtS r s u v).getD Kj).x),.int .i64 (((nxtS r s u v).getD Kj).y),.int .i64 (((nxtS r s u v).getD Kj).d)])):=by
   intro L aa F w' kk vv hkk hb U;have x0:=U;exact (x0.bel hb (λ _ h=>h))
  refine Xt J [80,81,82,83,84,85,86,87,88,89,90,91,92,93,94,95,96,97,98,99,100,101,102,103,104,0,9] [some (.int .i64 (((Ju r s)*u.d)+((r.bx*u.n)*(Ys r s)))),some (.pointer (some ⟨(w.heap.size+3),2,none⟩)),some (.int .i64 v.d),some (.int .i64 ((((Ju r s)*u.d)+((r.bx*u.n)*(Ys r s)))*v.d)),some (.pointer (some ⟨(w.heap.size+3),0,none⟩)),some (.int .i64 v.x),some (.int .i64 ((Ys r s)*u.d)),some (.int .i64 (v.x*((Ys r s)*u.d))),some (.int .i64 (((((Ju r s)*u.d)+((r.bx*u.n)*(Ys r s)))*v.d)+(v.x*((Ys r s)*u.d)))),some (.int .i64 (((JA r s)*u.d)+((r.by_*u.n)*(Ys r s)))),some (.pointer (some ⟨(w.heap.size+3),2,none⟩)),some (.int .i64 v.d),some (.int .i64 ((((JA r s)*u.d)+((r.by_*u.n)*(Ys r s)))*v.d)),some (.pointer (some ⟨(w.heap.size+3),1,none⟩)),some (.int .i64 v.y),some (.int .i64 ((Ys r s)*u.d)),some (.int .i64 (v.y*((Ys r s)*u.d))),some (.int .i64 (((((JA r s)*u.d)+((r.by_*u.n)*(Ys r s)))*v.d)+(v.y*((Ys r s)*u.d)))),some (.int .i64 ((Ys r s)*u.d)),some (.pointer (some ⟨(w.heap.size+3),2,none⟩)),some (.int .i64 v.d),some (.int .i64 (((Ys r s)*u.d)*v.d)),some (.tuple #[YQ ((nxtS r s u v).getD Kj),.bool ((nxtS r s u v).isSome)]),some (YQ ((nxtS r s u v).getD Kj)),some (.bool ((nxtS r s u v).isSome)),none,some (.bool ((nxtS r s u v).isSome))] (Yb 27) [80,81,82,83,84,85,86,87,88,89,90,91,92,93,94,95,96,97,98,99,100,101,102,103,104,9] [(w.heap.size+4)] ?_ (e4 ?_ ?_ ?_ ?_ (e4 ?_ ?_ ?_ ?_ (e4 ?_ ?_ ?_ ?_ (e4 ?_ ?_ ?_ ?_ (e4 ?_ ?_ ?_ ?_ (e4 ?_ ?_ ?_ ?_ (e2 ?_ ?_ (en rfl ?_ .nil)))))))) ?_
  ·exact λ _ h=>(⟨λ _=>b7.kp h (by simp),(λ h=>by cases h)⟩)
  ·exact Yn s10 rfl rfl rfl λ _ _ _ _ h=>h
  ·intro I D F H _ _ C;simp [go_sem,H.f.g rfl s7];exact (C _ _ H.k rfl H.x)
  ·intro I D F H _ _ C;simp [go_sem,(gS D 81 (H.d 1 rfl rfl)),(b6.kp H.k (by simp<;>omega)).cell];exact (C _ _ H.k rfl H.x)
  ·exact λ I D F H _ _ C=>Y0 rfl (ev (H.d 0 rfl rfl)) (ev (H.d 2 rfl rfl)) (by omega) (C _ _ H.k rfl H.x)
  ·intro I D F H _ _ C;simp [go_sem,H.f.g rfl s7];exact (C _ _ H.k rfl H.x)
  ·intro I D F H _ _ C;simp [go_sem,(gS D 84 (H.d 4 rfl rfl)),(b6.kp H.k (by simp<;>omega)).cell];exact (C _ _ H.k rfl H.x)
  ·exact Yn s12 rfl rfl rfl λ _ _ _ _ h=>h
  ·exact λ I D F H _ _ C=>Y0 rfl (ev (H.d 5 rfl rfl)) (ev (H.d 6 rfl rfl)) (by omega) (C _ _ H.k rfl H.x)
  ·exact λ I D F H _ _ C=>Zc rfl (ev (H.d 3 rfl rfl)) (ev (H.d 7 rfl rfl)) (by omega) (C _ _ H.k rfl H.x)
  ·exact Yn s11 rfl rfl rfl λ _ _ _ _ h=>h
  ·intro I D F H _ _ C;simp [go_sem,H.f.g rfl s7];exact (C _ _ H.k rfl H.x)
  ·intro I D F H _ _ C;simp [go_sem,(gS D 90 (H.d 10 rfl rfl)),(b6.kp H.k (by simp<;>omega)).cell];exact (C _ _ H.k rfl H.x)
  ·exact λ I D F H _ _ C=>Y0 rfl (ev (H.d 9 rfl rfl)) (ev (H.d 11 rfl rfl)) (by omega) (C _ _ H.k rfl H.x)
  ·intro I D F H _ _ C;simp [go_sem,H.f.g rfl s7];exact (C _ _ H.k rfl H.x)
  ·intro I D F H _ _ C;simp [go_sem,(gS D 93 (H.d 13 rfl rfl)),(b6.kp H.k (by simp<;>omega)).cell];exact (C _ _ H.k rfl H.x)
  ·exact Yn s12 rfl rfl rfl λ _ _ _ _ h=>h
  ·exact λ I D F H _ _ C=>Y0 rfl (ev (H.d 14 rfl rfl)) (ev (H.d 15 rfl rfl)) (by omega) (C _ _ H.k rfl H.x)
  ·exact λ I D F H _ _ C=>Zc rfl (ev (H.d 12 rfl rfl)) (ev (H.d 16 rfl rfl)) (by omega) (C _ _ H.k rfl H.x)
  ·exact Yn s12 rfl rfl rfl λ _ _ _ _ h=>h
  ·intro I D F H _ _ C;simp [go_sem,H.f.g rfl s7];exact (C _ _ H.k rfl H.x)
  ·intro I D F H _ _ C;simp [go_sem,(gS D 99 (H.d 19 rfl rfl)),(b6.kp H.k (by simp<;>omega)).cell];exact (C _ _ H.k rfl H.x)
  ·exact λ I D F H _ _ C=>Y0 rfl (ev (H.d 18 rfl rfl)) (ev (H.d 20 rfl rfl)) (by omega) (C _ _ H.k rfl H.x)
  ·intro I D F H _ _ C;simp [go_sem,(gS D 88 (H.d 8 rfl rfl)),(gS D 97 (H.d 17 rfl rfl)),(gS D 101 (H.d 21 rfl rfl))];refine (show Calls Tryz.prog 139 #[.int .i64 (nxtX r s u v),.int .i64 (nxtY r s u v),.int .i64 (nxtD r s u v)] F (λ e w'=>e=.returned (optSpotV (nxtS r s u v))/\Below F.heap.size F w') from iSpotOf_c _ _ _ F (by unfold nxtX;exact ⟨by omega,by omega⟩) (by unfold nxtY;exact ⟨by omega,by omega⟩) (by unfold nxtD;exact ⟨by omega,by omega⟩)).mono ?_;rintro x wx ⟨rfl,hb⟩;exact (C _ _ (H.k.call hb) (optSpot_eq _) (J I D F _ none undef (by simp) hb H.x))
  ·exact Je 22 rfl rfl rfl rfl rfl λ _ _ _ _ h=>h
  ·exact Je 22 rfl rfl rfl rfl rfl λ _ _ _ _ h=>h
  ·intro I D F H _ _ C;have x0:=H.x;have Y:=x0.1 H.n;simp [go_sem,(gS D 103 (H.d 23 rfl rfl)),H.f.g rfl s8,Y.cell,Y.frz];exact C undef _ (H.k.store (.inr (by simp)) [.int .i64 (((nxtS r s u v).getD Kj).x),.int .i64 (((nxtS r s u v).getD Kj).y),.int .i64 (((nxtS r s u v).getD Kj).d)] 0) trivial (Yc.set Y (us:=[.int .i64 (((nxtS r s u v).getD Kj).x),.int .i64 (((nxtS r s u v).getD Kj).y),.int .i64 (((nxtS r s u v).getD Kj).d)]) rfl rfl)
  ·exact Kz 24 rfl rfl rfl rfl λ _ _ _ _ h=>h
  intro L a21 w22 X O P S U;have x0:=U;replace V:=O.Z V;replace R:=O.E R;replace s8:=O.G s8;have s9:=gS a21 9 (S 26 _ rfl);clear b7;obtain ⟨_,b7,rfl⟩:=x0.2 (X 25 (by decide));replace W:=Nat.le_trans W P.size;replace T:=P.below T T.size (by simp<;>omega);clear O P S X x0 J s7 s10 s11 s12 b6;refine Xk (wp_ret ?_);refine bodyPost_ret (v:=.tuple #[YQ ((nxtS r s u v).getD Kj),.bool ((nxtS r s u v).isSome)]) (by simp [results,Tryz.results124,go_sem,s8,b7.cell,s9]) R ?_;exact ⟨by rw [nxt_yes hbad,optSpot_eq],T⟩
end Go.Proofs.YtabfdkpdppemaaaGreat
