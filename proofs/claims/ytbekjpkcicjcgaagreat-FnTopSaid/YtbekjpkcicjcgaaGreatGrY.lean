/-
 The next spot of a room and the step of the loop: of the program and of the reference.
 Conditions: the slices hold at most 2^20 elements.
-/
import Derived.Test.YtbekjpkcicjcgaaGreatNextM
set_option maxHeartbeats 3000000
set_option maxRecDepth 100000
namespace Go.Proofs.YtbekjpkcicjcgaaGreat
open Go.RowKit
theorem iMapped_c (r:XD) (s:XH) (ra:Y7) (w:World) (hr:XJ r=true) (hs:Xo s=true) (hd:s.d<=100000) (hsl:ZX w r ra) :
 Calls Tryz.prog 103 #[Yu s,Sv ra.map.A r.map.length ra.map.c,Vi r.div] w λ x w'=>x=.returned (.tuple #[Vi (KM r s),Vi (KT r s),Vi (Ya r s)])/\Below w.heap.size w w':=by
 have B:=JX hr;have M:=mapB B hs hd;exact mapped_c r.map r.div ra.map.A ra.map.c s w B.len M.x0 M.x1 M.y0 M.y1 M.d hsl.map
theorem rok_bd2 {r:XW} (h:Xh r=true):(-1000000000000000000<=r.n/\r.n<=1000000000000000000)/\1<=r.d/\r.d<=1000000000000000:=by
 obtain ⟨⟨a,b⟩,⟨c,d⟩,_⟩:=Km.1 h;exact ⟨⟨Oz,Oz⟩,Oz,Oz⟩
theorem isDriven_c (u:XW) (w:World) (hu:u.In) :
 Calls Tryz.prog 111 #[X0 u] w λ x w'=>x=.returned (Bv (drivenOk u))/\Below w.heap.size w w':=by
 refine Yz Tryz.func111 rfl (n:=16) Tryz.ntmps111 Sz ?_;intro a0 V R ha;have s0:a0.tmps[0]?.getD undef=X0 u:=ha 0 _ rfl;clear ha;have T:=Below.refl w.heap.size w;have W:=Nat.le_refl w.heap.size;refine wp_seq ?_;refine Yk [1,2] [Pz w.heap.size,Bf] [some (.cells [Vi u.n,Vi u.d].toArray 46),none] [0,1] [1,2] [0,1] (by kernel_rfl) (by rw [V];decide) (ec ?_ (ec ?_ .nil)) ?_
 ·intro a w' O hs N Q C;simp [go_sem,O.g rfl s0];rw [hs];exact C
 ·intro a w' O hs N Q C;simp [go_sem];exact C
 intro a1 w2 O S hb hO;replace V:=O.size.trans V;replace R:=O.defers.trans R;have s1:a1.tmps[1]?.getD undef=Pz w.heap.size:=S 0 Dz;have b3:Xq w2 w.heap.size 46 [Vi u.n,Vi u.d]:=hO 0 _ rfl;have hG:=b3.lt;replace T:=Xf T hb;have zw2:=Nat.le_trans W hb.size;replace W:=Nat.le_refl w2.heap.size;clear O S hb hO s0;refine Xi (wp_seq ?_);refine Xl [3,4,5,6,7,8,9,10,11,12,13,14,15,2] [some (X0 u),some (Bv (Xh u)),some (Bv (Xh u)),some ((bif Xh u then (Pz w.heap.size:Value) else undef)),some ((bif Xh u then (Vi u.n:Value) else undef)),some ((bif Xh u then (.pointer (some ⟨w.heap.size,1,none⟩):Value) else undef)),some ((bif Xh u then (Vi u.d:Value) else undef)),some ((bif Xh u then (Vi ((-1000)*u.d):Value) else undef)),some ((bif Xh u then (.pointer (some ⟨w.heap.size,1,none⟩):Value) else undef)),some ((bif Xh u then (Vi u.d:Value) else undef)),some ((bif Xh u then (Vi (1000*u.d):Value) else undef)),some ((bif Xh u then (Bv (ZT u.n ((-1000)*u.d) (1000*u.d)):Value) else undef)),some (Bv (Xh u&&ZT u.n ((-1000)*u.d) (1000*u.d))),some (Bv (Xh u&&ZT u.n ((-1000)*u.d) (1000*u.d)))] (X9 14) [3,4,5,6,7,8,9,10,11,12,13,14,15,2] [] (λ _ _ _=>True) ?_ (e2 ?_ ?_ (en rfl ?_ (eg ?_ (eg ?_ (eg ?_ (eg ?_ (eg ?_ (eg ?_ (eg ?_ (eg ?_ (eg ?_ (e2 ?_ ?_ .nil)))))))))))) ?_
 ·exact λ _ _=>trivial
 ·intro I D F H _ _ C;simp [go_sem,H.f.g rfl s1,(b3.k0 H.k).cell];exact (C _ _ H.k rfl trivial)
 ·intro I D F H _ _ C;simp [go_sem,(gS D 3 (H.d 0 rfl rfl))];refine (ZV u F hu).mono ?_;rintro x wx ⟨rfl,hb⟩;exact (C _ _ (H.k.call hb) rfl trivial)
 ·exact KC 1 rfl rfl rfl rfl
 ·intro I D F H _ _ C;refine wgt rfl rfl rfl (H.d 2 rfl rfl) (λ qg=>C _ _ H.k (XC qg).symm trivial) λ qg=>?_;simp [go_sem,H.f.g rfl s1];exact (C _ _ H.k (Xz qg).symm trivial)
 ·intro I D F H _ _ C;refine wgt rfl rfl rfl (H.d 2 rfl rfl) (λ qg=>C _ _ H.k (XC qg).symm trivial) λ qg=>?_;simp [go_sem,(show D.tmps[6]?.getD undef=_ from (H.d 3 rfl rfl).trans (Xz qg)),(b3.k0 H.k).cell];exact (C _ _ H.k (Xz qg).symm trivial)
 ·intro I D F H _ _ C;refine wgt rfl rfl rfl (H.d 2 rfl rfl) (λ qg=>C _ _ H.k (XC qg).symm trivial) λ qg=>?_;simp [go_sem,H.f.g rfl s1];exact (C _ _ H.k (Xz qg).symm trivial)
 ·intro I D F H _ _ C;refine wgt rfl rfl rfl (H.d 2 rfl rfl) (λ qg=>C _ _ H.k (XC qg).symm trivial) λ qg=>?_;simp [go_sem,(show D.tmps[8]?.getD undef=_ from (H.d 5 rfl rfl).trans (Xz qg)),(b3.k0 H.k).cell];exact (C _ _ H.k (Xz qg).symm trivial)
 ·intro I D F H _ _ C;refine wgt rfl rfl rfl (H.d 2 rfl rfl) (λ qg=>C _ _ H.k (XC qg).symm trivial) λ qg=>?_;exact Zo rfl rfl (ev ((H.d 6 rfl rfl).trans (Xz qg))) (by have k:=rok_bd2 qg;omega) (C _ _ H.k (Xz qg).symm trivial)
 ·intro I D F H _ _ C;refine wgt rfl rfl rfl (H.d 2 rfl rfl) (λ qg=>C _ _ H.k (XC qg).symm trivial) λ qg=>?_;simp [go_sem,H.f.g rfl s1];exact (C _ _ H.k (Xz qg).symm trivial)
 ·intro I D F H _ _ C;refine wgt rfl rfl rfl (H.d 2 rfl rfl) (λ qg=>C _ _ H.k (XC qg).symm trivial) λ qg=>?_;simp [go_sem,(show D.tmps[11]?.getD undef=_ from (H.d 8 rfl rfl).trans (Xz qg)),(b3.k0 H.k).cell];exact (C _ _ H.k (Xz qg).symm trivial)
 ·intro I D F H _ _ C;refine wgt rfl rfl rfl (H.d 2 rfl rfl) (λ qg=>C _ _ H.k (XC qg).symm trivial) λ qg=>?_;exact Zo rfl rfl (ev ((H.d 9 rfl rfl).trans (Xz qg))) (by have k:=rok_bd2 qg;omega) (C _ _ H.k (Xz qg).symm trivial)
 ·intro I D F H _ _ C;refine wgt rfl rfl rfl (H.d 2 rfl rfl) (λ qg=>C _ _ H.k (XC qg).symm trivial) λ qg=>?_;simp [go_sem,(show D.tmps[7]?.getD undef=_ from (H.d 4 rfl rfl).trans (Xz qg)),(show D.tmps[10]?.getD undef=_ from (H.d 7 rfl rfl).trans (Xz qg)),(show D.tmps[13]?.getD undef=_ from (H.d 10 rfl rfl).trans (Xz qg))];refine (Yb u.n ((-1000)*u.d) (1000*u.d) F).mono ?_;rintro x wx ⟨rfl,rfl⟩;exact (C _ _ H.k (Xz qg).symm trivial)
 ·exact λ I D F H _ _ C=>Za rfl (ev (H.d 2 rfl rfl)) (λ h=>(ev ((H.d 11 rfl rfl).trans (Xz h))).trans (J9 h)) (λ h=>vand_f h) (C _ _ H.k rfl trivial)
 ·exact Jm 12 rfl rfl rfl rfl
 intro L a4 w5 X O P S U;replace V:=O.Z V;replace R:=O.E R;have s2:=gS a4 2 (S 13 _ rfl);replace W:=Nat.le_trans W P.size;replace T:=P.below0 T;clear O P S X U s1 b3;refine Xi (wp_ret ?_);refine bodyPost_ret (v:=Bv (Xh u&&ZT u.n ((-1000)*u.d) (1000*u.d))) (by simp [results,Tryz.results111,go_sem,s2]) R ?_;exact ⟨rfl,T⟩
theorem iNext_c (r:XD) (s:XH) (u:XW) (v:XH) (ra:Y7) (w:World) (hr:XJ r=true) (hsl:ZX w r ra) (hsi:s.In) (hui:u.In) (hvi:v.In) :
 Calls Tryz.prog 56 #[X7 r ra,Yu s,X0 u,Yu v] w λ x w'=>x=.returned (optSpotV (ZO r s u v))/\Below w.heap.size w w':=by
 refine Yz Tryz.func56 rfl (n:=105) Tryz.ntmps56 Sz ?_;intro a0 V R ha;have s0:a0.tmps[0]?.getD undef=X7 r ra:=ha 0 _ rfl;have s1:a0.tmps[1]?.getD undef=Yu s:=ha 1 _ rfl;have s2:a0.tmps[2]?.getD undef=X0 u:=ha 2 _ rfl;have s3:a0.tmps[3]?.getD undef=Yu v:=ha 3 _ rfl;clear ha;have T:=Below.refl w.heap.size w;have W:=Nat.le_refl w.heap.size;refine wp_seq ?_;refine Yk [4,5,6,7,8,9] [Pz w.heap.size,Pz (w.heap.size+1),Pz (w.heap.size+2),Pz (w.heap.size+3),Pz (w.heap.size+4),Bf] [some (.cells (YR r ra).toArray 28),some (.cells [Vi s.x,Vi s.y,Vi s.d].toArray 30),some (.cells [Vi u.n,Vi u.d].toArray 46),some (.cells [Vi v.x,Vi v.y,Vi v.d].toArray 30),some (.cells [V0,V0,V0].toArray 30),none] [0,1,2,3,4,5] [4,5,6,7,8,9] [0,1,2,3,4,5] (by kernel_rfl) (by rw [V];decide) (ec ?_ (ec ?_ (ec ?_ (ec ?_ (ec ?_ (ec ?_ .nil)))))) ?_
 ·intro a w' O hs N Q C;simp [go_sem,O.g rfl s0];rw [hs];exact C
 ·intro a w' O hs N Q C;simp [go_sem,O.g rfl s1];rw [hs];exact C
 ·intro a w' O hs N Q C;simp [go_sem,O.g rfl s2];rw [hs];exact C
 ·intro a w' O hs N Q C;simp [go_sem,O.g rfl s3];rw [hs];exact C
 ·intro a w' O hs N Q C;simp [go_sem];rw [hs];exact C
 ·intro a w' O hs N Q C;simp [go_sem];exact C
 intro a1 w2 O S hb hO;replace V:=O.size.trans V;replace R:=O.defers.trans R;have s4:a1.tmps[4]?.getD undef=Pz w.heap.size:=S 0 Dz;have s5:a1.tmps[5]?.getD undef=Pz (w.heap.size+1):=S 1 Dz;have s6:a1.tmps[6]?.getD undef=Pz (w.heap.size+2):=S 2 Dz;have s7:a1.tmps[7]?.getD undef=Pz (w.heap.size+3):=S 3 Dz;have s8:a1.tmps[8]?.getD undef=Pz (w.heap.size+4):=S 4 Dz;have b3:Xq w2 w.heap.size 28 (YR r ra):=hO 0 _ rfl;have b4:Xq w2 (w.heap.size+1) 30 [Vi s.x,Vi s.y,Vi s.d]:=hO 1 _ rfl;have b5:Xq w2 (w.heap.size+2) 46 [Vi u.n,Vi u.d]:=hO 2 _ rfl;have b6:Xq w2 (w.heap.size+3) 30 [Vi v.x,Vi v.y,Vi v.d]:=hO 3 _ rfl;have b7:Xq w2 (w.heap.size+4) 30 [V0,V0,V0]:=hO 4 _ rfl;have hG:=b7.lt;replace T:=Xf T hb;have zw2:=Nat.le_trans W hb.size;replace W:=Nat.le_refl w2.heap.size;clear O S hb hO s0 s1 s2 s3;refine Xi (wp_seq (wp_seq ?_));refine Xl [13,14,15,16,17,18,19,20,21,22,23,24,25,26,27,28,29,30,31,32,33,34,35,36,37,38,39,40] [some (Yu s),some (Bv (Xo s)),some (Bv (!(Xo s))),some (Bv (!(Xo s))),some ((bif !(Xo s) then undef else (Yu v:Value))),some ((bif !(Xo s) then undef else (Bv (Xo v):Value))),some ((bif !(Xo s) then undef else (Bv (!(Xo v)):Value))),some (Bv (!(Xo s) || !(Xo v))),some (Bv (!(Xo s) || !(Xo v))),some ((bif (!(Xo s) || !(Xo v)) then undef else (.pointer (some ⟨(w.heap.size+1),2,none⟩):Value))),some ((bif (!(Xo s) || !(Xo v)) then undef else (Vi s.d:Value))),some ((bif (!(Xo s) || !(Xo v)) then undef else (Bv (decide (s.d > 100000)):Value))),some (Bv ((!(Xo s) || !(Xo v))||decide (s.d > 100000))),some (Bv ((!(Xo s) || !(Xo v))||decide (s.d > 100000))),some ((bif ((!(Xo s) || !(Xo v))||decide (s.d > 100000)) then undef else (.pointer (some ⟨(w.heap.size+3),2,none⟩):Value))),some ((bif ((!(Xo s) || !(Xo v))||decide (s.d > 100000)) then undef else (Vi v.d:Value))),some ((bif ((!(Xo s) || !(Xo v))||decide (s.d > 100000)) then undef else (Bv (decide (v.d > 1000)):Value))),some (Bv (((!(Xo s) || !(Xo v))||decide (s.d > 100000))||decide (v.d > 1000))),some (Bv (((!(Xo s) || !(Xo v))||decide (s.d > 100000))||decide (v.d > 1000))),some ((bif (((!(Xo s) || !(Xo v))||decide (s.d > 100000))||decide (v.d > 1000)) then undef else (.pointer (some ⟨(w.heap.size+2),1,none⟩):Value))),some ((bif (((!(Xo s) || !(Xo v))||decide (s.d > 100000))||decide (v.d > 1000)) then undef else (Vi u.d:Value))),some ((bif (((!(Xo s) || !(Xo v))||decide (s.d > 100000))||decide (v.d > 1000)) then undef else (Bv (decide (u.d > 1000)):Value))),some (Bv ((((!(Xo s) || !(Xo v))||decide (s.d > 100000))||decide (v.d > 1000))||decide (u.d > 1000))),some (Bv ((((!(Xo s) || !(Xo v))||decide (s.d > 100000))||decide (v.d > 1000))||decide (u.d > 1000))),some ((bif ((((!(Xo s) || !(Xo v))||decide (s.d > 100000))||decide (v.d > 1000))||decide (u.d > 1000)) then undef else (X0 u:Value))),some ((bif ((((!(Xo s) || !(Xo v))||decide (s.d > 100000))||decide (v.d > 1000))||decide (u.d > 1000)) then undef else (Bv (drivenOk u):Value))),some ((bif ((((!(Xo s) || !(Xo v))||decide (s.d > 100000))||decide (v.d > 1000))||decide (u.d > 1000)) then undef else (Bv (!(drivenOk u)):Value))),some (Bv (((((!(Xo s) || !(Xo v))||decide (s.d > 100000))||decide (v.d > 1000))||decide (u.d > 1000)) || !(drivenOk u)))] (X9 28) [13,14,15,16,17,18,19,20,21,22,23,24,25,26,27,28,29,30,31,32,33,34,35,36,37,38,39,40] [] (λ _ _ _=>True) ?_ (e4 ?_ ?_ ?_ ?_ (eg ?_ (eg ?_ (eg ?_ (e2 ?_ ?_ (eg ?_ (eg ?_ (eg ?_ (e2 ?_ ?_ (eg ?_ (eg ?_ (eg ?_ (e2 ?_ ?_ (eg ?_ (eg ?_ (eg ?_ (e2 ?_ ?_ (eg ?_ (eg ?_ (eg ?_ (en rfl ?_ .nil))))))))))))))))))))) ?_
 ·exact λ _ _=>trivial
 ·intro I D F H _ _ C;simp [go_sem,H.f.g rfl s5,(b4.k0 H.k).cell];exact (C _ _ H.k rfl trivial)
 ·intro I D F H _ _ C;simp [go_sem,(gS D 13 (H.d 0 rfl rfl))];refine (iSpotOk_c s F hsi).mono ?_;rintro x wx ⟨rfl,hb⟩;exact (C _ _ (H.k.call hb) rfl trivial)
 ·exact JC 1 rfl rfl rfl rfl
 ·exact KC 2 rfl rfl rfl rfl
 ·intro I D F H _ _ C;refine J4 rfl rfl rfl (H.d 3 rfl rfl) (λ qg=>C _ _ H.k (Xz qg).symm trivial) λ qg=>?_;simp [go_sem,H.f.g rfl s7,(b6.k0 H.k).cell];exact (C _ _ H.k (XC qg).symm trivial)
 ·intro I D F H _ _ C;refine J4 rfl rfl rfl (H.d 3 rfl rfl) (λ qg=>C _ _ H.k (Xz qg).symm trivial) λ qg=>?_;simp [go_sem,(show D.tmps[17]?.getD undef=_ from (H.d 4 rfl rfl).trans (XC qg))];refine (iSpotOk_c v F hvi).mono ?_;rintro x wx ⟨rfl,hb⟩;exact (C _ _ (H.k.call hb) (XC qg).symm trivial)
 ·intro I D F H _ _ C;refine J4 rfl rfl rfl (H.d 3 rfl rfl) (λ qg=>C _ _ H.k (Xz qg).symm trivial) λ qg=>?_;exact KJ rfl (ev ((H.d 5 rfl rfl).trans (XC qg))) (C _ _ H.k (XC qg).symm trivial)
 ·exact oPOT 3 6 rfl rfl rfl rfl rfl rfl
 ·exact KC 7 rfl rfl rfl rfl
 ·intro I D F H _ _ C;refine J4 rfl rfl rfl (H.d 8 rfl rfl) (λ qg=>C _ _ H.k (Xz qg).symm trivial) λ qg=>?_;simp [go_sem,H.f.g rfl s5];exact (C _ _ H.k (XC qg).symm trivial)
 ·intro I D F H _ _ C;refine J4 rfl rfl rfl (H.d 8 rfl rfl) (λ qg=>C _ _ H.k (Xz qg).symm trivial) λ qg=>?_;simp [go_sem,(show D.tmps[22]?.getD undef=_ from (H.d 9 rfl rfl).trans (XC qg)),(b4.k0 H.k).cell];exact (C _ _ H.k (XC qg).symm trivial)
 ·intro I D F H _ _ C;refine J4 rfl rfl rfl (H.d 8 rfl rfl) (λ qg=>C _ _ H.k (Xz qg).symm trivial) λ qg=>?_;exact Y8 rfl (ev ((H.d 10 rfl rfl).trans (XC qg))) rfl rfl rfl (C _ _ H.k (XC qg).symm trivial)
 ·exact oPOT 8 11 rfl rfl rfl rfl rfl rfl
 ·exact KC 12 rfl rfl rfl rfl
 ·intro I D F H _ _ C;refine J4 rfl rfl rfl (H.d 13 rfl rfl) (λ qg=>C _ _ H.k (Xz qg).symm trivial) λ qg=>?_;simp [go_sem,H.f.g rfl s7];exact (C _ _ H.k (XC qg).symm trivial)
 ·intro I D F H _ _ C;refine J4 rfl rfl rfl (H.d 13 rfl rfl) (λ qg=>C _ _ H.k (Xz qg).symm trivial) λ qg=>?_;simp [go_sem,(show D.tmps[27]?.getD undef=_ from (H.d 14 rfl rfl).trans (XC qg)),(b6.k0 H.k).cell];exact (C _ _ H.k (XC qg).symm trivial)
 ·intro I D F H _ _ C;refine J4 rfl rfl rfl (H.d 13 rfl rfl) (λ qg=>C _ _ H.k (Xz qg).symm trivial) λ qg=>?_;exact Y8 rfl (ev ((H.d 15 rfl rfl).trans (XC qg))) rfl rfl rfl (C _ _ H.k (XC qg).symm trivial)
 ·exact oPOT 13 16 rfl rfl rfl rfl rfl rfl
 ·exact KC 17 rfl rfl rfl rfl
 ·intro I D F H _ _ C;refine J4 rfl rfl rfl (H.d 18 rfl rfl) (λ qg=>C _ _ H.k (Xz qg).symm trivial) λ qg=>?_;simp [go_sem,H.f.g rfl s6];exact (C _ _ H.k (XC qg).symm trivial)
 ·intro I D F H _ _ C;refine J4 rfl rfl rfl (H.d 18 rfl rfl) (λ qg=>C _ _ H.k (Xz qg).symm trivial) λ qg=>?_;simp [go_sem,(show D.tmps[32]?.getD undef=_ from (H.d 19 rfl rfl).trans (XC qg)),(b5.k0 H.k).cell];exact (C _ _ H.k (XC qg).symm trivial)
 ·intro I D F H _ _ C;refine J4 rfl rfl rfl (H.d 18 rfl rfl) (λ qg=>C _ _ H.k (Xz qg).symm trivial) λ qg=>?_;exact Y8 rfl (ev ((H.d 20 rfl rfl).trans (XC qg))) rfl rfl rfl (C _ _ H.k (XC qg).symm trivial)
 ·exact oPOT 18 21 rfl rfl rfl rfl rfl rfl
 ·exact KC 22 rfl rfl rfl rfl
 ·intro I D F H _ _ C;refine J4 rfl rfl rfl (H.d 23 rfl rfl) (λ qg=>C _ _ H.k (Xz qg).symm trivial) λ qg=>?_;simp [go_sem,H.f.g rfl s6,(b5.k0 H.k).cell];exact (C _ _ H.k (XC qg).symm trivial)
 ·intro I D F H _ _ C;refine J4 rfl rfl rfl (H.d 23 rfl rfl) (λ qg=>C _ _ H.k (Xz qg).symm trivial) λ qg=>?_;simp [go_sem,(show D.tmps[37]?.getD undef=_ from (H.d 24 rfl rfl).trans (XC qg))];refine (isDriven_c u F hui).mono ?_;rintro x wx ⟨rfl,hb⟩;exact (C _ _ (H.k.call hb) (XC qg).symm trivial)
 ·intro I D F H _ _ C;refine J4 rfl rfl rfl (H.d 23 rfl rfl) (λ qg=>C _ _ H.k (Xz qg).symm trivial) λ qg=>?_;exact KJ rfl (ev ((H.d 25 rfl rfl).trans (XC qg))) (C _ _ H.k (XC qg).symm trivial)
 ·exact oPOT 23 26 rfl rfl rfl rfl rfl rfl
 intro L a8 w9 X O P S U;replace V:=O.Z V;replace R:=O.E R;obtain ⟨s4,s5,s6,s7,s8⟩:=O.G5 s4 s5 s6 s7 s8;have s40:=gS a8 40 (S 27 _ rfl);replace b3:=b3.k0 P;replace b4:=b4.k0 P;replace b5:=b5.k0 P;replace b6:=b6.k0 P;replace b7:=b7.k0 P;replace W:=Nat.le_trans W P.size;replace T:=P.below0 T;clear O P S X U;refine Xi ?_;rcases Bool.eq_false_or_eq_true (((((!(Xo s) || !(Xo v))||decide (s.d > 100000))||decide (v.d > 1000))||decide (u.d > 1000)) || !(drivenOk u)) with q10|q10
 ·refine wp_cond_true (ev (vb s40 q10)) ?_;refine wp_seq ?_;have J:Xd [] (λ L aa F=>XY F (w.heap.size+4) 30 [V0,V0,V0] (L 1) (λ _ vs=>vs=[V0,V0,V0])):=by
   intro L aa F w' kk vv hkk hb U;have x0:=U;exact (x0.bel hb (λ _ h=>h))
  refine Xr J [41,0,9] [some (.agg #[V0,V0,V0]),none,some Bf] (X9 3) [41,9] [(w.heap.size+4)] ?_ (e2 ?_ ?_ (en rfl ?_ .nil)) ?_
  ·exact λ _ h=>(⟨λ _=>b7.kp h Sz,Cz⟩)
  ·intro I D F H _ _ C;simp [go_sem];exact (C _ _ H.k rfl H.x)
  ·intro I D F H _ _ C;have x0:=H.x;have Y:=x0.1 H.n;simp [go_sem,(gS D 41 (H.d 0 rfl rfl)),H.f.g rfl s8,Y.cell,Y.frz];exact C undef _ (H.k.store (.inr Sz) [V0,V0,V0] 0) trivial (XY.set Y (us:=[V0,V0,V0]) rfl rfl)
  ·exact JL rfl rfl λ _ _ _ _ h=>h
  intro L a11 w12 X O P S U;have x0:=U;replace V:=O.Z V;replace R:=O.E R;replace s8:=O.G s8;have s9:=gS a11 9 (S 2 _ rfl);clear b7;obtain ⟨_,b7,rfl⟩:=x0.2 (X 1 Dz);replace W:=Nat.le_trans W P.size;replace T:=P.below T T.size (by simp<;>omega);clear O P S X x0 J s4 s5 s6 s7 s40 b3 b4 b5 b6;refine Xi (wp_ret (Ki ?_));refine bodyPost_ret (v:=.tuple #[.agg #[V0,V0,V0],Bf]) (by simp [results,Tryz.results56,go_sem,s8,b7.cell,s9]) R ?_;exact ⟨by rw [nxt_no ((nxtBad_i hr).trans q10)];rfl,T⟩
 ·have hbad:nxtBad r s u v=false:=(nxtBad_i hr).trans q10;have K:=nxt_in hbad;have B:=JX hr;have M:=mapB B K.sok K.sd;have hv0:=(ZF.1 K.vok).1;obtain ⟨_,hvx,hvy,_⟩:=ZF.1 K.vok;have hMX : -4000000000<=KM r s/\KM r s<=4000000000:=by have:=M.x0;have:=M.x1;unfold KM;omega
  have hMY : -4000000000<=KT r s/\KT r s<=4000000000:=by have:=M.y0;have:=M.y1;unfold KT;omega
  have hvd:=K.vd;obtain ⟨n1,n2,n3,n4,n5,n6,n7⟩:=nxt_bd hMX M.d B.bx K.ud K.un ⟨hv0.1,hvd⟩ hvx;obtain ⟨m1,m2,m3,_,m5,m6,_⟩:=nxt_bd hMY M.d B.by_ K.ud K.un ⟨hv0.1,hvd⟩ hvy;have hMD:=M.d;refine wp_cond_false (ev (vb s40 q10)) ?_;refine wp_skip (Xi (wp_seq ?_));refine Xl [43,44,45,46,47,48,42,49,50,51,10,11,12] [some (Yu s),some (Pz w.heap.size),some (Sv ra.map.A r.map.length ra.map.c),some (.pointer (some ⟨w.heap.size,1,none⟩)),some (Vi r.div),some (.tuple #[Vi (KM r s),Vi (KT r s),Vi (Ya r s)]),some (.tuple #[Vi (KM r s),Vi (KT r s),Vi (Ya r s)]),some (Vi (KM r s)),some (Vi (KT r s)),some (Vi (Ya r s)),some (Vi (KM r s)),some (Vi (KT r s)),some (Vi (Ya r s))] (X9 13) [43,44,45,46,47,48,42,49,50,51,10,11,12] [] (λ _ _ _=>True) ?_ (e4 ?_ ?_ ?_ ?_ (e4 ?_ ?_ ?_ ?_ (e4 ?_ ?_ ?_ ?_ (en rfl ?_ .nil)))) ?_
  ·exact λ _ _=>trivial
  ·intro I D F H _ _ C;simp [go_sem,H.f.g rfl s5,(b4.k0 H.k).cell];exact (C _ _ H.k rfl trivial)
  ·intro I D F H _ _ C;simp [go_sem,H.f.g rfl s4];exact (C _ _ H.k rfl trivial)
  ·intro I D F H _ _ C;simp [go_sem,(gS D 44 (H.d 1 rfl rfl)),(b3.k0 H.k).cell];exact (C _ _ H.k rfl trivial)
  ·intro I D F H _ _ C;simp [go_sem,H.f.g rfl s4];exact (C _ _ H.k rfl trivial)
  ·intro I D F H _ _ C;simp [go_sem,(gS D 46 (H.d 3 rfl rfl)),(b3.k0 H.k).cell];exact (C _ _ H.k rfl trivial)
  ·intro I D F H _ _ C;simp [go_sem,(gS D 43 (H.d 0 rfl rfl)),(gS D 45 (H.d 2 rfl rfl)),(gS D 47 (H.d 4 rfl rfl))];have hBi:=H.k.below0 T;refine (iMapped_c r s ra F hr K.sok K.sd (hsl.below hBi)).mono ?_;rintro x wx ⟨rfl,hb⟩;exact (C _ _ (H.k.call hb) rfl trivial)
  ·exact KC 5 rfl rfl rfl rfl
  ·exact oEDT 6 rfl rfl rfl rfl rfl
  ·exact oEDT 6 rfl rfl rfl rfl rfl
  ·exact oEDT 6 rfl rfl rfl rfl rfl
  ·exact Jm 7 rfl rfl rfl rfl
  ·exact Jm 8 rfl rfl rfl rfl
  ·exact Jm 9 rfl rfl rfl rfl
  intro L a13 w14 X O P S U;replace V:=O.Z V;replace R:=O.E R;obtain ⟨s4,s6,s7,s8⟩:=O.G4 s4 s6 s7 s8;have s10:=gS a13 10 (S 10 _ rfl);have s11:=gS a13 11 (S 11 _ rfl);have s12:=gS a13 12 (S 12 _ rfl);replace b3:=b3.k0 P;replace b5:=b5.k0 P;replace b6:=b6.k0 P;replace b7:=b7.k0 P;replace W:=Nat.le_trans W P.size;replace T:=P.below0 T;clear O P S X U s5 s40 b4;refine Xi (wp_seq ?_);have J:Xd [10] (λ L aa F=>(L 12=false->aa.tmps[10]?.getD undef=Vi (KM r s))):=by
   intro L aa F w' kk vv hkk hb U;have x0:=U;exact (λ h=>(Xv (hkk 10 Sz) vv).trans (x0 h))
  refine Xr J [52,53,54,55,56,57,58,59,60,61,62,63,10] [some (Vi (KM r s)),some (.pointer (some ⟨(w.heap.size+2),1,none⟩)),some (Vi u.d),some (Vi ((KM r s)*u.d)),some (.pointer (some ⟨w.heap.size,2,none⟩)),some (Vi r.bx),some (Pz (w.heap.size+2)),some (Vi u.n),some (Vi (r.bx*u.n)),some (Vi (Ya r s)),some (Vi ((r.bx*u.n)*(Ya r s))),some (Vi (((KM r s)*u.d)+((r.bx*u.n)*(Ya r s)))),some (Vi (((KM r s)*u.d)+((r.bx*u.n)*(Ya r s))))] (X9 13) [52,53,54,55,56,57,58,59,60,61,62,63,10] [] ?_ (e4 ?_ ?_ ?_ ?_ (e4 ?_ ?_ ?_ ?_ (e4 ?_ ?_ ?_ ?_ (en rfl ?_ .nil)))) ?_
  ·exact λ _ h=>(λ _=>s10)
  ·intro I D F H _ _ C;have x0:=H.x;exact XQ rfl (ev (x0 (H.t 12 rfl))) (C _ _ H.k rfl (J I D F _ (some 52) _ Sz bR H.x))
  ·intro I D F H _ _ C;simp [go_sem,H.f.g rfl s6];exact (C _ _ H.k rfl (J I D F _ (some 53) _ Sz bR H.x))
  ·intro I D F H _ _ C;simp [go_sem,(gS D 53 (H.d 1 rfl rfl)),(b5.k0 H.k).cell];exact (C _ _ H.k rfl (J I D F _ (some 54) _ Sz bR H.x))
  ·exact λ I D F H _ _ C=>Zo rfl (ev (H.d 0 rfl rfl)) (ev (H.d 2 rfl rfl)) Oz (C _ _ H.k rfl (J I D F _ (some 55) _ Sz bR H.x))
  ·intro I D F H _ _ C;simp [go_sem,H.f.g rfl s4];exact (C _ _ H.k rfl (J I D F _ (some 56) _ Sz bR H.x))
  ·intro I D F H _ _ C;simp [go_sem,(gS D 56 (H.d 4 rfl rfl)),(b3.k0 H.k).cell];exact (C _ _ H.k rfl (J I D F _ (some 57) _ Sz bR H.x))
  ·intro I D F H _ _ C;simp [go_sem,H.f.g rfl s6];exact (C _ _ H.k rfl (J I D F _ (some 58) _ Sz bR H.x))
  ·intro I D F H _ _ C;simp [go_sem,(gS D 58 (H.d 6 rfl rfl)),(b5.k0 H.k).cell];exact (C _ _ H.k rfl (J I D F _ (some 59) _ Sz bR H.x))
  ·exact λ I D F H _ _ C=>Zo rfl (ev (H.d 5 rfl rfl)) (ev (H.d 7 rfl rfl)) Oz (C _ _ H.k rfl (J I D F _ (some 60) _ Sz bR H.x))
  ·exact λ I D F H _ _ C=>XQ rfl (ev (H.f.g rfl s12)) (C _ _ H.k rfl (J I D F _ (some 61) _ Sz bR H.x))
  ·exact λ I D F H _ _ C=>Zo rfl (ev (H.d 8 rfl rfl)) (ev (H.d 9 rfl rfl)) Oz (C _ _ H.k rfl (J I D F _ (some 62) _ Sz bR H.x))
  ·exact λ I D F H _ _ C=>Zi rfl (ev (H.d 3 rfl rfl)) (ev (H.d 10 rfl rfl)) Oz (C _ _ H.k rfl (J I D F _ (some 63) _ Sz bR H.x))
  ·intro I D F H _ _ C;have x0:=H.x;exact ZL rfl (ev (H.d 11 rfl rfl)) (C _ _ H.k rfl (λ h=>by simp [Yc] at h))
  intro L a15 w16 X O P S U;have x0:=U;replace V:=O.Z V;replace R:=O.E R;obtain ⟨s4,s6,s7,s8,s11,s12⟩:=O.G6 s4 s6 s7 s8 s11 s12;have s10:=gS a15 10 (S 12 _ rfl);replace b3:=b3.k0 P;replace b5:=b5.k0 P;replace b6:=b6.k0 P;replace b7:=b7.k0 P;replace W:=Nat.le_trans W P.size;replace T:=P.below0 T;clear O P S X x0 J;refine Xi (wp_seq ?_);have J:Xd [11] (λ L aa F=>(L 12=false->aa.tmps[11]?.getD undef=Vi (KT r s))):=by
   intro L aa F w' kk vv hkk hb U;have x0:=U;exact (λ h=>(Xv (hkk 11 Sz) vv).trans (x0 h))
  refine Xr J [64,65,66,67,68,69,70,71,72,73,74,75,11] [some (Vi (KT r s)),some (.pointer (some ⟨(w.heap.size+2),1,none⟩)),some (Vi u.d),some (Vi ((KT r s)*u.d)),some (.pointer (some ⟨w.heap.size,3,none⟩)),some (Vi r.by_),some (Pz (w.heap.size+2)),some (Vi u.n),some (Vi (r.by_*u.n)),some (Vi (Ya r s)),some (Vi ((r.by_*u.n)*(Ya r s))),some (Vi (((KT r s)*u.d)+((r.by_*u.n)*(Ya r s)))),some (Vi (((KT r s)*u.d)+((r.by_*u.n)*(Ya r s))))] (X9 13) [64,65,66,67,68,69,70,71,72,73,74,75,11] [] ?_ (e4 ?_ ?_ ?_ ?_ (e4 ?_ ?_ ?_ ?_ (e4 ?_ ?_ ?_ ?_ (en rfl ?_ .nil)))) ?_
  ·exact λ _ h=>(λ _=>s11)
  ·intro I D F H _ _ C;have x0:=H.x;exact XQ rfl (ev (x0 (H.t 12 rfl))) (C _ _ H.k rfl (J I D F _ (some 64) _ Sz bR H.x))
  ·intro I D F H _ _ C;simp [go_sem,H.f.g rfl s6];exact (C _ _ H.k rfl (J I D F _ (some 65) _ Sz bR H.x))
  ·intro I D F H _ _ C;simp [go_sem,(gS D 65 (H.d 1 rfl rfl)),(b5.k0 H.k).cell];exact (C _ _ H.k rfl (J I D F _ (some 66) _ Sz bR H.x))
  ·exact λ I D F H _ _ C=>Zo rfl (ev (H.d 0 rfl rfl)) (ev (H.d 2 rfl rfl)) Oz (C _ _ H.k rfl (J I D F _ (some 67) _ Sz bR H.x))
  ·intro I D F H _ _ C;simp [go_sem,H.f.g rfl s4];exact (C _ _ H.k rfl (J I D F _ (some 68) _ Sz bR H.x))
  ·intro I D F H _ _ C;simp [go_sem,(gS D 68 (H.d 4 rfl rfl)),(b3.k0 H.k).cell];exact (C _ _ H.k rfl (J I D F _ (some 69) _ Sz bR H.x))
  ·intro I D F H _ _ C;simp [go_sem,H.f.g rfl s6];exact (C _ _ H.k rfl (J I D F _ (some 70) _ Sz bR H.x))
  ·intro I D F H _ _ C;simp [go_sem,(gS D 70 (H.d 6 rfl rfl)),(b5.k0 H.k).cell];exact (C _ _ H.k rfl (J I D F _ (some 71) _ Sz bR H.x))
  ·exact λ I D F H _ _ C=>Zo rfl (ev (H.d 5 rfl rfl)) (ev (H.d 7 rfl rfl)) Oz (C _ _ H.k rfl (J I D F _ (some 72) _ Sz bR H.x))
  ·exact λ I D F H _ _ C=>XQ rfl (ev (H.f.g rfl s12)) (C _ _ H.k rfl (J I D F _ (some 73) _ Sz bR H.x))
  ·exact λ I D F H _ _ C=>Zo rfl (ev (H.d 8 rfl rfl)) (ev (H.d 9 rfl rfl)) Oz (C _ _ H.k rfl (J I D F _ (some 74) _ Sz bR H.x))
  ·exact λ I D F H _ _ C=>Zi rfl (ev (H.d 3 rfl rfl)) (ev (H.d 10 rfl rfl)) Oz (C _ _ H.k rfl (J I D F _ (some 75) _ Sz bR H.x))
  ·intro I D F H _ _ C;have x0:=H.x;exact ZL rfl (ev (H.d 11 rfl rfl)) (C _ _ H.k rfl (λ h=>by simp [Yc] at h))
  intro L a17 w18 X O P S U;have x0:=U;replace V:=O.Z V;replace R:=O.E R;obtain ⟨s6,s7,s8,s12,s10⟩:=O.G5 s6 s7 s8 s12 s10;have s11:=gS a17 11 (S 12 _ rfl);replace b5:=b5.k0 P;replace b6:=b6.k0 P;replace b7:=b7.k0 P;replace W:=Nat.le_trans W P.size;replace T:=P.below0 T;clear O P S X x0 J s4 b3;refine Xi (wp_seq ?_);have J:Xd [12] (λ L aa F=>(L 4=false->aa.tmps[12]?.getD undef=Vi (Ya r s))):=by
   intro L aa F w' kk vv hkk hb U;have x0:=U;exact (λ h=>(Xv (hkk 12 Sz) vv).trans (x0 h))
  refine Xr J [76,77,78,79,12] [some (Vi (Ya r s)),some (.pointer (some ⟨(w.heap.size+2),1,none⟩)),some (Vi u.d),some (Vi ((Ya r s)*u.d)),some (Vi ((Ya r s)*u.d))] (X9 5) [76,77,78,79,12] [] ?_ (e4 ?_ ?_ ?_ ?_ (en rfl ?_ .nil)) ?_
  ·exact λ _ h=>(λ _=>s12)
  ·intro I D F H _ _ C;have x0:=H.x;exact XQ rfl (ev (x0 (H.t 4 rfl))) (C _ _ H.k rfl (J I D F _ (some 76) _ Sz bR H.x))
  ·intro I D F H _ _ C;simp [go_sem,H.f.g rfl s6];exact (C _ _ H.k rfl (J I D F _ (some 77) _ Sz bR H.x))
  ·intro I D F H _ _ C;simp [go_sem,(gS D 77 (H.d 1 rfl rfl)),(b5.k0 H.k).cell];exact (C _ _ H.k rfl (J I D F _ (some 78) _ Sz bR H.x))
  ·exact λ I D F H _ _ C=>Zo rfl (ev (H.d 0 rfl rfl)) (ev (H.d 2 rfl rfl)) Oz (C _ _ H.k rfl (J I D F _ (some 79) _ Sz bR H.x))
  ·intro I D F H _ _ C;have x0:=H.x;exact ZL rfl (ev (H.d 3 rfl rfl)) (C _ _ H.k rfl (λ h=>by simp [Yc] at h))
  intro L a19 w20 X O P S U;have x0:=U;replace V:=O.Z V;replace R:=O.E R;obtain ⟨s7,s8,s10,s11⟩:=O.G4 s7 s8 s10 s11;have s12:=gS a19 12 (S 4 _ rfl);replace b6:=b6.k0 P;replace b7:=b7.k0 P;replace W:=Nat.le_trans W P.size;replace T:=P.below0 T;clear O P S X x0 J s6 b5;refine Xi (wp_seq ?_);have J:Xd [] (λ L aa F=>XY F (w.heap.size+4) 30 [V0,V0,V0] (L 25) (λ _ vs=>vs=[Vi (((nxtS r s u v).getD Yi).x),Vi (((nxtS r s u v).getD Yi).y),Vi (((nxtS r s u v).getD Yi).d)])):=by
   intro L aa F w' kk vv hkk hb U;have x0:=U;exact (x0.bel hb (λ _ h=>h))
  refine Xr J [80,81,82,83,84,85,86,87,88,89,90,91,92,93,94,95,96,97,98,99,100,101,102,103,104,0,9] [some (Vi (((KM r s)*u.d)+((r.bx*u.n)*(Ya r s)))),some (.pointer (some ⟨(w.heap.size+3),2,none⟩)),some (Vi v.d),some (Vi ((((KM r s)*u.d)+((r.bx*u.n)*(Ya r s)))*v.d)),some (Pz (w.heap.size+3)),some (Vi v.x),some (Vi ((Ya r s)*u.d)),some (Vi (v.x*((Ya r s)*u.d))),some (Vi (((((KM r s)*u.d)+((r.bx*u.n)*(Ya r s)))*v.d)+(v.x*((Ya r s)*u.d)))),some (Vi (((KT r s)*u.d)+((r.by_*u.n)*(Ya r s)))),some (.pointer (some ⟨(w.heap.size+3),2,none⟩)),some (Vi v.d),some (Vi ((((KT r s)*u.d)+((r.by_*u.n)*(Ya r s)))*v.d)),some (.pointer (some ⟨(w.heap.size+3),1,none⟩)),some (Vi v.y),some (Vi ((Ya r s)*u.d)),some (Vi (v.y*((Ya r s)*u.d))),some (Vi (((((KT r s)*u.d)+((r.by_*u.n)*(Ya r s)))*v.d)+(v.y*((Ya r s)*u.d)))),some (Vi ((Ya r s)*u.d)),some (.pointer (some ⟨(w.heap.size+3),2,none⟩)),some (Vi v.d),some (Vi (((Ya r s)*u.d)*v.d)),some (.tuple #[Yu ((nxtS r s u v).getD Yi),Bv ((nxtS r s u v).isSome)]),some (Yu ((nxtS r s u v).getD Yi)),some (Bv ((nxtS r s u v).isSome)),none,some (Bv ((nxtS r s u v).isSome))] (X9 27) [80,81,82,83,84,85,86,87,88,89,90,91,92,93,94,95,96,97,98,99,100,101,102,103,104,9] [(w.heap.size+4)] ?_ (e4 ?_ ?_ ?_ ?_ (e4 ?_ ?_ ?_ ?_ (e4 ?_ ?_ ?_ ?_ (e4 ?_ ?_ ?_ ?_ (e4 ?_ ?_ ?_ ?_ (e4 ?_ ?_ ?_ ?_ (e2 ?_ ?_ (en rfl ?_ .nil)))))))) ?_
  ·exact λ _ h=>(⟨λ _=>b7.kp h Sz,Cz⟩)
  ·exact Y4 s10 rfl rfl rfl λ _ _ _ _ h=>h
  ·intro I D F H _ _ C;simp [go_sem,H.f.g rfl s7];exact (C _ _ H.k rfl H.x)
  ·intro I D F H _ _ C;simp [go_sem,(gS D 81 (H.d 1 rfl rfl)),(b6.kp H.k (by simp<;>omega)).cell];exact (C _ _ H.k rfl H.x)
  ·exact λ I D F H _ _ C=>Zo rfl (ev (H.d 0 rfl rfl)) (ev (H.d 2 rfl rfl)) Oz (C _ _ H.k rfl H.x)
  ·intro I D F H _ _ C;simp [go_sem,H.f.g rfl s7];exact (C _ _ H.k rfl H.x)
  ·intro I D F H _ _ C;simp [go_sem,(gS D 84 (H.d 4 rfl rfl)),(b6.kp H.k (by simp<;>omega)).cell];exact (C _ _ H.k rfl H.x)
  ·exact Y4 s12 rfl rfl rfl λ _ _ _ _ h=>h
  ·exact λ I D F H _ _ C=>Zo rfl (ev (H.d 5 rfl rfl)) (ev (H.d 6 rfl rfl)) Oz (C _ _ H.k rfl H.x)
  ·exact λ I D F H _ _ C=>Zi rfl (ev (H.d 3 rfl rfl)) (ev (H.d 7 rfl rfl)) Oz (C _ _ H.k rfl H.x)
  ·exact Y4 s11 rfl rfl rfl λ _ _ _ _ h=>h
  ·intro I D F H _ _ C;simp [go_sem,H.f.g rfl s7];exact (C _ _ H.k rfl H.x)
  ·intro I D F H _ _ C;simp [go_sem,(gS D 90 (H.d 10 rfl rfl)),(b6.kp H.k (by simp<;>omega)).cell];exact (C _ _ H.k rfl H.x)
  ·exact λ I D F H _ _ C=>Zo rfl (ev (H.d 9 rfl rfl)) (ev (H.d 11 rfl rfl)) Oz (C _ _ H.k rfl H.x)
  ·intro I D F H _ _ C;simp [go_sem,H.f.g rfl s7];exact (C _ _ H.k rfl H.x)
  ·intro I D F H _ _ C;simp [go_sem,(gS D 93 (H.d 13 rfl rfl)),(b6.kp H.k (by simp<;>omega)).cell];exact (C _ _ H.k rfl H.x)
  ·exact Y4 s12 rfl rfl rfl λ _ _ _ _ h=>h
  ·exact λ I D F H _ _ C=>Zo rfl (ev (H.d 14 rfl rfl)) (ev (H.d 15 rfl rfl)) Oz (C _ _ H.k rfl H.x)
  ·exact λ I D F H _ _ C=>Zi rfl (ev (H.d 12 rfl rfl)) (ev (H.d 16 rfl rfl)) Oz (C _ _ H.k rfl H.x)
  ·exact Y4 s12 rfl rfl rfl λ _ _ _ _ h=>h
  ·intro I D F H _ _ C;simp [go_sem,H.f.g rfl s7];exact (C _ _ H.k rfl H.x)
  ·intro I D F H _ _ C;simp [go_sem,(gS D 99 (H.d 19 rfl rfl)),(b6.kp H.k (by simp<;>omega)).cell];exact (C _ _ H.k rfl H.x)
  ·exact λ I D F H _ _ C=>Zo rfl (ev (H.d 18 rfl rfl)) (ev (H.d 20 rfl rfl)) Oz (C _ _ H.k rfl H.x)
  ·intro I D F H _ _ C;simp [go_sem,(gS D 88 (H.d 8 rfl rfl)),(gS D 97 (H.d 17 rfl rfl)),(gS D 101 (H.d 21 rfl rfl))];refine (show Calls Tryz.prog 112 #[Vi (nxtX r s u v),Vi (nxtY r s u v),Vi (nxtD r s u v)] F (λ e w'=>e=.returned (optSpotV (nxtS r s u v))/\Below F.heap.size F w') from iSpotOf_c _ _ _ F (by unfold nxtX;exact ⟨Oz,Oz⟩) (by unfold nxtY;exact ⟨Oz,Oz⟩) (by unfold nxtD;exact ⟨Oz,Oz⟩)).mono ?_;rintro x wx ⟨rfl,hb⟩;exact (C _ _ (H.k.call hb) (optSpot_eq _) (J I D F _ none undef Sz hb H.x))
  ·exact JV 22 rfl rfl rfl rfl rfl λ _ _ _ _ h=>h
  ·exact JV 22 rfl rfl rfl rfl rfl λ _ _ _ _ h=>h
  ·intro I D F H _ _ C;have x0:=H.x;have Y:=x0.1 H.n;simp [go_sem,(gS D 103 (H.d 23 rfl rfl)),H.f.g rfl s8,Y.cell,Y.frz];exact C undef _ (H.k.store (.inr Sz) [Vi (((nxtS r s u v).getD Yi).x),Vi (((nxtS r s u v).getD Yi).y),Vi (((nxtS r s u v).getD Yi).d)] 0) trivial (XY.set Y (us:=[Vi (((nxtS r s u v).getD Yi).x),Vi (((nxtS r s u v).getD Yi).y),Vi (((nxtS r s u v).getD Yi).d)]) rfl rfl)
  ·exact KS 24 rfl rfl rfl rfl λ _ _ _ _ h=>h
  intro L a21 w22 X O P S U;have x0:=U;replace V:=O.Z V;replace R:=O.E R;replace s8:=O.G s8;have s9:=gS a21 9 (S 26 _ rfl);clear b7;obtain ⟨_,b7,rfl⟩:=x0.2 (X 25 Dz);replace W:=Nat.le_trans W P.size;replace T:=P.below T T.size (by simp<;>omega);clear O P S X x0 J s7 s10 s11 s12 b6;refine Xi (wp_ret ?_);refine bodyPost_ret (v:=.tuple #[Yu ((nxtS r s u v).getD Yi),Bv ((nxtS r s u v).isSome)]) (by simp [results,Tryz.results56,go_sem,s8,b7.cell,s9]) R ?_;exact ⟨by rw [nxt_yes hbad,optSpot_eq],T⟩
end Go.Proofs.YtbekjpkcicjcgaaGreat
