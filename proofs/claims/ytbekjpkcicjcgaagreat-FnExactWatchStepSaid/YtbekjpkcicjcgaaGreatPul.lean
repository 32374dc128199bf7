/-
 The region of the points that a map moves into a region: of the program.
 Conditions: valid regions and maps.
-/
import Derived.Test.YtbekjpkcicjcgaaGreatGrV
set_option maxHeartbeats 8000000
set_option maxRecDepth 100000
namespace Go.Proofs.YtbekjpkcicjcgaaGreat
open Go.RowKit
def XL (m:List Int) (d:Int) (h:Half):Option Half:=Y1 (h.a*m.getD 0 0+h.b*m.getD 2 0) (h.a*m.getD 1 0+h.b*m.getD 3 0) (h.c*d)
theorem pulH_ok {m:List Int} {d:Int} {h g:Half} (e:XL m d h=some g):Xt g=true:=halfOf_ok e
structure MapIn (m:List Int) (d:Int):Prop where
 len:m.length=4
 m:∀ i,-20<=m.getD i 0/\m.getD i 0<=20
 d:1<=d/\d<=20
theorem mapIn {r:XU} (h:XM r=true):MapIn r.map r.div:=⟨(roomB h).len,(roomB h).m,(roomB h).div⟩
structure PulB (m:List Int) (d:Int) (h:Half):Prop where
 a0 : -1000000<=h.a*m.getD 0 0/\h.a*m.getD 0 0<=1000000
 b2 : -1000000<=h.b*m.getD 2 0/\h.b*m.getD 2 0<=1000000
 a1 : -1000000<=h.a*m.getD 1 0/\h.a*m.getD 1 0<=1000000
 b3 : -1000000<=h.b*m.getD 3 0/\h.b*m.getD 3 0<=1000000
 c : -2000000000<=h.c*d/\h.c*d<=2000000000
theorem pulB {m:List Int} {d:Int} {h:Half} (hM:MapIn m d) (hh:Xt h=true):PulB m d h:=by
 obtain ⟨a1,a2,a3,_⟩:=Y0.1 hh;have p:=λ i=>Jd (a:=h.a) (b:=m.getD i 0) (A:=50000) (B:=20) a1 (hM.m i);have q:=λ i=>Jd (a:=h.b) (b:=m.getD i 0) (A:=50000) (B:=20) a2 (hM.m i);have c:=Jd (a:=h.c) (b:=d) (A:=100000000) (B:=20) a3 (by have:=hM.d;omega);exact ⟨by have:=p 0;omega,by have:=q 2;omega,by have:=p 1;omega,by have:=q 3;omega,Oz⟩
structure PulW (w:World) (gm gq:Nat) (M:Option Addr) (cm:Nat) (m:List Int) (d:Int):Prop where
 bm:Xz w gm 23 [Sv M m.length cm]
 bq:Xz w gq 3 [Vi d]
 sl:Sl 1 Zm w M m
theorem PulW.below {w w':World} {gm gq:Nat} {M:Option Addr} {cm:Nat} {m:List Int} {d:Int} (h:PulW w gm gq M cm m d) (hb:Below w.heap.size w w'):PulW w' gm gq M cm m d:=⟨h.bm.bel hb,h.bq.bel hb,h.sl.below hb⟩
theorem PulW.alloc {w:World} {gm gq:Nat} {M:Option Addr} {cm:Nat} {m:List Int} {d:Int} (h:PulW w gm gq M cm m d) (o:Obj):PulW (w.alloc o) gm gq M cm m d:=h.below (Xc bR o)
theorem KP (x:Option Half):YY x=.tuple #[X3 (x.getD Xa),Bv x.isSome]:=by cases x<;>rfl
theorem iPulC_c (h:Half) (m:List Int) (d:Int) (M:Option Addr) (cm gm gq:Nat) (w:World) (hh:Xt h=true) (hM:MapIn m d) (hW:PulW w gm gq M cm m d) :
 Calls Tryz.prog 144 #[X3 h,Pz gm,Pz gq] w λ x w'=>x=.returned (YY (XL m d h))/\Below w.heap.size w w':=by
 have bgm:=hW.bm;have bgq:=hW.bq;have hgm:=bgm.lt;have hgq:=bgq.lt;refine YN Tryz.func144 rfl (n:=39) Tryz.ntmps144 Sz ?_;intro a0 S K ha;have s0:a0.tmps[0]?.getD undef=X3 h:=ha 0 _ rfl;have s1:a0.tmps[1]?.getD undef=Pz gm:=ha 1 _ rfl;have s2:a0.tmps[2]?.getD undef=Pz gq:=ha 2 _ rfl;clear ha;have P:=Below.refl w.heap.size w;have V:=Nat.le_refl w.heap.size;refine wp_seq ?_;refine Yt [3,4,5] [Pz w.heap.size,Pz (w.heap.size+1),Bf] [some (.cells [Vi h.a,Vi h.b,Vi h.c].toArray 136),some (.cells [V0,V0,V0].toArray 136),none] [0,1,2] [3,4,5] [0,1,2] (by kernel_rfl) (by rw [S];decide) (ec ?_ (ec ?_ (ec ?_ .nil))) ?_
 ·intro a w' J hs N Q C;simp [go_sem,J.g rfl s0];rw [hs];exact C
 ·intro a w' J hs N Q C;simp [go_sem];rw [hs];exact C
 ·intro a w' J hs N Q C;simp [go_sem];exact C
 intro a1 w2 J R hb hO;replace S:=J.size.trans S;replace K:=J.defers.trans K;replace s1:=J.g rfl s1;replace s2:=J.g rfl s2;replace bgm:=bgm.bel hb;replace bgq:=bgq.bel hb;have s3:a1.tmps[3]?.getD undef=Pz w.heap.size:=R 0 Dz;have s4:a1.tmps[4]?.getD undef=Pz (w.heap.size+1):=R 1 Dz;have b3:Xz w2 w.heap.size 136 [Vi h.a,Vi h.b,Vi h.c]:=hO 0 _ rfl;have b4:Xz w2 (w.heap.size+1) 136 [V0,V0,V0]:=hO 1 _ rfl;have hG:=b4.lt;replace P:=Xe P hb;have zw2:=Nat.le_trans V hb.size;replace V:=Nat.le_refl w2.heap.size;clear J R hb hO s0;refine Xk (wp_seq ?_);obtain ⟨⟨k1,k2⟩,⟨k3,k4⟩,⟨k5,k6⟩,⟨k7,k8⟩,⟨k9,k10⟩⟩:=pulB hM hh;have hml:=hM.len;obtain ⟨bm,om,em,fm⟩:=ElS.open_ hW.sl (by rw [hml];omega);have hbm:=fm.1;replace fm:=fm.bel P;have O:Xf [] (λ L aa D=>X6 D (w.heap.size+1) 136 [V0,V0,V0] (L 33) (λ _ vs=>vs=[Vi (((XL m d h).getD Xa).a),Vi (((XL m d h).getD Xa).b),Vi (((XL m d h).getD Xa).c)])):=by
  intro L aa D w' kk vv hkk hb X;have x0:=X;exact (x0.bel hb (λ _ h=>h))
 refine Xr O [6,7,8,9,10,11,12,13,14,15,16,17,18,19,20,21,22,23,24,25,26,27,28,29,30,31,32,33,34,35,36,37,38,0,5] [some (Pz w.heap.size),some (Vi h.a),some (Sv M m.length cm),some (.pointer (some ⟨bm,om,none⟩)),some (Vi (m.getD 0 0)),some (Vi (h.a*(m.getD 0 0))),some (.pointer (some ⟨w.heap.size,1,none⟩)),some (Vi h.b),some (Sv M m.length cm),some (.pointer (some ⟨bm,om+2,none⟩)),some (Vi (m.getD 2 0)),some (Vi (h.b*(m.getD 2 0))),some (Vi ((h.a*(m.getD 0 0))+(h.b*(m.getD 2 0)))),some (Pz w.heap.size),some (Vi h.a),some (Sv M m.length cm),some (.pointer (some ⟨bm,om+1,none⟩)),some (Vi (m.getD 1 0)),some (Vi (h.a*(m.getD 1 0))),some (.pointer (some ⟨w.heap.size,1,none⟩)),some (Vi h.b),some (Sv M m.length cm),some (.pointer (some ⟨bm,om+3,none⟩)),some (Vi (m.getD 3 0)),some (Vi (h.b*(m.getD 3 0))),some (Vi ((h.a*(m.getD 1 0))+(h.b*(m.getD 3 0)))),some (.pointer (some ⟨w.heap.size,2,none⟩)),some (Vi h.c),some (Vi d),some (Vi (h.c*d)),some (.tuple #[X3 ((XL m d h).getD Xa),Bv ((XL m d h).isSome)]),some (X3 ((XL m d h).getD Xa)),some (Bv ((XL m d h).isSome)),none,some (Bv ((XL m d h).isSome))] ([[],[0],[],[2],[2,3],[0,1,2,3,4],[],[6],[],[8],[8,9],[6,7,8,9,10],[0,1,2,3,4,5,6,7,8,9,10,11],[],[13],[],[15],[15,16],[13,14,15,16,17],[],[19],[],[21],[21,22],[19,20,21,22,23],[13,14,15,16,17,18,19,20,21,22,23,24],[],[26],[],[26,27,28],[0,1,2,3,4,5,6,7,8,9,10,11,12,13,14,15,16,17,18,19,20,21,22,23,24,25,26,27,28,29],[0,1,2,3,4,5,6,7,8,9,10,11,12,13,14,15,16,17,18,19,20,21,22,23,24,25,26,27,28,29,30],[0,1,2,3,4,5,6,7,8,9,10,11,12,13,14,15,16,17,18,19,20,21,22,23,24,25,26,27,28,29,30],[0,1,2,3,4,5,6,7,8,9,10,11,12,13,14,15,16,17,18,19,20,21,22,23,24,25,26,27,28,29,30,31,32],[0,1,2,3,4,5,6,7,8,9,10,11,12,13,14,15,16,17,18,19,20,21,22,23,24,25,26,27,28,29,30,31,32,33]]) [6,7,8,9,10,11,12,13,14,15,16,17,18,19,20,21,22,23,24,25,26,27,28,29,30,31,32,33,34,35,36,37,38,5] [(w.heap.size+1)] ?_ (e4 ?_ ?_ ?_ ?_ (e4 ?_ ?_ ?_ ?_ (e4 ?_ ?_ ?_ ?_ (e4 ?_ ?_ ?_ ?_ (e4 ?_ ?_ ?_ ?_ (e4 ?_ ?_ ?_ ?_ (e4 ?_ ?_ ?_ ?_ (e4 ?_ ?_ ?_ ?_ (e2 ?_ ?_ (en rfl ?_ .nil)))))))))) ?_
 ·exact λ _ h=>(⟨λ _=>b4.kp h Sz,Cz⟩)
 ·intro I F D H _ _ C;simp [go_sem,H.f.g rfl s3];exact (C _ _ H.k rfl H.x)
 ·intro I F D H _ _ C;simp [go_sem,(gS F 6 (H.d 0 rfl rfl)),(b3.kp H.k (by simp<;>omega)).cell];exact (C _ _ H.k rfl H.x)
 ·intro I F D H _ _ C;simp [go_sem,H.f.g rfl s1,(bgm.kp H.k (by simp<;>omega)).cell];exact (C _ _ H.k rfl H.x)
 ·intro I F D H _ _ C;simp [go_sem,(gS F 8 (H.d 2 rfl rfl)),hml,em];exact (C _ _ H.k rfl H.x)
 ·intro I F D H _ _ C;have hE:=fm.kp H.k (by simp<;>omega);simp [go_sem,(gS F 9 (H.d 3 rfl rfl)),(hE.at_ 0 (i:=0) Oz 0 (p:=om) Oz rfl)];exact (C _ _ H.k rfl H.x)
 ·exact λ I F D H _ _ C=>YV rfl (ev (H.d 1 rfl rfl)) (ev (H.d 4 rfl rfl)) Oz (C _ _ H.k rfl H.x)
 ·intro I F D H _ _ C;simp [go_sem,H.f.g rfl s3];exact (C _ _ H.k rfl H.x)
 ·intro I F D H _ _ C;simp [go_sem,(gS F 12 (H.d 6 rfl rfl)),(b3.kp H.k (by simp<;>omega)).cell];exact (C _ _ H.k rfl H.x)
 ·intro I F D H _ _ C;simp [go_sem,H.f.g rfl s1,(bgm.kp H.k (by simp<;>omega)).cell];exact (C _ _ H.k rfl H.x)
 ·intro I F D H _ _ C;simp [go_sem,(gS F 14 (H.d 8 rfl rfl)),hml,em];exact (C _ _ H.k rfl H.x)
 ·intro I F D H _ _ C;have hE:=fm.kp H.k (by simp<;>omega);simp [go_sem,(gS F 15 (H.d 9 rfl rfl)),(hE.at_ 0 (i:=2) Oz 0 (p:=om+2) Oz rfl)];exact (C _ _ H.k rfl H.x)
 ·exact λ I F D H _ _ C=>YV rfl (ev (H.d 7 rfl rfl)) (ev (H.d 10 rfl rfl)) Oz (C _ _ H.k rfl H.x)
 ·exact λ I F D H _ _ C=>Z2 rfl (ev (H.d 5 rfl rfl)) (ev (H.d 11 rfl rfl)) Oz (C _ _ H.k rfl H.x)
 ·intro I F D H _ _ C;simp [go_sem,H.f.g rfl s3];exact (C _ _ H.k rfl H.x)
 ·intro I F D H _ _ C;simp [go_sem,(gS F 19 (H.d 13 rfl rfl)),(b3.kp H.k (by simp<;>omega)).cell];exact (C _ _ H.k rfl H.x)
 ·intro I F D H _ _ C;simp [go_sem,H.f.g rfl s1,(bgm.kp H.k (by simp<;>omega)).cell];exact (C _ _ H.k rfl H.x)
 ·intro I F D H _ _ C;simp [go_sem,(gS F 21 (H.d 15 rfl rfl)),hml,em];exact (C _ _ H.k rfl H.x)
 ·intro I F D H _ _ C;have hE:=fm.kp H.k (by simp<;>omega);simp [go_sem,(gS F 22 (H.d 16 rfl rfl)),(hE.at_ 0 (i:=1) Oz 0 (p:=om+1) Oz rfl)];exact (C _ _ H.k rfl H.x)
 ·exact λ I F D H _ _ C=>YV rfl (ev (H.d 14 rfl rfl)) (ev (H.d 17 rfl rfl)) Oz (C _ _ H.k rfl H.x)
 ·intro I F D H _ _ C;simp [go_sem,H.f.g rfl s3];exact (C _ _ H.k rfl H.x)
 ·intro I F D H _ _ C;simp [go_sem,(gS F 25 (H.d 19 rfl rfl)),(b3.kp H.k (by simp<;>omega)).cell];exact (C _ _ H.k rfl H.x)
 ·intro I F D H _ _ C;simp [go_sem,H.f.g rfl s1,(bgm.kp H.k (by simp<;>omega)).cell];exact (C _ _ H.k rfl H.x)
 ·intro I F D H _ _ C;simp [go_sem,(gS F 27 (H.d 21 rfl rfl)),hml,em];exact (C _ _ H.k rfl H.x)
 ·intro I F D H _ _ C;have hE:=fm.kp H.k (by simp<;>omega);simp [go_sem,(gS F 28 (H.d 22 rfl rfl)),(hE.at_ 0 (i:=3) Oz 0 (p:=om+3) Oz rfl)];exact (C _ _ H.k rfl H.x)
 ·exact λ I F D H _ _ C=>YV rfl (ev (H.d 20 rfl rfl)) (ev (H.d 23 rfl rfl)) Oz (C _ _ H.k rfl H.x)
 ·exact λ I F D H _ _ C=>Z2 rfl (ev (H.d 18 rfl rfl)) (ev (H.d 24 rfl rfl)) Oz (C _ _ H.k rfl H.x)
 ·intro I F D H _ _ C;simp [go_sem,H.f.g rfl s3];exact (C _ _ H.k rfl H.x)
 ·intro I F D H _ _ C;simp [go_sem,(gS F 32 (H.d 26 rfl rfl)),(b3.kp H.k (by simp<;>omega)).cell];exact (C _ _ H.k rfl H.x)
 ·intro I F D H _ _ C;simp [go_sem,H.f.g rfl s2,(bgq.kp H.k (by simp<;>omega)).cell];exact (C _ _ H.k rfl H.x)
 ·exact λ I F D H _ _ C=>YV rfl (ev (H.d 27 rfl rfl)) (ev (H.d 28 rfl rfl)) Oz (C _ _ H.k rfl H.x)
 ·intro I F D H _ _ C;simp [go_sem,(gS F 18 (H.d 12 rfl rfl)),(gS F 31 (H.d 25 rfl rfl)),(gS F 35 (H.d 29 rfl rfl))];refine (show Calls Tryz.prog 142 #[Vi (h.a*m.getD 0 0+h.b*m.getD 2 0),Vi (h.a*m.getD 1 0+h.b*m.getD 3 0),Vi (h.c*d)] D (λ e w'=>e=.returned (YY (XL m d h))/\Below D.heap.size D w') from iHalfOf_c _ _ _ D ⟨Oz,Oz⟩ ⟨Oz,Oz⟩ ⟨Oz,Oz⟩).mono ?_;rintro x wx ⟨rfl,hb⟩;exact (C _ _ (H.k.call hb) (KP _) (O I F D _ none undef Sz hb H.x))
 ·exact Jt 30 rfl rfl rfl rfl rfl λ _ _ _ _ h=>h
 ·exact Jt 30 rfl rfl rfl rfl rfl λ _ _ _ _ h=>h
 ·intro I F D H _ _ C;have x0:=H.x;have T:=x0.1 H.n;simp [go_sem,(gS F 37 (H.d 31 rfl rfl)),H.f.g rfl s4,T.cell,T.frz];exact C undef _ (H.k.store (.inr Sz) [Vi (((XL m d h).getD Xa).a),Vi (((XL m d h).getD Xa).b),Vi (((XL m d h).getD Xa).c)] 0) trivial (X6.set T (us:=[Vi (((XL m d h).getD Xa).a),Vi (((XL m d h).getD Xa).b),Vi (((XL m d h).getD Xa).c)]) rfl rfl)
 ·exact KW 32 rfl rfl rfl rfl λ _ _ _ _ h=>h
 intro L a5 w6 Y J U R X;have x0:=X;replace S:=J.Z S;replace K:=J.E K;replace s4:=J.G s4;have s5:=gS a5 5 (R 34 _ rfl);replace bgm:=bgm.kp U (by simp<;>omega);replace bgq:=bgq.kp U (by simp<;>omega);clear b4;obtain ⟨_,b4,rfl⟩:=x0.2 (Y 33 Dz);replace V:=Nat.le_trans V U.size;replace P:=U.below P P.size (by simp<;>omega);clear J U R Y x0 O s1 s2 s3 b3 fm;refine Xk (wp_ret ?_);refine bodyPost_ret (v:=.tuple #[X3 ((XL m d h).getD Xa),Bv ((XL m d h).isSome)]) (by simp [results,Tryz.results144,go_sem,s4,b4.cell,s5]) K ?_;exact ⟨by rw [KP],P⟩
theorem iMovP_c (p:List Half) (m:List Int) (d:Int) (a:Zi) (M:Option Addr) (cm gm gq:Nat) (w:World) (hp:Xb p=true) (hM:MapIn m d) (hsp:Sl 3 Xd w a.A p) (hg:PulW w gm gq M cm m d) :
 Calls Tryz.prog 139 #[Yi p a,.func (.func 144) #[] #[.pointer (some ⟨gm,0,none⟩),.pointer (some ⟨gq,0,none⟩)]] w λ e w'=>∃ v,e=.returned (.tuple #[.agg #[v],.bool (Yv (XL m d) p)])/\XI 136 3 Xd w' w.heap.size v (YR (XL m d) p)/\Below w.heap.size w w':=by
 obtain ⟨A,cap⟩:=a;simp only at hsp;obtain ⟨i0,hi0,hz0,hz1,hz2⟩:=info_parts (show (Tryz.prog.info? 136).map (λ i=>(i.zero,i.size,i.bytes))=some (some (.agg #[.int .i64 0,.int .i64 0,.int .i64 0]),3,24) by kernel_rfl);have hlen:=Zt hp;have hok:=Lib.hid (Jb hp);have hgok:=Lib.hid (λ h (_:h∈p) g (e:XL m d h=some g)=>pulH_ok e);obtain ⟨W,hW⟩:∃ W,W=(w.alloc (.cells #[.slice A p.length cap] 26)).alloc (.cells #[.slice none 0 0] 26):=⟨_,rfl⟩;have HA:XV W w.heap.size [.slice A p.length cap]:=by rw [hW];exact Ys
 have HR:XV W (w.heap.size+1) [.slice none 0 0]:=by rw [hW];exact Ys
 have b0:Below w.heap.size w W:=by rw [hW];exact Xl
 have zW:w.heap.size+1<W.heap.size:=HR.1;have HG:=hg.below b0;have sp:=hsp.below b0;have hW':=Lib.hid hW;have kv:=KJ p ⟨A,cap⟩ W;clear hW hg hsp hp;obtain ⟨cHA_0,fHA_0⟩:=HA.2 0 _ rfl;have lA:=HA.1;go_enter Tryz.func139,Tryz.ntmps139
 go_upto_region 1 with fail
 rw [<- hW'.out];clear hW';by_cases h0:p.length=0
 ·have hv:=Lib.hid (Jo (f:=XL m d) h0);rw [decide_eq_true h0] at kv;clear h0;go_wp2_with (fail)
  refine kv.mono ?_;rintro e w1 ⟨rfl,hb1⟩;have R1:=HR.below hb1;have b1:=Xe b0 hb1;obtain ⟨cR1_0,fR1_0⟩:=R1.2 0 _ rfl;have lR:=R1.1;go_wp2
  refine bodyPost_ret (v:=.tuple #[.agg #[.slice none 0 0],.bool true]) (by simp [results,Tryz.results139,go_sem, *]) rfl ⟨.slice none 0 0,by rw [hv.out.1], ?_,Yp b1 (by simp only;omega) _⟩;rw [hv.out.2];exact ⟨none,0,rfl,World.ownsRow_nil _ _ _ _⟩
 rw [decide_eq_false h0] at kv;go_wp2_with (fail)
 refine kv.mono ?_;rintro e w1 ⟨rfl,hb1⟩;have A1:=HA.below hb1;have R1:=HR.below hb1;have G1:=HG.below hb1;have P1:=sp.below hb1;have b1:=Xe b0 hb1;have z1:w.heap.size+1<w1.heap.size:=Nat.lt_of_lt_of_le zW hb1.size;clear HA HR HG sp b0 zW hb1 cHA_0 fHA_0 lA kv;obtain ⟨cA1_0,fA1_0⟩:=A1.2 0 _ rfl;have lA:=A1.1;go_wp2
 go_loopw [6,8,9,10,17] (λ out _ _ _ i wr=>∃ k:Nat,k<=p.length/\i=.int .i64 k/\YZ (XL m d) (p.take k)=true/\XI 136 3 Xd wr w1.heap.size out (XW (XL m d) (p.take k))/\Below w1.heap.size w1 wr) (λ _ _ _ _ i _=>p.length-(intOf i).toNat)
 case atStart=>exact ⟨0,Nat.zero_le _,rfl,rfl,⟨none,0,rfl,World.ownsRow_nil _ _ _ _⟩,Below.refl _ _⟩
 case round =>
  obtain ⟨k,hk,rfl,hall,N,hbr⟩:=hrel;have br:=b1.trans (hbr.mono b1.size);by_cases hlt:k<p.length
  ·obtain ⟨bb,off,hA,hblt,hc⟩:=(P1.below hbr).at_ hlt;have g0:=hc 0 _ rfl;have g1:=hc 1 _ rfl;have g2:=hc 2 _ rfl;simp only [Nat.add_zero] at g0;have c1:=λ W h1=>iPulC_c p[k] m d M cm gm gq W (hok.out _ (List.getElem_mem hlt)) hM h1;have hno:=Lib.hid (λ h=>@mov_none (XL m d) p k hlt h);have hst:=Lib.hid (λ g h=>@movL_take (XL m d) p k g hlt h);have hal:=Lib.hid (λ g h=>@movAll_take (XL m d) p k g hlt hall h);clear hc hall;generalize XL m d p[k]=o at *;generalize p[k]=h at *;have G2:=(G1.below hbr).alloc (.cells #[.int .i64 h.a,.int .i64 h.b,.int .i64 h.c] 136);have R2:=(R1.below hbr).alloc (.cells #[.int .i64 h.a,.int .i64 h.b,.int .i64 h.c] 136);have b2:=Xc hbr (.cells #[.int .i64 h.a,.int .i64 h.b,.int .i64 h.c] 136);have X2:=XV.new wr #[.int .i64 h.a,.int .i64 h.b,.int .i64 h.c] 136;have N2:=N.alloc (.cells #[.int .i64 h.a,.int .i64 h.b,.int .i64 h.c] 136);subst hA;go_upto_region 7 with fail
   clear g0 g1 g2 hblt N hbr br;generalize wr.alloc (.cells #[.int .i64 h.a,.int .i64 h.b,.int .i64 h.c] 136)=w2 at *;generalize wr.heap.size=gx at *;obtain ⟨cX2_0,fX2_0⟩:=X2.2 0 _ rfl;obtain ⟨cX2_1,fX2_1⟩:=X2.2 1 _ rfl;obtain ⟨cX2_2,fX2_2⟩:=X2.2 2 _ rfl;have lX:=X2.1;go_wp2_with (fail)
   refine (c1 _ G2).mono ?_;rintro e w3 ⟨rfl,hb3⟩;have R3:=R2.below hb3;have N3:=N2.below hb3 XE;have b3:=Xe b2 hb3;clear X2 cX2_0 cX2_1 cX2_2 fX2_0 fX2_1 fX2_2 lX R2 N2 b2 G2 hb3 c1;cases o with
   | none =>
    have hv:=Lib.hid (hno.out rfl);simp only [YY];have R4:=R3.alloc (.cells #[.int .i64 0,.int .i64 0,.int .i64 0] 136);have b4:=b1.trans ((Xc b3 (.cells #[.int .i64 0,.int .i64 0,.int .i64 0] 136)).mono b1.size);go_upto_region 8 with fail
    clear R3 b3 N3;generalize w3.alloc (.cells #[.int .i64 0,.int .i64 0,.int .i64 0] 136)=w4 at *;generalize w3.heap.size=g3 at *;obtain ⟨cR4_0,fR4_0⟩:=R4.2 0 _ rfl;have lR:=R4.1;go_wp2
    refine bodyPost_ret (v:=.tuple #[.agg #[.slice none 0 0],.bool false]) (by simp [results,Tryz.results139,go_sem, *]) rfl ⟨.slice none 0 0,by rw [hv.out.1], ?_,Yp b4 (by simp only;omega) _⟩;rw [hv.out.2];exact ⟨none,0,rfl,World.ownsRow_nil _ _ _ _⟩
   | some g =>
    have hs2:=Lib.hid (hst.out g rfl);have ha2:=Lib.hid (hal.out g rfl);simp only [YY];have N4:=N3.alloc (.cells #[.int .i64 g.a,.int .i64 g.b,.int .i64 g.c] 136);have b4:=Xc b3 (.cells #[.int .i64 g.a,.int .i64 g.b,.int .i64 g.c] 136);have X4:=XV.new w3 #[.int .i64 g.a,.int .i64 g.b,.int .i64 g.c] 136;go_upto_region 8 with fail
    clear R3 b3 N3;generalize w3.alloc (.cells #[.int .i64 g.a,.int .i64 g.b,.int .i64 g.c] 136)=w4 at *;generalize w3.heap.size=g3 at *;obtain ⟨cX4_0,fX4_0⟩:=X4.2 0 _ rfl;obtain ⟨cX4_1,fX4_1⟩:=X4.2 1 _ rfl;obtain ⟨cX4_2,fX4_2⟩:=X4.2 2 _ rfl;have lX:=X4.1;have hcm:(XW (XL m d) (p.take k)).length<=1073741823:=by rw [ZH,List.length_take];omega
    have hle:w1.heap.size<=w4.heap.size:=b4.size;go_wp2_with (at_builtin;refine Z5 Xx _ rfl _ _ 24 rfl w1.heap.size i0 _ 24 Tryz.underlying24 hi0 hz0 hz1 hz2 rfl (by decide) rfl (N4.alloc _) _ 1 rfl g ?c1 (YE g) bR (by simp;omega) hcm (by decide) ?_)
    case c1 =>
     intro qq u hu;exact hu
    ·intro v7 w7 hn7 hb7;rw [<- hs2.out] at hn7;have b7:=(Xc b4 (.cells #[.int .i64 g.a,.int .i64 g.b,.int .i64 g.c] 136)).trans hb7;clear hb7 b4 N4 X4 cX4_0 cX4_1 cX4_2 fX4_0 fX4_1 fX4_2 lX;go_wp2
     go_roundw
     case rel=>exact ⟨k+1,by omega,by go_num,ha2.out,hn7,b7⟩
     case measure=>simp [intOf];omega
  ·obtain rfl:k=p.length:=Oz
   rw [List.take_length] at hall N;have hv:=Lib.hid (mov_all (f:=XL m d) h0 hall);have hmo:=JV hgok.out hall;have hml:=ZH (XL m d) p;have R2:=R1.below hbr;obtain ⟨Ao,co,rfl,o2⟩:=N;have N2:XI 136 3 Xd wr w1.heap.size (.slice Ao (XW (XL m d) p).length co) (XW (XL m d) p):=⟨Ao,co,rfl,o2⟩;have k9:=λ W h=>iMeet_c Ao (XW (XL m d) p) co W (by omega) hmo h N2.nilcap;have SO:=N2.out Xx;clear hall o2 hmo hml cA1_0 fA1_0 lA A1;generalize XW (XL m d) p=ML at *;go_wp2_with (fail)
   refine (k9 _ SO).mono ?_;rintro e w3 ⟨v,rfl,N3,hb3⟩;have R3:=R2.below hb3;have b3:=Xe br hb3;obtain ⟨cR3_0,fR3_0⟩:=R3.2 0 _ rfl;have lR:=R3.1;obtain ⟨Av,cv,rfl,o3⟩:=N3;have N3:XI 136 3 Xd w3 wr.heap.size (.slice Av (XZ (Xs ML)).length cv) (XZ (Xs ML)):=⟨Av,cv,rfl,o3⟩;have z3:=hbr.size;clear o3 k9 SO N2;go_wp2
   refine bodyPost_ret (v:=.tuple #[.agg #[.slice Av (XZ (Xs ML)).length cv],.bool (YA (Xs ML))]) (by simp [results,Tryz.results139,go_sem, *]) rfl ⟨.slice Av (XZ (Xs ML)).length cv,by rw [hv.out.1], ?_,Yp b3 (by simp only;omega) _⟩;rw [hv.out.2];exact (N3.lowC (q:=⟨w.heap.size+1,0,none⟩) (by simp only;omega) [.slice Av (XZ (Xs ML)).length cv]).mono Oz
theorem iPull_c (p:List Half) (m:List Int) (d:Int) (a:Zi) (M:Option Addr) (cm:Nat) (w:World) (hp:Xb p=true) (hM:MapIn m d) (hsp:Sl 3 Xd w a.A p) (hsm:Sl 1 Zm w M m) :
 Calls Tryz.prog 99 #[.agg #[Sv a.A p.length a.c],Sv M m.length cm,Vi d] w λ x w'=>∃ v,x=.returned (.tuple #[.agg #[v],Bv (Yv (XL m d) p)])/\XI 136 3 Xd w' w.heap.size v (YR (XL m d) p)/\Below w.heap.size w w':=by
 refine YN Tryz.func99 rfl (n:=13) Tryz.ntmps99 Sz ?_;intro a0 S K ha;have s0:a0.tmps[0]?.getD undef=.agg #[Sv a.A p.length a.c]:=ha 0 _ rfl;have s1:a0.tmps[1]?.getD undef=Sv M m.length cm:=ha 1 _ rfl;have s2:a0.tmps[2]?.getD undef=Vi d:=ha 2 _ rfl;clear ha;have P:=Below.refl w.heap.size w;have V:=Nat.le_refl w.heap.size;refine wp_seq ?_;refine Yt [3,4,5,6,7] [Pz w.heap.size,Pz (w.heap.size+1),Pz (w.heap.size+2),Pz (w.heap.size+3),Bf] [some (.cells [Sv a.A p.length a.c].toArray 26),some (.cells [Sv M m.length cm].toArray 23),some (.cells [Vi d].toArray 3),some (.cells [Nz].toArray 26),none] [0,1,2,3,4] [3,4,5,6,7] [0,1,2,3,4] (by kernel_rfl) (by rw [S];decide) (ec ?_ (ec ?_ (ec ?_ (ec ?_ (ec ?_ .nil))))) ?_
 ·intro a w' J hs N Q C;simp [go_sem,J.g rfl s0];rw [hs];exact C
 ·intro a w' J hs N Q C;simp [go_sem,J.g rfl s1];rw [hs];exact C
 ·intro a w' J hs N Q C;simp [go_sem,J.g rfl s2];rw [hs];exact C
 ·intro a w' J hs N Q C;simp [go_sem];rw [hs];exact C
 ·intro a w' J hs N Q C;simp [go_sem];exact C
 intro a1 w2 J R hb hO;replace S:=J.size.trans S;replace K:=J.defers.trans K;have s3:a1.tmps[3]?.getD undef=Pz w.heap.size:=R 0 Dz;have s4:a1.tmps[4]?.getD undef=Pz (w.heap.size+1):=R 1 Dz;have s5:a1.tmps[5]?.getD undef=Pz (w.heap.size+2):=R 2 Dz;have s6:a1.tmps[6]?.getD undef=Pz (w.heap.size+3):=R 3 Dz;have b3:Xz w2 w.heap.size 26 [Sv a.A p.length a.c]:=hO 0 _ rfl;have b4:Xz w2 (w.heap.size+1) 23 [Sv M m.length cm]:=hO 1 _ rfl;have b5:Xz w2 (w.heap.size+2) 3 [Vi d]:=hO 2 _ rfl;have b6:Xz w2 (w.heap.size+3) 26 [Nz]:=hO 3 _ rfl;have hG:=b6.lt;replace P:=Xe P hb;have zw2:=Nat.le_trans V hb.size;replace V:=Nat.le_refl w2.heap.size;clear J R hb hO s0 s1 s2;refine Xk (wp_seq ?_);have O:Xf [10,11] (λ L aa D=>(L 2=true->(λ D v=>∃ A1 c1,v=.tuple #[.agg #[Sv A1 ((YR (XL m d) p).length) c1],Bv (Yv (XL m d) p)]/\XI 136 3 Xd D w2.heap.size (Sv A1 (YR (XL m d) p).length c1) (YR (XL m d) p)) D (aa.tmps[10]?.getD undef))/\(L 3=true->(λ D v=>∃ A1 c1,v=.agg #[Sv A1 ((YR (XL m d) p).length) c1]/\XI 136 3 Xd D w2.heap.size (Sv A1 (YR (XL m d) p).length c1) (YR (XL m d) p)) D (aa.tmps[11]?.getD undef))/\X6 D (w.heap.size+3) 26 [Nz] (L 5) (λ D vs=>∃ A1 c1,vs=[Sv A1 ((YR (XL m d) p).length) c1]/\XI 136 3 Xd D w2.heap.size (Sv A1 (YR (XL m d) p).length c1) (YR (XL m d) p))):=by
  intro L aa D w' kk vv hkk hb X;obtain ⟨x0,x1,x2⟩:=X;exact ⟨(λ h=>by rw [Xg (hkk 10 Sz)];obtain ⟨A1',c1',e,f1'⟩:=x0 h;exact ⟨A1',c1',e,f1'.below hb XE⟩),(λ h=>by rw [Xg (hkk 11 Sz)];obtain ⟨A1',c1',e,f1'⟩:=x1 h;exact ⟨A1',c1',e,f1'.below hb XE⟩),(x2.bel hb (λ _ ⟨A1',c1',e,f1'⟩=>⟨A1',c1',e,f1'.below hb XE⟩))⟩
 refine Xr O [8,9,10,11,12,0,7] [some (.agg #[Sv a.A p.length a.c]),some (.func (.func 144) #[] #[Pz (w.heap.size+1),Pz (w.heap.size+2)]),none,none,some (Bv (Yv (XL m d) p)),none,some (Bv (Yv (XL m d) p))] (Yc 7) [8,9,10,11,12,7] [(w.heap.size+3)] ?_ (e4 ?_ ?_ ?_ ?_ (e2 ?_ ?_ (en rfl ?_ .nil))) ?_
 ·exact λ _ h=>⟨Cz,Cz,(⟨λ _=>b6.kp h Sz,Cz⟩)⟩
 ·intro I F D H _ _ C;simp [go_sem,H.f.g rfl s3,(b3.kp H.k (by simp<;>omega)).cell];exact (C _ _ H.k rfl (O.q rfl H.x))
 ·intro I F D H _ _ C;simp [go_sem,H.f.g rfl s4,H.f.g rfl s5];exact (C _ _ H.k rfl (O.q rfl H.x))
 ·intro I F D H _ _ C;obtain ⟨x0,x1,x2⟩:=H.x;simp [go_sem,(gS F 8 (H.d 0 rfl rfl)),(gS F 9 (H.d 1 rfl rfl))];have hBi:=H.k.below P P.size (by simp<;>omega);refine (iMovP_c p m d a M cm (w.heap.size+1) (w.heap.size+2) D hp hM (hsp.below hBi) ⟨b4.kp H.k Sz,b5.kp H.k Sz,hsm.below hBi⟩).mono ?_;rintro x wx ⟨_,rfl,⟨A1,c1,rfl,f0⟩,hb⟩;have f1:=XI.mono (show XI 136 3 Xd wx D.heap.size (Sv A1 (YR (XL m d) p).length c1) (YR (XL m d) p) from ⟨_,_,rfl,f0⟩) H.k.size;exact (C _ _ (H.k.call hb) trivial ⟨(λ _=>by rw [Xw (H.f.lt (by rw [S];decide))];exact ⟨A1,c1,rfl,f1⟩),(λ h=>by rw [Xg Dz];obtain ⟨A1',c1',e,f1'⟩:=x1 h;exact ⟨A1',c1',e,f1'.below hb XE⟩),(x2.bel hb (λ _ ⟨A1',c1',e,f1'⟩=>⟨A1',c1',e,f1'.below hb XE⟩))⟩)
 ·intro I F D H _ _ C;obtain ⟨x0,x1,x2⟩:=H.x;obtain ⟨A1,c1,ee2,f1⟩:=x0 (H.r 2 rfl);exact XP rfl (ev ee2) rfl (C _ _ H.k trivial ⟨(λ h=>by rw [Xg Dz];obtain ⟨A1',c1',e,f1'⟩:=x0 h;exact ⟨A1',c1',e,f1'.below bR XE⟩),(λ _=>by rw [Xw (H.f.lt (by rw [S];decide))];exact ⟨A1,c1,rfl,f1⟩),(x2.bel bR (λ _ ⟨A1',c1',e,f1'⟩=>⟨A1',c1',e,f1'.below bR XE⟩))⟩)
 ·intro I F D H _ _ C;obtain ⟨x0,x1,x2⟩:=H.x;obtain ⟨A1,c1,ee2,f1⟩:=x0 (H.r 2 rfl);exact XP rfl (ev ee2) rfl (C _ _ H.k rfl (O.q rfl H.x))
 ·intro I F D H _ _ C;obtain ⟨x0,x1,x2⟩:=H.x;obtain ⟨A1,c1,ee3,f1⟩:=x1 (H.r 3 rfl);have T:=x2.1 H.n;simp [go_sem,ee3,H.f.g rfl s6,T.cell,T.frz];have f1:=f1.otherC (f1.typ T Dz) [Sv A1 ((YR (XL m d) p).length) c1] 0;exact C undef _ (H.k.store (.inr Sz) [Sv A1 ((YR (XL m d) p).length) c1] 0) trivial ⟨(λ h=>by obtain ⟨A1',c1',e,f1'⟩:=x0 h;exact ⟨A1',c1',e,f1'.otherC (f1'.typ T Dz) [Sv A1 ((YR (XL m d) p).length) c1] 0⟩),(λ h=>by obtain ⟨A1',c1',e,f1'⟩:=x1 h;exact ⟨A1',c1',e,f1'.otherC (f1'.typ T Dz) [Sv A1 ((YR (XL m d) p).length) c1] 0⟩),(X6.set T (us:=[Sv A1 ((YR (XL m d) p).length) c1]) rfl ⟨A1,c1,rfl,f1⟩)⟩
 ·exact KW 4 rfl rfl rfl rfl λ _ _ _ _=>O.q rfl
 intro L a7 w8 Y J U R X;obtain ⟨x0,x1,x2⟩:=X;replace S:=J.Z S;replace K:=J.E K;replace s6:=J.G s6;have s7:=gS a7 7 (R 6 _ rfl);clear b6;obtain ⟨_,b6,A1,c1,rfl,N1⟩:=x2.2 (Y 5 Dz);have i1:∀ p,A1=some p->p.block<w8.heap.size:=λ p hp=>(N1.blk p hp).2;have zw8:=U.size;replace V:=Nat.le_refl w8.heap.size;replace P:=U.below P P.size (by simp<;>omega);clear J U R Y x0 x1 x2 O s3 s4 s5 b3 b4 b5;refine Xk (wp_ret ?_);refine bodyPost_ret (v:=.tuple #[.agg #[Sv A1 ((YR (XL m d) p).length) c1],Bv (Yv (XL m d) p)]) (by simp [results,Tryz.results99,go_sem,s6,b6.cell,s7]) K ?_;exact ⟨_,rfl,N1.mono Oz,P⟩
end Go.Proofs.YtbekjpkcicjcgaaGreat
