/-
 The region of the points that a map moves into a region: of the program.
 Conditions: valid regions and maps.
-/
import Derived.Test.YtdncnhcffbgjhaaGreatGrU
import Derived.Test.YtdncnhcffbgjhaaGreatGrXc
import Derived.Test.YtdncnhcffbgjhaaGreatGrV
namespace Go.Proofs.YtdncnhcffbgjhaaGreat
open Go.RowKit
def pulH (m:List Int) (d:Int) (h:Half):Option Half:=halfOf (h.a*m.getD 0 0+h.b*m.getD 2 0) (h.a*m.getD 1 0+h.b*m.getD 3 0) (h.c*d)
theorem pulH_ok {m:List Int} {d:Int} {h g:Half} (e:pulH m d h=some g):halfOk g=true:=halfOf_ok e
structure MapIn (m:List Int) (d:Int):Prop where
 len:m.length=4
 m:∀ i,-20≤m.getD i 0∧m.getD i 0≤20
 d:1≤d∧d≤20
theorem mapIn {r:Room} (h:roomOk r=true):MapIn r.map r.div:=⟨(roomB h).len,(roomB h).m,(roomB h).div⟩
structure PulB (m:List Int) (d:Int) (h:Half):Prop where
 a0 : -1000000≤h.a*m.getD 0 0∧h.a*m.getD 0 0≤1000000
 b2 : -1000000≤h.b*m.getD 2 0∧h.b*m.getD 2 0≤1000000
 a1 : -1000000≤h.a*m.getD 1 0∧h.a*m.getD 1 0≤1000000
 b3 : -1000000≤h.b*m.getD 3 0∧h.b*m.getD 3 0≤1000000
 c : -2000000000≤h.c*d∧h.c*d≤2000000000
theorem pulB {m:List Int} {d:Int} {h:Half} (hM:MapIn m d) (hh:halfOk h=true):PulB m d h:=by
 obtain ⟨a1,a2,a3,_⟩:=halfOk_iff.1 hh
 have p:=fun i=>mulB (a:=h.a) (b:=m.getD i 0) (A:=50000) (B:=20) a1 (hM.m i)
 have q:=fun i=>mulB (a:=h.b) (b:=m.getD i 0) (A:=50000) (B:=20) a2 (hM.m i)
 have c:=mulB (a:=h.c) (b:=d) (A:=100000000) (B:=20) a3 (by have:=hM.d;omega)
 exact ⟨by have:=p 0;omega,by have:=q 2;omega,by have:=p 1;omega,by have:=q 3;omega,by omega⟩
structure PulW (w:World) (gm gq:Nat) (M:Option Addr) (cm:Nat) (m:List Int) (d:Int):Prop where
 bm:HasT w gm 22 [.slice M m.length cm]
 bq:HasT w gq 3 [.int .i64 d]
 sl:Sl 1 intC w M m
theorem PulW.below {w w':World} {gm gq:Nat} {M:Option Addr} {cm:Nat} {m:List Int} {d:Int} (h:PulW w gm gq M cm m d) (hb:Below w.heap.size w w'):PulW w' gm gq M cm m d:=⟨h.bm.bel hb,h.bq.bel hb,h.sl.below hb⟩
theorem PulW.alloc {w:World} {gm gq:Nat} {M:Option Addr} {cm:Nat} {m:List Int} {d:Int} (h:PulW w gm gq M cm m d) (o:Obj):PulW (w.alloc o) gm gq M cm m d:=h.below (below_al bR o)
theorem optHalf_eq (x:Option Half):optHalfV x=.tuple #[halfV (x.getD half0),.bool x.isSome]:=by cases x<;>rfl
set_option maxRecDepth 100000 in
set_option maxHeartbeats 3000000 in
theorem iPulC_c (h:Half) (m:List Int) (d:Int) (M:Option Addr) (cm gm gq:Nat) (w:World) (hh:halfOk h=true) (hM:MapIn m d) (hW:PulW w gm gq M cm m d) :
 Calls Tryz.prog 222 #[halfV h,.pointer (some ⟨gm,0,none⟩),.pointer (some ⟨gq,0,none⟩)] w fun x w'=>x=.returned (optHalfV (pulH m d h))∧Below w.heap.size w w':=by
 have bgm:=hW.bm
 have bgq:=hW.bq
 have hgm:=bgm.lt
 have hgq:=bgq.lt
 refine calls_v Tryz.func222 rfl (n:=39) Tryz.ntmps222 (by simp) ?_
 intro a0 hz hdf ha
 have s0:a0.tmps[0]?.getD undef=halfV h:=ha 0 _ rfl;have s1:a0.tmps[1]?.getD undef=.pointer (some ⟨gm,0,none⟩):=ha 1 _ rfl;have s2:a0.tmps[2]?.getD undef=.pointer (some ⟨gq,0,none⟩):=ha 2 _ rfl;clear ha
 have hB:=Below.refl w.heap.size w
 have hZ:=Nat.le_refl w.heap.size
 refine wp_seq ?_
 refine wp_entry [3,4,5] [.pointer (some ⟨w.heap.size,0,none⟩),.pointer (some ⟨(w.heap.size+1),0,none⟩),.bool false] [some (.cells [.int .i64 h.a,.int .i64 h.b,.int .i64 h.c].toArray 111),some (.cells [.int .i64 0,.int .i64 0,.int .i64 0].toArray 111),none] [0,1,2] [3,4,5] [0,1,2] (by kernel_rfl) (by rw [hz];decide) (ec ?_ (ec ?_ (ec ?_ .nil))) ?_
 ·intro a w' hF hs N Q hN;simp [go_sem,hF.g rfl s0];rw [hs];exact hN
 ·intro a w' hF hs N Q hN;simp [go_sem];rw [hs];exact hN
 ·intro a w' hF hs N Q hN;simp [go_sem];exact hN
 intro a1 w2 hF hV hb hO
 replace hz:=hF.size.trans hz;replace hdf:=hF.defers.trans hdf;replace s1:=hF.g rfl s1;replace s2:=hF.g rfl s2;replace bgm:=bgm.bel hb;replace bgq:=bgq.bel hb
 have s3:a1.tmps[3]?.getD undef=.pointer (some ⟨w.heap.size,0,none⟩):=hV 0 (by decide)
 have s4:a1.tmps[4]?.getD undef=.pointer (some ⟨(w.heap.size+1),0,none⟩):=hV 1 (by decide)
 have b3:HasT w2 w.heap.size 111 [.int .i64 h.a,.int .i64 h.b,.int .i64 h.c]:=hO 0 _ rfl
 have b4:HasT w2 (w.heap.size+1) 111 [.int .i64 0,.int .i64 0,.int .i64 0]:=hO 1 _ rfl
 have hG:=b4.lt
 replace hB:=below_tr hB hb;have zw2:=Nat.le_trans hZ hb.size;replace hZ:=Nat.le_refl w2.heap.size;clear hF hV hb hO s0;refine th_n ?_;refine wp_seq ?_
 obtain ⟨⟨k1,k2⟩,⟨k3,k4⟩,⟨k5,k6⟩,⟨k7,k8⟩,⟨k9,k10⟩⟩:=pulB hM hh
 have hml:=hM.len
 obtain ⟨bm,om,em,fm⟩:=ElS.open_ hW.sl (by rw [hml];omega)
 have hbm:=fm.1
 replace fm:=fm.bel hB
 have hXb:StaysX [] (fun L aa ww=>PreX ww (w.heap.size+1) 111 [.int .i64 0,.int .i64 0,.int .i64 0] (L 33) (fun _ vs=>vs=[.int .i64 (((pulH m d h).getD half0).a),.int .i64 (((pulH m d h).getD half0).b),.int .i64 (((pulH m d h).getD half0).c)])):=by
  intro L aa ww w' kk vv hkk hb hX
  have x0:=hX
  exact (x0.bel hb (fun _ h=>h))
 refine wp_regK hXb (by kernel_rfl) [6,7,8,9,10,11,12,13,14,15,16,17,18,19,20,21,22,23,24,25,26,27,28,29,30,31,32,33,34,35,36,37,38,0,5] [some (.pointer (some ⟨w.heap.size,0,none⟩)),some (.int .i64 h.a),some (.slice M m.length cm),some (.pointer (some ⟨bm,om,none⟩)),some (.int .i64 (m.getD 0 0)),some (.int .i64 (h.a*(m.getD 0 0))),some (.pointer (some ⟨w.heap.size,1,none⟩)),some (.int .i64 h.b),some (.slice M m.length cm),some (.pointer (some ⟨bm,om+2,none⟩)),some (.int .i64 (m.getD 2 0)),some (.int .i64 (h.b*(m.getD 2 0))),some (.int .i64 ((h.a*(m.getD 0 0))+(h.b*(m.getD 2 0)))),some (.pointer (some ⟨w.heap.size,0,none⟩)),some (.int .i64 h.a),some (.slice M m.length cm),some (.pointer (some ⟨bm,om+1,none⟩)),some (.int .i64 (m.getD 1 0)),some (.int .i64 (h.a*(m.getD 1 0))),some (.pointer (some ⟨w.heap.size,1,none⟩)),some (.int .i64 h.b),some (.slice M m.length cm),some (.pointer (some ⟨bm,om+3,none⟩)),some (.int .i64 (m.getD 3 0)),some (.int .i64 (h.b*(m.getD 3 0))),some (.int .i64 ((h.a*(m.getD 1 0))+(h.b*(m.getD 3 0)))),some (.pointer (some ⟨w.heap.size,2,none⟩)),some (.int .i64 h.c),some (.int .i64 d),some (.int .i64 (h.c*d)),some (.tuple #[halfV ((pulH m d h).getD half0),.bool ((pulH m d h).isSome)]),some (halfV ((pulH m d h).getD half0)),some (.bool ((pulH m d h).isSome)),none,some (.bool ((pulH m d h).isSome))] ([[],[0],[],[2],[2,3],[0,1,2,3,4],[],[6],[],[8],[8,9],[6,7,8,9,10],[0,1,2,3,4,5,6,7,8,9,10,11],[],[13],[],[15],[15,16],[13,14,15,16,17],[],[19],[],[21],[21,22],[19,20,21,22,23],[13,14,15,16,17,18,19,20,21,22,23,24],[],[26],[],[26,27,28],[0,1,2,3,4,5,6,7,8,9,10,11,12,13,14,15,16,17,18,19,20,21,22,23,24,25,26,27,28,29],[0,1,2,3,4,5,6,7,8,9,10,11,12,13,14,15,16,17,18,19,20,21,22,23,24,25,26,27,28,29,30],[0,1,2,3,4,5,6,7,8,9,10,11,12,13,14,15,16,17,18,19,20,21,22,23,24,25,26,27,28,29,30],[0,1,2,3,4,5,6,7,8,9,10,11,12,13,14,15,16,17,18,19,20,21,22,23,24,25,26,27,28,29,30,31,32],[0,1,2,3,4,5,6,7,8,9,10,11,12,13,14,15,16,17,18,19,20,21,22,23,24,25,26,27,28,29,30,31,32,33]]) [6,7,8,9,10,11,12,13,14,15,16,17,18,19,20,21,22,23,24,25,26,27,28,29,30,31,32,33,34,35,36,37,38,5] [0,1,2,3,4,5,6,7,8,9,10,11,12,13,14,15,16,17,18,19,20,21,22,23,24,25,26,27,28,29,30,31,32,33,34] [(w.heap.size+1)] (by kernel_rfl) (by rw [hz];decide) ?_ (en rfl ?_ (en rfl ?_ (en rfl ?_ (en rfl ?_ (en rfl ?_ (en rfl ?_ (en rfl ?_ (en rfl ?_ (en rfl ?_ (en rfl ?_ (en rfl ?_ (en rfl ?_ (en rfl ?_ (en rfl ?_ (en rfl ?_ (en rfl ?_ (en rfl ?_ (en rfl ?_ (en rfl ?_ (en rfl ?_ (en rfl ?_ (en rfl ?_ (en rfl ?_ (en rfl ?_ (en rfl ?_ (en rfl ?_ (en rfl ?_ (en rfl ?_ (en rfl ?_ (en rfl ?_ (en rfl ?_ (en rfl ?_ (en rfl ?_ (en rfl ?_ (en rfl ?_ .nil))))))))))))))))))))))))))))))))))) ?_
 ·exact fun _ h=>(⟨fun _=>b4.kp h (by simp),(fun h=>by cases h)⟩)
 ·intro Lk ak ww H _ _ hN
  simp [go_sem,H.f.g rfl s3]
  exact (hN _ _ H.k rfl H.x)
 ·intro Lk ak ww H _ _ hN
  simp [go_sem,(gS ak 6 (H.d 0 rfl rfl)),(b3.kp H.k (by simp<;>omega)).cell]
  exact (hN _ _ H.k rfl H.x)
 ·intro Lk ak ww H _ _ hN
  simp [go_sem,H.f.g rfl s1,(bgm.kp H.k (by simp<;>omega)).cell]
  exact (hN _ _ H.k rfl H.x)
 ·intro Lk ak ww H _ _ hN
  simp [go_sem,(gS ak 8 (H.d 2 rfl rfl)),hml,em]
  exact (hN _ _ H.k rfl H.x)
 ·intro Lk ak ww H _ _ hN
  have hE:=fm.kp H.k (by simp<;>omega)
  simp [go_sem,(gS ak 9 (H.d 3 rfl rfl)),(hE.at_ 0 (i:=0) (by omega) 0 (p:=om) (by omega) rfl)]
  exact (hN _ _ H.k rfl H.x)
 ·exact fun Lk ak ww H _ _ hN=>wp_mul rfl (ev (H.d 1 rfl rfl)) (ev (H.d 4 rfl rfl)) (by omega) (hN _ _ H.k rfl H.x)
 ·intro Lk ak ww H _ _ hN
  simp [go_sem,H.f.g rfl s3]
  exact (hN _ _ H.k rfl H.x)
 ·intro Lk ak ww H _ _ hN
  simp [go_sem,(gS ak 12 (H.d 6 rfl rfl)),(b3.kp H.k (by simp<;>omega)).cell]
  exact (hN _ _ H.k rfl H.x)
 ·intro Lk ak ww H _ _ hN
  simp [go_sem,H.f.g rfl s1,(bgm.kp H.k (by simp<;>omega)).cell]
  exact (hN _ _ H.k rfl H.x)
 ·intro Lk ak ww H _ _ hN
  simp [go_sem,(gS ak 14 (H.d 8 rfl rfl)),hml,em]
  exact (hN _ _ H.k rfl H.x)
 ·intro Lk ak ww H _ _ hN
  have hE:=fm.kp H.k (by simp<;>omega)
  simp [go_sem,(gS ak 15 (H.d 9 rfl rfl)),(hE.at_ 0 (i:=2) (by omega) 0 (p:=om+2) (by omega) rfl)]
  exact (hN _ _ H.k rfl H.x)
 ·exact fun Lk ak ww H _ _ hN=>wp_mul rfl (ev (H.d 7 rfl rfl)) (ev (H.d 10 rfl rfl)) (by omega) (hN _ _ H.k rfl H.x)
 ·exact fun Lk ak ww H _ _ hN=>wp_add rfl (ev (H.d 5 rfl rfl)) (ev (H.d 11 rfl rfl)) (by omega) (hN _ _ H.k rfl H.x)
 ·intro Lk ak ww H _ _ hN
  simp [go_sem,H.f.g rfl s3]
  exact (hN _ _ H.k rfl H.x)
 ·intro Lk ak ww H _ _ hN
  simp [go_sem,(gS ak 19 (H.d 13 rfl rfl)),(b3.kp H.k (by simp<;>omega)).cell]
  exact (hN _ _ H.k rfl H.x)
 ·intro Lk ak ww H _ _ hN
  simp [go_sem,H.f.g rfl s1,(bgm.kp H.k (by simp<;>omega)).cell]
  exact (hN _ _ H.k rfl H.x)
 ·intro Lk ak ww H _ _ hN
  simp [go_sem,(gS ak 21 (H.d 15 rfl rfl)),hml,em]
  exact (hN _ _ H.k rfl H.x)
 ·intro Lk ak ww H _ _ hN
  have hE:=fm.kp H.k (by simp<;>omega)
  simp [go_sem,(gS ak 22 (H.d 16 rfl rfl)),(hE.at_ 0 (i:=1) (by omega) 0 (p:=om+1) (by omega) rfl)]
  exact (hN _ _ H.k rfl H.x)
 ·exact fun Lk ak ww H _ _ hN=>wp_mul rfl (ev (H.d 14 rfl rfl)) (ev (H.d 17 rfl rfl)) (by omega) (hN _ _ H.k rfl H.x)
 ·intro Lk ak ww H _ _ hN
  simp [go_sem,H.f.g rfl s3]
  exact (hN _ _ H.k rfl H.x)
 ·intro Lk ak ww H _ _ hN
  simp [go_sem,(gS ak 25 (H.d 19 rfl rfl)),(b3.kp H.k (by simp<;>omega)).cell]
  exact (hN _ _ H.k rfl H.x)
 ·intro Lk ak ww H _ _ hN
  simp [go_sem,H.f.g rfl s1,(bgm.kp H.k (by simp<;>omega)).cell]
  exact (hN _ _ H.k rfl H.x)
 ·intro Lk ak ww H _ _ hN
  simp [go_sem,(gS ak 27 (H.d 21 rfl rfl)),hml,em]
  exact (hN _ _ H.k rfl H.x)
 ·intro Lk ak ww H _ _ hN
  have hE:=fm.kp H.k (by simp<;>omega)
  simp [go_sem,(gS ak 28 (H.d 22 rfl rfl)),(hE.at_ 0 (i:=3) (by omega) 0 (p:=om+3) (by omega) rfl)]
  exact (hN _ _ H.k rfl H.x)
 ·exact fun Lk ak ww H _ _ hN=>wp_mul rfl (ev (H.d 20 rfl rfl)) (ev (H.d 23 rfl rfl)) (by omega) (hN _ _ H.k rfl H.x)
 ·exact fun Lk ak ww H _ _ hN=>wp_add rfl (ev (H.d 18 rfl rfl)) (ev (H.d 24 rfl rfl)) (by omega) (hN _ _ H.k rfl H.x)
 ·intro Lk ak ww H _ _ hN
  simp [go_sem,H.f.g rfl s3]
  exact (hN _ _ H.k rfl H.x)
 ·intro Lk ak ww H _ _ hN
  simp [go_sem,(gS ak 32 (H.d 26 rfl rfl)),(b3.kp H.k (by simp<;>omega)).cell]
  exact (hN _ _ H.k rfl H.x)
 ·intro Lk ak ww H _ _ hN
  simp [go_sem,H.f.g rfl s2,(bgq.kp H.k (by simp<;>omega)).cell]
  exact (hN _ _ H.k rfl H.x)
 ·exact fun Lk ak ww H _ _ hN=>wp_mul rfl (ev (H.d 27 rfl rfl)) (ev (H.d 28 rfl rfl)) (by omega) (hN _ _ H.k rfl H.x)
 ·intro Lk ak ww H _ _ hN
  simp [go_sem,(gS ak 18 (H.d 12 rfl rfl)),(gS ak 31 (H.d 25 rfl rfl)),(gS ak 35 (H.d 29 rfl rfl))]
  refine (show Calls Tryz.prog 134 #[.int .i64 (h.a*m.getD 0 0+h.b*m.getD 2 0),.int .i64 (h.a*m.getD 1 0+h.b*m.getD 3 0),.int .i64 (h.c*d)] ww (fun e w'=>e=.returned (optHalfV (pulH m d h))∧Below ww.heap.size ww w') from iHalfOf_c _ _ _ ww ⟨by omega,by omega⟩ ⟨by omega,by omega⟩ ⟨by omega,by omega⟩).mono ?_
  rintro x wx ⟨rfl,hb⟩
  exact (hN _ _ (H.k.call hb) (optHalf_eq _) (hXb Lk ak ww _ none undef (by simp) hb H.x))
 ·exact fun Lk ak ww H _ _ hN=>wp_extract rfl (ev (H.d 30 rfl rfl)) rfl (hN _ _ H.k rfl H.x)
 ·exact fun Lk ak ww H _ _ hN=>wp_extract rfl (ev (H.d 30 rfl rfl)) rfl (hN _ _ H.k rfl H.x)
 ·intro Lk ak ww H _ _ hN
  have x0:=H.x
  have HT:=x0.1 H.n
  simp [go_sem,(gS ak 37 (H.d 31 rfl rfl)),H.f.g rfl s4,HT.cell,HT.frz]
  exact hN undef _ (H.k.store (.inr (by simp)) [.int .i64 (((pulH m d h).getD half0).a),.int .i64 (((pulH m d h).getD half0).b),.int .i64 (((pulH m d h).getD half0).c)] 0) trivial (PreX.set HT (us:=[.int .i64 (((pulH m d h).getD half0).a),.int .i64 (((pulH m d h).getD half0).b),.int .i64 (((pulH m d h).getD half0).c)]) rfl rfl)
 ·exact fun Lk ak ww H _ _ hN=>wp_assign rfl (ev (H.d 32 rfl rfl)) (hN _ _ H.k rfl H.x)
 intro L a5 w6 hL hF hK hV hX;have x0:=hX;replace hz:=hF.Z hz;replace hdf:=hF.E hdf;replace s4:=hF.G s4;have s5:=gS a5 5 (hV 34 _ rfl)
 replace bgm:=bgm.kp hK (by simp<;>omega)
 replace bgq:=bgq.kp hK (by simp<;>omega)
 clear b4
 obtain ⟨_,b4,rfl⟩:=x0.2 (hL 33 (by decide))
 replace hZ:=Nat.le_trans hZ hK.size
 replace hB:=hK.below hB hB.size (by simp<;>omega)
 clear hF hK hV hL x0 hXb s1 s2 s3 b3 fm;refine th_n ?_
 refine wp_ret ?_
 refine bodyPost_ret (v:=.tuple #[halfV ((pulH m d h).getD half0),.bool ((pulH m d h).isSome)]) (by simp [results,Tryz.results222,go_sem,s4,b4.cell,s5]) hdf ?_
 exact ⟨by rw [optHalf_eq],hB⟩
set_option maxRecDepth 100000 in
set_option maxHeartbeats 8000000 in
theorem iMovP_c (p:List Half) (m:List Int) (d:Int) (a:SlA) (M:Option Addr) (cm gm gq:Nat) (w:World) (hp:regionOk p=true) (hM:MapIn m d) (hsp:Sl 3 halfC w a.A p) (hg:PulW w gm gq M cm m d) :
 Calls Tryz.prog 156 #[regionV p a,.func (.func 222) #[] #[.pointer (some ⟨gm,0,none⟩),.pointer (some ⟨gq,0,none⟩)]] w fun e w'=>∃ v,e=.returned (.tuple #[.agg #[v],.bool (movOk (pulH m d) p)])∧New 111 3 halfC w' w.heap.size v (movR (pulH m d) p)∧Below w.heap.size w w':=by
 obtain ⟨A,cap⟩:=a
 simp only at hsp
 obtain ⟨i0,hi0,hz0,hz1,hz2⟩:=info_parts (show (Tryz.prog.info? 111).map (fun i=>(i.zero,i.size,i.bytes))=some (some (.agg #[.int .i64 0,.int .i64 0,.int .i64 0]),3,24) by kernel_rfl)
 have hlen:=reg_len hp
 have hok:=Lib.hid (reg_ok hp)
 have hgok:=Lib.hid (fun h (_:h∈p) g (e:pulH m d h=some g)=>pulH_ok e)
 obtain ⟨W,hW⟩:∃ W,W=(w.alloc (.cells #[.slice A p.length cap] 37)).alloc (.cells #[.slice none 0 0] 37):=⟨_,rfl⟩
 have HA:Has W w.heap.size [.slice A p.length cap]:=by rw [hW];exact hasA
 have HR:Has W (w.heap.size+1) [.slice none 0 0]:=by rw [hW];exact hasA
 have b0:Below w.heap.size w W:=by rw [hW];exact belA
 have zW:w.heap.size+1<W.heap.size:=HR.1
 have HG:=hg.below b0
 have sp:=hsp.below b0
 have hW':=Lib.hid hW
 have kv:=iIsVoid_c p ⟨A,cap⟩ W
 clear hW hg hsp hp
 obtain ⟨cHA_0,fHA_0⟩:=HA.2 0 _ rfl
 have lA:=HA.1
 go_enter Tryz.func156,Tryz.ntmps156
 go_upto_region 1 with fail
 rw [← hW'.out]
 clear hW'
 by_cases h0:p.length=0
 ·have hv:=Lib.hid (mov_void (f:=pulH m d) h0)
  rw [decide_eq_true h0] at kv
  clear h0
  go_wp2_with (fail)
  refine kv.mono ?_
  rintro e w1 ⟨rfl,hb1⟩
  have R1:=HR.below hb1
  have b1:=below_tr b0 hb1
  obtain ⟨cR1_0,fR1_0⟩:=R1.2 0 _ rfl
  have lR:=R1.1
  go_wp2
  refine bodyPost_ret (v:=.tuple #[.agg #[.slice none 0 0],.bool true]) (by simp [results,Tryz.results156,go_sem, *]) rfl ⟨.slice none 0 0,by rw [hv.out.1], ?_,below_st b1 (by simp only;omega) _⟩
  rw [hv.out.2]
  exact ⟨none,0,rfl,World.ownsRow_nil _ _ _ _⟩
 rw [decide_eq_false h0] at kv
 go_wp2_with (fail)
 refine kv.mono ?_
 rintro e w1 ⟨rfl,hb1⟩
 have A1:=HA.below hb1
 have R1:=HR.below hb1
 have G1:=HG.below hb1
 have P1:=sp.below hb1
 have b1:=below_tr b0 hb1
 have z1:w.heap.size+1<w1.heap.size:=Nat.lt_of_lt_of_le zW hb1.size;clear HA HR HG sp b0 zW hb1 cHA_0 fHA_0 lA kv
 obtain ⟨cA1_0,fA1_0⟩:=A1.2 0 _ rfl
 have lA:=A1.1
 go_wp2
 go_loopw [6,8,9,10,17] (fun out _ _ _ i wr=>∃ k:Nat,k≤p.length∧i=.int .i64 k∧movAll (pulH m d) (p.take k)=true∧New 111 3 halfC wr w1.heap.size out (movL (pulH m d) (p.take k))∧Below w1.heap.size w1 wr) (fun _ _ _ _ i _=>p.length-(intOf i).toNat)
 case atStart=>exact ⟨0,Nat.zero_le _,rfl,rfl,⟨none,0,rfl,World.ownsRow_nil _ _ _ _⟩,Below.refl _ _⟩
 case round =>
  obtain ⟨k,hk,rfl,hall,N,hbr⟩:=hrel
  have br:=b1.trans (hbr.mono b1.size)
  by_cases hlt:k<p.length
  ·obtain ⟨bb,off,hA,hblt,hc⟩:=(P1.below hbr).at_ hlt
   have g0:=hc 0 _ rfl
   have g1:=hc 1 _ rfl
   have g2:=hc 2 _ rfl
   simp only [Nat.add_zero] at g0
   have c1:=fun W h1=>iPulC_c p[k] m d M cm gm gq W (hok.out _ (List.getElem_mem hlt)) hM h1
   have hno:=Lib.hid (fun h=>@mov_none (pulH m d) p k hlt h)
   have hst:=Lib.hid (fun g h=>@movL_take (pulH m d) p k g hlt h)
   have hal:=Lib.hid (fun g h=>@movAll_take (pulH m d) p k g hlt hall h)
   clear hc hall
   generalize pulH m d p[k]=o at *
   generalize p[k]=h at *
   have G2:=(G1.below hbr).alloc (.cells #[.int .i64 h.a,.int .i64 h.b,.int .i64 h.c] 111)
   have R2:=(R1.below hbr).alloc (.cells #[.int .i64 h.a,.int .i64 h.b,.int .i64 h.c] 111)
   have b2:=below_al hbr (.cells #[.int .i64 h.a,.int .i64 h.b,.int .i64 h.c] 111)
   have X2:=Has.new wr #[.int .i64 h.a,.int .i64 h.b,.int .i64 h.c] 111
   have N2:=N.alloc (.cells #[.int .i64 h.a,.int .i64 h.b,.int .i64 h.c] 111)
   subst hA
   go_upto_region 7 with fail
   clear g0 g1 g2 hblt N hbr br
   generalize wr.alloc (.cells #[.int .i64 h.a,.int .i64 h.b,.int .i64 h.c] 111)=w2 at *
   generalize wr.heap.size=gx at *
   obtain ⟨cX2_0,fX2_0⟩:=X2.2 0 _ rfl
   obtain ⟨cX2_1,fX2_1⟩:=X2.2 1 _ rfl
   obtain ⟨cX2_2,fX2_2⟩:=X2.2 2 _ rfl
   have lX:=X2.1
   go_wp2_with (fail)
   refine (c1 _ G2).mono ?_
   rintro e w3 ⟨rfl,hb3⟩
   have R3:=R2.below hb3
   have N3:=N2.below hb3 leR
   have b3:=below_tr b2 hb3
   clear X2 cX2_0 cX2_1 cX2_2 fX2_0 fX2_1 fX2_2 lX R2 N2 b2 G2 hb3 c1
   cases o with
   | none =>
    have hv:=Lib.hid (hno.out rfl)
    simp only [optHalfV]
    have R4:=R3.alloc (.cells #[.int .i64 0,.int .i64 0,.int .i64 0] 111)
    have b4:=b1.trans ((below_al b3 (.cells #[.int .i64 0,.int .i64 0,.int .i64 0] 111)).mono b1.size)
    go_upto_region 8 with fail
    clear R3 b3 N3
    generalize w3.alloc (.cells #[.int .i64 0,.int .i64 0,.int .i64 0] 111)=w4 at *
    generalize w3.heap.size=g3 at *
    obtain ⟨cR4_0,fR4_0⟩:=R4.2 0 _ rfl
    have lR:=R4.1
    go_wp2
    refine bodyPost_ret (v:=.tuple #[.agg #[.slice none 0 0],.bool false]) (by simp [results,Tryz.results156,go_sem, *]) rfl ⟨.slice none 0 0,by rw [hv.out.1], ?_,below_st b4 (by simp only;omega) _⟩
    rw [hv.out.2]
    exact ⟨none,0,rfl,World.ownsRow_nil _ _ _ _⟩
   | some g =>
    have hs2:=Lib.hid (hst.out g rfl)
    have ha2:=Lib.hid (hal.out g rfl)
    simp only [optHalfV]
    have N4:=N3.alloc (.cells #[.int .i64 g.a,.int .i64 g.b,.int .i64 g.c] 111)
    have b4:=below_al b3 (.cells #[.int .i64 g.a,.int .i64 g.b,.int .i64 g.c] 111)
    have X4:=Has.new w3 #[.int .i64 g.a,.int .i64 g.b,.int .i64 g.c] 111
    go_upto_region 8 with fail
    clear R3 b3 N3
    generalize w3.alloc (.cells #[.int .i64 g.a,.int .i64 g.b,.int .i64 g.c] 111)=w4 at *
    generalize w3.heap.size=g3 at *
    obtain ⟨cX4_0,fX4_0⟩:=X4.2 0 _ rfl
    obtain ⟨cX4_1,fX4_1⟩:=X4.2 1 _ rfl
    obtain ⟨cX4_2,fX4_2⟩:=X4.2 2 _ rfl
    have lX:=X4.1
    have hcm:(movL (pulH m d) (p.take k)).length≤1073741823:=by rw [movL_len,List.length_take];omega
    have hle:w1.heap.size≤w4.heap.size:=b4.size
    go_wp2_with (at_builtin;refine wpList_app1 halfC_len _ rfl _ _ 35 rfl w1.heap.size i0 _ 24 Tryz.underlying35 hi0 hz0 hz1 hz2 rfl (by decide) rfl (N4.alloc _) _ 1 rfl g ?c1 (halfC_one g) bR (by simp;omega) hcm (by decide) ?_)
    case c1 =>
     intro qq u hu
     exact hu
    ·intro v7 w7 hn7 hb7
     rw [← hs2.out] at hn7
     have b7:=(below_al b4 (.cells #[.int .i64 g.a,.int .i64 g.b,.int .i64 g.c] 111)).trans hb7
     clear hb7 b4 N4 X4 cX4_0 cX4_1 cX4_2 fX4_0 fX4_1 fX4_2 lX
     go_wp2
     go_roundw
     case rel=>exact ⟨k+1,by omega,by go_num,ha2.out,hn7,b7⟩
     case measure=>simp [intOf];omega
  ·obtain rfl:k=p.length:=by omega
   rw [List.take_length] at hall N
   have hv:=Lib.hid (mov_all (f:=pulH m d) h0 hall)
   have hmo:=movL_ok hgok.out hall
   have hml:=movL_len (pulH m d) p
   have R2:=R1.below hbr
   obtain ⟨Ao,co,rfl,o2⟩:=N
   have N2:New 111 3 halfC wr w1.heap.size (.slice Ao (movL (pulH m d) p).length co) (movL (pulH m d) p):=⟨Ao,co,rfl,o2⟩
   have k9:=fun W h=>iMeet_c Ao (movL (pulH m d) p) co W (by omega) hmo h N2.nilcap
   have SO:=N2.out halfC_len
   clear hall o2 hmo hml cA1_0 fA1_0 lA A1
   generalize movL (pulH m d) p=ML at *
   go_wp2_with (fail)
   refine (k9 _ SO).mono ?_
   rintro e w3 ⟨v,rfl,N3,hb3⟩
   have R3:=R2.below hb3
   have b3:=below_tr br hb3
   obtain ⟨cR3_0,fR3_0⟩:=R3.2 0 _ rfl
   have lR:=R3.1
   obtain ⟨Av,cv,rfl,o3⟩:=N3
   have N3:New 111 3 halfC w3 wr.heap.size (.slice Av (meetR (meetL ML)).length cv) (meetR (meetL ML)):=⟨Av,cv,rfl,o3⟩
   have z3:=hbr.size;clear o3 k9 SO N2
   go_wp2
   refine bodyPost_ret (v:=.tuple #[.agg #[.slice Av (meetR (meetL ML)).length cv],.bool (meetOk (meetL ML))]) (by simp [results,Tryz.results156,go_sem, *]) rfl ⟨.slice Av (meetR (meetL ML)).length cv,by rw [hv.out.1], ?_,below_st b3 (by simp only;omega) _⟩
   rw [hv.out.2]
   exact (N3.lowC (q:=⟨w.heap.size+1,0,none⟩) (by simp only;omega) [.slice Av (meetR (meetL ML)).length cv]).mono (by omega)
set_option maxRecDepth 100000 in
set_option maxHeartbeats 3000000 in
theorem iPull_c (p:List Half) (m:List Int) (d:Int) (a:SlA) (M:Option Addr) (cm:Nat) (w:World) (hp:regionOk p=true) (hM:MapIn m d) (hsp:Sl 3 halfC w a.A p) (hsm:Sl 1 intC w M m) :
 Calls Tryz.prog 206 #[.agg #[.slice a.A p.length a.c],.slice M m.length cm,.int .i64 d] w fun x w'=>∃ v,x=.returned (.tuple #[.agg #[v],.bool (movOk (pulH m d) p)])∧New 111 3 halfC w' w.heap.size v (movR (pulH m d) p)∧Below w.heap.size w w':=by
 refine calls_v Tryz.func206 rfl (n:=13) Tryz.ntmps206 (by simp) ?_
 intro a0 hz hdf ha
 have s0:a0.tmps[0]?.getD undef=.agg #[.slice a.A p.length a.c]:=ha 0 _ rfl;have s1:a0.tmps[1]?.getD undef=.slice M m.length cm:=ha 1 _ rfl;have s2:a0.tmps[2]?.getD undef=.int .i64 d:=ha 2 _ rfl;clear ha
 have hB:=Below.refl w.heap.size w
 have hZ:=Nat.le_refl w.heap.size
 refine wp_seq ?_
 refine wp_entry [3,4,5,6,7] [.pointer (some ⟨w.heap.size,0,none⟩),.pointer (some ⟨(w.heap.size+1),0,none⟩),.pointer (some ⟨(w.heap.size+2),0,none⟩),.pointer (some ⟨(w.heap.size+3),0,none⟩),.bool false] [some (.cells [.slice a.A p.length a.c].toArray 37),some (.cells [.slice M m.length cm].toArray 22),some (.cells [.int .i64 d].toArray 3),some (.cells [.slice none 0 0].toArray 37),none] [0,1,2,3,4] [3,4,5,6,7] [0,1,2,3,4] (by kernel_rfl) (by rw [hz];decide) (ec ?_ (ec ?_ (ec ?_ (ec ?_ (ec ?_ .nil))))) ?_
 ·intro a w' hF hs N Q hN;simp [go_sem,hF.g rfl s0];rw [hs];exact hN
 ·intro a w' hF hs N Q hN;simp [go_sem,hF.g rfl s1];rw [hs];exact hN
 ·intro a w' hF hs N Q hN;simp [go_sem,hF.g rfl s2];rw [hs];exact hN
 ·intro a w' hF hs N Q hN;simp [go_sem];rw [hs];exact hN
 ·intro a w' hF hs N Q hN;simp [go_sem];exact hN
 intro a1 w2 hF hV hb hO
 replace hz:=hF.size.trans hz;replace hdf:=hF.defers.trans hdf
 have s3:a1.tmps[3]?.getD undef=.pointer (some ⟨w.heap.size,0,none⟩):=hV 0 (by decide)
 have s4:a1.tmps[4]?.getD undef=.pointer (some ⟨(w.heap.size+1),0,none⟩):=hV 1 (by decide)
 have s5:a1.tmps[5]?.getD undef=.pointer (some ⟨(w.heap.size+2),0,none⟩):=hV 2 (by decide)
 have s6:a1.tmps[6]?.getD undef=.pointer (some ⟨(w.heap.size+3),0,none⟩):=hV 3 (by decide)
 have b3:HasT w2 w.heap.size 37 [.slice a.A p.length a.c]:=hO 0 _ rfl
 have b4:HasT w2 (w.heap.size+1) 22 [.slice M m.length cm]:=hO 1 _ rfl
 have b5:HasT w2 (w.heap.size+2) 3 [.int .i64 d]:=hO 2 _ rfl
 have b6:HasT w2 (w.heap.size+3) 37 [.slice none 0 0]:=hO 3 _ rfl
 have hG:=b6.lt
 replace hB:=below_tr hB hb;have zw2:=Nat.le_trans hZ hb.size;replace hZ:=Nat.le_refl w2.heap.size;clear hF hV hb hO s0 s1 s2;refine th_n ?_;refine wp_seq ?_
 have hXb:StaysX [10,11] (fun L aa ww=>(L 2=true→(fun ww v=>∃ A1 c1,v=.tuple #[.agg #[.slice A1 ((movR (pulH m d) p).length) c1],.bool (movOk (pulH m d) p)]∧New 111 3 halfC ww w2.heap.size (.slice A1 (movR (pulH m d) p).length c1) (movR (pulH m d) p)) ww (aa.tmps[10]?.getD undef))∧(L 3=true→(fun ww v=>∃ A1 c1,v=.agg #[.slice A1 ((movR (pulH m d) p).length) c1]∧New 111 3 halfC ww w2.heap.size (.slice A1 (movR (pulH m d) p).length c1) (movR (pulH m d) p)) ww (aa.tmps[11]?.getD undef))∧PreX ww (w.heap.size+3) 37 [.slice none 0 0] (L 5) (fun ww vs=>∃ A1 c1,vs=[.slice A1 ((movR (pulH m d) p).length) c1]∧New 111 3 halfC ww w2.heap.size (.slice A1 (movR (pulH m d) p).length c1) (movR (pulH m d) p))):=by
  intro L aa ww w' kk vv hkk hb hX
  obtain ⟨x0,x1,x2⟩:=hX
  exact ⟨(fun h=>by rw [put_ne' (hkk 10 (by simp))];obtain ⟨A1',c1',e,f1'⟩:=x0 h;exact ⟨A1',c1',e,f1'.below hb leR⟩),(fun h=>by rw [put_ne' (hkk 11 (by simp))];obtain ⟨A1',c1',e,f1'⟩:=x1 h;exact ⟨A1',c1',e,f1'.below hb leR⟩),(x2.bel hb (fun _ ⟨A1',c1',e,f1'⟩=>⟨A1',c1',e,f1'.below hb leR⟩))⟩
 refine wp_regK hXb (by kernel_rfl) [8,9,10,11,12,0,7] [some (.agg #[.slice a.A p.length a.c]),some (.func (.func 222) #[] #[.pointer (some ⟨(w.heap.size+1),0,none⟩),.pointer (some ⟨(w.heap.size+2),0,none⟩)]),none,none,some (.bool (movOk (pulH m d) p)),none,some (.bool (movOk (pulH m d) p))] (dlR 7) [8,9,10,11,12,7] [0,1,2,3,4,5,6] [(w.heap.size+3)] (by kernel_rfl) (by rw [hz];decide) ?_ (en rfl ?_ (en rfl ?_ (en rfl ?_ (en rfl ?_ (en rfl ?_ (en rfl ?_ (en rfl ?_ .nil))))))) ?_
 ·exact fun _ h=>⟨(fun h=>by cases h),(fun h=>by cases h),(⟨fun _=>b6.kp h (by simp),(fun h=>by cases h)⟩)⟩
 ·intro Lk ak ww H _ _ hN
  simp [go_sem,H.f.g rfl s3,(b3.kp H.k (by simp<;>omega)).cell]
  exact (hN _ _ H.k rfl (hXb.q rfl H.x))
 ·intro Lk ak ww H _ _ hN
  simp [go_sem,H.f.g rfl s4,H.f.g rfl s5]
  exact (hN _ _ H.k rfl (hXb.q rfl H.x))
 ·intro Lk ak ww H _ _ hN
  obtain ⟨x0,x1,x2⟩:=H.x
  simp [go_sem,(gS ak 8 (H.d 0 rfl rfl)),(gS ak 9 (H.d 1 rfl rfl))]
  have hBi:=H.k.below hB hB.size (by simp<;>omega)
  refine (iMovP_c p m d a M cm (w.heap.size+1) (w.heap.size+2) ww hp hM (hsp.below hBi) ⟨b4.kp H.k (by simp),b5.kp H.k (by simp),hsm.below hBi⟩).mono ?_
  rintro x wx ⟨_,rfl,⟨A1,c1,rfl,f0⟩,hb⟩
  have f1:=New.mono (show New 111 3 halfC wx ww.heap.size (.slice A1 (movR (pulH m d) p).length c1) (movR (pulH m d) p) from ⟨_,_,rfl,f0⟩) H.k.size
  exact (hN _ _ (H.k.call hb) trivial ⟨(fun _=>by rw [put_get_self (H.f.lt (by rw [hz];decide))];exact ⟨A1,c1,rfl,f1⟩),(fun h=>by rw [put_ne' (by decide)];obtain ⟨A1',c1',e,f1'⟩:=x1 h;exact ⟨A1',c1',e,f1'.below hb leR⟩),(x2.bel hb (fun _ ⟨A1',c1',e,f1'⟩=>⟨A1',c1',e,f1'.below hb leR⟩))⟩)
 ·intro Lk ak ww H _ _ hN
  obtain ⟨x0,x1,x2⟩:=H.x
  obtain ⟨A1,c1,ee2,f1⟩:=x0 (H.r 2 rfl)
  exact wp_extract rfl (ev ee2) rfl (hN _ _ H.k trivial ⟨(fun h=>by rw [put_ne' (by decide)];obtain ⟨A1',c1',e,f1'⟩:=x0 h;exact ⟨A1',c1',e,f1'.below bR leR⟩),(fun _=>by rw [put_get_self (H.f.lt (by rw [hz];decide))];exact ⟨A1,c1,rfl,f1⟩),(x2.bel bR (fun _ ⟨A1',c1',e,f1'⟩=>⟨A1',c1',e,f1'.below bR leR⟩))⟩)
 ·intro Lk ak ww H _ _ hN
  obtain ⟨x0,x1,x2⟩:=H.x
  obtain ⟨A1,c1,ee2,f1⟩:=x0 (H.r 2 rfl)
  exact wp_extract rfl (ev ee2) rfl (hN _ _ H.k rfl (hXb.q rfl H.x))
 ·intro Lk ak ww H _ _ hN
  obtain ⟨x0,x1,x2⟩:=H.x
  obtain ⟨A1,c1,ee3,f1⟩:=x1 (H.r 3 rfl)
  have HT:=x2.1 H.n
  simp [go_sem,ee3,H.f.g rfl s6,HT.cell,HT.frz]
  have f1:=f1.otherC (f1.typ HT (by decide)) [.slice A1 ((movR (pulH m d) p).length) c1] 0
  exact hN undef _ (H.k.store (.inr (by simp)) [.slice A1 ((movR (pulH m d) p).length) c1] 0) trivial ⟨(fun h=>by obtain ⟨A1',c1',e,f1'⟩:=x0 h;exact ⟨A1',c1',e,f1'.otherC (f1'.typ HT (by decide)) [.slice A1 ((movR (pulH m d) p).length) c1] 0⟩),(fun h=>by obtain ⟨A1',c1',e,f1'⟩:=x1 h;exact ⟨A1',c1',e,f1'.otherC (f1'.typ HT (by decide)) [.slice A1 ((movR (pulH m d) p).length) c1] 0⟩),(PreX.set HT (us:=[.slice A1 ((movR (pulH m d) p).length) c1]) rfl ⟨A1,c1,rfl,f1⟩)⟩
 ·exact fun Lk ak ww H _ _ hN=>wp_assign rfl (ev (H.d 4 rfl rfl)) (hN _ _ H.k rfl (hXb.q rfl H.x))
 intro L a7 w8 hL hF hK hV hX
 obtain ⟨x0,x1,x2⟩:=hX
 replace hz:=hF.Z hz;replace hdf:=hF.E hdf;replace s6:=hF.G s6;have s7:=gS a7 7 (hV 6 _ rfl);clear b6
 obtain ⟨_,b6,A1,c1,rfl,N1⟩:=x2.2 (hL 5 (by decide))
 have i1:∀ p,A1=some p→p.block<w8.heap.size:=fun p hp=>(N1.blk p hp).2;have zw8:=hK.size;replace hZ:=Nat.le_refl w8.heap.size
 replace hB:=hK.below hB hB.size (by simp<;>omega)
 clear hF hK hV hL x0 x1 x2 hXb s3 s4 s5 b3 b4 b5;refine th_n ?_
 refine wp_ret ?_
 refine bodyPost_ret (v:=.tuple #[.agg #[.slice A1 ((movR (pulH m d) p).length) c1],.bool (movOk (pulH m d) p)]) (by simp [results,Tryz.results206,go_sem,s6,b6.cell,s7]) hdf ?_
 exact ⟨_,rfl,N1.mono (by omega),hB⟩
end Go.Proofs.YtdncnhcffbgjhaaGreat
