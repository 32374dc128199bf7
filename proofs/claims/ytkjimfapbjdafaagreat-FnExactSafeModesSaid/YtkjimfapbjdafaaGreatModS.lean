/-
 Which modes of a plant admit an input in a state, and the weakest one: of the program and of the reference.
 Conditions: the slices hold at most 2^20 elements.
-/
import Derived.Test.YtkjimfapbjdafaaGreatModM
import Derived.Test.YtkjimfapbjdafaaGreatV1
import Derived.Test.YtkjimfapbjdafaaGreatAdmD
import Derived.Test.YtkjimfapbjdafaaGreatVa
import Derived.Test.YtkjimfapbjdafaaGreatCopy
import Derived.Test.YtkjimfapbjdafaaGreatGrZ
import Derived.Test.YtkjimfapbjdafaaGreatAdi
import Derived.Test.YtkjimfapbjdafaaGreatInv2
namespace Go.Proofs.YtkjimfapbjdafaaGreat
open Go.RowKit
set_option maxRecDepth 100000 in
set_option maxHeartbeats 3000000 in
theorem iSafe_c (r:XJ) (l:List Zo) (p:List Half) (s:XC) (ra:Ye) (e:Zw) (b:Zw) (w:World) (hn:Xp r≤1048576) (hin:Y6 r) (hlin:∀ m∈l,m.In) (hs:Yh w r ra) (hnl:YV ra) (hlp:p.length≤1048576) (hpi:∀ h∈p,h.In) (hll:l.length≤1048576) (hsl:Sl 2 Zy w e.A l) (hsp:Sl 3 Xj w b.A p) (hnb:b.A=none→b.c=0) (hsi:s.In) :
 Calls Tryz.prog 22 #[XY r ra,.slice e.A l.length e.c,.agg #[.slice b.A p.length b.c],Zi s] w fun x w'=>∃ v,x=.returned v∧XK 3 1 YW w' w.heap.size v (Kf r l p s)∧Below w.heap.size w w':=by
 obtain ⟨i0n,hi0n,hz0n,hz1n,hz2n⟩:=info_parts (show (Tryz.prog.info? 3).map (fun i=>(i.zero,i.size,i.bytes))=some (some (.int .i64 0),1,8) by kernel_rfl)
 refine calls_v Tryz.func22 rfl (n:=41) Tryz.ntmps22 (by simp) ?_
 intro a0 J I ha
 have s0:a0.tmps[0]?.getD undef=XY r ra:=ha 0 _ rfl;have s1:a0.tmps[1]?.getD undef=.slice e.A l.length e.c:=ha 1 _ rfl;have s2:a0.tmps[2]?.getD undef=.agg #[.slice b.A p.length b.c]:=ha 2 _ rfl;have s3:a0.tmps[3]?.getD undef=Zi s:=ha 3 _ rfl;clear ha
 have R:=Below.refl w.heap.size w
 have S:=Nat.le_refl w.heap.size
 refine wp_seq ?_
 refine wp_entry [4,6,7,8] [.pointer (some ⟨w.heap.size,0,none⟩),.pointer (some ⟨(w.heap.size+1),0,none⟩),.pointer (some ⟨(w.heap.size+2),0,none⟩),.slice none 0 0] [some (.cells (JC r ra).toArray 39),some (.cells [.slice b.A p.length b.c].toArray 37),some (.cells [.int .i64 s.x,.int .i64 s.y,.int .i64 s.d].toArray 44),none] [0,1,2,3] [4,6,7,8] [0,1,2,3] (by kernel_rfl) (by rw [J];decide) (ec ?_ (ec ?_ (ec ?_ (ec ?_ .nil)))) ?_
 ·intro a w' B hs N Q C;simp [go_sem,B.g rfl s0];rw [hs];exact C
 ·intro a w' B hs N Q C;simp [go_sem,B.g rfl s2];rw [hs];exact C
 ·intro a w' B hs N Q C;simp [go_sem,B.g rfl s3];rw [hs];exact C
 ·intro a w' B hs N Q C;simp [go_sem];exact C
 intro a1 w2 B P hb hO
 replace J:=B.size.trans J;replace I:=B.defers.trans I;replace s1:=B.g rfl s1
 have s4:a1.tmps[4]?.getD undef=.pointer (some ⟨w.heap.size,0,none⟩):=P 0 (by decide)
 have s6:a1.tmps[6]?.getD undef=.pointer (some ⟨(w.heap.size+1),0,none⟩):=P 1 (by decide)
 have s7:a1.tmps[7]?.getD undef=.pointer (some ⟨(w.heap.size+2),0,none⟩):=P 2 (by decide)
 have b3:Xu w2 w.heap.size 39 (JC r ra):=hO 0 _ rfl
 have b4:Xu w2 (w.heap.size+1) 37 [.slice b.A p.length b.c]:=hO 1 _ rfl
 have b5:Xu w2 (w.heap.size+2) 44 [.int .i64 s.x,.int .i64 s.y,.int .i64 s.d]:=hO 2 _ rfl
 have hG:=b5.lt
 replace R:=Xb R hb;have zw2:=Nat.le_trans S hb.size;replace S:=Nat.le_refl w2.heap.size;clear B P hb hO s0 s2 s3;refine X0 ?_;refine wp_seq ?_;refine wp_seq ?_
 refine XO (by kernel_rfl) [14,15,16,17] [some (XY r ra),some (.slice e.A l.length e.c),some (.bool (YE r l)),some (.bool (!(YE r l)))] (Ka 4) [14,15,16,17] [0,1,2,3] [] (fun _ _ _=>True) (by kernel_rfl) (by rw [J];decide) ?_ (en rfl ?_ (en rfl ?_ (en rfl ?_ (en rfl ?_ .nil)))) ?_
 ·exact fun _ _=>trivial
 ·intro O K F H _ _ C
  simp [go_sem,H.f.g rfl s4,(b3.k0 H.k).cell]
  exact (C _ _ H.k rfl trivial)
 ·exact fun O K F H _ _ C=>Xs rfl (ev (H.f.g rfl s1)) (C _ _ H.k rfl trivial)
 ·intro O K F H _ _ C
  simp [go_sem,(gS K 14 (H.d 0 rfl rfl)),(gS K 15 (H.d 1 rfl rfl))]
  have hBi:=H.k.below0 R
  refine (iModesOk_c r ra e.A l e.c F hn hin hll (hs.below hBi) hnl (hsl.below hBi)).mono ?_
  rintro x wx ⟨rfl,hb⟩
  exact (C _ _ (H.k.call hb) rfl trivial)
 ·exact fun O K F H _ _ C=>Kx rfl (ev (H.d 2 rfl rfl)) (C _ _ H.k rfl trivial)
 intro L a6 w7 U B D P T;replace J:=B.Z J;replace I:=B.E I;replace s1:=B.G s1;replace s4:=B.G s4;replace s6:=B.G s6;replace s7:=B.G s7;have s17:=gS a6 17 (P 3 _ rfl);replace b3:=b3.k0 D;replace b4:=b4.k0 D;replace b5:=b5.k0 D;replace S:=Nat.le_trans S D.size;replace R:=D.below0 R;clear B D P U T;refine X0 ?_
 rcases Bool.eq_false_or_eq_true (!(YE r l)) with q8|q8
 ·skip
  refine wp_cond_true (ev (vb s17 q8)) ?_
  refine wp_seq ?_
  refine XO (by kernel_rfl) [8] [some (.slice none 0 0)] (Ka 1) [8] [0] [] (fun _ _ _=>True) (by kernel_rfl) (by rw [J];decide) ?_ (en rfl ?_ .nil) ?_
  ·exact fun _ _=>trivial
  ·exact fun O K F H _ _ C=>XA rfl rfl (C _ _ H.k rfl trivial)
  intro L a9 w10 U B D P T;replace J:=B.Z J;replace I:=B.E I;have s8:=gS a9 8 (P 0 _ rfl);replace S:=Nat.le_trans S D.size;replace R:=D.below0 R;clear B D P U T s1 s4 s6 s7 s17 b3 b4 b5;refine X0 ?_
  refine wp_ret ?_
  refine th_r ?_
  refine bodyPost_ret (v:=.slice none 0 0) (by simp [results,Tryz.results22,go_sem,s8]) I ?_
  have h0:=sf_no (p:=p) (s:=s) (not_t q8)
  exact ⟨_,rfl,by rw [h0];exact XK.nilN _ _ _ _ _,R⟩
 ·skip
  have hm:=not_f q8
  have hl4:=(modes_room hm).2.2
  have hm4:=modes_map hm
  refine wp_cond_false (ev (vb s17 q8)) ?_
  refine wp_skip ?_;refine X0 ?_;refine wp_seq ?_
  refine XO (by kernel_rfl) [9] [some (.slice none 0 0)] (Ka 1) [9] [0] [] (fun _ _ _=>True) (by kernel_rfl) (by rw [J];decide) ?_ (en rfl ?_ .nil) ?_
  ·exact fun _ _=>trivial
  ·exact fun O K F H _ _ C=>XA rfl rfl (C _ _ H.k rfl trivial)
  intro L a11 w12 U B D P T;replace J:=B.Z J;replace I:=B.E I;replace s1:=B.G s1;replace s4:=B.G s4;replace s6:=B.G s6;replace s7:=B.G s7;have s9:=gS a11 9 (P 0 _ rfl);replace b3:=b3.k0 D;replace b4:=b4.k0 D;replace b5:=b5.k0 D;replace S:=Nat.le_trans S D.size;replace R:=D.below0 R;clear B D P U T s17;refine X0 ?_;refine wp_seq ?_;refine wp_seq ?_
  refine XO (by kernel_rfl) [18,19,20] [some (.slice e.A l.length e.c),some (.int .i64 (l.length:Int)),some (.int .i64 0)] (Ka 3) [18,19,20] [0,1,2] [] (fun _ _ _=>True) (by kernel_rfl) (by rw [J];decide) ?_ (en rfl ?_ (en rfl ?_ (en rfl ?_ .nil))) ?_
  ·exact fun _ _=>trivial
  ·exact fun O K F H _ _ C=>Xs rfl (ev (H.f.g rfl s1)) (C _ _ H.k rfl trivial)
  ·intro O K F H _ _ C
   simp [go_sem,(gS K 18 (H.d 0 rfl rfl))]
   exact (C _ _ H.k rfl trivial)
  ·exact fun O K F H _ _ C=>Xs rfl rfl (C _ _ H.k rfl trivial)
  intro L a13 w14 U B D P T;replace J:=B.Z J;replace I:=B.E I;replace s4:=B.G s4;replace s6:=B.G s6;replace s7:=B.G s7;replace s9:=B.G s9;have s18:=gS a13 18 (P 0 _ rfl);have s19:=gS a13 19 (P 1 _ rfl);have s20:=gS a13 20 (P 2 _ rfl);replace b3:=b3.k0 D;replace b4:=b4.k0 D;replace b5:=b5.k0 D;replace S:=Nat.le_trans S D.size;replace R:=D.below0 R;clear B D P U T s1;refine X0 ?_;refine wp_block ?_
  refine wp_loop (fun al wl=>al.tmps.size=41∧al.defers=[]∧∃ (k:Nat) (A1:Option Addr) (c1:Nat),(k≤l.length)∧al.tmps[4]?.getD undef=.pointer (some ⟨w.heap.size,0,none⟩)∧al.tmps[6]?.getD undef=.pointer (some ⟨(w.heap.size+1),0,none⟩)∧al.tmps[7]?.getD undef=.pointer (some ⟨(w.heap.size+2),0,none⟩)∧al.tmps[9]?.getD undef=.slice A1 ((Js r l p s k).length) c1∧al.tmps[18]?.getD undef=.slice e.A l.length e.c∧al.tmps[19]?.getD undef=.int .i64 (l.length:Int)∧al.tmps[20]?.getD undef=.int .i64 (k:Int)∧Xu wl w.heap.size 39 (JC r ra)∧Xu wl (w.heap.size+1) 37 [.slice b.A p.length b.c]∧Xu wl (w.heap.size+2) 44 [.int .i64 s.x,.int .i64 s.y,.int .i64 s.d]∧XK 3 1 YW wl w2.heap.size (.slice A1 (Js r l p s k).length c1) (Js r l p s k)∧Below w.heap.size w wl∧w2.heap.size≤wl.heap.size) (fun al _=>(l.length-(intOf (al.tmps[20]?.getD undef)).toNat)) ?_ ?_
  ·exact ⟨J,I,(0),(none),(0),(Nat.zero_le _),s4,s6,s7,s9,s18,s19,s20,b3,b4,b5,(XK.nilN _ _ _ _ _),R,(by omega)⟩
  clear J I R S s4 s6 s7 s9 s18 s19 s20 b3 b4 b5
  rintro a15 w16 ⟨J,I,k,A1,c1,hk,s4,s6,s7,s9,s18,s19,s20,b3,b4,b5,N1,R,S⟩
  have zw16:=S;replace S:=Nat.le_refl w16.heap.size;have i1:∀ p,A1=some p→p.block<w16.heap.size:=fun p hp=>(N1.blk p hp).2
  have hmu:(l.length-(intOf (a15.tmps[20]?.getD undef)).toNat)=(l.length-(intOf ((.int .i64 (k:Int)))).toNat):=by rw [s20]
  refine wp_seq ?_
  refine XO (by kernel_rfl) [21] [some (.bool (decide ((k:Int)<(l.length:Int))))] (Ka 1) [21] [0] [] (fun _ _ _=>True) (by kernel_rfl) (by rw [J];decide) ?_ (en rfl ?_ .nil) ?_
  ·exact fun _ _=>trivial
  ·exact fun O K F H _ _ C=>Ky rfl (ev (H.f.g rfl s20)) (ev (H.f.g rfl s19)) rfl rfl (C _ _ H.k rfl trivial)
  intro L a17 w18 U B D P T;replace J:=B.Z J;replace I:=B.E I;replace s4:=B.G s4;replace s6:=B.G s6;replace s7:=B.G s7;replace s9:=B.G s9;replace s18:=B.G s18;replace s19:=B.G s19;replace s20:=B.G s20;have s21:=gS a17 21 (P 0 _ rfl);replace b3:=b3.k0 D;replace b4:=b4.k0 D;replace b5:=b5.k0 D;replace N1:=N1.below D.toBelow Xw;replace S:=Nat.le_trans S D.size;replace R:=D.below0 R;clear B D P U T;refine X0 ?_;refine wp_seq ?_
  rcases Bool.eq_false_or_eq_true (decide ((k:Int)<(l.length:Int))) with q19|q19
  ·skip
   have hkl:k<l.length:=by have:=dec_t q19;omega
   obtain ⟨bl,ol,el,fe⟩:=ElS.open_ (hsl.below R) (by omega)
   refine wp_cond_true (ev (vb s21 q19)) ?_
   refine wp_skip ?_;refine X0 ?_;refine wp_seq ?_;refine wp_block ?_;refine wp_seq ?_
   have M:Yu [11] (fun L aa F=>(L 3=true→ZM w18 aa F 11 132 [.int .i64 0,.int .i64 0] (L 5) (fun _ vs=>vs=[.int .i64 ((l.getD k XM).low),.int .i64 ((l.getD k XM).high)]))):=by
    intro L aa F w' kk vv hkk hb T
    have x0:=T
    exact (fun h=>((x0 h).bel hb (fun _ h=>h)).put (hkk 11 (by simp)) _)
   refine Yn M (by kernel_rfl) [22,23,24,11,10,0] [some (.int .i64 (k:Int)),some (.pointer (some ⟨bl,ol+k*2,none⟩)),some (.agg #[.int .i64 ((l.getD k XM).low),.int .i64 ((l.getD k XM).high)]),none,some (.int .i64 (k:Int)),none] (Ka 6) [22,23,24,11,10] [0,1,2,3,4,5] [] (by kernel_rfl) (by rw [J];decide) ?_ (en rfl ?_ (en rfl ?_ (en rfl ?_ (en rfl ?_ (en rfl ?_ (en rfl ?_ .nil)))))) ?_
   ·exact fun _ h=>(fun h=>by cases h)
   ·exact fun O K F H _ _ C=>Xs rfl (ev (H.f.g rfl s20)) (C _ _ H.k rfl (M.q rfl H.x))
   ·intro O K F H _ _ C
    simp [go_sem,H.f.g rfl s18,H.f.g rfl s20,hkl,el]
    exact (C _ _ H.k rfl (M.q rfl H.x))
   ·intro O K F H _ _ C
    have hE:=fe.kp H.k (by simp)
    simp [go_sem,(gS K 23 (H.d 1 rfl rfl)),(hE.at_ XM (i:=k) (by omega) 0 (p:=ol+k*2) (by omega) rfl),(hE.at_ XM (i:=k) (by omega) 1 (p:=ol+k*2+1) (by omega) rfl)]
    exact (C _ _ H.k rfl (M.q rfl H.x))
   ·intro O K F H _ _ C
    have x0:=H.x
    simp [go_sem]
    exact C _ _ (H.k.alloc _) trivial (fun _=>by rw [show Jp O 3 5=false from H.t 5 rfl];exact ZM.new (s:=11) (H.f.lt (by rw [J];decide)) H.k.size [.int .i64 0,.int .i64 0])
   ·exact fun O K F H _ _ C=>XA rfl (ev (H.d 0 rfl rfl)) (C _ _ H.k rfl (M.q rfl H.x))
   ·intro O K F H _ _ C
    have x0:=H.x
    obtain ⟨g,eg,hg,y,_⟩:=x0 (H.r 3 rfl)
    have V:=y H.n
    simp [go_sem,(gS K 24 (H.d 2 rfl rfl)),eg,V.cell,V.frz]
    exact C undef _ (H.k.store (.inl hg) [.int .i64 ((l.getD k XM).low),.int .i64 ((l.getD k XM).high)] 0) trivial (fun _=>ZM.set eg hg V (us:=[.int .i64 ((l.getD k XM).low),.int .i64 ((l.getD k XM).high)]) rfl rfl)
   intro L a20 w21 U B D P T;have x0:=T;replace J:=B.Z J;replace I:=B.E I;replace s4:=B.G s4;replace s6:=B.G s6;replace s7:=B.G s7;replace s9:=B.G s9;replace s18:=B.G s18;replace s19:=B.G s19;replace s20:=B.G s20;have s10:=gS a20 10 (P 4 _ rfl);replace b3:=b3.k0 D;replace b4:=b4.k0 D;replace b5:=b5.k0 D
   obtain ⟨g22,s11,lg22,-,b22⟩:=x0 (U 3 (by decide))
   obtain ⟨_,b22,rfl⟩:=b22 (U 5 (by decide))
   have ug22:=b22.lt
   replace N1:=N1.below D.toBelow Xw;have zw18:=S;have zw21:=D.size;replace S:=Nat.le_refl w21.heap.size;replace R:=D.below0 R;clear B D P U x0 M s21 fe;refine X0 ?_;refine wp_seq ?_
   have M:Yu [12,28] (fun L aa F=>(L 2=true→(fun F v=>∃ m2,v=XY (Kt r (l.getD k XM)) m2∧XR F w21.heap.size (Kt r (l.getD k XM)) m2) F (aa.tmps[28]?.getD undef))∧(L 9=true→ZM w21 aa F 12 72 [.int .i64 0,.int .i64 0,.int .i64 0,.int .i64 0] (L 10) (fun _ vs=>vs=[.int .i64 (((X6 (Kt r (l.getD k XM)) p s).getD XW).low.n),.int .i64 (((X6 (Kt r (l.getD k XM)) p s).getD XW).low.d),.int .i64 (((X6 (Kt r (l.getD k XM)) p s).getD XW).high.n),.int .i64 (((X6 (Kt r (l.getD k XM)) p s).getD XW).high.d)]))):=by
    intro L aa F w' kk vv hkk hb T
    obtain ⟨x0,x1⟩:=T
    exact ⟨(fun h=>by rw [Xe (hkk 28 (by simp))];obtain ⟨m2',e,f2'⟩:=x0 h;exact ⟨m2',e,f2'.below hb Xw⟩),(fun h=>((x1 h).bel hb (fun _ h=>h)).put (hkk 12 (by simp)) _)⟩
   refine Yn M (by kernel_rfl) [26,27,28,29,30,31,25,32,33,12,0,13] [some (XY r ra),some (.agg #[.int .i64 ((l.getD k XM).low),.int .i64 ((l.getD k XM).high)]),none,some (.agg #[.slice b.A p.length b.c]),some (Zi s),some (.tuple #[KQ ((X6 (Kt r (l.getD k XM)) p s).getD XW),.bool ((X6 (Kt r (l.getD k XM)) p s).isSome)]),some (.tuple #[KQ ((X6 (Kt r (l.getD k XM)) p s).getD XW),.bool ((X6 (Kt r (l.getD k XM)) p s).isSome)]),some (KQ ((X6 (Kt r (l.getD k XM)) p s).getD XW)),some (.bool ((X6 (Kt r (l.getD k XM)) p s).isSome)),none,none,some (.bool ((X6 (Kt r (l.getD k XM)) p s).isSome))] ([[],[],[0,1],[],[],[0,1,2,3,4],[0,1,2,3,4,5],[0,1,2,3,4,5,6],[0,1,2,3,4,5,6],[],[0,1,2,3,4,5,6,7,9],[0,1,2,3,4,5,6,7,8,9,10]]) [26,27,28,29,30,31,25,32,33,12,13] [0,1,2,3,4,5,6,7,8,9,10,11] [] (by kernel_rfl) (by rw [J];decide) ?_ (en rfl ?_ (en rfl ?_ (en rfl ?_ (en rfl ?_ (en rfl ?_ (en rfl ?_ (en rfl ?_ (en rfl ?_ (en rfl ?_ (en rfl ?_ (en rfl ?_ (en rfl ?_ .nil)))))))))))) ?_
   ·exact fun _ h=>⟨(fun h=>by cases h),(fun h=>by cases h)⟩
   ·intro O K F H _ _ C
    simp [go_sem,H.f.g rfl s4,(b3.k0 H.k).cell]
    exact (C _ _ H.k rfl (M.q rfl H.x))
   ·intro O K F H _ _ C
    simp [go_sem,H.f.g rfl s11,(b22.k0 H.k).cell]
    exact (C _ _ H.k rfl (M.q rfl H.x))
   ·intro O K F H _ _ C
    obtain ⟨x0,x1⟩:=H.x
    simp [go_sem,(gS K 26 (H.d 0 rfl rfl)),(gS K 27 (H.d 1 rfl rfl))]
    have hBi:=H.k.below0 R
    refine (iInMode_c r ra (l.getD k XM) F hn (hs.below hBi)).mono ?_
    rintro x wx ⟨m2,rfl,f0,hb⟩
    have f2:=f0.mono H.k.size
    exact (C _ _ (H.k.call hb) trivial ⟨(fun _=>by rw [Xa (H.f.lt (by rw [J];decide))];exact ⟨m2,rfl,f2⟩),(fun h=>((x1 h).bel hb (fun _ h=>h)).put (by decide) _)⟩)
   ·intro O K F H _ _ C
    simp [go_sem,H.f.g rfl s6,(b4.k0 H.k).cell]
    exact (C _ _ H.k rfl (M.q rfl H.x))
   ·intro O K F H _ _ C
    simp [go_sem,H.f.g rfl s7,(b5.k0 H.k).cell]
    exact (C _ _ H.k rfl (M.q rfl H.x))
   ·intro O K F H _ _ C
    obtain ⟨x0,x1⟩:=H.x
    obtain ⟨m2,ee2,f2⟩:=x0 (H.r 2 rfl)
    simp [go_sem,ee2,(gS K 29 (H.d 3 rfl rfl)),(gS K 30 (H.d 4 rfl rfl))]
    have hBi:=H.k.below0 R
    refine (iAdmAt_c (Kt r (l.getD k XM)) p s m2 b F hn (inM_in hin (hlin _ (getD_mem hkl XM))) f2.sl f2.nil hlp hpi (hsp.below hBi) hnb hsi).mono ?_
    rintro x wx ⟨rfl,hb⟩
    exact (C _ _ (H.k.call hb) (KC _) (M.b rfl hb H.x))
   ·exact fun O K F H _ _ C=>Xs rfl (ev (H.d 5 rfl rfl)) (C _ _ H.k rfl (M.q rfl H.x))
   ·exact fun O K F H _ _ C=>Zk rfl (ev (H.d 6 rfl rfl)) rfl (C _ _ H.k rfl (M.q rfl H.x))
   ·exact fun O K F H _ _ C=>Zk rfl (ev (H.d 6 rfl rfl)) rfl (C _ _ H.k rfl (M.q rfl H.x))
   ·intro O K F H _ _ C
    obtain ⟨x0,x1⟩:=H.x
    simp [go_sem]
    exact C _ _ (H.k.alloc _) trivial ⟨(fun h=>by rw [Xe (by decide)];obtain ⟨m2',e,f2'⟩:=x0 h;exact ⟨m2',e,f2'.below (Xf bR _) Xw⟩),(fun _=>by rw [show Jp O 9 10=false from H.t 10 rfl];exact ZM.new (s:=12) (H.f.lt (by rw [J];decide)) H.k.size [.int .i64 0,.int .i64 0,.int .i64 0,.int .i64 0])⟩
   ·intro O K F H _ _ C
    obtain ⟨x0,x1⟩:=H.x
    obtain ⟨g,eg,hg,y,_⟩:=x1 (H.r 9 rfl)
    have V:=y H.n
    simp [go_sem,(gS K 32 (H.d 7 rfl rfl)),eg,V.cell,V.frz]
    exact C undef _ (H.k.store (.inl hg) [.int .i64 (((X6 (Kt r (l.getD k XM)) p s).getD XW).low.n),.int .i64 (((X6 (Kt r (l.getD k XM)) p s).getD XW).low.d),.int .i64 (((X6 (Kt r (l.getD k XM)) p s).getD XW).high.n),.int .i64 (((X6 (Kt r (l.getD k XM)) p s).getD XW).high.d)] 0) trivial ⟨(fun h=>by obtain ⟨m2',e,f2'⟩:=x0 h;exact ⟨m2',e,f2'.otherT V (by decide) (by decide) [.int .i64 (((X6 (Kt r (l.getD k XM)) p s).getD XW).low.n),.int .i64 (((X6 (Kt r (l.getD k XM)) p s).getD XW).low.d),.int .i64 (((X6 (Kt r (l.getD k XM)) p s).getD XW).high.n),.int .i64 (((X6 (Kt r (l.getD k XM)) p s).getD XW).high.d)] 0⟩),(fun _=>ZM.set eg hg V (us:=[.int .i64 (((X6 (Kt r (l.getD k XM)) p s).getD XW).low.n),.int .i64 (((X6 (Kt r (l.getD k XM)) p s).getD XW).low.d),.int .i64 (((X6 (Kt r (l.getD k XM)) p s).getD XW).high.n),.int .i64 (((X6 (Kt r (l.getD k XM)) p s).getD XW).high.d)]) rfl rfl)⟩
   ·exact fun O K F H _ _ C=>XA rfl (ev (H.d 8 rfl rfl)) (C _ _ H.k rfl (M.q rfl H.x))
   intro L a23 w24 U B D P T
   obtain ⟨x0,x1⟩:=T
   replace J:=B.Z J;replace I:=B.E I;replace s4:=B.G s4;replace s6:=B.G s6;replace s7:=B.G s7;replace s9:=B.G s9;replace s18:=B.G s18;replace s19:=B.G s19;replace s20:=B.G s20;replace s10:=B.G s10;have s13:=gS a23 13 (P 11 _ rfl);replace b3:=b3.k0 D;replace b4:=b4.k0 D;replace b5:=b5.k0 D
   obtain ⟨g25,s12,lg25,-,b25⟩:=x1 (U 9 (by decide))
   obtain ⟨_,b25,rfl⟩:=b25 (U 10 (by decide))
   have ug25:=b25.lt
   replace N1:=N1.below D.toBelow Xw;have zw24:=D.size;replace S:=Nat.le_refl w24.heap.size;replace R:=D.below0 R;clear B D P U x0 x1 M s11 b22;refine X0 ?_;refine wp_seq ?_
   refine XO (by kernel_rfl) [34] [some (.bool ((X6 (Kt r (l.getD k XM)) p s).isSome))] (Ka 1) [34] [0] [] (fun _ _ _=>True) (by kernel_rfl) (by rw [J];decide) ?_ (en rfl ?_ .nil) ?_
   ·exact fun _ _=>trivial
   ·exact fun O K F H _ _ C=>Xs rfl (ev (H.f.g rfl s13)) (C _ _ H.k rfl trivial)
   intro L a26 w27 U B D P T;replace J:=B.Z J;replace I:=B.E I;replace s4:=B.G s4;replace s6:=B.G s6;replace s7:=B.G s7;replace s9:=B.G s9;replace s18:=B.G s18;replace s19:=B.G s19;replace s20:=B.G s20;replace s10:=B.G s10;have s34:=gS a26 34 (P 0 _ rfl);replace b3:=b3.k0 D;replace b4:=b4.k0 D;replace b5:=b5.k0 D;replace N1:=N1.below D.toBelow Xw;replace S:=Nat.le_trans S D.size;replace R:=D.below0 R;clear B D P U T s13 s12 b25;refine X0 ?_
   rcases Bool.eq_false_or_eq_true ((X6 (Kt r (l.getD k XM)) p s).isSome) with q28|q28
   ·skip
    refine wp_cond_true (ev (vb s34 q28)) ?_
    have M:Yu [9,37,38] (fun L aa F=>(L 2=true→(fun F v=>∃ g3,v=.slice (some ⟨g3,0,none⟩) 1 1∧Xu F g3 3 [.int .i64 (k:Int)]∧w27.heap.size≤g3) F (aa.tmps[37]?.getD undef))∧(L 3=true→(fun F v=>∃ A4 c4,v=.slice A4 (((Js r l p s k)++[(k:Int)]).length) c4∧XK 3 1 YW F w2.heap.size (.slice A4 ((Js r l p s k)++[(k:Int)]).length c4) ((Js r l p s k)++[(k:Int)])) F (aa.tmps[38]?.getD undef))∧(L 4=true→(fun F v=>∃ A4 c4,v=.slice A4 (((Js r l p s k)++[(k:Int)]).length) c4∧XK 3 1 YW F w2.heap.size (.slice A4 ((Js r l p s k)++[(k:Int)]).length c4) ((Js r l p s k)++[(k:Int)])) F (aa.tmps[9]?.getD undef))∧(L 3=false→XK 3 1 YW F w2.heap.size (.slice A1 (Js r l p s k).length c1) (Js r l p s k))∧(L 4=false→aa.tmps[9]?.getD undef=.slice A1 ((Js r l p s k).length) c1)):=by
     intro L aa F w' kk vv hkk hb T
     obtain ⟨x0,x1,x2,x3,x4⟩:=T
     exact ⟨(fun h=>by rw [Xe (hkk 37 (by simp))];obtain ⟨g3',e,f3'⟩:=x0 h;exact ⟨g3',e,⟨f3'.1.bel hb,f3'.2⟩⟩),(fun h=>by rw [Xe (hkk 38 (by simp))];obtain ⟨A4',c4',e,f4'⟩:=x1 h;exact ⟨A4',c4',e,f4'.below hb Xw⟩),(fun h=>by rw [Xe (hkk 9 (by simp))];obtain ⟨A4',c4',e,f4'⟩:=x2 h;exact ⟨A4',c4',e,f4'.below hb Xw⟩),(fun h=>(x3 h).below hb Xw),(fun h=>(Xe (hkk 9 (by simp)) vv).trans (x4 h))⟩
    refine Yn M (by kernel_rfl) [35,36,37,38,9] [some (.slice A1 ((Js r l p s k).length) c1),some (.int .i64 (k:Int)),none,none,none] (Ka 5) [35,36,37,38,9] [0,1,2,3,4] (blkL A1) (by kernel_rfl) (by rw [J];decide) ?_ (en rfl ?_ (en rfl ?_ (en rfl ?_ (en rfl ?_ (en rfl ?_ .nil))))) ?_
    ·exact fun _ h=>⟨(fun h=>by cases h),(fun h=>by cases h),(fun h=>by cases h),(fun _=>N1.below h.toBelow Xw),(fun _=>s9)⟩
    ·intro O K F H _ _ C
     obtain ⟨x0,x1,x2,x3,x4⟩:=H.x
     exact Xs rfl (ev (x4 (H.t 4 rfl))) (C _ _ H.k rfl (M.q rfl H.x))
    ·exact fun O K F H _ _ C=>Xs rfl (ev (H.f.g rfl s10)) (C _ _ H.k rfl (M.q rfl H.x))
    ·intro O K F H _ _ C
     obtain ⟨x0,x1,x2,x3,x4⟩:=H.x
     simp [go_sem,(gS K 36 (H.d 1 rfl rfl))]
     have f3:Xu (F.alloc (.cells #[.int .i64 (k:Int)] 3)) F.heap.size 3 [.int .i64 (k:Int)]∧w27.heap.size≤F.heap.size:=⟨Xu.new _ _ _,H.k.size⟩
     exact C _ _ (H.k.alloc _) trivial ⟨(fun _=>by rw [Xa (H.f.lt (by rw [J];decide))];exact ⟨_,rfl,f3⟩),(fun h=>by rw [Xe (by decide)];obtain ⟨A4',c4',e,f4'⟩:=x1 h;exact ⟨A4',c4',e,f4'.below (Xf bR _) Xw⟩),(fun h=>by rw [Xe (by decide)];obtain ⟨A4',c4',e,f4'⟩:=x2 h;exact ⟨A4',c4',e,f4'.below (Xf bR _) Xw⟩),(fun h=>(x3 h).below (Xf bR _) Xw),(fun h=>(Xe (by decide) _).trans (x4 h))⟩
    ·intro O K F H _ _ C
     obtain ⟨x0,x1,x2,x3,x4⟩:=H.x
     obtain ⟨g3,ee2,f3⟩:=x0 (H.r 2 rfl)
     refine wp_app1 Yq rfl w2.heap.size i0n _ 8 Tryz.underlying22 hi0n hz0n hz1n hz2n rfl (by decide) (ev (H.d 0 rfl rfl)) (x3 H.n) (ev ee2) (y:=(k:Int)) f3.1 intC_one (by have:=H.k.size;omega) (by have:=sfK_len r l p s k;omega) (by decide) ?_
     intro A4 c4 wx f4 hG
     exact C _ _ (H.k.trans2 hG (fun m h=>.inl h)) trivial ⟨(fun h=>by rw [Xe (by decide)];obtain ⟨g',e,f'⟩:=x0 h;exact ⟨g',e,f'.1.kp hG (KT (fun p hp=>by have q1:=N1.blk p hp;have q2:=f'.2;omega)),f'.2⟩),(fun _=>by rw [Xa (H.f.lt (by rw [J];decide))];exact ⟨A4,c4,rfl,f4⟩),(fun h=>absurd (H.t 4 rfl) (by rw [show O 4=true by simpa [Jp] using h];decide)),(fun h=>by simp [Jp] at h),(fun h=>(Xe (by decide) _).trans (x4 h))⟩
    ·intro O K F H _ _ C
     obtain ⟨x0,x1,x2,x3,x4⟩:=H.x
     obtain ⟨A4,c4,ee3,f4⟩:=x1 (H.r 3 rfl)
     exact XA rfl (ev ee3) (C _ _ H.k trivial ⟨(fun h=>by rw [Xe (by decide)];obtain ⟨g3',e,f3'⟩:=x0 h;exact ⟨g3',e,⟨f3'.1.bel bR,f3'.2⟩⟩),(fun h=>by rw [Xe (by decide)];obtain ⟨A4',c4',e,f4'⟩:=x1 h;exact ⟨A4',c4',e,f4'.below bR Xw⟩),(fun _=>by rw [Xa (H.f.lt (by rw [J];decide))];exact ⟨A4,c4,rfl,f4⟩),(fun h=>(x3 h).below bR Xw),(fun h=>by simp [Jp] at h)⟩)
    intro L a29 w30 U B D P T
    obtain ⟨x0,x1,x2,x3,x4⟩:=T
    replace J:=B.Z J;replace I:=B.E I
    have hB9:=D.below R R.size (fun m hm=>by obtain ⟨p,hp,rfl⟩:=blkL_in hm;have q1:=N1.blk p hp;have q2:=i1 p hp;omega)
    replace s4:=B.G s4;replace s6:=B.G s6;replace s7:=B.G s7;replace s18:=B.G s18;replace s19:=B.G s19;replace s20:=B.G s20
    replace b3:=b3.kp D (KT (fun p hp=>by have q1:=N1.blk p hp;have q2:=i1 p hp;omega))
    replace b4:=b4.kp D (KT (fun p hp=>by have q1:=N1.blk p hp;have q2:=i1 p hp;omega))
    replace b5:=b5.kp D (KT (fun p hp=>by have q1:=N1.blk p hp;have q2:=i1 p hp;omega))
    obtain ⟨A4,c4,s9,N4⟩:=x2 (U 4 (by decide))
    have i4:∀ p,A4=some p→p.block<w30.heap.size:=fun p hp=>(N4.blk p hp).2;have zw27:=S;have zw30:=D.size;replace S:=Nat.le_refl w30.heap.size;replace R:=hB9;clear B D P U x0 x1 x2 x3 x4 M s10 s34 N1 i1;refine ib_n (X0 ?_)
    refine XO (by kernel_rfl) [39,20] [some (.int .i64 ((k:Int)+1)),some (.int .i64 ((k:Int)+1))] (Ka 2) [39,20] [0,1] [] (fun L aa F=>(L 1=false→aa.tmps[20]?.getD undef=.int .i64 (k:Int))) (by kernel_rfl) (by rw [J];decide) ?_ (en rfl ?_ (en rfl ?_ .nil)) ?_
    ·exact fun _ h=>(fun _=>s20)
    ·intro O K F H _ _ C
     have x0:=H.x
     exact wp_add rfl (ev (x0 (H.t 1 rfl))) rfl (by omega) (C _ _ H.k rfl (fun h=>(Xe (by decide) _).trans (x0 h)))
    ·intro O K F H _ _ C
     have x0:=H.x
     exact Xs rfl (ev (H.d 0 rfl rfl)) (C _ _ H.k rfl (fun h=>by simp [Jp] at h))
    intro L a31 w32 U B D P T;have x0:=T;replace J:=B.Z J;replace I:=B.E I;replace s4:=B.G s4;replace s6:=B.G s6;replace s7:=B.G s7;replace s18:=B.G s18;replace s19:=B.G s19;replace s9:=B.G s9;have s20:=gS a31 20 (P 1 _ rfl);replace b3:=b3.k0 D;replace b4:=b4.k0 D;replace b5:=b5.k0 D;replace N4:=N4.below D.toBelow Xw;replace S:=Nat.le_trans S D.size;replace R:=D.below0 R;clear B D P U x0;refine X0 ?_
    refine ⟨?_, ?_⟩
    ·exact ⟨J,I,(k+1),(A4),(c4),(by omega),s4,s6,s7,(by rw [sfK_yes (r:=r) (l:=l) (p:=p) (s:=s) (k:=k) q28];exact s9),s18,s19,s20,b3,b4,b5,(by rw [sfK_yes (r:=r) (l:=l) (p:=p) (s:=s) (k:=k) q28];exact N4),R,(by omega)⟩
    ·show (l.length-(intOf (a31.tmps[20]?.getD undef)).toNat)<_
     rw [s20,hmu];simp only [intOf];omega
   ·skip
    refine wp_cond_false (ev (vb s34 q28)) ?_
    refine wp_skip ?_;refine ib_n (X0 ?_)
    refine XO (by kernel_rfl) [39,20] [some (.int .i64 ((k:Int)+1)),some (.int .i64 ((k:Int)+1))] (Ka 2) [39,20] [0,1] [] (fun L aa F=>(L 1=false→aa.tmps[20]?.getD undef=.int .i64 (k:Int))) (by kernel_rfl) (by rw [J];decide) ?_ (en rfl ?_ (en rfl ?_ .nil)) ?_
    ·exact fun _ h=>(fun _=>s20)
    ·intro O K F H _ _ C
     have x0:=H.x
     exact wp_add rfl (ev (x0 (H.t 1 rfl))) rfl (by omega) (C _ _ H.k rfl (fun h=>(Xe (by decide) _).trans (x0 h)))
    ·intro O K F H _ _ C
     have x0:=H.x
     exact Xs rfl (ev (H.d 0 rfl rfl)) (C _ _ H.k rfl (fun h=>by simp [Jp] at h))
    intro L a33 w34 U B D P T;have x0:=T;replace J:=B.Z J;replace I:=B.E I;replace s4:=B.G s4;replace s6:=B.G s6;replace s7:=B.G s7;replace s9:=B.G s9;replace s18:=B.G s18;replace s19:=B.G s19;have s20:=gS a33 20 (P 1 _ rfl);replace b3:=b3.k0 D;replace b4:=b4.k0 D;replace b5:=b5.k0 D;replace N1:=N1.below D.toBelow Xw;replace S:=Nat.le_trans S D.size;replace R:=D.below0 R;clear B D P U x0 s10 s34;refine X0 ?_
    refine ⟨?_, ?_⟩
    ·exact ⟨J,I,(k+1),(A1),(c1),(by omega),s4,s6,s7,(by rw [sfK_no (r:=r) (l:=l) (p:=p) (s:=s) (k:=k) q28];exact s9),s18,s19,s20,b3,b4,b5,(by rw [sfK_no (r:=r) (l:=l) (p:=p) (s:=s) (k:=k) q28];exact N1),R,(by omega)⟩
    ·show (l.length-(intOf (a33.tmps[20]?.getD undef)).toNat)<_
     rw [s20,hmu];simp only [intOf];omega
  ·skip
   have ek:k=l.length:=by have:=Xx q19;omega
   refine wp_cond_false (ev (vb s21 q19)) ?_
   refine wp_exit ?_
   refine th_e (th_e (ib_x (X0 ?_)));refine wp_seq ?_
   refine XO (by kernel_rfl) [40,8] [some (.slice A1 ((Js r l p s k).length) c1),some (.slice A1 ((Js r l p s k).length) c1)] (Ka 2) [40,8] [0,1] [] (fun _ _ _=>True) (by kernel_rfl) (by rw [J];decide) ?_ (en rfl ?_ (en rfl ?_ .nil)) ?_
   ·exact fun _ _=>trivial
   ·exact fun O K F H _ _ C=>Xs rfl (ev (H.f.g rfl s9)) (C _ _ H.k rfl trivial)
   ·exact fun O K F H _ _ C=>XA rfl (ev (H.d 0 rfl rfl)) (C _ _ H.k rfl trivial)
   intro L a35 w36 U B D P T;replace J:=B.Z J;replace I:=B.E I;have s8:=gS a35 8 (P 1 _ rfl);replace N1:=N1.below D.toBelow Xw;replace S:=Nat.le_trans S D.size;replace R:=D.below0 R;clear B D P U T s4 s6 s7 s9 s18 s19 s20 s21 b3 b4 b5;refine X0 ?_
   refine wp_ret ?_
   refine bodyPost_ret (v:=.slice A1 ((Js r l p s k).length) c1) (by simp [results,Tryz.results22,go_sem,s8]) I ?_
   have h0:=sf_yes (p:=p) (s:=s) hm
   rw [ek] at N1
   exact ⟨_,by rw [ek],by rw [h0];exact N1.mono (by omega),R⟩
set_option maxRecDepth 100000 in
set_option maxHeartbeats 3000000 in
theorem sSafe_c (r:XJ) (l:List Zo) (p:List Half) (s:XC) (ra:Ye) (e:Zw) (b:Zw) (w:World) (hn:Xp r≤1048576) (hin:Y6 r) (hlin:∀ m∈l,m.In) (hs:Yh w r ra) (hnl:YV ra) (hlp:p.length≤1048576) (hpi:∀ h∈p,h.In) (hll:l.length≤1048576) (hsl:Sl 2 Zy w e.A l) (hsp:Sl 3 Xj w b.A p) (hnb:b.A=none→b.c=0) (hsi:s.In) :
 Calls Tryz.prog 17 #[XY r ra,.slice e.A l.length e.c,.agg #[.slice b.A p.length b.c],Zi s] w fun x w'=>∃ v,x=.returned v∧XK 3 1 YW w' w.heap.size v (Kf r l p s)∧Below w.heap.size w w':=by
 obtain ⟨i0n,hi0n,hz0n,hz1n,hz2n⟩:=info_parts (show (Tryz.prog.info? 3).map (fun i=>(i.zero,i.size,i.bytes))=some (some (.int .i64 0),1,8) by kernel_rfl)
 refine calls_v Tryz.func17 rfl (n:=42) Tryz.ntmps17 (by simp) ?_
 intro a0 J I ha
 have s0:a0.tmps[0]?.getD undef=XY r ra:=ha 0 _ rfl;have s1:a0.tmps[1]?.getD undef=.slice e.A l.length e.c:=ha 1 _ rfl;have s2:a0.tmps[2]?.getD undef=.agg #[.slice b.A p.length b.c]:=ha 2 _ rfl;have s3:a0.tmps[3]?.getD undef=Zi s:=ha 3 _ rfl;clear ha
 have R:=Below.refl w.heap.size w
 have S:=Nat.le_refl w.heap.size
 refine wp_seq ?_
 refine wp_entry [4,6,7,8] [.pointer (some ⟨w.heap.size,0,none⟩),.pointer (some ⟨(w.heap.size+1),0,none⟩),.pointer (some ⟨(w.heap.size+2),0,none⟩),.slice none 0 0] [some (.cells (JC r ra).toArray 39),some (.cells [.slice b.A p.length b.c].toArray 37),some (.cells [.int .i64 s.x,.int .i64 s.y,.int .i64 s.d].toArray 44),none] [0,1,2,3] [4,6,7,8] [0,1,2,3] (by kernel_rfl) (by rw [J];decide) (ec ?_ (ec ?_ (ec ?_ (ec ?_ .nil)))) ?_
 ·intro a w' B hs N Q C;simp [go_sem,B.g rfl s0];rw [hs];exact C
 ·intro a w' B hs N Q C;simp [go_sem,B.g rfl s2];rw [hs];exact C
 ·intro a w' B hs N Q C;simp [go_sem,B.g rfl s3];rw [hs];exact C
 ·intro a w' B hs N Q C;simp [go_sem];exact C
 intro a1 w2 B P hb hO
 replace J:=B.size.trans J;replace I:=B.defers.trans I;replace s1:=B.g rfl s1
 have s4:a1.tmps[4]?.getD undef=.pointer (some ⟨w.heap.size,0,none⟩):=P 0 (by decide)
 have s6:a1.tmps[6]?.getD undef=.pointer (some ⟨(w.heap.size+1),0,none⟩):=P 1 (by decide)
 have s7:a1.tmps[7]?.getD undef=.pointer (some ⟨(w.heap.size+2),0,none⟩):=P 2 (by decide)
 have b3:Xu w2 w.heap.size 39 (JC r ra):=hO 0 _ rfl
 have b4:Xu w2 (w.heap.size+1) 37 [.slice b.A p.length b.c]:=hO 1 _ rfl
 have b5:Xu w2 (w.heap.size+2) 44 [.int .i64 s.x,.int .i64 s.y,.int .i64 s.d]:=hO 2 _ rfl
 have hG:=b5.lt
 replace R:=Xb R hb;have zw2:=Nat.le_trans S hb.size;replace S:=Nat.le_refl w2.heap.size;clear B P hb hO s0 s2 s3;refine X0 ?_;refine wp_seq ?_;refine wp_seq ?_
 refine XO (by kernel_rfl) [14,15,16,17] [some (XY r ra),some (.slice e.A l.length e.c),some (.bool (YE r l)),some (.bool (!(YE r l)))] (Ka 4) [14,15,16,17] [0,1,2,3] [] (fun _ _ _=>True) (by kernel_rfl) (by rw [J];decide) ?_ (en rfl ?_ (en rfl ?_ (en rfl ?_ (en rfl ?_ .nil)))) ?_
 ·exact fun _ _=>trivial
 ·intro O K F H _ _ C
  simp [go_sem,H.f.g rfl s4,(b3.k0 H.k).cell]
  exact (C _ _ H.k rfl trivial)
 ·exact fun O K F H _ _ C=>Xs rfl (ev (H.f.g rfl s1)) (C _ _ H.k rfl trivial)
 ·intro O K F H _ _ C
  simp [go_sem,(gS K 14 (H.d 0 rfl rfl)),(gS K 15 (H.d 1 rfl rfl))]
  have hBi:=H.k.below0 R
  refine (sModesOk_c r ra e.A l e.c F hn hin hll (hs.below hBi) hnl (hsl.below hBi)).mono ?_
  rintro x wx ⟨rfl,hb⟩
  exact (C _ _ (H.k.call hb) rfl trivial)
 ·exact fun O K F H _ _ C=>Kx rfl (ev (H.d 2 rfl rfl)) (C _ _ H.k rfl trivial)
 intro L a6 w7 U B D P T;replace J:=B.Z J;replace I:=B.E I;replace s1:=B.G s1;replace s4:=B.G s4;replace s6:=B.G s6;replace s7:=B.G s7;have s17:=gS a6 17 (P 3 _ rfl);replace b3:=b3.k0 D;replace b4:=b4.k0 D;replace b5:=b5.k0 D;replace S:=Nat.le_trans S D.size;replace R:=D.below0 R;clear B D P U T;refine X0 ?_
 rcases Bool.eq_false_or_eq_true (!(YE r l)) with q8|q8
 ·skip
  refine wp_cond_true (ev (vb s17 q8)) ?_
  refine wp_seq ?_
  refine XO (by kernel_rfl) [8] [some (.slice none 0 0)] (Ka 1) [8] [0] [] (fun _ _ _=>True) (by kernel_rfl) (by rw [J];decide) ?_ (en rfl ?_ .nil) ?_
  ·exact fun _ _=>trivial
  ·exact fun O K F H _ _ C=>XA rfl rfl (C _ _ H.k rfl trivial)
  intro L a9 w10 U B D P T;replace J:=B.Z J;replace I:=B.E I;have s8:=gS a9 8 (P 0 _ rfl);replace S:=Nat.le_trans S D.size;replace R:=D.below0 R;clear B D P U T s1 s4 s6 s7 s17 b3 b4 b5;refine X0 ?_
  refine wp_ret ?_
  refine th_r ?_
  refine bodyPost_ret (v:=.slice none 0 0) (by simp [results,Tryz.results17,go_sem,s8]) I ?_
  have h0:=sf_no (p:=p) (s:=s) (not_t q8)
  exact ⟨_,rfl,by rw [h0];exact XK.nilN _ _ _ _ _,R⟩
 ·skip
  have hm:=not_f q8
  have hl4:=(modes_room hm).2.2
  have hm4:=modes_map hm
  refine wp_cond_false (ev (vb s17 q8)) ?_
  refine wp_skip ?_;refine X0 ?_;refine wp_seq ?_
  refine XO (by kernel_rfl) [18,9] [none,none] (Ka 2) [18,9] [0,1] [] (fun L aa F=>(L 0=true→(fun F v=>∃ A1 c1,v=.slice A1 0 c1∧XK 3 1 YW F w7.heap.size (.slice A1 0 c1) []) F (aa.tmps[18]?.getD undef))∧(L 1=true→(fun F v=>∃ A1 c1,v=.slice A1 0 c1∧XK 3 1 YW F w7.heap.size (.slice A1 0 c1) []) F (aa.tmps[9]?.getD undef))) (by kernel_rfl) (by rw [J];decide) ?_ (en rfl ?_ (en rfl ?_ .nil)) ?_
  ·exact fun _ h=>⟨(fun h=>by cases h),(fun h=>by cases h)⟩
  ·intro O K F H _ _ C
   obtain ⟨x0,x1⟩:=H.x
   simp [go_sem]
   have f1:XK 3 1 YW (F.alloc (.cells #[] 3)) w7.heap.size (.slice (some ⟨F.heap.size,0,none⟩) 0 0) []:=(XK.mk0 F).mono H.k.size
   exact C _ _ (H.k.alloc _) trivial ⟨(fun _=>by rw [Xa (H.f.lt (by rw [J];decide))];exact ⟨_,_,rfl,f1⟩),(fun h=>by rw [Xe (by decide)];obtain ⟨A1',c1',e,f1'⟩:=x1 h;exact ⟨A1',c1',e,f1'.below (Xf bR _) Xw⟩)⟩
  ·intro O K F H _ _ C
   obtain ⟨x0,x1⟩:=H.x
   obtain ⟨A1,c1,ee0,f1⟩:=x0 (H.r 0 rfl)
   exact XA rfl (ev ee0) (C _ _ H.k trivial ⟨(fun h=>by rw [Xe (by decide)];obtain ⟨A1',c1',e,f1'⟩:=x0 h;exact ⟨A1',c1',e,f1'.below bR Xw⟩),(fun _=>by rw [Xa (H.f.lt (by rw [J];decide))];exact ⟨A1,c1,rfl,f1⟩)⟩)
  intro L a11 w12 U B D P T
  obtain ⟨x0,x1⟩:=T
  replace J:=B.Z J;replace I:=B.E I;replace s1:=B.G s1;replace s4:=B.G s4;replace s6:=B.G s6;replace s7:=B.G s7;replace b3:=b3.k0 D;replace b4:=b4.k0 D;replace b5:=b5.k0 D
  obtain ⟨A1,c1,s9,N1⟩:=x1 (U 1 (by decide))
  have i1:∀ p,A1=some p→p.block<w12.heap.size:=fun p hp=>(N1.blk p hp).2;have zw7:=S;have zw12:=D.size;replace S:=Nat.le_refl w12.heap.size;replace R:=D.below0 R;clear B D P U x0 x1 s17;refine X0 ?_;refine wp_seq ?_;refine wp_seq ?_
  refine XO (by kernel_rfl) [19,20,21] [some (.slice e.A l.length e.c),some (.int .i64 (l.length:Int)),some (.int .i64 0)] (Ka 3) [19,20,21] [0,1,2] [] (fun _ _ _=>True) (by kernel_rfl) (by rw [J];decide) ?_ (en rfl ?_ (en rfl ?_ (en rfl ?_ .nil))) ?_
  ·exact fun _ _=>trivial
  ·exact fun O K F H _ _ C=>Xs rfl (ev (H.f.g rfl s1)) (C _ _ H.k rfl trivial)
  ·intro O K F H _ _ C
   simp [go_sem,(gS K 19 (H.d 0 rfl rfl))]
   exact (C _ _ H.k rfl trivial)
  ·exact fun O K F H _ _ C=>Xs rfl rfl (C _ _ H.k rfl trivial)
  intro L a13 w14 U B D P T;replace J:=B.Z J;replace I:=B.E I;replace s4:=B.G s4;replace s6:=B.G s6;replace s7:=B.G s7;replace s9:=B.G s9;have s19:=gS a13 19 (P 0 _ rfl);have s20:=gS a13 20 (P 1 _ rfl);have s21:=gS a13 21 (P 2 _ rfl);replace b3:=b3.k0 D;replace b4:=b4.k0 D;replace b5:=b5.k0 D;replace N1:=N1.below D.toBelow Xw;replace S:=Nat.le_trans S D.size;replace R:=D.below0 R;clear B D P U T s1;refine X0 ?_;refine wp_block ?_
  refine wp_loop (fun al wl=>al.tmps.size=42∧al.defers=[]∧∃ (k:Nat) (A2:Option Addr) (c2:Nat),(k≤l.length)∧al.tmps[4]?.getD undef=.pointer (some ⟨w.heap.size,0,none⟩)∧al.tmps[6]?.getD undef=.pointer (some ⟨(w.heap.size+1),0,none⟩)∧al.tmps[7]?.getD undef=.pointer (some ⟨(w.heap.size+2),0,none⟩)∧al.tmps[9]?.getD undef=.slice A2 ((Js r l p s k).length) c2∧al.tmps[19]?.getD undef=.slice e.A l.length e.c∧al.tmps[20]?.getD undef=.int .i64 (l.length:Int)∧al.tmps[21]?.getD undef=.int .i64 (k:Int)∧Xu wl w.heap.size 39 (JC r ra)∧Xu wl (w.heap.size+1) 37 [.slice b.A p.length b.c]∧Xu wl (w.heap.size+2) 44 [.int .i64 s.x,.int .i64 s.y,.int .i64 s.d]∧XK 3 1 YW wl w7.heap.size (.slice A2 (Js r l p s k).length c2) (Js r l p s k)∧Below w.heap.size w wl∧w12.heap.size≤wl.heap.size) (fun al _=>(l.length-(intOf (al.tmps[21]?.getD undef)).toNat)) ?_ ?_
  ·exact ⟨J,I,(0),(A1),(c1),(Nat.zero_le _),s4,s6,s7,s9,s19,s20,s21,b3,b4,b5,(N1),R,(by omega)⟩
  clear J I R S s4 s6 s7 s9 s19 s20 s21 b3 b4 b5 N1
  rintro a15 w16 ⟨J,I,k,A2,c2,hk,s4,s6,s7,s9,s19,s20,s21,b3,b4,b5,N2,R,S⟩
  have zw16:=S;replace S:=Nat.le_refl w16.heap.size;have i2:∀ p,A2=some p→p.block<w16.heap.size:=fun p hp=>(N2.blk p hp).2
  have hmu:(l.length-(intOf (a15.tmps[21]?.getD undef)).toNat)=(l.length-(intOf ((.int .i64 (k:Int)))).toNat):=by rw [s21]
  refine wp_seq ?_
  refine XO (by kernel_rfl) [22] [some (.bool (decide ((k:Int)<(l.length:Int))))] (Ka 1) [22] [0] [] (fun _ _ _=>True) (by kernel_rfl) (by rw [J];decide) ?_ (en rfl ?_ .nil) ?_
  ·exact fun _ _=>trivial
  ·exact fun O K F H _ _ C=>Ky rfl (ev (H.f.g rfl s21)) (ev (H.f.g rfl s20)) rfl rfl (C _ _ H.k rfl trivial)
  intro L a17 w18 U B D P T;replace J:=B.Z J;replace I:=B.E I;replace s4:=B.G s4;replace s6:=B.G s6;replace s7:=B.G s7;replace s9:=B.G s9;replace s19:=B.G s19;replace s20:=B.G s20;replace s21:=B.G s21;have s22:=gS a17 22 (P 0 _ rfl);replace b3:=b3.k0 D;replace b4:=b4.k0 D;replace b5:=b5.k0 D;replace N2:=N2.below D.toBelow Xw;replace S:=Nat.le_trans S D.size;replace R:=D.below0 R;clear B D P U T;refine X0 ?_;refine wp_seq ?_
  rcases Bool.eq_false_or_eq_true (decide ((k:Int)<(l.length:Int))) with q19|q19
  ·skip
   have hkl:k<l.length:=by have:=dec_t q19;omega
   obtain ⟨bl,ol,el,fe⟩:=ElS.open_ (hsl.below R) (by omega)
   refine wp_cond_true (ev (vb s22 q19)) ?_
   refine wp_skip ?_;refine X0 ?_;refine wp_seq ?_;refine wp_block ?_;refine wp_seq ?_
   have M:Yu [11] (fun L aa F=>(L 3=true→ZM w18 aa F 11 132 [.int .i64 0,.int .i64 0] (L 5) (fun _ vs=>vs=[.int .i64 ((l.getD k XM).low),.int .i64 ((l.getD k XM).high)]))):=by
    intro L aa F w' kk vv hkk hb T
    have x0:=T
    exact (fun h=>((x0 h).bel hb (fun _ h=>h)).put (hkk 11 (by simp)) _)
   refine Yn M (by kernel_rfl) [23,24,25,11,10,0] [some (.int .i64 (k:Int)),some (.pointer (some ⟨bl,ol+k*2,none⟩)),some (.agg #[.int .i64 ((l.getD k XM).low),.int .i64 ((l.getD k XM).high)]),none,some (.int .i64 (k:Int)),none] (Ka 6) [23,24,25,11,10] [0,1,2,3,4,5] [] (by kernel_rfl) (by rw [J];decide) ?_ (en rfl ?_ (en rfl ?_ (en rfl ?_ (en rfl ?_ (en rfl ?_ (en rfl ?_ .nil)))))) ?_
   ·exact fun _ h=>(fun h=>by cases h)
   ·exact fun O K F H _ _ C=>Xs rfl (ev (H.f.g rfl s21)) (C _ _ H.k rfl (M.q rfl H.x))
   ·intro O K F H _ _ C
    simp [go_sem,H.f.g rfl s19,H.f.g rfl s21,hkl,el]
    exact (C _ _ H.k rfl (M.q rfl H.x))
   ·intro O K F H _ _ C
    have hE:=fe.kp H.k (by simp)
    simp [go_sem,(gS K 24 (H.d 1 rfl rfl)),(hE.at_ XM (i:=k) (by omega) 0 (p:=ol+k*2) (by omega) rfl),(hE.at_ XM (i:=k) (by omega) 1 (p:=ol+k*2+1) (by omega) rfl)]
    exact (C _ _ H.k rfl (M.q rfl H.x))
   ·intro O K F H _ _ C
    have x0:=H.x
    simp [go_sem]
    exact C _ _ (H.k.alloc _) trivial (fun _=>by rw [show Jp O 3 5=false from H.t 5 rfl];exact ZM.new (s:=11) (H.f.lt (by rw [J];decide)) H.k.size [.int .i64 0,.int .i64 0])
   ·exact fun O K F H _ _ C=>XA rfl (ev (H.d 0 rfl rfl)) (C _ _ H.k rfl (M.q rfl H.x))
   ·intro O K F H _ _ C
    have x0:=H.x
    obtain ⟨g,eg,hg,y,_⟩:=x0 (H.r 3 rfl)
    have V:=y H.n
    simp [go_sem,(gS K 25 (H.d 2 rfl rfl)),eg,V.cell,V.frz]
    exact C undef _ (H.k.store (.inl hg) [.int .i64 ((l.getD k XM).low),.int .i64 ((l.getD k XM).high)] 0) trivial (fun _=>ZM.set eg hg V (us:=[.int .i64 ((l.getD k XM).low),.int .i64 ((l.getD k XM).high)]) rfl rfl)
   intro L a20 w21 U B D P T;have x0:=T;replace J:=B.Z J;replace I:=B.E I;replace s4:=B.G s4;replace s6:=B.G s6;replace s7:=B.G s7;replace s9:=B.G s9;replace s19:=B.G s19;replace s20:=B.G s20;replace s21:=B.G s21;have s10:=gS a20 10 (P 4 _ rfl);replace b3:=b3.k0 D;replace b4:=b4.k0 D;replace b5:=b5.k0 D
   obtain ⟨g22,s11,lg22,-,b22⟩:=x0 (U 3 (by decide))
   obtain ⟨_,b22,rfl⟩:=b22 (U 5 (by decide))
   have ug22:=b22.lt
   replace N2:=N2.below D.toBelow Xw;have zw18:=S;have zw21:=D.size;replace S:=Nat.le_refl w21.heap.size;replace R:=D.below0 R;clear B D P U x0 M s22 fe;refine X0 ?_;refine wp_seq ?_
   have M:Yu [12,29] (fun L aa F=>(L 2=true→(fun F v=>∃ m3,v=XY (Kt r (l.getD k XM)) m3∧XR F w21.heap.size (Kt r (l.getD k XM)) m3) F (aa.tmps[29]?.getD undef))∧(L 9=true→ZM w21 aa F 12 72 [.int .i64 0,.int .i64 0,.int .i64 0,.int .i64 0] (L 10) (fun _ vs=>vs=[.int .i64 (((X6 (Kt r (l.getD k XM)) p s).getD XW).low.n),.int .i64 (((X6 (Kt r (l.getD k XM)) p s).getD XW).low.d),.int .i64 (((X6 (Kt r (l.getD k XM)) p s).getD XW).high.n),.int .i64 (((X6 (Kt r (l.getD k XM)) p s).getD XW).high.d)]))):=by
    intro L aa F w' kk vv hkk hb T
    obtain ⟨x0,x1⟩:=T
    exact ⟨(fun h=>by rw [Xe (hkk 29 (by simp))];obtain ⟨m3',e,f3'⟩:=x0 h;exact ⟨m3',e,f3'.below hb Xw⟩),(fun h=>((x1 h).bel hb (fun _ h=>h)).put (hkk 12 (by simp)) _)⟩
   refine Yn M (by kernel_rfl) [27,28,29,30,31,32,26,33,34,12,0,13] [some (XY r ra),some (.agg #[.int .i64 ((l.getD k XM).low),.int .i64 ((l.getD k XM).high)]),none,some (.agg #[.slice b.A p.length b.c]),some (Zi s),some (.tuple #[KQ ((X6 (Kt r (l.getD k XM)) p s).getD XW),.bool ((X6 (Kt r (l.getD k XM)) p s).isSome)]),some (.tuple #[KQ ((X6 (Kt r (l.getD k XM)) p s).getD XW),.bool ((X6 (Kt r (l.getD k XM)) p s).isSome)]),some (KQ ((X6 (Kt r (l.getD k XM)) p s).getD XW)),some (.bool ((X6 (Kt r (l.getD k XM)) p s).isSome)),none,none,some (.bool ((X6 (Kt r (l.getD k XM)) p s).isSome))] ([[],[],[0,1],[],[],[0,1,2,3,4],[0,1,2,3,4,5],[0,1,2,3,4,5,6],[0,1,2,3,4,5,6],[],[0,1,2,3,4,5,6,7,9],[0,1,2,3,4,5,6,7,8,9,10]]) [27,28,29,30,31,32,26,33,34,12,13] [0,1,2,3,4,5,6,7,8,9,10,11] [] (by kernel_rfl) (by rw [J];decide) ?_ (en rfl ?_ (en rfl ?_ (en rfl ?_ (en rfl ?_ (en rfl ?_ (en rfl ?_ (en rfl ?_ (en rfl ?_ (en rfl ?_ (en rfl ?_ (en rfl ?_ (en rfl ?_ .nil)))))))))))) ?_
   ·exact fun _ h=>⟨(fun h=>by cases h),(fun h=>by cases h)⟩
   ·intro O K F H _ _ C
    simp [go_sem,H.f.g rfl s4,(b3.k0 H.k).cell]
    exact (C _ _ H.k rfl (M.q rfl H.x))
   ·intro O K F H _ _ C
    simp [go_sem,H.f.g rfl s11,(b22.k0 H.k).cell]
    exact (C _ _ H.k rfl (M.q rfl H.x))
   ·intro O K F H _ _ C
    obtain ⟨x0,x1⟩:=H.x
    simp [go_sem,(gS K 27 (H.d 0 rfl rfl)),(gS K 28 (H.d 1 rfl rfl))]
    have hBi:=H.k.below0 R
    refine (sInMode_c r ra (l.getD k XM) F hn (hs.below hBi) hnl ((hs.below hBi).map.some_ (by rw [hm4];decide))).mono ?_
    rintro x wx ⟨m3,rfl,f0,hb⟩
    have f3:=f0.mono H.k.size
    exact (C _ _ (H.k.call hb) trivial ⟨(fun _=>by rw [Xa (H.f.lt (by rw [J];decide))];exact ⟨m3,rfl,f3⟩),(fun h=>((x1 h).bel hb (fun _ h=>h)).put (by decide) _)⟩)
   ·intro O K F H _ _ C
    simp [go_sem,H.f.g rfl s6,(b4.k0 H.k).cell]
    exact (C _ _ H.k rfl (M.q rfl H.x))
   ·intro O K F H _ _ C
    simp [go_sem,H.f.g rfl s7,(b5.k0 H.k).cell]
    exact (C _ _ H.k rfl (M.q rfl H.x))
   ·intro O K F H _ _ C
    obtain ⟨x0,x1⟩:=H.x
    obtain ⟨m3,ee2,f3⟩:=x0 (H.r 2 rfl)
    simp [go_sem,ee2,(gS K 30 (H.d 3 rfl rfl)),(gS K 31 (H.d 4 rfl rfl))]
    have hBi:=H.k.below0 R
    refine (sAdmAt_c (Kt r (l.getD k XM)) p s m3 b F hn (inM_in hin (hlin _ (getD_mem hkl XM))) f3.sl f3.nil hlp hpi (hsp.below hBi) hnb hsi).mono ?_
    rintro x wx ⟨rfl,hb⟩
    exact (C _ _ (H.k.call hb) (KC _) (M.b rfl hb H.x))
   ·exact fun O K F H _ _ C=>Xs rfl (ev (H.d 5 rfl rfl)) (C _ _ H.k rfl (M.q rfl H.x))
   ·exact fun O K F H _ _ C=>Zk rfl (ev (H.d 6 rfl rfl)) rfl (C _ _ H.k rfl (M.q rfl H.x))
   ·exact fun O K F H _ _ C=>Zk rfl (ev (H.d 6 rfl rfl)) rfl (C _ _ H.k rfl (M.q rfl H.x))
   ·intro O K F H _ _ C
    obtain ⟨x0,x1⟩:=H.x
    simp [go_sem]
    exact C _ _ (H.k.alloc _) trivial ⟨(fun h=>by rw [Xe (by decide)];obtain ⟨m3',e,f3'⟩:=x0 h;exact ⟨m3',e,f3'.below (Xf bR _) Xw⟩),(fun _=>by rw [show Jp O 9 10=false from H.t 10 rfl];exact ZM.new (s:=12) (H.f.lt (by rw [J];decide)) H.k.size [.int .i64 0,.int .i64 0,.int .i64 0,.int .i64 0])⟩
   ·intro O K F H _ _ C
    obtain ⟨x0,x1⟩:=H.x
    obtain ⟨g,eg,hg,y,_⟩:=x1 (H.r 9 rfl)
    have V:=y H.n
    simp [go_sem,(gS K 33 (H.d 7 rfl rfl)),eg,V.cell,V.frz]
    exact C undef _ (H.k.store (.inl hg) [.int .i64 (((X6 (Kt r (l.getD k XM)) p s).getD XW).low.n),.int .i64 (((X6 (Kt r (l.getD k XM)) p s).getD XW).low.d),.int .i64 (((X6 (Kt r (l.getD k XM)) p s).getD XW).high.n),.int .i64 (((X6 (Kt r (l.getD k XM)) p s).getD XW).high.d)] 0) trivial ⟨(fun h=>by obtain ⟨m3',e,f3'⟩:=x0 h;exact ⟨m3',e,f3'.otherT V (by decide) (by decide) [.int .i64 (((X6 (Kt r (l.getD k XM)) p s).getD XW).low.n),.int .i64 (((X6 (Kt r (l.getD k XM)) p s).getD XW).low.d),.int .i64 (((X6 (Kt r (l.getD k XM)) p s).getD XW).high.n),.int .i64 (((X6 (Kt r (l.getD k XM)) p s).getD XW).high.d)] 0⟩),(fun _=>ZM.set eg hg V (us:=[.int .i64 (((X6 (Kt r (l.getD k XM)) p s).getD XW).low.n),.int .i64 (((X6 (Kt r (l.getD k XM)) p s).getD XW).low.d),.int .i64 (((X6 (Kt r (l.getD k XM)) p s).getD XW).high.n),.int .i64 (((X6 (Kt r (l.getD k XM)) p s).getD XW).high.d)]) rfl rfl)⟩
   ·exact fun O K F H _ _ C=>XA rfl (ev (H.d 8 rfl rfl)) (C _ _ H.k rfl (M.q rfl H.x))
   intro L a23 w24 U B D P T
   obtain ⟨x0,x1⟩:=T
   replace J:=B.Z J;replace I:=B.E I;replace s4:=B.G s4;replace s6:=B.G s6;replace s7:=B.G s7;replace s9:=B.G s9;replace s19:=B.G s19;replace s20:=B.G s20;replace s21:=B.G s21;replace s10:=B.G s10;have s13:=gS a23 13 (P 11 _ rfl);replace b3:=b3.k0 D;replace b4:=b4.k0 D;replace b5:=b5.k0 D
   obtain ⟨g25,s12,lg25,-,b25⟩:=x1 (U 9 (by decide))
   obtain ⟨_,b25,rfl⟩:=b25 (U 10 (by decide))
   have ug25:=b25.lt
   replace N2:=N2.below D.toBelow Xw;have zw24:=D.size;replace S:=Nat.le_refl w24.heap.size;replace R:=D.below0 R;clear B D P U x0 x1 M s11 b22;refine X0 ?_;refine wp_seq ?_
   refine XO (by kernel_rfl) [35] [some (.bool ((X6 (Kt r (l.getD k XM)) p s).isSome))] (Ka 1) [35] [0] [] (fun _ _ _=>True) (by kernel_rfl) (by rw [J];decide) ?_ (en rfl ?_ .nil) ?_
   ·exact fun _ _=>trivial
   ·exact fun O K F H _ _ C=>Xs rfl (ev (H.f.g rfl s13)) (C _ _ H.k rfl trivial)
   intro L a26 w27 U B D P T;replace J:=B.Z J;replace I:=B.E I;replace s4:=B.G s4;replace s6:=B.G s6;replace s7:=B.G s7;replace s9:=B.G s9;replace s19:=B.G s19;replace s20:=B.G s20;replace s21:=B.G s21;replace s10:=B.G s10;have s35:=gS a26 35 (P 0 _ rfl);replace b3:=b3.k0 D;replace b4:=b4.k0 D;replace b5:=b5.k0 D;replace N2:=N2.below D.toBelow Xw;replace S:=Nat.le_trans S D.size;replace R:=D.below0 R;clear B D P U T s13 s12 b25;refine X0 ?_
   rcases Bool.eq_false_or_eq_true ((X6 (Kt r (l.getD k XM)) p s).isSome) with q28|q28
   ·skip
    refine wp_cond_true (ev (vb s35 q28)) ?_
    have M:Yu [9,38,39] (fun L aa F=>(L 2=true→(fun F v=>∃ g4,v=.slice (some ⟨g4,0,none⟩) 1 1∧Xu F g4 3 [.int .i64 (k:Int)]∧w27.heap.size≤g4) F (aa.tmps[38]?.getD undef))∧(L 3=true→(fun F v=>∃ A5 c5,v=.slice A5 (((Js r l p s k)++[(k:Int)]).length) c5∧XK 3 1 YW F w7.heap.size (.slice A5 ((Js r l p s k)++[(k:Int)]).length c5) ((Js r l p s k)++[(k:Int)])) F (aa.tmps[39]?.getD undef))∧(L 4=true→(fun F v=>∃ A5 c5,v=.slice A5 (((Js r l p s k)++[(k:Int)]).length) c5∧XK 3 1 YW F w7.heap.size (.slice A5 ((Js r l p s k)++[(k:Int)]).length c5) ((Js r l p s k)++[(k:Int)])) F (aa.tmps[9]?.getD undef))∧(L 3=false→XK 3 1 YW F w7.heap.size (.slice A2 (Js r l p s k).length c2) (Js r l p s k))∧(L 4=false→aa.tmps[9]?.getD undef=.slice A2 ((Js r l p s k).length) c2)):=by
     intro L aa F w' kk vv hkk hb T
     obtain ⟨x0,x1,x2,x3,x4⟩:=T
     exact ⟨(fun h=>by rw [Xe (hkk 38 (by simp))];obtain ⟨g4',e,f4'⟩:=x0 h;exact ⟨g4',e,⟨f4'.1.bel hb,f4'.2⟩⟩),(fun h=>by rw [Xe (hkk 39 (by simp))];obtain ⟨A5',c5',e,f5'⟩:=x1 h;exact ⟨A5',c5',e,f5'.below hb Xw⟩),(fun h=>by rw [Xe (hkk 9 (by simp))];obtain ⟨A5',c5',e,f5'⟩:=x2 h;exact ⟨A5',c5',e,f5'.below hb Xw⟩),(fun h=>(x3 h).below hb Xw),(fun h=>(Xe (hkk 9 (by simp)) vv).trans (x4 h))⟩
    refine Yn M (by kernel_rfl) [36,37,38,39,9] [some (.slice A2 ((Js r l p s k).length) c2),some (.int .i64 (k:Int)),none,none,none] (Ka 5) [36,37,38,39,9] [0,1,2,3,4] (blkL A2) (by kernel_rfl) (by rw [J];decide) ?_ (en rfl ?_ (en rfl ?_ (en rfl ?_ (en rfl ?_ (en rfl ?_ .nil))))) ?_
    ·exact fun _ h=>⟨(fun h=>by cases h),(fun h=>by cases h),(fun h=>by cases h),(fun _=>N2.below h.toBelow Xw),(fun _=>s9)⟩
    ·intro O K F H _ _ C
     obtain ⟨x0,x1,x2,x3,x4⟩:=H.x
     exact Xs rfl (ev (x4 (H.t 4 rfl))) (C _ _ H.k rfl (M.q rfl H.x))
    ·exact fun O K F H _ _ C=>Xs rfl (ev (H.f.g rfl s10)) (C _ _ H.k rfl (M.q rfl H.x))
    ·intro O K F H _ _ C
     obtain ⟨x0,x1,x2,x3,x4⟩:=H.x
     simp [go_sem,(gS K 37 (H.d 1 rfl rfl))]
     have f4:Xu (F.alloc (.cells #[.int .i64 (k:Int)] 3)) F.heap.size 3 [.int .i64 (k:Int)]∧w27.heap.size≤F.heap.size:=⟨Xu.new _ _ _,H.k.size⟩
     exact C _ _ (H.k.alloc _) trivial ⟨(fun _=>by rw [Xa (H.f.lt (by rw [J];decide))];exact ⟨_,rfl,f4⟩),(fun h=>by rw [Xe (by decide)];obtain ⟨A5',c5',e,f5'⟩:=x1 h;exact ⟨A5',c5',e,f5'.below (Xf bR _) Xw⟩),(fun h=>by rw [Xe (by decide)];obtain ⟨A5',c5',e,f5'⟩:=x2 h;exact ⟨A5',c5',e,f5'.below (Xf bR _) Xw⟩),(fun h=>(x3 h).below (Xf bR _) Xw),(fun h=>(Xe (by decide) _).trans (x4 h))⟩
    ·intro O K F H _ _ C
     obtain ⟨x0,x1,x2,x3,x4⟩:=H.x
     obtain ⟨g4,ee2,f4⟩:=x0 (H.r 2 rfl)
     refine wp_app1 Yq rfl w7.heap.size i0n _ 8 Tryz.underlying22 hi0n hz0n hz1n hz2n rfl (by decide) (ev (H.d 0 rfl rfl)) (x3 H.n) (ev ee2) (y:=(k:Int)) f4.1 intC_one (by have:=H.k.size;omega) (by have:=sfK_len r l p s k;omega) (by decide) ?_
     intro A5 c5 wx f5 hG
     exact C _ _ (H.k.trans2 hG (fun m h=>.inl h)) trivial ⟨(fun h=>by rw [Xe (by decide)];obtain ⟨g',e,f'⟩:=x0 h;exact ⟨g',e,f'.1.kp hG (KT (fun p hp=>by have q1:=N2.blk p hp;have q2:=f'.2;omega)),f'.2⟩),(fun _=>by rw [Xa (H.f.lt (by rw [J];decide))];exact ⟨A5,c5,rfl,f5⟩),(fun h=>absurd (H.t 4 rfl) (by rw [show O 4=true by simpa [Jp] using h];decide)),(fun h=>by simp [Jp] at h),(fun h=>(Xe (by decide) _).trans (x4 h))⟩
    ·intro O K F H _ _ C
     obtain ⟨x0,x1,x2,x3,x4⟩:=H.x
     obtain ⟨A5,c5,ee3,f5⟩:=x1 (H.r 3 rfl)
     exact XA rfl (ev ee3) (C _ _ H.k trivial ⟨(fun h=>by rw [Xe (by decide)];obtain ⟨g4',e,f4'⟩:=x0 h;exact ⟨g4',e,⟨f4'.1.bel bR,f4'.2⟩⟩),(fun h=>by rw [Xe (by decide)];obtain ⟨A5',c5',e,f5'⟩:=x1 h;exact ⟨A5',c5',e,f5'.below bR Xw⟩),(fun _=>by rw [Xa (H.f.lt (by rw [J];decide))];exact ⟨A5,c5,rfl,f5⟩),(fun h=>(x3 h).below bR Xw),(fun h=>by simp [Jp] at h)⟩)
    intro L a29 w30 U B D P T
    obtain ⟨x0,x1,x2,x3,x4⟩:=T
    replace J:=B.Z J;replace I:=B.E I
    have hB9:=D.below R R.size (fun m hm=>by obtain ⟨p,hp,rfl⟩:=blkL_in hm;have q1:=N2.blk p hp;have q2:=i2 p hp;omega)
    replace s4:=B.G s4;replace s6:=B.G s6;replace s7:=B.G s7;replace s19:=B.G s19;replace s20:=B.G s20;replace s21:=B.G s21
    replace b3:=b3.kp D (KT (fun p hp=>by have q1:=N2.blk p hp;have q2:=i2 p hp;omega))
    replace b4:=b4.kp D (KT (fun p hp=>by have q1:=N2.blk p hp;have q2:=i2 p hp;omega))
    replace b5:=b5.kp D (KT (fun p hp=>by have q1:=N2.blk p hp;have q2:=i2 p hp;omega))
    obtain ⟨A5,c5,s9,N5⟩:=x2 (U 4 (by decide))
    have i5:∀ p,A5=some p→p.block<w30.heap.size:=fun p hp=>(N5.blk p hp).2;have zw27:=S;have zw30:=D.size;replace S:=Nat.le_refl w30.heap.size;replace R:=hB9;clear B D P U x0 x1 x2 x3 x4 M s10 s35 N2 i2;refine ib_n (X0 ?_)
    refine XO (by kernel_rfl) [40,21] [some (.int .i64 ((k:Int)+1)),some (.int .i64 ((k:Int)+1))] (Ka 2) [40,21] [0,1] [] (fun L aa F=>(L 1=false→aa.tmps[21]?.getD undef=.int .i64 (k:Int))) (by kernel_rfl) (by rw [J];decide) ?_ (en rfl ?_ (en rfl ?_ .nil)) ?_
    ·exact fun _ h=>(fun _=>s21)
    ·intro O K F H _ _ C
     have x0:=H.x
     exact wp_add rfl (ev (x0 (H.t 1 rfl))) rfl (by omega) (C _ _ H.k rfl (fun h=>(Xe (by decide) _).trans (x0 h)))
    ·intro O K F H _ _ C
     have x0:=H.x
     exact Xs rfl (ev (H.d 0 rfl rfl)) (C _ _ H.k rfl (fun h=>by simp [Jp] at h))
    intro L a31 w32 U B D P T;have x0:=T;replace J:=B.Z J;replace I:=B.E I;replace s4:=B.G s4;replace s6:=B.G s6;replace s7:=B.G s7;replace s19:=B.G s19;replace s20:=B.G s20;replace s9:=B.G s9;have s21:=gS a31 21 (P 1 _ rfl);replace b3:=b3.k0 D;replace b4:=b4.k0 D;replace b5:=b5.k0 D;replace N5:=N5.below D.toBelow Xw;replace S:=Nat.le_trans S D.size;replace R:=D.below0 R;clear B D P U x0;refine X0 ?_
    refine ⟨?_, ?_⟩
    ·exact ⟨J,I,(k+1),(A5),(c5),(by omega),s4,s6,s7,(by rw [sfK_yes (r:=r) (l:=l) (p:=p) (s:=s) (k:=k) q28];exact s9),s19,s20,s21,b3,b4,b5,(by rw [sfK_yes (r:=r) (l:=l) (p:=p) (s:=s) (k:=k) q28];exact N5),R,(by omega)⟩
    ·show (l.length-(intOf (a31.tmps[21]?.getD undef)).toNat)<_
     rw [s21,hmu];simp only [intOf];omega
   ·skip
    refine wp_cond_false (ev (vb s35 q28)) ?_
    refine wp_skip ?_;refine ib_n (X0 ?_)
    refine XO (by kernel_rfl) [40,21] [some (.int .i64 ((k:Int)+1)),some (.int .i64 ((k:Int)+1))] (Ka 2) [40,21] [0,1] [] (fun L aa F=>(L 1=false→aa.tmps[21]?.getD undef=.int .i64 (k:Int))) (by kernel_rfl) (by rw [J];decide) ?_ (en rfl ?_ (en rfl ?_ .nil)) ?_
    ·exact fun _ h=>(fun _=>s21)
    ·intro O K F H _ _ C
     have x0:=H.x
     exact wp_add rfl (ev (x0 (H.t 1 rfl))) rfl (by omega) (C _ _ H.k rfl (fun h=>(Xe (by decide) _).trans (x0 h)))
    ·intro O K F H _ _ C
     have x0:=H.x
     exact Xs rfl (ev (H.d 0 rfl rfl)) (C _ _ H.k rfl (fun h=>by simp [Jp] at h))
    intro L a33 w34 U B D P T;have x0:=T;replace J:=B.Z J;replace I:=B.E I;replace s4:=B.G s4;replace s6:=B.G s6;replace s7:=B.G s7;replace s9:=B.G s9;replace s19:=B.G s19;replace s20:=B.G s20;have s21:=gS a33 21 (P 1 _ rfl);replace b3:=b3.k0 D;replace b4:=b4.k0 D;replace b5:=b5.k0 D;replace N2:=N2.below D.toBelow Xw;replace S:=Nat.le_trans S D.size;replace R:=D.below0 R;clear B D P U x0 s10 s35;refine X0 ?_
    refine ⟨?_, ?_⟩
    ·exact ⟨J,I,(k+1),(A2),(c2),(by omega),s4,s6,s7,(by rw [sfK_no (r:=r) (l:=l) (p:=p) (s:=s) (k:=k) q28];exact s9),s19,s20,s21,b3,b4,b5,(by rw [sfK_no (r:=r) (l:=l) (p:=p) (s:=s) (k:=k) q28];exact N2),R,(by omega)⟩
    ·show (l.length-(intOf (a33.tmps[21]?.getD undef)).toNat)<_
     rw [s21,hmu];simp only [intOf];omega
  ·skip
   have ek:k=l.length:=by have:=Xx q19;omega
   refine wp_cond_false (ev (vb s22 q19)) ?_
   refine wp_exit ?_
   refine th_e (th_e (ib_x (X0 ?_)));refine wp_seq ?_
   refine XO (by kernel_rfl) [41,8] [some (.slice A2 ((Js r l p s k).length) c2),some (.slice A2 ((Js r l p s k).length) c2)] (Ka 2) [41,8] [0,1] [] (fun _ _ _=>True) (by kernel_rfl) (by rw [J];decide) ?_ (en rfl ?_ (en rfl ?_ .nil)) ?_
   ·exact fun _ _=>trivial
   ·exact fun O K F H _ _ C=>Xs rfl (ev (H.f.g rfl s9)) (C _ _ H.k rfl trivial)
   ·exact fun O K F H _ _ C=>XA rfl (ev (H.d 0 rfl rfl)) (C _ _ H.k rfl trivial)
   intro L a35 w36 U B D P T;replace J:=B.Z J;replace I:=B.E I;have s8:=gS a35 8 (P 1 _ rfl);replace N2:=N2.below D.toBelow Xw;replace S:=Nat.le_trans S D.size;replace R:=D.below0 R;clear B D P U T s4 s6 s7 s9 s19 s20 s21 s22 b3 b4 b5;refine X0 ?_
   refine wp_ret ?_
   refine bodyPost_ret (v:=.slice A2 ((Js r l p s k).length) c2) (by simp [results,Tryz.results17,go_sem,s8]) I ?_
   have h0:=sf_yes (p:=p) (s:=s) hm
   rw [ek] at N2
   exact ⟨_,by rw [ek],by rw [h0];exact N2.mono (by omega),R⟩
end Go.Proofs.YtkjimfapbjdafaaGreat
