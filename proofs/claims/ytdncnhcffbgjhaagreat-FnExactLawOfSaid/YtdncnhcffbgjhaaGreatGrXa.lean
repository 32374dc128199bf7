/-
 Whether a region contains a point: of the program.
 Conditions: valid half planes, valid points.
-/
import Derived.Test.YtdncnhcffbgjhaaGreatGrL
import Derived.Test.YtdncnhcffbgjhaaGreatGrR
import Derived.Test.YtdncnhcffbgjhaaGreatGrZ
import Derived.Test.YtdncnhcffbgjhaaGreatGrW
import Derived.Test.YtdncnhcffbgjhaaGreatGrS
import Derived.Test.YtdncnhcffbgjhaaGreatCnr
import Derived.Test.YtdncnhcffbgjhaaGreatGrU
section
namespace Go.Proofs.YtdncnhcffbgjhaaGreat
open Go.RowKit
def valS (h:Half) (s:Spot):Int:=h.a*s.x+h.b*s.y-h.c*s.d
def holdsH (s:Spot) (h:Half):Bool:=decide (valS h s≤0)
def holdsB (p:List Half) (s:Spot):Bool:=!decide (p.length=0)&&p.all (holdsH s)
def withinB (p q:List Half):Bool:=(corners p).all (holdsB q)
theorem valS_bd {h:Half} {s:Spot} (hh:halfOk h=true) (hs:spotOk s=true):(-250000000000000000≤h.a*s.x∧h.a*s.x≤250000000000000000)∧(-250000000000000000≤h.b*s.y∧h.b*s.y≤250000000000000000)∧(-500000000000000000≤h.c*s.d∧h.c*s.d≤500000000000000000):=by
 obtain ⟨h1,h2,h3,_⟩:=spotOk_iff.1 hs
 obtain ⟨a1,a2,a3,_⟩:=halfOk_iff.1 hh
 have p:=mulB (a:=h.a) (b:=s.x) (A:=50000) (B:=5000000000000) ⟨by omega,by omega⟩ ⟨by omega,by omega⟩
 have q:=mulB (a:=h.b) (b:=s.y) (A:=50000) (B:=5000000000000) ⟨by omega,by omega⟩ ⟨by omega,by omega⟩
 have r:=mulB (a:=h.c) (b:=s.d) (A:=100000000) (B:=5000000000) ⟨by omega,by omega⟩ ⟨by omega,by omega⟩
 exact ⟨⟨by omega,by omega⟩,⟨by omega,by omega⟩,⟨by omega,by omega⟩⟩
theorem spot_In {s:Spot} (hs:spotOk s=true):s.In:=by
 obtain ⟨h1,h2,h3,_⟩:=spotOk_iff.1 hs
 exact ⟨⟨by omega,by omega⟩,⟨by omega,by omega⟩,⟨by omega,by omega⟩⟩
theorem iSignOf_c (n:Int) (w:World) :
 Calls Tryz.prog 201 #[.int .i64 n] w fun e w'=>e=.returned (.int .i64 (sgn n))∧Below w.heap.size w w':=by
 rcases (show n<0∨n=0∨0<n by omega) with h|h|h
 ·rw [sgn_of_neg h]
  go_enter Tryz.func201,Tryz.ntmps201
  go_wp2
  go_ret
  refine ⟨rfl, ?_⟩
  exact belA
 ·subst h
  rw [sgn_zero]
  go_enter Tryz.func201,Tryz.ntmps201
  go_wp2
  go_ret
  refine ⟨rfl, ?_⟩
  exact belA
 ·rw [sgn_of_pos h]
  go_enter Tryz.func201,Tryz.ntmps201
  go_wp2
  go_ret
  refine ⟨rfl, ?_⟩
  exact belA
set_option maxHeartbeats 1000000 in
theorem iSideOf_c (h:Half) (s:Spot) (w:World) (hh:halfOk h=true) (hs:spotOk s=true) :
 Calls Tryz.prog 136 #[halfV h,spotV s] w fun e w'=>e=.returned (.int .i64 (sgn (valS h s)))∧Below w.heap.size w w':=by
 have k1:=fun W=>iHalfOk_c h W (hIn (hOk hh))
 have k2:=fun W=>iSpotOk_c s W (spot_In hs)
 have k3:=fun W=>iSignOf_c (valS h s) W
 obtain ⟨⟨b1,b2⟩,⟨b3,b4⟩,⟨b5,b6⟩⟩:=valS_bd hh hs
 rw [hh] at k1
 rw [hs] at k2
 clear hh hs
 change ∀ W,Calls _ _ #[.int .i64 (h.a*s.x+h.b*s.y-h.c*s.d)] W _ at k3
 generalize sgn (valS h s)=v at *
 go_enter Tryz.func136,Tryz.ntmps136
 go_wp2_with (fail)
 refine (k1 _).mono ?_
 rintro e w3 ⟨rfl,hb_w3⟩
 have r_w3:=bcell1 hb_w3
 have l_w3_0:w.heap.size<w3.heap.size:=blt hb_w3 (by first|(simp;done)|(simp;omega)|omega)
 have l_w3_1:w.heap.size+1<w3.heap.size:=blt hb_w3 (by first|(simp;done)|(simp;omega)|omega)
 go_wp2_with (fail)
 refine (k2 _).mono ?_
 rintro e w4 ⟨rfl,hb_w4⟩
 have r_w4:=bcell1 hb_w4
 have l_w4_0:w.heap.size<w4.heap.size:=blt hb_w4 (by first|(simp;done)|(simp;omega)|omega)
 have l_w4_1:w.heap.size+1<w4.heap.size:=blt hb_w4 (by first|(simp;done)|(simp;omega)|omega)
 go_wp2_with (fail)
 refine (k3 _).mono ?_
 rintro e w5 ⟨rfl,hb_w5⟩
 have r_w5:=bcell1 hb_w5
 have l_w5_0:w.heap.size<w5.heap.size:=blt hb_w5 (by first|(simp;done)|(simp;omega)|omega)
 have l_w5_1:w.heap.size+1<w5.heap.size:=blt hb_w5 (by first|(simp;done)|(simp;omega)|omega)
 go_wp2
 go_ret
 refine ⟨rfl, ?_⟩
 exact belA
end Go.Proofs.YtdncnhcffbgjhaaGreat
end
section
namespace Go.Proofs.YtdncnhcffbgjhaaGreat
open Go.RowKit
end Go.Proofs.YtdncnhcffbgjhaaGreat
end
section
namespace Go.Proofs.YtdncnhcffbgjhaaGreat
open Go.RowKit
theorem getD_el {α:Type} {l:List α} {k:Nat} (h:k<l.length) (d:α):l.getD k d=l[k]:=by rw [List.getD_eq_getElem?_getD,List.getElem?_eq_getElem h,Option.getD_some]
theorem getD_mem {α:Type} {l:List α} {k:Nat} (h:k<l.length) (d:α):l.getD k d∈l:=by rw [getD_el h];exact List.getElem_mem h
set_option maxRecDepth 100000 in
set_option maxHeartbeats 3000000 in
theorem sSide_c (h:Half) (s:Spot) (w:World) (hh:halfOk h=true) (hs:spotOk s=true) :
 Calls Tryz.prog 130 #[halfV h,spotV s] w fun x w'=>x=.returned (.int .i64 (sgn (valS h s)))∧Below w.heap.size w w':=by
 obtain ⟨⟨k1,k2⟩,⟨k3,k4⟩,⟨k5,k6⟩⟩:=valS_bd hh hs
 refine calls_v Tryz.func130 rfl (n:=29) Tryz.ntmps130 (by simp) ?_
 intro a0 hz hdf ha
 have s0:a0.tmps[0]?.getD undef=halfV h:=ha 0 _ rfl;have s1:a0.tmps[1]?.getD undef=spotV s:=ha 1 _ rfl;clear ha
 have hB:=Below.refl w.heap.size w
 have hZ:=Nat.le_refl w.heap.size
 refine wp_seq ?_
 refine wp_entry [2,3,4] [.pointer (some ⟨w.heap.size,0,none⟩),.pointer (some ⟨(w.heap.size+1),0,none⟩),.int .i64 0] [some (.cells [.int .i64 h.a,.int .i64 h.b,.int .i64 h.c].toArray 111),some (.cells [.int .i64 s.x,.int .i64 s.y,.int .i64 s.d].toArray 57),none] [0,1,2] [2,3,4] [0,1,2] (by kernel_rfl) (by rw [hz];decide) (ec ?_ (ec ?_ (ec ?_ .nil))) ?_
 ·intro a w' hF hs N Q hN;simp [go_sem,hF.g rfl s0];rw [hs];exact hN
 ·intro a w' hF hs N Q hN;simp [go_sem,hF.g rfl s1];rw [hs];exact hN
 ·intro a w' hF hs N Q hN;simp [go_sem];exact hN
 intro a1 w2 hF hV hb hO
 replace hz:=hF.size.trans hz;replace hdf:=hF.defers.trans hdf
 have s2:a1.tmps[2]?.getD undef=.pointer (some ⟨w.heap.size,0,none⟩):=hV 0 (by decide)
 have s3:a1.tmps[3]?.getD undef=.pointer (some ⟨(w.heap.size+1),0,none⟩):=hV 1 (by decide)
 have b3:HasT w2 w.heap.size 111 [.int .i64 h.a,.int .i64 h.b,.int .i64 h.c]:=hO 0 _ rfl
 have b4:HasT w2 (w.heap.size+1) 57 [.int .i64 s.x,.int .i64 s.y,.int .i64 s.d]:=hO 1 _ rfl
 have hG:=b4.lt
 replace hB:=below_tr hB hb;have zw2:=Nat.le_trans hZ hb.size;replace hZ:=Nat.le_refl w2.heap.size;clear hF hV hb hO s0 s1;refine th_n ?_;refine wp_seq ?_
 refine wp_regJ (by kernel_rfl) [6,7,8,9,10,11,12,13,14,15,16,17,18,19,20,21,22,5] [some (.pointer (some ⟨w.heap.size,0,none⟩)),some (.int .i64 h.a),some (.pointer (some ⟨(w.heap.size+1),0,none⟩)),some (.int .i64 s.x),some (.int .i64 (h.a*s.x)),some (.pointer (some ⟨w.heap.size,1,none⟩)),some (.int .i64 h.b),some (.pointer (some ⟨(w.heap.size+1),1,none⟩)),some (.int .i64 s.y),some (.int .i64 (h.b*s.y)),some (.int .i64 ((h.a*s.x)+(h.b*s.y))),some (.pointer (some ⟨w.heap.size,2,none⟩)),some (.int .i64 h.c),some (.pointer (some ⟨(w.heap.size+1),2,none⟩)),some (.int .i64 s.d),some (.int .i64 (h.c*s.d)),some (.int .i64 (((h.a*s.x)+(h.b*s.y))-(h.c*s.d))),some (.int .i64 (((h.a*s.x)+(h.b*s.y))-(h.c*s.d)))] (dlR 18) [6,7,8,9,10,11,12,13,14,15,16,17,18,19,20,21,22,5] [0,1,2,3,4,5,6,7,8,9,10,11,12,13,14,15,16,17] [] (fun _ _ _=>True) (by kernel_rfl) (by rw [hz];decide) ?_ (en rfl ?_ (en rfl ?_ (en rfl ?_ (en rfl ?_ (en rfl ?_ (en rfl ?_ (en rfl ?_ (en rfl ?_ (en rfl ?_ (en rfl ?_ (en rfl ?_ (en rfl ?_ (en rfl ?_ (en rfl ?_ (en rfl ?_ (en rfl ?_ (en rfl ?_ (en rfl ?_ .nil)))))))))))))))))) ?_
 ·exact fun _ _=>trivial
 ·intro Lk ak ww H _ _ hN
  simp [go_sem,H.f.g rfl s2]
  exact (hN _ _ H.k rfl trivial)
 ·intro Lk ak ww H _ _ hN
  simp [go_sem,(gS ak 6 (H.d 0 rfl rfl)),(b3.k0 H.k).cell]
  exact (hN _ _ H.k rfl trivial)
 ·intro Lk ak ww H _ _ hN
  simp [go_sem,H.f.g rfl s3]
  exact (hN _ _ H.k rfl trivial)
 ·intro Lk ak ww H _ _ hN
  simp [go_sem,(gS ak 8 (H.d 2 rfl rfl)),(b4.k0 H.k).cell]
  exact (hN _ _ H.k rfl trivial)
 ·exact fun Lk ak ww H _ _ hN=>wp_mul rfl (ev (H.d 1 rfl rfl)) (ev (H.d 3 rfl rfl)) (by omega) (hN _ _ H.k rfl trivial)
 ·intro Lk ak ww H _ _ hN
  simp [go_sem,H.f.g rfl s2]
  exact (hN _ _ H.k rfl trivial)
 ·intro Lk ak ww H _ _ hN
  simp [go_sem,(gS ak 11 (H.d 5 rfl rfl)),(b3.k0 H.k).cell]
  exact (hN _ _ H.k rfl trivial)
 ·intro Lk ak ww H _ _ hN
  simp [go_sem,H.f.g rfl s3]
  exact (hN _ _ H.k rfl trivial)
 ·intro Lk ak ww H _ _ hN
  simp [go_sem,(gS ak 13 (H.d 7 rfl rfl)),(b4.k0 H.k).cell]
  exact (hN _ _ H.k rfl trivial)
 ·exact fun Lk ak ww H _ _ hN=>wp_mul rfl (ev (H.d 6 rfl rfl)) (ev (H.d 8 rfl rfl)) (by omega) (hN _ _ H.k rfl trivial)
 ·exact fun Lk ak ww H _ _ hN=>wp_add rfl (ev (H.d 4 rfl rfl)) (ev (H.d 9 rfl rfl)) (by omega) (hN _ _ H.k rfl trivial)
 ·intro Lk ak ww H _ _ hN
  simp [go_sem,H.f.g rfl s2]
  exact (hN _ _ H.k rfl trivial)
 ·intro Lk ak ww H _ _ hN
  simp [go_sem,(gS ak 17 (H.d 11 rfl rfl)),(b3.k0 H.k).cell]
  exact (hN _ _ H.k rfl trivial)
 ·intro Lk ak ww H _ _ hN
  simp [go_sem,H.f.g rfl s3]
  exact (hN _ _ H.k rfl trivial)
 ·intro Lk ak ww H _ _ hN
  simp [go_sem,(gS ak 19 (H.d 13 rfl rfl)),(b4.k0 H.k).cell]
  exact (hN _ _ H.k rfl trivial)
 ·exact fun Lk ak ww H _ _ hN=>wp_mul rfl (ev (H.d 12 rfl rfl)) (ev (H.d 14 rfl rfl)) (by omega) (hN _ _ H.k rfl trivial)
 ·exact fun Lk ak ww H _ _ hN=>wp_sub rfl (ev (H.d 10 rfl rfl)) (ev (H.d 15 rfl rfl)) (by omega) (hN _ _ H.k rfl trivial)
 ·exact fun Lk ak ww H _ _ hN=>wp_assign rfl (ev (H.d 16 rfl rfl)) (hN _ _ H.k rfl trivial)
 intro L a5 w6 hL hF hK hV hX;replace hz:=hF.Z hz;replace hdf:=hF.E hdf;have s5:=gS a5 5 (hV 17 _ rfl);replace hZ:=Nat.le_trans hZ hK.size;replace hB:=hK.below0 hB;clear hF hK hV hL hX s2 s3 b3 b4;refine th_n ?_;refine wp_seq ?_;refine wp_block ?_;refine wp_seq ?_
 refine wp_regJ (by kernel_rfl) [24,25,23] [some (.int .i64 (((h.a*s.x)+(h.b*s.y))-(h.c*s.d))),some (.bool (decide (((h.a*s.x)+(h.b*s.y))-(h.c*s.d)<0))),some (.bool (decide (((h.a*s.x)+(h.b*s.y))-(h.c*s.d)<0)))] (dlR 3) [24,25,23] [0,1,2] [] (fun _ _ _=>True) (by kernel_rfl) (by rw [hz];decide) ?_ (en rfl ?_ (en rfl ?_ (en rfl ?_ .nil))) ?_
 ·exact fun _ _=>trivial
 ·exact fun Lk ak ww H _ _ hN=>wp_move rfl (ev (H.f.g rfl s5)) (hN _ _ H.k rfl trivial)
 ·exact fun Lk ak ww H _ _ hN=>wp_bin rfl (ev (H.d 0 rfl rfl)) rfl rfl rfl (hN _ _ H.k rfl trivial)
 ·exact fun Lk ak ww H _ _ hN=>wp_assign rfl (ev (H.d 1 rfl rfl)) (hN _ _ H.k rfl trivial)
 intro L a7 w8 hL hF hK hV hX;replace hz:=hF.Z hz;replace hdf:=hF.E hdf;replace s5:=hF.G s5;have s23:=gS a7 23 (hV 2 _ rfl);replace hZ:=Nat.le_trans hZ hK.size;replace hB:=hK.below0 hB;clear hF hK hV hL hX;refine th_n ?_
 rcases Bool.eq_false_or_eq_true (decide (((h.a*s.x)+(h.b*s.y))-(h.c*s.d)<0)) with q9|q9
 ·skip
  refine wp_cond_true (ev (vb s23 q9)) ?_
  refine wp_seq ?_
  refine wp_regJ (by kernel_rfl) [4] [some (.int .i64 (-1))] (dlR 1) [4] [0] [] (fun _ _ _=>True) (by kernel_rfl) (by rw [hz];decide) ?_ (en rfl ?_ .nil) ?_
  ·exact fun _ _=>trivial
  ·exact fun Lk ak ww H _ _ hN=>wp_assign rfl rfl (hN _ _ H.k rfl trivial)
  intro L a10 w11 hL hF hK hV hX;replace hz:=hF.Z hz;replace hdf:=hF.E hdf;have s4:=gS a10 4 (hV 0 _ rfl);replace hZ:=Nat.le_trans hZ hK.size;replace hB:=hK.below0 hB;clear hF hK hV hL hX s5 s23;refine th_n ?_
  refine wp_ret ?_
  refine ib_r (th_r ?_)
  refine bodyPost_ret (v:=.int .i64 (-1)) (by simp [results,Tryz.results130,go_sem,s4]) hdf ?_
  exact ⟨by rw [show sgn (valS h s) = -1 by unfold sgn valS;rw [if_pos (dec_t q9)]],hB⟩
 ·skip
  refine wp_cond_false (ev (vb s23 q9)) ?_
  refine wp_seq ?_
  refine wp_regJ (by kernel_rfl) [27,28,26] [some (.int .i64 (((h.a*s.x)+(h.b*s.y))-(h.c*s.d))),some (.bool (decide (((h.a*s.x)+(h.b*s.y))-(h.c*s.d) > 0))),some (.bool (decide (((h.a*s.x)+(h.b*s.y))-(h.c*s.d) > 0)))] (dlR 3) [27,28,26] [0,1,2] [] (fun _ _ _=>True) (by kernel_rfl) (by rw [hz];decide) ?_ (en rfl ?_ (en rfl ?_ (en rfl ?_ .nil))) ?_
  ·exact fun _ _=>trivial
  ·exact fun Lk ak ww H _ _ hN=>wp_move rfl (ev (H.f.g rfl s5)) (hN _ _ H.k rfl trivial)
  ·exact fun Lk ak ww H _ _ hN=>wp_bin rfl (ev (H.d 0 rfl rfl)) rfl rfl rfl (hN _ _ H.k rfl trivial)
  ·exact fun Lk ak ww H _ _ hN=>wp_assign rfl (ev (H.d 1 rfl rfl)) (hN _ _ H.k rfl trivial)
  intro L a12 w13 hL hF hK hV hX;replace hz:=hF.Z hz;replace hdf:=hF.E hdf;have s26:=gS a12 26 (hV 2 _ rfl);replace hZ:=Nat.le_trans hZ hK.size;replace hB:=hK.below0 hB;clear hF hK hV hL hX s5 s23;refine th_n ?_
  rcases Bool.eq_false_or_eq_true (decide (((h.a*s.x)+(h.b*s.y))-(h.c*s.d) > 0)) with q14|q14
  ·skip
   refine wp_cond_true (ev (vb s26 q14)) ?_
   refine wp_seq ?_
   refine wp_regJ (by kernel_rfl) [4] [some (.int .i64 1)] (dlR 1) [4] [0] [] (fun _ _ _=>True) (by kernel_rfl) (by rw [hz];decide) ?_ (en rfl ?_ .nil) ?_
   ·exact fun _ _=>trivial
   ·exact fun Lk ak ww H _ _ hN=>wp_assign rfl rfl (hN _ _ H.k rfl trivial)
   intro L a15 w16 hL hF hK hV hX;replace hz:=hF.Z hz;replace hdf:=hF.E hdf;have s4:=gS a15 4 (hV 0 _ rfl);replace hZ:=Nat.le_trans hZ hK.size;replace hB:=hK.below0 hB;clear hF hK hV hL hX s26;refine th_n ?_
   refine wp_ret ?_
   refine ib_r (th_r ?_)
   refine bodyPost_ret (v:=.int .i64 1) (by simp [results,Tryz.results130,go_sem,s4]) hdf ?_
   exact ⟨by rw [show sgn (valS h s)=1 by unfold sgn valS;rw [if_neg (dec_f q9),if_pos (dec_t q14)]],hB⟩
  ·skip
   refine wp_cond_false (ev (vb s26 q14)) ?_
   refine wp_skip ?_;refine ib_n (th_n ?_);refine wp_seq ?_
   refine wp_regJ (by kernel_rfl) [4] [some (.int .i64 0)] (dlR 1) [4] [0] [] (fun _ _ _=>True) (by kernel_rfl) (by rw [hz];decide) ?_ (en rfl ?_ .nil) ?_
   ·exact fun _ _=>trivial
   ·exact fun Lk ak ww H _ _ hN=>wp_assign rfl rfl (hN _ _ H.k rfl trivial)
   intro L a17 w18 hL hF hK hV hX;replace hz:=hF.Z hz;replace hdf:=hF.E hdf;have s4:=gS a17 4 (hV 0 _ rfl);replace hZ:=Nat.le_trans hZ hK.size;replace hB:=hK.below0 hB;clear hF hK hV hL hX s26;refine th_n ?_
   refine wp_ret ?_
   refine bodyPost_ret (v:=.int .i64 0) (by simp [results,Tryz.results130,go_sem,s4]) hdf ?_
   exact ⟨by rw [show sgn (valS h s)=0 by unfold sgn valS;rw [if_neg (dec_f q9),if_neg (dec_f q14)]],hB⟩
end Go.Proofs.YtdncnhcffbgjhaaGreat
end
