/-
 How fractions are compared: of the program (products of 128 bits) and of the reference (continued remainders); the lesser and the greater one; spans.
 Conditions: the numbers are ints of the machine.
-/
import Derived.Shelf.Bits.Mul64
import Derived.Deep.RegionHeld3
import Derived.Deep.DeepCutAuto
import Derived.Deep.DeepMust
import Derived.Test.YtkjimfapbjdafaaGreatGrZ
set_option maxHeartbeats 4000000
set_option maxRecDepth 100000
namespace Go.Proofs.YtkjimfapbjdafaaGreat
open Go.RowKit
theorem sgn_zero:sgn 0=0:=rfl
theorem sgn_le {x:Int}:sgn x<=0 ↔ x<=0:=by unfold sgn;split<;>(try split)<;>omega
def valS (h:Half) (s:Ya):Int:=h.a*s.x+h.b*s.y-h.c*s.d
def holdsH (s:Ya) (h:Half):Bool:=decide (valS h s<=0)
def Ze (p:List Half) (s:Ya):Bool:=!decide (p.length=0)&&p.all (holdsH s)
theorem holds_no {p:List Half} {s:Ya} {k:Nat} (h:k<p.length) (hb:0<sgn (valS p[k] s)):Ze p s=false:=by
 unfold Ze;have:p.all (holdsH s)=false:=by
  rw [List.all_eq_false];refine ⟨p[k],List.getElem_mem h, ?_⟩;unfold holdsH;have:¬ valS p[k] s<=0:=λ h2=>by have:=sgn_le.2 h2;omega
  rw [decide_eq_false this];decide
 rw [this,Bool.and_false]
theorem holds_step {p:List Half} {s:Ya} {k:Nat} (h:k<p.length) (h1:(p.take k).all (holdsH s)=true) (hb:¬ 0<sgn (valS p[k] s)):(p.take (k+1)).all (holdsH s)=true:=by
 rw [List.take_add_one,List.getElem?_eq_getElem h,List.all_append,h1];have:valS p[k] s<=0:=sgn_le.1 (by omega);simp [holdsH,this]
theorem valS_bd {h:Half} {s:Ya} (hh:XW h=true) (hs:Xu s=true):(-250000000000000000<=h.a*s.x/\h.a*s.x<=250000000000000000)/\(-250000000000000000<=h.b*s.y/\h.b*s.y<=250000000000000000)/\(-500000000000000000<=h.c*s.d/\h.c*s.d<=500000000000000000):=by
 obtain ⟨h1,h2,h3,_⟩:=JM.1 hs;obtain ⟨a1,a2,a3,_⟩:=Kd.1 hh;have p:=JC (a:=h.a) (b:=s.x) (A:=50000) (B:=5000000000000) ⟨by omega,by omega⟩ ⟨by omega,by omega⟩;have q:=JC (a:=h.b) (b:=s.y) (A:=50000) (B:=5000000000000) ⟨by omega,by omega⟩ ⟨by omega,by omega⟩;have r:=JC (a:=h.c) (b:=s.d) (A:=100000000) (B:=5000000000) ⟨by omega,by omega⟩ ⟨by omega,by omega⟩;exact ⟨⟨by omega,by omega⟩,⟨by omega,by omega⟩,⟨by omega,by omega⟩⟩
theorem spot_In {s:Ya} (hs:Xu s=true):s.In:=by
 obtain ⟨h1,h2,h3,_⟩:=JM.1 hs;exact ⟨⟨by omega,by omega⟩,⟨by omega,by omega⟩,⟨by omega,by omega⟩⟩
theorem iSignOf_c (n:Int) (w:World) :
 Calls Tryz.prog 275 #[.int .i64 n] w λ e w'=>e=.returned (.int .i64 (sgn n))/\Below w.heap.size w w':=by
 rcases (show n<0∨n=0∨0<n by omega) with h|h|h
 ·rw [sgn_of_neg h];go_enter Tryz.func275,Tryz.ntmps275
  go_wp2
  go_ret
  refine ⟨rfl, ?_⟩;exact XA
 ·subst h;rw [sgn_zero];go_enter Tryz.func275,Tryz.ntmps275
  go_wp2
  go_ret
  refine ⟨rfl, ?_⟩;exact XA
 ·rw [sgn_of_pos h];go_enter Tryz.func275,Tryz.ntmps275
  go_wp2
  go_ret
  refine ⟨rfl, ?_⟩;exact XA
theorem iSideOf_c (h:Half) (s:Ya) (w:World) (hh:XW h=true) (hs:Xu s=true) :
 Calls Tryz.prog 241 #[YW h,Yj s] w λ e w'=>e=.returned (.int .i64 (sgn (valS h s)))/\Below w.heap.size w w':=by
 have k1:=λ W=>iHalfOk_c h W (hIn (hOk hh));have k2:=λ W=>iSpotOk_c s W (spot_In hs);have k3:=λ W=>iSignOf_c (valS h s) W;obtain ⟨⟨b1,b2⟩,⟨b3,b4⟩,⟨b5,b6⟩⟩:=valS_bd hh hs;rw [hh] at k1;rw [hs] at k2;clear hh hs;change ∀ W,Calls _ _ #[.int .i64 (h.a*s.x+h.b*s.y-h.c*s.d)] W _ at k3
 generalize sgn (valS h s)=v at *;go_enter Tryz.func241,Tryz.ntmps241
 go_wp2_with (fail)
 refine (k1 _).mono ?_;rintro e w3 ⟨rfl,hb_w3⟩;have r_w3:=Xz hb_w3;have l_w3_0:w.heap.size<w3.heap.size:=XO hb_w3;have l_w3_1:w.heap.size+1<w3.heap.size:=XO hb_w3;go_wp2_with (fail)
 refine (k2 _).mono ?_;rintro e w4 ⟨rfl,hb_w4⟩;have r_w4:=Xz hb_w4;have l_w4_0:w.heap.size<w4.heap.size:=XO hb_w4;have l_w4_1:w.heap.size+1<w4.heap.size:=XO hb_w4;go_wp2_with (fail)
 refine (k3 _).mono ?_;rintro e w5 ⟨rfl,hb_w5⟩;have r_w5:=Xz hb_w5;have l_w5_0:w.heap.size<w5.heap.size:=XO hb_w5;have l_w5_1:w.heap.size+1<w5.heap.size:=XO hb_w5;go_wp2
 go_ret
 refine ⟨rfl, ?_⟩;exact XA
theorem iHolds_c (p:List Half) (a:ZY) (s:Ya) (w:World) (hl:p.length<=1000000) (hok:∀ h∈p,XW h=true) (hs:Xu s=true) (hsl:Sl 3 Xk w a.A p) :
 Calls Tryz.prog 187 #[Zb p a,Yj s] w λ e w'=>e=.returned (.bool (Ze p s))/\Below w.heap.size w w':=by
 obtain ⟨A,cap⟩:=a;simp only at hsl;obtain ⟨W,hW⟩:∃ W,W=(w.alloc (.cells #[.slice A p.length cap] 37)).alloc (.cells #[.int .i64 s.x,.int .i64 s.y,.int .i64 s.d] 44):=⟨_,rfl⟩;have HA:YI W w.heap.size [.slice A p.length cap]:=by rw [hW];exact Zp
 have HB:YI W (w.heap.size+1) [.int .i64 s.x,.int .i64 s.y,.int .i64 s.d]:=by rw [hW];exact Zp
 have b0:Below w.heap.size w W:=by rw [hW];exact XA
 have hs0:=hsl.below b0;have hW':=Lib.hid hW;have hok':=Lib.hid hok;clear hW hsl hok;go_enter Tryz.func187,Tryz.ntmps187
 go_upto_region 1 with fail
 rw [<- hW'.out];clear hW';obtain ⟨cHA_0,fHA_0⟩:=HA.2 0 _ rfl;go_wp2
 go_loopw [6,10] (λ _ i wr=>∃ k:Nat,k<=p.length/\i=.int .i64 k/\(p.take k).all (holdsH s)=true/\Below W.heap.size W wr) (λ _ i _=>p.length-(intOf i).toNat)
 case atStart=>exact ⟨0,Nat.zero_le _,rfl,rfl,Below.refl _ _⟩
 case round =>
  obtain ⟨k,hk,rfl,hall,hbw⟩:=hrel;have H1:=HA.below hbw;have H2:=HB.below hbw;have hS:=hs0.below hbw;have bw:=b0.trans (hbw.mono b0.size);by_cases hlt:k<p.length
  ·obtain ⟨b,off,hA,hblt,hc⟩:=hS.at_ hlt;have g0:=hc 0 _ rfl;have g1:=hc 1 _ rfl;have g2:=hc 2 _ rfl;simp only [Nat.add_zero] at g0;subst hA;have c1:=λ W=>iSideOf_c p[k] s W (hok'.out _ (List.getElem_mem hlt)) hs;have hn:=Lib.hid (λ h=>@holds_no p s k hlt h);have hy:=Lib.hid (λ h=>@holds_step p s k hlt hall h);clear hc hall;generalize sgn (valS p[k] s)=sg at *;generalize p[k]=h at *;have H1x:=H1.alloc (.cells #[.int .i64 h.a,.int .i64 h.b,.int .i64 h.c] 175);have H2x:=H2.alloc (.cells #[.int .i64 h.a,.int .i64 h.b,.int .i64 h.c] 175);have bx:=hbw.alloc hbw.size (.cells #[.int .i64 h.a,.int .i64 h.b,.int .i64 h.c] 175);obtain ⟨cH2x_0,fH2x_0⟩:=H2x.2 0 _ rfl;obtain ⟨cH2x_1,fH2x_1⟩:=H2x.2 1 _ rfl;obtain ⟨cH2x_2,fH2x_2⟩:=H2x.2 2 _ rfl;have l2:=H2x.1;have e20:wr.cell? ⟨w.heap.size+1,0,none⟩=some (.int .i64 s.x):=(H2.2 0 _ rfl).1;have e21:wr.cell? ⟨w.heap.size+1,1,none⟩=some (.int .i64 s.y):=(H2.2 1 _ rfl).1;have e22:wr.cell? ⟨w.heap.size+1,2,none⟩=some (.int .i64 s.d):=(H2.2 2 _ rfl).1;have lr:=H2.1;by_cases hp:0<sg
   ·have hv:=Lib.hid (hn.out hp);go_wp2_with (fail)
    refine (c1 _).mono ?_;rintro e w3 ⟨rfl,hb3⟩;go_wp2
    go_ret
    exact ⟨by rw [hv.out];rfl,b0.trans ((Xn bx hb3).mono b0.size)⟩
   ·have hv:=Lib.hid (hy.out hp);go_wp2_with (fail)
    refine (c1 _).mono ?_;rintro e w3 ⟨rfl,hb3⟩;go_wp2
    go_roundw
    case rel=>exact ⟨k+1,by omega,by go_num,hv.out,Xn bx hb3⟩
    case measure=>simp [intOf];omega
  ·obtain rfl:k=p.length:=by omega
   rw [List.take_length] at hall;have hv:=Lib.hid (show Ze p s = !decide (p.length=0) by unfold Ze;rw [hall,Bool.and_true]);have cv:=λ W=>Je p ⟨A,cap⟩ W;obtain ⟨cH1_0,fH1_0⟩:=H1.2 0 _ rfl;have l1:=H1.1;generalize decide (p.length=0)=vd at *;clear hall hs0 hS;go_wp2_with (fail)
   refine (cv _).mono ?_;rintro e w3 ⟨rfl,hb3⟩;go_wp2
   go_ret
   exact ⟨by rw [hv.out];rfl,Xn bw hb3⟩
theorem holds_stop {p:List Half} {s:Ya} {k:Nat} (h:k<p.length) (hb:decide (sgn (valS (p.getD k Xc) s) > 0)=true):Ze p s=false:=by
 rw [getD_el h] at hb;exact holds_no h (of_decide_eq_true hb)
theorem holds_next {p:List Half} {s:Ya} {k:Nat} (h:k<p.length) (h1:(p.take k).all (holdsH s)=true) (hb:decide (sgn (valS (p.getD k Xc) s) > 0)=false):(p.take (k+1)).all (holdsH s)=true:=by
 rw [getD_el h] at hb;exact holds_step h h1 (of_decide_eq_false hb)
theorem holds_end {p:List Half} {s:Ya} (h1:p.all (holdsH s)=true):Ze p s=decide ((p.length:Int) > 0):=by
 unfold Ze;rw [h1,Bool.and_true];by_cases h:p.length=0
 ·rw [decide_eq_true h,decide_eq_false (by omega)];rfl
 ·rw [decide_eq_false h,decide_eq_true (by omega)];rfl
theorem sSide_c (h:Half) (s:Ya) (w:World) (hh:XW h=true) (hs:Xu s=true) :
 Calls Tryz.prog 240 #[YW h,Yj s] w λ x w'=>x=.returned (.int .i64 (sgn (valS h s)))/\Below w.heap.size w w':=by
 obtain ⟨⟨k1,k2⟩,⟨k3,k4⟩,⟨k5,k6⟩⟩:=valS_bd hh hs;refine YF Tryz.func240 rfl (n:=29) Tryz.ntmps240 (by simp) ?_;intro a0 J F ha;have s0:a0.tmps[0]?.getD undef=YW h:=ha 0 _ rfl;have s1:a0.tmps[1]?.getD undef=Yj s:=ha 1 _ rfl;clear ha;have P:=Below.refl w.heap.size w;have S:=Nat.le_refl w.heap.size;refine wp_seq ?_;refine Ys [2,3,4] [.pointer (some ⟨w.heap.size,0,none⟩),.pointer (some ⟨(w.heap.size+1),0,none⟩),.int .i64 0] [some (.cells [.int .i64 h.a,.int .i64 h.b,.int .i64 h.c].toArray 175),some (.cells [.int .i64 s.x,.int .i64 s.y,.int .i64 s.d].toArray 44),none] [0,1,2] [2,3,4] [0,1,2] (by kernel_rfl) (by rw [J];decide) (ec ?_ (ec ?_ (ec ?_ .nil))) ?_
 ·intro a w' C hs N Q D;simp [go_sem,C.g rfl s0];rw [hs];exact D
 ·intro a w' C hs N Q D;simp [go_sem,C.g rfl s1];rw [hs];exact D
 ·intro a w' C hs N Q D;simp [go_sem];exact D
 intro a1 w2 C M hb hO;replace J:=C.size.trans J;replace F:=C.defers.trans F;have s2:a1.tmps[2]?.getD undef=.pointer (some ⟨w.heap.size,0,none⟩):=M 0 (by decide);have s3:a1.tmps[3]?.getD undef=.pointer (some ⟨(w.heap.size+1),0,none⟩):=M 1 (by decide);have b3:Xy w2 w.heap.size 175 [.int .i64 h.a,.int .i64 h.b,.int .i64 h.c]:=hO 0 _ rfl;have b4:Xy w2 (w.heap.size+1) 44 [.int .i64 s.x,.int .i64 s.y,.int .i64 s.d]:=hO 1 _ rfl;have hG:=b4.lt;replace P:=Xn P hb;have zw2:=Nat.le_trans S hb.size;replace S:=Nat.le_refl w2.heap.size;clear C M hb hO s0 s1;refine Xg (wp_seq ?_);refine Xe (by kernel_rfl) [6,7,8,9,10,11,12,13,14,15,16,17,18,19,20,21,22,5] [some (.pointer (some ⟨w.heap.size,0,none⟩)),some (.int .i64 h.a),some (.pointer (some ⟨(w.heap.size+1),0,none⟩)),some (.int .i64 s.x),some (.int .i64 (h.a*s.x)),some (.pointer (some ⟨w.heap.size,1,none⟩)),some (.int .i64 h.b),some (.pointer (some ⟨(w.heap.size+1),1,none⟩)),some (.int .i64 s.y),some (.int .i64 (h.b*s.y)),some (.int .i64 ((h.a*s.x)+(h.b*s.y))),some (.pointer (some ⟨w.heap.size,2,none⟩)),some (.int .i64 h.c),some (.pointer (some ⟨(w.heap.size+1),2,none⟩)),some (.int .i64 s.d),some (.int .i64 (h.c*s.d)),some (.int .i64 (((h.a*s.x)+(h.b*s.y))-(h.c*s.d))),some (.int .i64 (((h.a*s.x)+(h.b*s.y))-(h.c*s.d)))] (XR 18) [6,7,8,9,10,11,12,13,14,15,16,17,18,19,20,21,22,5] [0,1,2,3,4,5,6,7,8,9,10,11,12,13,14,15,16,17] [] (λ _ _ _=>True) (by kernel_rfl) (by rw [J];decide) ?_ (en rfl ?_ (en rfl ?_ (en rfl ?_ (en rfl ?_ (en rfl ?_ (en rfl ?_ (en rfl ?_ (en rfl ?_ (en rfl ?_ (en rfl ?_ (en rfl ?_ (en rfl ?_ (en rfl ?_ (en rfl ?_ (en rfl ?_ (en rfl ?_ (en rfl ?_ (en rfl ?_ .nil)))))))))))))))))) ?_
 ·exact λ _ _=>trivial
 ·intro R K O H _ _ D;simp [go_sem,H.f.g rfl s2];exact (D _ _ H.k rfl trivial)
 ·intro R K O H _ _ D;simp [go_sem,(gS K 6 (H.d 0 rfl rfl)),(b3.k0 H.k).cell];exact (D _ _ H.k rfl trivial)
 ·intro R K O H _ _ D;simp [go_sem,H.f.g rfl s3];exact (D _ _ H.k rfl trivial)
 ·intro R K O H _ _ D;simp [go_sem,(gS K 8 (H.d 2 rfl rfl)),(b4.k0 H.k).cell];exact (D _ _ H.k rfl trivial)
 ·exact λ R K O H _ _ D=>YN rfl (ev (H.d 1 rfl rfl)) (ev (H.d 3 rfl rfl)) (by omega) (D _ _ H.k rfl trivial)
 ·intro R K O H _ _ D;simp [go_sem,H.f.g rfl s2];exact (D _ _ H.k rfl trivial)
 ·intro R K O H _ _ D;simp [go_sem,(gS K 11 (H.d 5 rfl rfl)),(b3.k0 H.k).cell];exact (D _ _ H.k rfl trivial)
 ·intro R K O H _ _ D;simp [go_sem,H.f.g rfl s3];exact (D _ _ H.k rfl trivial)
 ·intro R K O H _ _ D;simp [go_sem,(gS K 13 (H.d 7 rfl rfl)),(b4.k0 H.k).cell];exact (D _ _ H.k rfl trivial)
 ·exact λ R K O H _ _ D=>YN rfl (ev (H.d 6 rfl rfl)) (ev (H.d 8 rfl rfl)) (by omega) (D _ _ H.k rfl trivial)
 ·exact λ R K O H _ _ D=>Zh rfl (ev (H.d 4 rfl rfl)) (ev (H.d 9 rfl rfl)) (by omega) (D _ _ H.k rfl trivial)
 ·intro R K O H _ _ D;simp [go_sem,H.f.g rfl s2];exact (D _ _ H.k rfl trivial)
 ·intro R K O H _ _ D;simp [go_sem,(gS K 17 (H.d 11 rfl rfl)),(b3.k0 H.k).cell];exact (D _ _ H.k rfl trivial)
 ·intro R K O H _ _ D;simp [go_sem,H.f.g rfl s3];exact (D _ _ H.k rfl trivial)
 ·intro R K O H _ _ D;simp [go_sem,(gS K 19 (H.d 13 rfl rfl)),(b4.k0 H.k).cell];exact (D _ _ H.k rfl trivial)
 ·exact λ R K O H _ _ D=>YN rfl (ev (H.d 12 rfl rfl)) (ev (H.d 14 rfl rfl)) (by omega) (D _ _ H.k rfl trivial)
 ·exact λ R K O H _ _ D=>wp_sub rfl (ev (H.d 10 rfl rfl)) (ev (H.d 15 rfl rfl)) (by omega) (D _ _ H.k rfl trivial)
 ·exact Kb 16 rfl rfl rfl rfl
 intro L a5 w6 T C I M U;replace J:=C.Z J;replace F:=C.E F;have s5:=gS a5 5 (M 17 _ rfl);replace S:=Nat.le_trans S I.size;replace P:=I.below0 P;clear C I M T U s2 s3 b3 b4;refine Xg (wp_seq (wp_block (wp_seq ?_)));refine Xe (by kernel_rfl) [24,25,23] [some (.int .i64 (((h.a*s.x)+(h.b*s.y))-(h.c*s.d))),some (.bool (decide (((h.a*s.x)+(h.b*s.y))-(h.c*s.d)<0))),some (.bool (decide (((h.a*s.x)+(h.b*s.y))-(h.c*s.d)<0)))] (XR 3) [24,25,23] [0,1,2] [] (λ _ _ _=>True) (by kernel_rfl) (by rw [J];decide) ?_ (en rfl ?_ (en rfl ?_ (en rfl ?_ .nil))) ?_
 ·exact λ _ _=>trivial
 ·exact YJ s5 rfl rfl rfl
 ·exact λ R K O H _ _ D=>Ye rfl (ev (H.d 0 rfl rfl)) rfl rfl rfl (D _ _ H.k rfl trivial)
 ·exact Kb 1 rfl rfl rfl rfl
 intro L a7 w8 T C I M U;replace J:=C.Z J;replace F:=C.E F;replace s5:=C.G s5;have s23:=gS a7 23 (M 2 _ rfl);replace S:=Nat.le_trans S I.size;replace P:=I.below0 P;clear C I M T U;refine Xg ?_;rcases Bool.eq_false_or_eq_true (decide (((h.a*s.x)+(h.b*s.y))-(h.c*s.d)<0)) with q9|q9
 ·refine wp_cond_true (ev (vb s23 q9)) ?_;refine wp_seq ?_;refine Xe (by kernel_rfl) [4] [some (.int .i64 (-1))] (XR 1) [4] [0] [] (λ _ _ _=>True) (by kernel_rfl) (by rw [J];decide) ?_ (en rfl ?_ .nil) ?_
  ·exact λ _ _=>trivial
  ·exact Kh rfl rfl
  intro L a10 w11 T C I M U;replace J:=C.Z J;replace F:=C.E F;have s4:=gS a10 4 (M 0 _ rfl);replace S:=Nat.le_trans S I.size;replace P:=I.below0 P;clear C I M T U s5 s23;refine Xg (wp_ret ?_);refine KQ (Yz ?_);refine bodyPost_ret (v:=.int .i64 (-1)) (by simp [results,Tryz.results240,go_sem,s4]) F ?_;exact ⟨by rw [show sgn (valS h s) = -1 by unfold sgn valS;rw [if_pos (Z1 q9)]],P⟩
 ·refine wp_cond_false (ev (vb s23 q9)) ?_;refine wp_seq ?_;refine Xe (by kernel_rfl) [27,28,26] [some (.int .i64 (((h.a*s.x)+(h.b*s.y))-(h.c*s.d))),some (.bool (decide (((h.a*s.x)+(h.b*s.y))-(h.c*s.d) > 0))),some (.bool (decide (((h.a*s.x)+(h.b*s.y))-(h.c*s.d) > 0)))] (XR 3) [27,28,26] [0,1,2] [] (λ _ _ _=>True) (by kernel_rfl) (by rw [J];decide) ?_ (en rfl ?_ (en rfl ?_ (en rfl ?_ .nil))) ?_
  ·exact λ _ _=>trivial
  ·exact YJ s5 rfl rfl rfl
  ·exact λ R K O H _ _ D=>Ye rfl (ev (H.d 0 rfl rfl)) rfl rfl rfl (D _ _ H.k rfl trivial)
  ·exact Kb 1 rfl rfl rfl rfl
  intro L a12 w13 T C I M U;replace J:=C.Z J;replace F:=C.E F;have s26:=gS a12 26 (M 2 _ rfl);replace S:=Nat.le_trans S I.size;replace P:=I.below0 P;clear C I M T U s5 s23;refine Xg ?_;rcases Bool.eq_false_or_eq_true (decide (((h.a*s.x)+(h.b*s.y))-(h.c*s.d) > 0)) with q14|q14
  ·refine wp_cond_true (ev (vb s26 q14)) ?_;refine wp_seq ?_;refine Xe (by kernel_rfl) [4] [some (.int .i64 1)] (XR 1) [4] [0] [] (λ _ _ _=>True) (by kernel_rfl) (by rw [J];decide) ?_ (en rfl ?_ .nil) ?_
   ·exact λ _ _=>trivial
   ·exact Kh rfl rfl
   intro L a15 w16 T C I M U;replace J:=C.Z J;replace F:=C.E F;have s4:=gS a15 4 (M 0 _ rfl);replace S:=Nat.le_trans S I.size;replace P:=I.below0 P;clear C I M T U s26;refine Xg (wp_ret ?_);refine KQ (Yz ?_);refine bodyPost_ret (v:=.int .i64 1) (by simp [results,Tryz.results240,go_sem,s4]) F ?_;exact ⟨by rw [show sgn (valS h s)=1 by unfold sgn valS;rw [if_neg (Xo q9),if_pos (Z1 q14)]],P⟩
  ·refine wp_cond_false (ev (vb s26 q14)) ?_;refine wp_skip ?_;refine ib_n (Xg (wp_seq ?_));refine Xe (by kernel_rfl) [4] [some (.int .i64 0)] (XR 1) [4] [0] [] (λ _ _ _=>True) (by kernel_rfl) (by rw [J];decide) ?_ (en rfl ?_ .nil) ?_
   ·exact λ _ _=>trivial
   ·exact Kh rfl rfl
   intro L a17 w18 T C I M U;replace J:=C.Z J;replace F:=C.E F;have s4:=gS a17 4 (M 0 _ rfl);replace S:=Nat.le_trans S I.size;replace P:=I.below0 P;clear C I M T U s26;refine Xg (wp_ret ?_);refine bodyPost_ret (v:=.int .i64 0) (by simp [results,Tryz.results240,go_sem,s4]) F ?_;exact ⟨by rw [show sgn (valS h s)=0 by unfold sgn valS;rw [if_neg (Xo q9),if_neg (Xo q14)]],P⟩
theorem sHas_c (p:List Half) (a:ZY) (s:Ya) (w:World) (hl:p.length<=1000000) (hok:∀ h∈p,XW h=true) (hs:Xu s=true) (hsl:Sl 3 Xk w a.A p) :
 Calls Tryz.prog 183 #[.agg #[.slice a.A p.length a.c],Yj s] w λ x w'=>x=.returned (.bool (Ze p s))/\Below w.heap.size w w':=by
 refine YF Tryz.func183 rfl (n:=23) Tryz.ntmps183 (by simp) ?_;intro a0 J F ha;have s0:a0.tmps[0]?.getD undef=.agg #[.slice a.A p.length a.c]:=ha 0 _ rfl;have s1:a0.tmps[1]?.getD undef=Yj s:=ha 1 _ rfl;clear ha;have P:=Below.refl w.heap.size w;have S:=Nat.le_refl w.heap.size;refine wp_seq ?_;refine Ys [2,3,4] [.pointer (some ⟨w.heap.size,0,none⟩),.pointer (some ⟨(w.heap.size+1),0,none⟩),.bool false] [some (.cells [.slice a.A p.length a.c].toArray 37),some (.cells [.int .i64 s.x,.int .i64 s.y,.int .i64 s.d].toArray 44),none] [0,1,2] [2,3,4] [0,1,2] (by kernel_rfl) (by rw [J];decide) (ec ?_ (ec ?_ (ec ?_ .nil))) ?_
 ·intro a w' C hs N Q D;simp [go_sem,C.g rfl s0];rw [hs];exact D
 ·intro a w' C hs N Q D;simp [go_sem,C.g rfl s1];rw [hs];exact D
 ·intro a w' C hs N Q D;simp [go_sem];exact D
 intro a1 w2 C M hb hO;replace J:=C.size.trans J;replace F:=C.defers.trans F;have s2:a1.tmps[2]?.getD undef=.pointer (some ⟨w.heap.size,0,none⟩):=M 0 (by decide);have s3:a1.tmps[3]?.getD undef=.pointer (some ⟨(w.heap.size+1),0,none⟩):=M 1 (by decide);have b3:Xy w2 w.heap.size 37 [.slice a.A p.length a.c]:=hO 0 _ rfl;have b4:Xy w2 (w.heap.size+1) 44 [.int .i64 s.x,.int .i64 s.y,.int .i64 s.d]:=hO 1 _ rfl;have hG:=b4.lt;replace P:=Xn P hb;have zw2:=Nat.le_trans S hb.size;replace S:=Nat.le_refl w2.heap.size;clear C M hb hO s0 s1;refine Xg (wp_seq (wp_seq ?_));refine Xe (by kernel_rfl) [7,8,9,10] [some (.pointer (some ⟨w.heap.size,0,none⟩)),some (.slice a.A p.length a.c),some (.int .i64 (p.length:Int)),some (.int .i64 0)] (XR 4) [7,8,9,10] [0,1,2,3] [] (λ _ _ _=>True) (by kernel_rfl) (by rw [J];decide) ?_ (en rfl ?_ (en rfl ?_ (en rfl ?_ (en rfl ?_ .nil)))) ?_
 ·exact λ _ _=>trivial
 ·intro R K O H _ _ D;simp [go_sem,H.f.g rfl s2];exact (D _ _ H.k rfl trivial)
 ·intro R K O H _ _ D;simp [go_sem,(gS K 7 (H.d 0 rfl rfl)),(b3.k0 H.k).cell];exact (D _ _ H.k rfl trivial)
 ·intro R K O H _ _ D;simp [go_sem,(gS K 8 (H.d 1 rfl rfl))];exact (D _ _ H.k rfl trivial)
 ·exact oMCT rfl rfl
 intro L a5 w6 T C I M U;replace J:=C.Z J;replace F:=C.E F;replace s2:=C.G s2;replace s3:=C.G s3;have s8:=gS a5 8 (M 1 _ rfl);have s9:=gS a5 9 (M 2 _ rfl);have s10:=gS a5 10 (M 3 _ rfl);replace b3:=b3.k0 I;replace b4:=b4.k0 I;replace S:=Nat.le_trans S I.size;replace P:=I.below0 P;clear C I M T U;refine Xg (wp_block ?_);refine wp_loop (λ al wl=>al.tmps.size=23/\al.defers=[]/\∃ (k:Nat),(k<=p.length)/\((p.take k).all (holdsH s)=true)/\al.tmps[2]?.getD undef=.pointer (some ⟨w.heap.size,0,none⟩)/\al.tmps[3]?.getD undef=.pointer (some ⟨(w.heap.size+1),0,none⟩)/\al.tmps[8]?.getD undef=.slice a.A p.length a.c/\al.tmps[9]?.getD undef=.int .i64 (p.length:Int)/\al.tmps[10]?.getD undef=.int .i64 (k:Int)/\Xy wl w.heap.size 37 [.slice a.A p.length a.c]/\Xy wl (w.heap.size+1) 44 [.int .i64 s.x,.int .i64 s.y,.int .i64 s.d]/\Below w.heap.size w wl/\w2.heap.size<=wl.heap.size) (λ al _=>(p.length-(intOf (al.tmps[10]?.getD undef)).toNat)) ?_ ?_
 ·exact ⟨J,F,(0),(Nat.zero_le _),(rfl),s2,s3,s8,s9,s10,b3,b4,P,(by omega)⟩
 clear J F P S s2 s3 s8 s9 s10 b3 b4;rintro a7 w8 ⟨J,F,k,hk,hall,s2,s3,s8,s9,s10,b3,b4,P,S⟩;have zw8:=S;replace S:=Nat.le_refl w8.heap.size;have hmu:(p.length-(intOf (a7.tmps[10]?.getD undef)).toNat)=(p.length-(intOf ((.int .i64 (k:Int)))).toNat):=by rw [s10]
 refine wp_seq ?_;refine Xe (by kernel_rfl) [11] [some (.bool (decide ((k:Int)<(p.length:Int))))] (XR 1) [11] [0] [] (λ _ _ _=>True) (by kernel_rfl) (by rw [J];decide) ?_ (en rfl ?_ .nil) ?_
 ·exact λ _ _=>trivial
 ·exact λ R K O H _ _ D=>Ye rfl (ev (H.f.g rfl s10)) (ev (H.f.g rfl s9)) rfl rfl (D _ _ H.k rfl trivial)
 intro L a9 w10 T C I M U;replace J:=C.Z J;replace F:=C.E F;replace s2:=C.G s2;replace s3:=C.G s3;replace s8:=C.G s8;replace s9:=C.G s9;replace s10:=C.G s10;have s11:=gS a9 11 (M 0 _ rfl);replace b3:=b3.k0 I;replace b4:=b4.k0 I;replace S:=Nat.le_trans S I.size;replace P:=I.below0 P;clear C I M T U;refine Xg (wp_seq ?_);rcases Bool.eq_false_or_eq_true (decide ((k:Int)<(p.length:Int))) with q11|q11
 ·have hkl:k<p.length:=by have:=Z1 q11;omega
  obtain ⟨bp,op,ep,fp⟩:=ElS.open_ (hsl.below P) (by omega);refine wp_cond_true (ev (vb s11 q11)) ?_;refine wp_skip (Xg (wp_seq (wp_block (wp_seq ?_))));have V:Xq [6] (λ L aa O=>(L 2=true->XS w10 aa O 6 175 [.int .i64 0,.int .i64 0,.int .i64 0] (L 3) (λ _ vs=>vs=[.int .i64 ((p.getD k Xc).a),.int .i64 ((p.getD k Xc).b),.int .i64 ((p.getD k Xc).c)]))):=by
   intro L aa O w' kk vv hkk hb U;have x0:=U;exact (λ h=>((x0 h).bel hb (λ _ h=>h)).put (hkk 6 (by simp)) _)
  refine Xl V (by kernel_rfl) [12,13,6,0] [some (.pointer (some ⟨bp,op+k*3,none⟩)),some (YW (p.getD k Xc)),none,none] (XR 4) [12,13,6] [0,1,2,3] [] (by kernel_rfl) (by rw [J];decide) ?_ (en rfl ?_ (en rfl ?_ (en rfl ?_ (en rfl ?_ .nil)))) ?_
  ·exact λ _ h=>(λ h=>by cases h)
  ·intro R K O H _ _ D;simp [go_sem,H.f.g rfl s8,H.f.g rfl s10,hkl,ep];exact (D _ _ H.k rfl (V.q rfl H.x))
  ·intro R K O H _ _ D;have hE:=fp.kp H.k (by simp);simp [go_sem,(gS K 12 (H.d 0 rfl rfl)),(hE.at_ Xc (i:=k) (by omega) 0 (p:=op+k*3) (by omega) rfl),(hE.at_ Xc (i:=k) (by omega) 1 (p:=op+k*3+1) (by omega) rfl),(hE.at_ Xc (i:=k) (by omega) 2 (p:=op+k*3+2) (by omega) rfl)];exact (D _ _ H.k rfl (V.q rfl H.x))
  ·intro R K O H _ _ D;have x0:=H.x;simp [go_sem];exact D _ _ (H.k.alloc _) trivial (λ _=>by rw [show Y5 R 2 3=false from H.t 3 rfl];exact XS.new (s:=6) (H.f.lt (by rw [J];decide)) H.k.size [.int .i64 0,.int .i64 0,.int .i64 0])
  ·intro R K O H _ _ D;have x0:=H.x;obtain ⟨g,eg,hg,y,_⟩:=x0 (H.r 2 rfl);have X:=y H.n;simp [go_sem,(gS K 13 (H.d 1 rfl rfl)),eg,X.cell,X.frz];exact D undef _ (H.k.store (.inl hg) [.int .i64 ((p.getD k Xc).a),.int .i64 ((p.getD k Xc).b),.int .i64 ((p.getD k Xc).c)] 0) trivial (λ _=>XS.set eg hg X (us:=[.int .i64 ((p.getD k Xc).a),.int .i64 ((p.getD k Xc).b),.int .i64 ((p.getD k Xc).c)]) rfl rfl)
  intro L a12 w13 T C I M U;have x0:=U;replace J:=C.Z J;replace F:=C.E F;replace s2:=C.G s2;replace s3:=C.G s3;replace s8:=C.G s8;replace s9:=C.G s9;replace s10:=C.G s10;replace b3:=b3.k0 I;replace b4:=b4.k0 I;obtain ⟨g14,s6,lg14,-,b14⟩:=x0 (T 2 (by decide));obtain ⟨_,b14,rfl⟩:=b14 (T 3 (by decide));have ug14:=b14.lt;have zw10:=S;have zw13:=I.size;replace S:=Nat.le_refl w13.heap.size;replace P:=I.below0 P;clear C I M T x0 V s11 fp;refine Xg (wp_seq ?_);refine Xe (by kernel_rfl) [14,15,16,17] [some (YW (p.getD k Xc)),some (Yj s),some (.int .i64 (sgn (valS (p.getD k Xc) s))),some (.bool (decide (sgn (valS (p.getD k Xc) s) > 0)))] (XR 4) [14,15,16,17] [0,1,2,3] [] (λ _ _ _=>True) (by kernel_rfl) (by rw [J];decide) ?_ (en rfl ?_ (en rfl ?_ (en rfl ?_ (en rfl ?_ .nil)))) ?_
  ·exact λ _ _=>trivial
  ·intro R K O H _ _ D;simp [go_sem,H.f.g rfl s6,(b14.k0 H.k).cell];exact (D _ _ H.k rfl trivial)
  ·intro R K O H _ _ D;simp [go_sem,H.f.g rfl s3,(b4.k0 H.k).cell];exact (D _ _ H.k rfl trivial)
  ·intro R K O H _ _ D;simp [go_sem,(gS K 14 (H.d 0 rfl rfl)),(gS K 15 (H.d 1 rfl rfl))];refine (sSide_c (p.getD k Xc) s O (hok _ (JI hkl Xc)) hs).mono ?_;rintro x wx ⟨rfl,hb⟩;exact (D _ _ (H.k.call hb) rfl trivial)
  ·exact λ R K O H _ _ D=>Ye rfl (ev (H.d 2 rfl rfl)) rfl rfl rfl (D _ _ H.k rfl trivial)
  intro L a15 w16 T C I M U;replace J:=C.Z J;replace F:=C.E F;replace s2:=C.G s2;replace s3:=C.G s3;replace s8:=C.G s8;replace s9:=C.G s9;replace s10:=C.G s10;have s17:=gS a15 17 (M 3 _ rfl);replace b3:=b3.k0 I;replace b4:=b4.k0 I;replace S:=Nat.le_trans S I.size;replace P:=I.below0 P;clear C I M T U s6 b14;refine Xg ?_;rcases Bool.eq_false_or_eq_true (decide (sgn (valS (p.getD k Xc) s) > 0)) with q17|q17
  ·refine wp_cond_true (ev (vb s17 q17)) ?_;refine wp_seq ?_;refine Xe (by kernel_rfl) [4] [some (.bool false)] (XR 1) [4] [0] [] (λ _ _ _=>True) (by kernel_rfl) (by rw [J];decide) ?_ (en rfl ?_ .nil) ?_
   ·exact λ _ _=>trivial
   ·exact Kh rfl rfl
   intro L a18 w19 T C I M U;replace J:=C.Z J;replace F:=C.E F;have s4:=gS a18 4 (M 0 _ rfl);replace S:=Nat.le_trans S I.size;replace P:=I.below0 P;clear C I M T U s2 s3 s8 s9 s10 s17 b3 b4;refine Xg (wp_ret ?_);refine KQ (Yz (Yz (KQ (Yz ?_))));refine bodyPost_ret (v:=.bool false) (by simp [results,Tryz.results183,go_sem,s4]) F ?_;exact ⟨by rw [holds_stop hkl q17],P⟩
  ·refine wp_cond_false (ev (vb s17 q17)) ?_;refine wp_skip ?_;refine ib_n (Xg ?_);refine Xe (by kernel_rfl) [18,10] [some (.int .i64 ((k:Int)+1)),some (.int .i64 ((k:Int)+1))] (XR 2) [18,10] [0,1] [] (λ L aa O=>(L 1=false->aa.tmps[10]?.getD undef=.int .i64 (k:Int))) (by kernel_rfl) (by rw [J];decide) ?_ (en rfl ?_ (en rfl ?_ .nil)) ?_
   ·exact λ _ h=>(λ _=>s10)
   ·intro R K O H _ _ D;have x0:=H.x;exact Zh rfl (ev (x0 (H.t 1 rfl))) rfl (by omega) (D _ _ H.k rfl (λ h=>(Xa (by decide) _).trans (x0 h)))
   ·intro R K O H _ _ D;have x0:=H.x;exact Xv rfl (ev (H.d 0 rfl rfl)) (D _ _ H.k rfl (λ h=>by simp [Y5] at h))
   intro L a20 w21 T C I M U;have x0:=U;replace J:=C.Z J;replace F:=C.E F;replace s2:=C.G s2;replace s3:=C.G s3;replace s8:=C.G s8;replace s9:=C.G s9;have s10:=gS a20 10 (M 1 _ rfl);replace b3:=b3.k0 I;replace b4:=b4.k0 I;replace S:=Nat.le_trans S I.size;replace P:=I.below0 P;clear C I M T x0 s17;refine Xg ?_;refine ⟨?_, ?_⟩
   ·exact ⟨J,F,(k+1),(by omega),(holds_next hkl hall q17),s2,s3,s8,s9,s10,b3,b4,P,(by omega)⟩
   ·show (p.length-(intOf (a20.tmps[10]?.getD undef)).toNat)<_;rw [s10,hmu];simp only [intOf];omega
 ·have ek:k=p.length:=by have:=Xo q11;omega
  rw [ek,List.take_length] at hall;refine wp_cond_false (ev (vb s11 q11)) ?_;refine wp_exit ?_;refine JL (JL (ib_x (Xg (wp_seq ?_))));refine Xe (by kernel_rfl) [19,20,21,22,4] [some (.pointer (some ⟨w.heap.size,0,none⟩)),some (.slice a.A p.length a.c),some (.int .i64 (p.length:Int)),some (.bool (decide ((p.length:Int) > 0))),some (.bool (decide ((p.length:Int) > 0)))] (XR 5) [19,20,21,22,4] [0,1,2,3,4] [] (λ _ _ _=>True) (by kernel_rfl) (by rw [J];decide) ?_ (en rfl ?_ (en rfl ?_ (en rfl ?_ (en rfl ?_ (en rfl ?_ .nil))))) ?_
  ·exact λ _ _=>trivial
  ·intro R K O H _ _ D;simp [go_sem,H.f.g rfl s2];exact (D _ _ H.k rfl trivial)
  ·intro R K O H _ _ D;simp [go_sem,(gS K 19 (H.d 0 rfl rfl)),(b3.k0 H.k).cell];exact (D _ _ H.k rfl trivial)
  ·intro R K O H _ _ D;simp [go_sem,(gS K 20 (H.d 1 rfl rfl))];exact (D _ _ H.k rfl trivial)
  ·exact λ R K O H _ _ D=>Ye rfl (ev (H.d 2 rfl rfl)) rfl rfl rfl (D _ _ H.k rfl trivial)
  ·exact Kb 3 rfl rfl rfl rfl
  intro L a22 w23 T C I M U;replace J:=C.Z J;replace F:=C.E F;have s4:=gS a22 4 (M 4 _ rfl);replace S:=Nat.le_trans S I.size;replace P:=I.below0 P;clear C I M T U s2 s3 s8 s9 s10 s11 b3 b4;refine Xg (wp_ret ?_);refine bodyPost_ret (v:=.bool (decide ((p.length:Int) > 0))) (by simp [results,Tryz.results183,go_sem,s4]) F ?_;exact ⟨by rw [holds_end hall],P⟩
end Go.Proofs.YtkjimfapbjdafaaGreat
