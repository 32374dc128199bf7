/-
 Parts of the inputs that a region admits: of the program and of the reference.
 Conditions: valid rooms, half planes and states.
-/
import Derived.Test.YtbekjpkcicjcgaaGreatGrV
set_option maxHeartbeats 8000000
set_option maxRecDepth 100000
namespace Go.Proofs.YtbekjpkcicjcgaaGreat
open Go.RowKit
theorem ratio_one {n:Int} (h : -1000<=n/\n<=1000):XD n 1=⟨n,1⟩:=by
 have:=ratio_less (c:=n) (n:=0) (d:=1) ⟨Oz,Oz⟩ ⟨Oz,Oz⟩ ⟨Oz,Oz⟩ Dz;simpa using this
theorem four_of {m:List Int} (h:m.length=4):m=[m.getD 0 0,m.getD 1 0,m.getD 2 0,m.getD 3 0]:=by
 match m,h with
 | [_,_,_,_],_=>rfl
theorem whole_c (n:Int) (w:World) :
 Calls Tryz.prog 50 #[.int .i64 n] w λ e w'=>e=.returned (Xv ⟨n,1⟩)/\Below w.heap.size w w':=by
 have H0:=XV.new w #[.int .i64 0,.int .i64 0] 46;have b0:=Xc (Below.refl w.heap.size w) (.cells #[.int .i64 0,.int .i64 0] 46);generalize hW:w.alloc (.cells #[.int .i64 0,.int .i64 0] 46)=W at *;have hW':=Lib.hid hW;clear hW;obtain ⟨cH0_0,fH0_0⟩:=H0.2 0 _ rfl;obtain ⟨cH0_1,fH0_1⟩:=H0.2 1 _ rfl;have l0:=H0.1;go_enter Tryz.func50,Tryz.ntmps50
 go_upto_region 1 with fail
 rw [hW'.out];clear hW';go_wp2
 refine bodyPost_ret (v:=.agg #[.int .i64 n,.int .i64 1]) (by simp [results,Tryz.results50,go_sem, *]) rfl ⟨rfl, ?_⟩;exact below_cells b0 Oz (o:=0) [_,_]
theorem slope_c (r:XU) (a:Yn) (h:Half) (w:World) (ha : -5000000<=h.a*r.bx/\h.a*r.bx<=5000000) (hb : -5000000<=h.b*r.by_/\h.b*r.by_<=5000000) :
 Calls Tryz.prog 104 #[Ya r a,X3 h] w λ e w'=>e=.returned (.int .i64 (Ze r h))/\Below w.heap.size w w':=by
 go_enter Tryz.func104,Tryz.ntmps104
 go_wp2
 go_ret
 refine ⟨rfl, ?_⟩;exact Xl
theorem mapped_c (m:List Int) (q:Int) (A:Option Addr) (c:Nat) (s:X9) (w:World) (hm:m.length=4) (h0 : -2000000000<=m.getD 0 0*s.x/\m.getD 0 0*s.x<=2000000000) (h1 : -2000000000<=m.getD 1 0*s.y/\m.getD 1 0*s.y<=2000000000) (h2 : -2000000000<=m.getD 2 0*s.x/\m.getD 2 0*s.x<=2000000000) (h3 : -2000000000<=m.getD 3 0*s.y/\m.getD 3 0*s.y<=2000000000) (hd:1<=q*s.d/\q*s.d<=2000000) (hs:Sl 1 Zm w A m) :
 Calls Tryz.prog 103 #[YK s,.slice A m.length c,.int .i64 q] w λ e w'=>e=.returned (.tuple #[.int .i64 (m.getD 0 0*s.x+m.getD 1 0*s.y),.int .i64 (m.getD 2 0*s.x+m.getD 3 0*s.y),.int .i64 (q*s.d)])/\Below w.heap.size w w':=by
 have e:=four_of hm;generalize m.getD 0 0=m0 at *;generalize m.getD 1 0=m1 at *;generalize m.getD 2 0=m2 at *;generalize m.getD 3 0=m3 at *;subst e;have H0:=XV.new w #[.int .i64 s.x,.int .i64 s.y,.int .i64 s.d] 30;have b0:=Xc (Below.refl w.heap.size w) (.cells #[.int .i64 s.x,.int .i64 s.y,.int .i64 s.d] 30);have hs0:=hs.below b0;generalize hW:w.alloc (.cells #[.int .i64 s.x,.int .i64 s.y,.int .i64 s.d] 30)=W at *;have hW':=Lib.hid hW;clear hW;obtain ⟨b,off,hA,hblt,hc⟩:=hs0.at_ (show 0<[m0,m1,m2,m3].length by simp);have g0:=hc 0 _ rfl;obtain ⟨b1,off1,hA1,_,hc1⟩:=hs0.at_ (show 1<[m0,m1,m2,m3].length by simp);obtain ⟨b2,off2,hA2,_,hc2⟩:=hs0.at_ (show 2<[m0,m1,m2,m3].length by simp);obtain ⟨b3,off3,hA3,_,hc3⟩:=hs0.at_ (show 3<[m0,m1,m2,m3].length by simp);rw [hA] at hA1 hA2 hA3;cases hA1;cases hA2;cases hA3;have g1:=hc1 0 _ rfl;have g2:=hc2 0 _ rfl;have g3:=hc3 0 _ rfl;subst hA;simp only [Nat.mul_one,Nat.add_zero,List.getElem_cons_zero,List.getElem_cons_succ] at g0 g1 g2 g3;clear hc hc1 hc2 hc3 hs0;obtain ⟨cH0_0,fH0_0⟩:=H0.2 0 _ rfl;obtain ⟨cH0_1,fH0_1⟩:=H0.2 1 _ rfl;obtain ⟨cH0_2,fH0_2⟩:=H0.2 2 _ rfl;have l0:=H0.1;go_enter Tryz.func103,Tryz.ntmps103
 go_upto_region 1 with fail
 rw [hW'.out];clear hW';go_big_quiet (fail)
 go_wp2
 refine bodyPost_ret (v:=.tuple #[.int .i64 (m0*s.x+m1*s.y),.int .i64 (m2*s.x+m3*s.y),.int .i64 (q*s.d)]) (by simp [results,Tryz.results103,go_sem]) rfl ⟨rfl, ?_⟩;exact Xl
theorem l11Top_c (r:XU) (a:Yn) (h:Half) (s:X9) (w:World) (B:RoomB r) (M:MapB r s) (P:AdmP r s h) (hs:Sl 1 Zm w a.map.A r.map) :
 Calls Tryz.prog 177 #[Ya r a,X3 h,YK s] w λ e w'=>e=.returned (.tuple #[.int .i64 (JT r s h),.int .i64 (Yz r s)])/\Below w.heap.size w w':=by
 obtain ⟨h0,h1,h2,h3,hd⟩:=M;obtain ⟨_,_,pc,px,py,_⟩:=P;have e:=four_of B.len;clear B;obtain ⟨map,div,bx,by_,low,high,noise,limits⟩:=r;simp only [JT,mapX,mapY,Yz] at *;generalize map.getD 0 0=m0 at *;generalize map.getD 1 0=m1 at *;generalize map.getD 2 0=m2 at *;generalize map.getD 3 0=m3 at *;subst e;obtain ⟨W,hW⟩:∃ W,W=((w.alloc (.cells #[.slice a.map.A 4 a.map.c,.int .i64 div,.int .i64 bx,.int .i64 by_,.int .i64 low,.int .i64 high,.slice a.noise.A noise.length a.noise.c,.slice a.limits.A limits.length a.limits.c] 28)).alloc (.cells #[.int .i64 h.a,.int .i64 h.b,.int .i64 h.c] 136)).alloc (.cells #[.int .i64 s.x,.int .i64 s.y,.int .i64 s.d] 30):=⟨_,rfl⟩;have HB:XV W w.heap.size [.slice a.map.A 4 a.map.c,.int .i64 div,.int .i64 bx,.int .i64 by_,.int .i64 low,.int .i64 high,.slice a.noise.A noise.length a.noise.c,.slice a.limits.A limits.length a.limits.c]:=by
  rw [hW];exact Ys
 have HH:XV W (w.heap.size+1) [.int .i64 h.a,.int .i64 h.b,.int .i64 h.c]:=by
  rw [hW];exact Ys
 have HS:XV W (w.heap.size+1+1) [.int .i64 s.x,.int .i64 s.y,.int .i64 s.d]:=by
  rw [hW];exact Ys
 have b0:Below w.heap.size w W:=by
  rw [hW];exact Xl
 have hs0:=hs.below b0;have hW':=Lib.hid hW;clear hW hs;obtain ⟨b,off,hA,hblt,hc⟩:=hs0.at_ (show 0<[m0,m1,m2,m3].length by simp);have g0:=hc 0 _ rfl;obtain ⟨b1,off1,hA1,_,hc1⟩:=hs0.at_ (show 1<[m0,m1,m2,m3].length by simp);obtain ⟨b2,off2,hA2,_,hc2⟩:=hs0.at_ (show 2<[m0,m1,m2,m3].length by simp);obtain ⟨b3,off3,hA3,_,hc3⟩:=hs0.at_ (show 3<[m0,m1,m2,m3].length by simp);rw [hA] at hA1 hA2 hA3;cases hA1;cases hA2;cases hA3;have g1:=hc1 0 _ rfl;have g2:=hc2 0 _ rfl;have g3:=hc3 0 _ rfl;rw [hA] at HB hW';simp only [Nat.mul_one,Nat.add_zero,List.getElem_cons_zero,List.getElem_cons_succ] at g0 g1 g2 g3;clear hc hc1 hc2 hc3 hs0;obtain ⟨cHB_0,fHB_0⟩:=HB.2 0 _ rfl;obtain ⟨cHB_1,fHB_1⟩:=HB.2 1 _ rfl;obtain ⟨cHB_2,fHB_2⟩:=HB.2 2 _ rfl;obtain ⟨cHB_3,fHB_3⟩:=HB.2 3 _ rfl;obtain ⟨cHB_4,fHB_4⟩:=HB.2 4 _ rfl;obtain ⟨cHB_5,fHB_5⟩:=HB.2 5 _ rfl;obtain ⟨cHB_6,fHB_6⟩:=HB.2 6 _ rfl;obtain ⟨cHB_7,fHB_7⟩:=HB.2 7 _ rfl;obtain ⟨cHH_0,fHH_0⟩:=HH.2 0 _ rfl;obtain ⟨cHH_1,fHH_1⟩:=HH.2 1 _ rfl;obtain ⟨cHH_2,fHH_2⟩:=HH.2 2 _ rfl;obtain ⟨cHS_0,fHS_0⟩:=HS.2 0 _ rfl;obtain ⟨cHS_1,fHS_1⟩:=HS.2 1 _ rfl;obtain ⟨cHS_2,fHS_2⟩:=HS.2 2 _ rfl;have lB:=HB.1;have lH:=HH.1;have lS:=HS.1;obtain ⟨⟨mA,mc⟩,nA,lA⟩:=a;simp only at *;subst hA;go_enter Tryz.func177,Tryz.ntmps177
 go_upto_region 1 with fail
 rw [<- hW'.out];clear hW';go_big_quiet (fail)
 go_upto_region 2 with fail
 go_big_quiet (fail)
 go_wp2
 refine bodyPost_ret (v:=.tuple #[.int .i64 (h.c*(div*s.d)-h.a*(m0*s.x+m1*s.y)-h.b*(m2*s.x+m3*s.y)),.int .i64 (div*s.d)]) (by simp [results,Tryz.results177,go_sem]) rfl ⟨rfl, ?_⟩;exact Xl
theorem adm_no {r:XU} {e:List Half} {s:X9} (h:100000<s.d):YL r e s=none:=by unfold YL;rw [if_pos h]
theorem adm_def {r:XU} {e:List Half} {s:X9} (h:¬ 100000<s.d):YL r e s=(admL r s e).bind λ w=>if XQ w=true then some w else none:=by unfold YL;rw [if_neg h]
variable {r:XU} {s:X9} {e:List Half} {k:Nat} {v:K4} {h:Half}
theorem getD_half (q:k<e.length):e.getD k Xa=e[k]:=by rw [List.getD_eq_getElem?_getD,List.getElem?_eq_getElem q,Option.getD_some]
theorem adm_next (q:k<e.length) (hv:admL r s (e.take k)=some v) {u:K4} (hs:KT r s v (e.getD k Xa)=some u):admL r s (e.take (k+1))=some u:=by
 rw [admL_take q,hv,Option.bind_some,<- getD_half q,hs]
theorem adm_stop (q:k<e.length) (hv:admL r s (e.take k)=some v) (hs:KT r s v (e.getD k Xa)=none):admL r s e=none :=
 admL_no q (by rw [admL_take q,hv,Option.bind_some,<- getD_half q,hs])
theorem step_hi (hn:0<Ze r h):KT r s v h=some ⟨v.low,Ye v.high (XD (JT r s h) (Yz r s*Ze r h))⟩:=by unfold KT;rw [if_pos hn]
theorem step_lo (hn:Ze r h<0):KT r s v h=some ⟨Yf v.low (XD (-(JT r s h)) (-(Yz r s)*Ze r h)),v.high⟩:=by unfold KT;rw [if_neg Oz,if_pos hn]
theorem step_eq (h0:Ze r h=0) (ht:¬ JT r s h<0):KT r s v h=some v:=by unfold KT;rw [if_neg Oz,if_neg Oz,if_neg ht]
theorem step_out (h0:Ze r h=0) (ht:JT r s h<0):KT r s v h=none:=by unfold KT;rw [if_neg Oz,if_neg Oz,if_pos ht]
theorem adm_bad (hd:¬ 100000<s.d) (hv:admL r s e=none):YL r e s=none:=by rw [adm_def hd,hv];rfl
theorem adm_bad2 (hd:¬ 100000<s.d) (hv:admL r s e=some v) (hk:XQ v=false):YL r e s=none:=by rw [adm_def hd,hv,Option.bind_some,if_neg (by rw [hk];simp)]
theorem adm_good (hd:¬ 100000<s.d) (hv:admL r s e=some v) (hk:XQ v=true):YL r e s=some v:=by rw [adm_def hd,hv,Option.bind_some,if_pos hk]
theorem sOne_c (n:Int) (w:World) (h : -1000<=n/\n<=1000) :
 Calls Tryz.prog 176 #[Vi n,Vi 1] w λ e w'=>e=.returned (Xv ⟨n,1⟩)/\Below w.heap.size w w':=by
 have k:=J3 n 1 w ⟨Oz,Oz⟩ ⟨Oz,Oz⟩;rw [ratio_one h] at k;exact k
theorem iAdmit_c (r:XU) (e:List Half) (s:X9) (ra:Yn) (b:Zi) (w:World) (hr:XM r=true) (he:∀ h∈e,Xt h=true) (hle:e.length<=40) (hs:X7 s=true) (hsR:Ym w r ra) (hsE:Sl 3 Xd w b.A e) :
 Calls Tryz.prog 48 #[Ya r ra,.agg #[Sv b.A e.length b.c],YK s] w λ x w'=>x=.returned (optSpanV (YL r e s))/\Below w.heap.size w w':=by
 have B:=roomB hr;obtain ⟨⟨lo1,lo2⟩,⟨hi1,hi2⟩⟩:(-1000<=r.low/\r.low<=1000)/\(-1000<=r.high/\r.high<=1000):=⟨B.low,by have:=B.low;have:=B.high;omega,B.high.2⟩;refine YN Tryz.func48 rfl (n:=97) Tryz.ntmps48 Sz ?_;intro a0 hz O ha;have s0:a0.tmps[0]?.getD undef=Ya r ra:=ha 0 _ rfl;have s1:a0.tmps[1]?.getD undef=.agg #[Sv b.A e.length b.c]:=ha 1 _ rfl;have s2:a0.tmps[2]?.getD undef=YK s:=ha 2 _ rfl;clear ha;have U:=Below.refl w.heap.size w;have hZ:=Nat.le_refl w.heap.size;refine wp_seq ?_;refine Yt [3,4,5,6,7] [Pz w.heap.size,Pz (w.heap.size+1),Pz (w.heap.size+2),Pz (w.heap.size+3),Bf] [some (.cells (Jv r ra).toArray 28),some (.cells [Sv b.A e.length b.c].toArray 26),some (.cells [Vi s.x,Vi s.y,Vi s.d].toArray 30),some (.cells [V0,V0,V0,V0].toArray 48),none] [0,1,2,3,4] [3,4,5,6,7] [0,1,2,3,4] (by kernel_rfl) (by rw [hz];decide) (ec ?_ (ec ?_ (ec ?_ (ec ?_ (ec ?_ .nil))))) ?_
 ·intro a w' D hs N Q C;simp [go_sem,D.g rfl s0];rw [hs];exact C
 ·intro a w' D hs N Q C;simp [go_sem,D.g rfl s1];rw [hs];exact C
 ·intro a w' D hs N Q C;simp [go_sem,D.g rfl s2];rw [hs];exact C
 ·intro a w' D hs N Q C;simp [go_sem];rw [hs];exact C
 ·intro a w' D hs N Q C;simp [go_sem];exact C
 intro a1 w2 D V hb hO;replace hz:=D.size.trans hz;replace O:=D.defers.trans O;have s3:a1.tmps[3]?.getD undef=Pz w.heap.size:=V 0 Dz;have s4:a1.tmps[4]?.getD undef=Pz (w.heap.size+1):=V 1 Dz;have s5:a1.tmps[5]?.getD undef=Pz (w.heap.size+2):=V 2 Dz;have s6:a1.tmps[6]?.getD undef=Pz (w.heap.size+3):=V 3 Dz;have b3:Xz w2 w.heap.size 28 (Jv r ra):=hO 0 _ rfl;have b4:Xz w2 (w.heap.size+1) 26 [Sv b.A e.length b.c]:=hO 1 _ rfl;have b5:Xz w2 (w.heap.size+2) 30 [Vi s.x,Vi s.y,Vi s.d]:=hO 2 _ rfl;have b6:Xz w2 (w.heap.size+3) 48 [V0,V0,V0,V0]:=hO 3 _ rfl;have hG:=b6.lt;replace U:=Xe U hb;have zw2:=Nat.le_trans hZ hb.size;replace hZ:=Nat.le_refl w2.heap.size;clear D V hb hO s0 s1 s2;refine Xk (wp_seq (wp_seq ?_));refine Xj [16,17,18] [some (.pointer (some ⟨(w.heap.size+2),2,none⟩)),some (Vi s.d),some (Bv (decide (s.d > 100000)))] (Yc 3) [16,17,18] [] (λ _ _ _=>True) ?_ (e2 ?_ ?_ (en rfl ?_ .nil)) ?_
 ·exact λ _ _=>trivial
 ·intro S J K H _ _ C;simp [go_sem,H.f.g rfl s5];exact (C _ _ H.k rfl trivial)
 ·intro S J K H _ _ C;simp [go_sem,(gS J 16 (H.d 0 rfl rfl)),(b5.k0 H.k).cell];exact (C _ _ H.k rfl trivial)
 ·exact λ S J K H _ _ C=>Yl rfl (ev (H.d 1 rfl rfl)) rfl rfl rfl (C _ _ H.k rfl trivial)
 intro L a7 w8 Y D F V X;replace hz:=D.Z hz;replace O:=D.E O;obtain ⟨s3,s4,s5,s6⟩:=D.G4 s3 s4 s5 s6;have s18:=gS a7 18 (V 2 _ rfl);replace b3:=b3.k0 F;replace b4:=b4.k0 F;replace b5:=b5.k0 F;replace b6:=b6.k0 F;replace hZ:=Nat.le_trans hZ F.size;replace U:=F.below0 U;clear D F V Y X;refine Xk ?_;rcases Bool.eq_false_or_eq_true (decide (s.d > 100000)) with q9|q9
 ·refine wp_cond_true (ev (vb s18 q9)) ?_;refine wp_seq ?_;have T:Xf [] (λ L aa K=>X6 K (w.heap.size+3) 48 [V0,V0,V0,V0] (L 1) (λ _ vs=>vs=[V0,V0,V0,V0])):=by
   intro L aa K w' kk vv hkk hb X;have x0:=X;exact (x0.bel hb (λ _ h=>h))
  refine Xr T [19,0,7] [some (.agg #[V0,V0,V0,V0]),none,some Bf] (Yc 3) [19,7] [(w.heap.size+3)] ?_ (e2 ?_ ?_ (en rfl ?_ .nil)) ?_
  ·exact λ _ h=>(⟨λ _=>b6.kp h Sz,Cz⟩)
  ·intro S J K H _ _ C;simp [go_sem];exact (C _ _ H.k rfl H.x)
  ·intro S J K H _ _ C;have x0:=H.x;have HT:=x0.1 H.n;simp [go_sem,(gS J 19 (H.d 0 rfl rfl)),H.f.g rfl s6,HT.cell,HT.frz];exact C undef _ (H.k.store (.inr Sz) [V0,V0,V0,V0] 0) trivial (X6.set HT (us:=[V0,V0,V0,V0]) rfl rfl)
  ·exact KQ rfl rfl λ _ _ _ _ h=>h
  intro L a10 w11 Y D F V X;have x0:=X;replace hz:=D.Z hz;replace O:=D.E O;replace s6:=D.G s6;have s7:=gS a10 7 (V 2 _ rfl);clear b6;obtain ⟨_,b6,rfl⟩:=x0.2 (Y 1 Dz);replace hZ:=Nat.le_trans hZ F.size;replace U:=F.below U U.size (by simp<;>omega);clear D F V Y x0 T s3 s4 s5 s18 b3 b4 b5;refine Xk (wp_ret (Y6 ?_));refine bodyPost_ret (v:=.tuple #[.agg #[V0,V0,V0,V0],Bf]) (by simp [results,Tryz.results48,go_sem,s6,b6.cell,s7]) O ?_;exact ⟨by rw [adm_no (KZ q9)];rfl,U⟩
 ·have hd:¬ 100000<s.d:=by have:=YT q9;omega
  have M:=mapB B hs Oz;have hMd:=M.d;refine wp_cond_false (ev (vb s18 q9)) ?_;refine wp_skip (Xk (wp_seq ?_));have T:Xf [8] (λ L aa K=>(L 7=true->Yg w8 aa K 8 48 [V0,V0,V0,V0] (L 8) (λ _ vs=>vs=[Vi r.low,Vi 1,Vi r.high,Vi 1]))):=by
   intro L aa K w' kk vv hkk hb X;have x0:=X;exact (λ h=>((x0 h).bel hb (λ _ h=>h)).put (hkk 8 Sz) _)
  refine Xr T [20,21,22,23,24,25,26,8,0] [some (.pointer (some ⟨w.heap.size,4,none⟩)),some (Vi r.low),some (.agg #[Vi r.low,Vi 1]),some (.pointer (some ⟨w.heap.size,5,none⟩)),some (Vi r.high),some (.agg #[Vi r.high,Vi 1]),some (.agg #[Vi r.low,Vi 1,Vi r.high,Vi 1]),none,none] ([[],[0],[0,1],[],[3],[0,1,2,3,4],[0,1,2,3,4,5],[],[0,1,2,3,4,5,6,7]]) [20,21,22,23,24,25,26,8] [] ?_ (e4 ?_ ?_ ?_ ?_ (e4 ?_ ?_ ?_ ?_ (en rfl ?_ .nil))) ?_
  ·exact λ _ h=>Cz
  ·intro S J K H _ _ C;simp [go_sem,H.f.g rfl s3];exact (C _ _ H.k rfl (T.q rfl H.x))
  ·intro S J K H _ _ C;simp [go_sem,(gS J 20 (H.d 0 rfl rfl)),(b3.k0 H.k).cell];exact (C _ _ H.k rfl (T.q rfl H.x))
  ·intro S J K H _ _ C;simp [go_sem,(gS J 21 (H.d 1 rfl rfl))];refine (whole_c r.low K).mono ?_;rintro x wx ⟨rfl,hb⟩;exact (C _ _ (H.k.call hb) rfl (T.b rfl hb H.x))
  ·intro S J K H _ _ C;simp [go_sem,H.f.g rfl s3];exact (C _ _ H.k rfl (T.q rfl H.x))
  ·intro S J K H _ _ C;simp [go_sem,(gS J 23 (H.d 3 rfl rfl)),(b3.k0 H.k).cell];exact (C _ _ H.k rfl (T.q rfl H.x))
  ·intro S J K H _ _ C;simp [go_sem,(gS J 24 (H.d 4 rfl rfl))];refine (whole_c r.high K).mono ?_;rintro x wx ⟨rfl,hb⟩;exact (C _ _ (H.k.call hb) rfl (T.b rfl hb H.x))
  ·intro S J K H _ _ C;simp [go_sem,(gS J 22 (H.d 2 rfl rfl)),(gS J 25 (H.d 5 rfl rfl))];exact (C _ _ H.k rfl (T.q rfl H.x))
  ·intro S J K H _ _ C;have x0:=H.x;simp [go_sem];exact C _ _ (H.k.alloc _) trivial (λ _=>by rw [show ZV S 7 8=false from H.t 8 rfl];exact Yg.new (s:=8) (H.f.lt (by rw [hz];decide)) H.k.size [V0,V0,V0,V0])
  ·intro S J K H _ _ C;have x0:=H.x;obtain ⟨g,eg,hg,y,_⟩:=x0 (H.r 7 rfl);have HT:=y H.n;simp [go_sem,(gS J 26 (H.d 6 rfl rfl)),eg,HT.cell,HT.frz];exact C undef _ (H.k.store (.inl hg) [Vi r.low,Vi 1,Vi r.high,Vi 1] 0) trivial (λ _=>Yg.set eg hg HT (us:=[Vi r.low,Vi 1,Vi r.high,Vi 1]) rfl rfl)
  intro L a12 w13 Y D F V X;have x0:=X;replace hz:=D.Z hz;replace O:=D.E O;obtain ⟨s3,s4,s5,s6⟩:=D.G4 s3 s4 s5 s6;replace b3:=b3.k0 F;replace b4:=b4.k0 F;replace b5:=b5.k0 F;replace b6:=b6.k0 F;obtain ⟨g14,s8,lg14,-,b14⟩:=x0 (Y 7 Dz);obtain ⟨_,b14,rfl⟩:=b14 (Y 8 Dz);have ug14:=b14.lt;have zw8:=hZ;have zw13:=F.size;replace hZ:=Nat.le_refl w13.heap.size;replace U:=F.below0 U;clear D F V Y x0 T s18;refine Xk (wp_seq ?_);refine Xj [28,29,30,31,32,33,27,34,35,36,9,10,11] [some (YK s),some (Pz w.heap.size),some (Sv ra.map.A r.map.length ra.map.c),some (.pointer (some ⟨w.heap.size,1,none⟩)),some (Vi r.div),some (.tuple #[Vi (mapX r s),Vi (mapY r s),Vi (Yz r s)]),some (.tuple #[Vi (mapX r s),Vi (mapY r s),Vi (Yz r s)]),some (Vi (mapX r s)),some (Vi (mapY r s)),some (Vi (Yz r s)),some (Vi (mapX r s)),some (Vi (mapY r s)),some (Vi (Yz r s))] (Yc 13) [28,29,30,31,32,33,27,34,35,36,9,10,11] [] (λ _ _ _=>True) ?_ (e4 ?_ ?_ ?_ ?_ (e4 ?_ ?_ ?_ ?_ (e4 ?_ ?_ ?_ ?_ (en rfl ?_ .nil)))) ?_
  ·exact λ _ _=>trivial
  ·intro S J K H _ _ C;simp [go_sem,H.f.g rfl s5,(b5.k0 H.k).cell];exact (C _ _ H.k rfl trivial)
  ·intro S J K H _ _ C;simp [go_sem,H.f.g rfl s3];exact (C _ _ H.k rfl trivial)
  ·intro S J K H _ _ C;simp [go_sem,(gS J 29 (H.d 1 rfl rfl)),(b3.k0 H.k).cell];exact (C _ _ H.k rfl trivial)
  ·intro S J K H _ _ C;simp [go_sem,H.f.g rfl s3];exact (C _ _ H.k rfl trivial)
  ·intro S J K H _ _ C;simp [go_sem,(gS J 31 (H.d 3 rfl rfl)),(b3.k0 H.k).cell];exact (C _ _ H.k rfl trivial)
  ·intro S J K H _ _ C;simp [go_sem,(gS J 28 (H.d 0 rfl rfl)),(gS J 30 (H.d 2 rfl rfl)),(gS J 32 (H.d 4 rfl rfl))];have hBi:=H.k.below0 U;refine (mapped_c r.map r.div ra.map.A ra.map.c s K B.len M.x0 M.x1 M.y0 M.y1 M.d (hsR.below hBi).map).mono ?_;rintro x wx ⟨rfl,hb⟩;exact (C _ _ (H.k.call hb) rfl trivial)
  ·exact Ks 5 rfl rfl rfl rfl
  ·exact oEDT 6 rfl rfl rfl rfl rfl
  ·exact oEDT 6 rfl rfl rfl rfl rfl
  ·exact oEDT 6 rfl rfl rfl rfl rfl
  ·exact KE 7 rfl rfl rfl rfl
  ·exact KE 8 rfl rfl rfl rfl
  ·exact KE 9 rfl rfl rfl rfl
  intro L a15 w16 Y D F V X;replace hz:=D.Z hz;replace O:=D.E O;obtain ⟨s3,s4,s6,s8⟩:=D.G4 s3 s4 s6 s8;have s9:=gS a15 9 (V 10 _ rfl);have s10:=gS a15 10 (V 11 _ rfl);have s11:=gS a15 11 (V 12 _ rfl);replace b3:=b3.k0 F;replace b4:=b4.k0 F;replace b6:=b6.k0 F;replace b14:=b14.k0 F;replace hZ:=Nat.le_trans hZ F.size;replace U:=F.below0 U;clear D F V Y X s5 b5;refine Xk (wp_seq (wp_seq ?_));refine Xj [37,38,39,40] [some (Pz (w.heap.size+1)),some (Sv b.A e.length b.c),some (Vi (e.length:Int)),some V0] (Yc 4) [37,38,39,40] [] (λ _ _ _=>True) ?_ (e4 ?_ ?_ ?_ ?_ .nil) ?_
  ·exact λ _ _=>trivial
  ·intro S J K H _ _ C;simp [go_sem,H.f.g rfl s4];exact (C _ _ H.k rfl trivial)
  ·intro S J K H _ _ C;simp [go_sem,(gS J 37 (H.d 0 rfl rfl)),(b4.k0 H.k).cell];exact (C _ _ H.k rfl trivial)
  ·intro S J K H _ _ C;simp [go_sem,(gS J 38 (H.d 1 rfl rfl))];exact (C _ _ H.k rfl trivial)
  ·exact oMCT rfl rfl
  intro L a17 w18 Y D F V X;replace hz:=D.Z hz;replace O:=D.E O;obtain ⟨s3,s6,s8,s9,s10,s11⟩:=D.G6 s3 s6 s8 s9 s10 s11;have s38:=gS a17 38 (V 1 _ rfl);have s39:=gS a17 39 (V 2 _ rfl);have s40:=gS a17 40 (V 3 _ rfl);replace b3:=b3.k0 F;replace b6:=b6.k0 F;replace b14:=b14.k0 F;replace hZ:=Nat.le_trans hZ F.size;replace U:=F.below0 U;clear D F V Y X s4 b4;refine Xk (wp_block ?_);refine wp_loop (λ al wl=>al.tmps.size=97/\al.defers=[]/\∃ (k:Nat) (v:K4),(k<=e.length)/\(admL r s (e.take k)=some v)/\al.tmps[3]?.getD undef=Pz w.heap.size/\al.tmps[6]?.getD undef=Pz (w.heap.size+3)/\al.tmps[8]?.getD undef=Pz g14/\al.tmps[9]?.getD undef=Vi (mapX r s)/\al.tmps[10]?.getD undef=Vi (mapY r s)/\al.tmps[11]?.getD undef=Vi (Yz r s)/\al.tmps[38]?.getD undef=Sv b.A e.length b.c/\al.tmps[39]?.getD undef=Vi (e.length:Int)/\al.tmps[40]?.getD undef=Vi (k:Int)/\Xz wl w.heap.size 28 (Jv r ra)/\Xz wl (w.heap.size+3) 48 [V0,V0,V0,V0]/\Xz wl g14 48 [Vi v.low.n,Vi v.low.d,Vi v.high.n,Vi v.high.d]/\Below w.heap.size w wl/\w13.heap.size<=wl.heap.size) (λ al _=>(e.length-(intOf (al.tmps[40]?.getD undef)).toNat)) ?_ ?_
  ·exact ⟨hz,O,(0),(⟨⟨r.low,1⟩,⟨r.high,1⟩⟩),(Nat.zero_le _),(rfl),s3,s6,s8,s9,s10,s11,s38,s39,s40,b3,b6,b14,U,Oz⟩
  clear hz O U hZ s3 s6 s8 s9 s10 s11 s38 s39 s40 b3 b6 b14;rintro a19 w20 ⟨hz,O,k,v,hk,hv,s3,s6,s8,s9,s10,s11,s38,s39,s40,b3,b6,b14,U,hZ⟩;have zw20:=hZ;replace hZ:=Nat.le_refl w20.heap.size;have hmu:(e.length-(intOf (a19.tmps[40]?.getD undef)).toNat)=(e.length-(intOf ((Vi (k:Int)))).toNat):=by rw [s40]
  refine wp_seq ?_;refine Xj [41] [some (Bv (decide ((k:Int)<(e.length:Int))))] (Yc 1) [41] [] (λ _ _ _=>True) ?_ (en rfl ?_ .nil) ?_
  ·exact λ _ _=>trivial
  ·exact λ S J K H _ _ C=>Yl rfl (ev (H.f.g rfl s40)) (ev (H.f.g rfl s39)) rfl rfl (C _ _ H.k rfl trivial)
  intro L a21 w22 Y D F V X;replace hz:=D.Z hz;replace O:=D.E O;obtain ⟨s3,s6,s8,s9,s10,s11,s38,s39⟩:=D.G8 s3 s6 s8 s9 s10 s11 s38 s39;replace s40:=D.G s40;have s41:=gS a21 41 (V 0 _ rfl);replace b3:=b3.k0 F;replace b6:=b6.k0 F;replace b14:=b14.k0 F;replace hZ:=Nat.le_trans hZ F.size;replace U:=F.below0 U;clear D F V Y X;refine Xk (wp_seq ?_);rcases Bool.eq_false_or_eq_true (decide ((k:Int)<(e.length:Int))) with q23|q23
  ·have hkl:k<e.length:=by have:=KZ q23;omega
   have hvo:=admL_ok B M he k hk v hv;have hvi:v.In:=⟨Kg hvo.1,Kg hvo.2⟩;have P:=admP B M (he _ (Y2 hkl));obtain ⟨⟨pa1,pa2⟩,⟨pb1,pb2⟩,⟨pc1,pc2⟩,⟨px1,px2⟩,⟨py1,py2⟩,⟨pn1,pn2⟩⟩:=P;have P:=admP B M (he _ (Y2 hkl));obtain ⟨be,oe,ee_,fe⟩:=ElS.open_ (hsE.below U) Oz;refine wp_cond_true (ev (vb s41 q23)) ?_;refine wp_skip (Xk (wp_seq (wp_block (wp_seq ?_))));have T:Xf [13] (λ L aa K=>(L 2=true->Yg w22 aa K 13 136 [V0,V0,V0] (L 3) (λ _ vs=>vs=[Vi ((e.getD k Xa).a),Vi ((e.getD k Xa).b),Vi ((e.getD k Xa).c)]))):=by
    intro L aa K w' kk vv hkk hb X;have x0:=X;exact (λ h=>((x0 h).bel hb (λ _ h=>h)).put (hkk 13 Sz) _)
   refine Xr T [42,43,13,0] [some (.pointer (some ⟨be,oe+k*3,none⟩)),some (X3 (e.getD k Xa)),none,none] (Yc 4) [42,43,13] [] ?_ (e4 ?_ ?_ ?_ ?_ .nil) ?_
   ·exact λ _ h=>Cz
   ·intro S J K H _ _ C;simp [go_sem,H.f.g rfl s38,H.f.g rfl s40,hkl,ee_];exact (C _ _ H.k rfl (T.q rfl H.x))
   ·intro S J K H _ _ C;have hE:=fe.kp H.k Sz;simp [go_sem,(gS J 42 (H.d 0 rfl rfl)),(hE.at_ Xa (i:=k) Oz 0 (p:=oe+k*3) Oz rfl),(hE.at_ Xa (i:=k) Oz 1 (p:=oe+k*3+1) Oz rfl),(hE.at_ Xa (i:=k) Oz 2 (p:=oe+k*3+2) Oz rfl)];exact (C _ _ H.k rfl (T.q rfl H.x))
   ·intro S J K H _ _ C;have x0:=H.x;simp [go_sem];exact C _ _ (H.k.alloc _) trivial (λ _=>by rw [show ZV S 2 3=false from H.t 3 rfl];exact Yg.new (s:=13) (H.f.lt (by rw [hz];decide)) H.k.size [V0,V0,V0])
   ·intro S J K H _ _ C;have x0:=H.x;obtain ⟨g,eg,hg,y,_⟩:=x0 (H.r 2 rfl);have HT:=y H.n;simp [go_sem,(gS J 43 (H.d 1 rfl rfl)),eg,HT.cell,HT.frz];exact C undef _ (H.k.store (.inl hg) [Vi ((e.getD k Xa).a),Vi ((e.getD k Xa).b),Vi ((e.getD k Xa).c)] 0) trivial (λ _=>Yg.set eg hg HT (us:=[Vi ((e.getD k Xa).a),Vi ((e.getD k Xa).b),Vi ((e.getD k Xa).c)]) rfl rfl)
   intro L a24 w25 Y D F V X;have x0:=X;replace hz:=D.Z hz;replace O:=D.E O;obtain ⟨s3,s6,s8,s9,s10,s11,s38,s39⟩:=D.G8 s3 s6 s8 s9 s10 s11 s38 s39;replace s40:=D.G s40;replace b3:=b3.k0 F;replace b6:=b6.k0 F;replace b14:=b14.k0 F;obtain ⟨g26,s13,lg26,-,b26⟩:=x0 (Y 2 Dz);obtain ⟨_,b26,rfl⟩:=b26 (Y 3 Dz);have ug26:=b26.lt;have zw22:=hZ;have zw25:=F.size;replace hZ:=Nat.le_refl w25.heap.size;replace U:=F.below0 U;clear D F V Y x0 T s41 fe;refine Xk (wp_seq ?_);refine Xj [44,45,46,47,48,49,50,51,52,53,54,55,56,57,14] [some (.pointer (some ⟨g26,2,none⟩)),some (Vi ((e.getD k Xa).c)),some (Vi (Yz r s)),some (Vi (((e.getD k Xa).c)*(Yz r s))),some (Pz g26),some (Vi ((e.getD k Xa).a)),some (Vi (mapX r s)),some (Vi (((e.getD k Xa).a)*(mapX r s))),some (Vi ((((e.getD k Xa).c)*(Yz r s))-(((e.getD k Xa).a)*(mapX r s)))),some (.pointer (some ⟨g26,1,none⟩)),some (Vi ((e.getD k Xa).b)),some (Vi (mapY r s)),some (Vi (((e.getD k Xa).b)*(mapY r s))),some (Vi (((((e.getD k Xa).c)*(Yz r s))-(((e.getD k Xa).a)*(mapX r s)))-(((e.getD k Xa).b)*(mapY r s)))),some (Vi (((((e.getD k Xa).c)*(Yz r s))-(((e.getD k Xa).a)*(mapX r s)))-(((e.getD k Xa).b)*(mapY r s))))] (Yc 15) [44,45,46,47,48,49,50,51,52,53,54,55,56,57,14] [] (λ _ _ _=>True) ?_ (e4 ?_ ?_ ?_ ?_ (e4 ?_ ?_ ?_ ?_ (e4 ?_ ?_ ?_ ?_ (e2 ?_ ?_ (en rfl ?_ .nil))))) ?_
   ·exact λ _ _=>trivial
   ·intro S J K H _ _ C;simp [go_sem,H.f.g rfl s13];exact (C _ _ H.k rfl trivial)
   ·intro S J K H _ _ C;simp [go_sem,(gS J 44 (H.d 0 rfl rfl)),(b26.k0 H.k).cell];exact (C _ _ H.k rfl trivial)
   ·exact Z1 s11 rfl rfl rfl
   ·exact λ S J K H _ _ C=>YV rfl (ev (H.d 1 rfl rfl)) (ev (H.d 2 rfl rfl)) Oz (C _ _ H.k rfl trivial)
   ·intro S J K H _ _ C;simp [go_sem,H.f.g rfl s13];exact (C _ _ H.k rfl trivial)
   ·intro S J K H _ _ C;simp [go_sem,(gS J 48 (H.d 4 rfl rfl)),(b26.k0 H.k).cell];exact (C _ _ H.k rfl trivial)
   ·exact Z1 s9 rfl rfl rfl
   ·exact λ S J K H _ _ C=>YV rfl (ev (H.d 5 rfl rfl)) (ev (H.d 6 rfl rfl)) Oz (C _ _ H.k rfl trivial)
   ·exact λ S J K H _ _ C=>wp_sub rfl (ev (H.d 3 rfl rfl)) (ev (H.d 7 rfl rfl)) Oz (C _ _ H.k rfl trivial)
   ·intro S J K H _ _ C;simp [go_sem,H.f.g rfl s13];exact (C _ _ H.k rfl trivial)
   ·intro S J K H _ _ C;simp [go_sem,(gS J 53 (H.d 9 rfl rfl)),(b26.k0 H.k).cell];exact (C _ _ H.k rfl trivial)
   ·exact Z1 s10 rfl rfl rfl
   ·exact λ S J K H _ _ C=>YV rfl (ev (H.d 10 rfl rfl)) (ev (H.d 11 rfl rfl)) Oz (C _ _ H.k rfl trivial)
   ·exact λ S J K H _ _ C=>wp_sub rfl (ev (H.d 8 rfl rfl)) (ev (H.d 12 rfl rfl)) Oz (C _ _ H.k rfl trivial)
   ·exact KE 13 rfl rfl rfl rfl
   intro L a27 w28 Y D F V X;replace hz:=D.Z hz;replace O:=D.E O;obtain ⟨s3,s6,s8,s9,s10,s11,s38,s39⟩:=D.G8 s3 s6 s8 s9 s10 s11 s38 s39;obtain ⟨s40,s13⟩:=D.G2 s40 s13;have s14:=gS a27 14 (V 14 _ rfl);replace b3:=b3.k0 F;replace b6:=b6.k0 F;replace b14:=b14.k0 F;replace b26:=b26.k0 F;replace hZ:=Nat.le_trans hZ F.size;replace U:=F.below0 U;clear D F V Y X;obtain ⟨T0,eT0⟩:∃ z:Int,z=((((e.getD k Xa).c)*(Yz r s))-(((e.getD k Xa).a)*(mapX r s)))-(((e.getD k Xa).b)*(mapY r s)):=⟨_,rfl⟩;rw [<- eT0] at s14;have hT0:JT r s (e.getD k Xa)=T0:=eT0.symm;have hTb : -1000000000000000<=T0/\T0<=1000000000000000:=by rw [<- hT0];unfold JT;omega
   refine Xk (wp_seq ?_);refine Xj [58,59,60,15] [some (Ya r ra),some (X3 (e.getD k Xa)),some (Vi (Ze r (e.getD k Xa))),some (Vi (Ze r (e.getD k Xa)))] (Yc 4) [58,59,60,15] [] (λ _ _ _=>True) ?_ (e4 ?_ ?_ ?_ ?_ .nil) ?_
   ·exact λ _ _=>trivial
   ·intro S J K H _ _ C;simp [go_sem,H.f.g rfl s3,(b3.k0 H.k).cell];exact (C _ _ H.k rfl trivial)
   ·intro S J K H _ _ C;simp [go_sem,H.f.g rfl s13,(b26.k0 H.k).cell];exact (C _ _ H.k rfl trivial)
   ·intro S J K H _ _ C;simp [go_sem,(gS J 58 (H.d 0 rfl rfl)),(gS J 59 (H.d 1 rfl rfl))];refine (slope_c r ra (e.getD k Xa) K ⟨pa1,pa2⟩ ⟨pb1,pb2⟩).mono ?_;rintro x wx ⟨rfl,hb⟩;exact (C _ _ (H.k.call hb) rfl trivial)
   ·exact KE 2 rfl rfl rfl rfl
   intro L a29 w30 Y D F V X;replace hz:=D.Z hz;replace O:=D.E O;obtain ⟨s3,s6,s8,s9,s10,s11,s38,s39⟩:=D.G8 s3 s6 s8 s9 s10 s11 s38 s39;obtain ⟨s40,s14⟩:=D.G2 s40 s14;have s15:=gS a29 15 (V 3 _ rfl);replace b3:=b3.k0 F;replace b6:=b6.k0 F;replace b14:=b14.k0 F;replace hZ:=Nat.le_trans hZ F.size;replace U:=F.below0 U;clear D F V Y X s13 b26;obtain ⟨N0,eN0⟩:∃ z:Int,z=Ze r (e.getD k Xa):=⟨_,rfl⟩;rw [<- eN0] at s15;have hN0:Ze r (e.getD k Xa)=N0:=eN0.symm;refine Xk (wp_block (wp_seq ?_));refine Xj [62,63,61] [some (Vi N0),some (Bv (decide (N0 > 0))),some (Bv (decide (N0 > 0)))] (Yc 3) [62,63,61] [] (λ _ _ _=>True) ?_ (e2 ?_ ?_ (en rfl ?_ .nil)) ?_
   ·exact λ _ _=>trivial
   ·exact Z1 s15 rfl rfl rfl
   ·exact λ S J K H _ _ C=>Yl rfl (ev (H.d 0 rfl rfl)) rfl rfl rfl (C _ _ H.k rfl trivial)
   ·exact KE 1 rfl rfl rfl rfl
   intro L a31 w32 Y D F V X;replace hz:=D.Z hz;replace O:=D.E O;obtain ⟨s3,s6,s8,s9,s10,s11,s38,s39⟩:=D.G8 s3 s6 s8 s9 s10 s11 s38 s39;obtain ⟨s40,s14,s15⟩:=D.G3 s40 s14 s15;have s61:=gS a31 61 (V 2 _ rfl);replace b3:=b3.k0 F;replace b6:=b6.k0 F;replace b14:=b14.k0 F;replace hZ:=Nat.le_trans hZ F.size;replace U:=F.below0 U;clear D F V Y X;refine Xk ?_;rcases Bool.eq_false_or_eq_true (decide (N0 > 0)) with q33|q33
   ·have hn:0<Ze r (e.getD k Xa):=by have:=KZ q33;omega
    obtain ⟨ht,hdn⟩:=adm_high P M hn;have h9:=step_hi (s:=s) (v:=v) hn;rw [hT0] at ht h9;rw [hN0] at hdn h9;refine wp_cond_true (ev (vb s61 q33)) ?_;have T:Xf [] (λ L aa K=>X6 K g14 48 [Vi v.low.n,Vi v.low.d,Vi v.high.n,Vi v.high.d] (L 9) (λ _ vs=>vs=[Vi v.low.n,Vi v.low.d,Vi ((Ye v.high (XD T0 ((Yz r s)*N0))).n),Vi ((Ye v.high (XD T0 ((Yz r s)*N0))).d)])):=by
     intro L aa K w' kk vv hkk hb X;have x0:=X;exact (x0.bel hb (λ _ h=>h))
    refine Xr T [64,65,66,67,68,69,70,71,72,0] [some (.pointer (some ⟨g14,2,none⟩)),some (.agg #[Vi v.high.n,Vi v.high.d]),some (Vi T0),some (Vi (Yz r s)),some (Vi N0),some (Vi ((Yz r s)*N0)),some (Xv (XD T0 ((Yz r s)*N0))),some (Xv (Ye v.high (XD T0 ((Yz r s)*N0)))),some (.pointer (some ⟨g14,2,none⟩)),none] ([[],[0],[],[],[],[3,4],[2,3,4,5],[0,1,2,3,4,5,6],[0,1,2,3,4,5,6,7],[0,1,2,3,4,5,6,7,8]]) [64,65,66,67,68,69,70,71,72] [g14] ?_ (e4 ?_ ?_ ?_ ?_ (e4 ?_ ?_ ?_ ?_ (e2 ?_ ?_ .nil))) ?_
    ·exact λ _ h=>(⟨λ _=>b14.kp h Sz,Cz⟩)
    ·intro S J K H _ _ C;simp [go_sem,H.f.g rfl s8];exact (C _ _ H.k rfl H.x)
    ·intro S J K H _ _ C;have x0:=H.x;have hb0:=x0.1 (H.t 9 rfl);simp [go_sem,(gS J 64 (H.d 0 rfl rfl)),hb0.cell];exact (C _ _ H.k rfl H.x)
    ·exact ZK s14 rfl rfl rfl λ _ _ _ _ h=>h
    ·exact ZK s11 rfl rfl rfl λ _ _ _ _ h=>h
    ·exact ZK s15 rfl rfl rfl λ _ _ _ _ h=>h
    ·exact λ S J K H _ _ C=>YV rfl (ev (H.d 3 rfl rfl)) (ev (H.d 4 rfl rfl)) Oz (C _ _ H.k rfl H.x)
    ·intro S J K H _ _ C;simp [go_sem,(gS J 66 (H.d 2 rfl rfl)),(gS J 69 (H.d 5 rfl rfl))];refine (iRatioOf_c T0 ((Yz r s)*N0) K ⟨Oz,Oz⟩ ⟨Oz,Oz⟩).mono ?_;rintro x wx ⟨rfl,hb⟩;exact (C _ _ (H.k.call hb) rfl (T S J K _ none undef Sz hb H.x))
    ·intro S J K H _ _ C;simp [go_sem,(gS J 65 (H.d 1 rfl rfl)),(gS J 70 (H.d 6 rfl rfl))];refine (iRatioMin_c v.high (XD T0 ((Yz r s)*N0)) K hvi.2 (Kg (YP ht hdn).1)).mono ?_;rintro x wx ⟨rfl,hb⟩;exact (C _ _ (H.k.call hb) rfl (T S J K _ none undef Sz hb H.x))
    ·intro S J K H _ _ C;simp [go_sem,H.f.g rfl s8];exact (C _ _ H.k rfl H.x)
    ·intro S J K H _ _ C;have x0:=H.x;have HT:=x0.1 H.n;simp [go_sem,(gS J 72 (H.d 8 rfl rfl)),(gS J 71 (H.d 7 rfl rfl)),HT.cell,HT.frz];exact C undef _ (H.k.store (.inr Sz) [Vi ((Ye v.high (XD T0 ((Yz r s)*N0))).n),Vi ((Ye v.high (XD T0 ((Yz r s)*N0))).d)] 2) trivial (⟨(λ q=>by cases q),λ _=>⟨_,((HT.set_ 2 _).set_ 3 _),rfl⟩⟩)
    intro L a34 w35 Y D F V X;have x0:=X;replace hz:=D.Z hz;replace O:=D.E O;obtain ⟨s3,s6,s8,s9,s10,s11,s38,s39⟩:=D.G8 s3 s6 s8 s9 s10 s11 s38 s39;replace s40:=D.G s40;replace b3:=b3.kp F (by simp<;>omega);replace b6:=b6.kp F (by simp<;>omega);clear b14;obtain ⟨_,b14,rfl⟩:=x0.2 (Y 9 Dz);replace hZ:=Nat.le_trans hZ F.size;replace U:=F.below U U.size (by simp<;>omega);clear D F V Y x0 T s14 s15 s61;refine J8 (J8 (Xk ?_));refine Xj [91,40] [some (Vi ((k:Int)+1)),some (Vi ((k:Int)+1))] (Yc 2) [91,40] [] (λ L aa K=>(L 1=false->aa.tmps[40]?.getD undef=Vi (k:Int))) ?_ (e2 ?_ ?_ .nil) ?_
    ·exact λ _ h=>(λ _=>s40)
    ·intro S J K H _ _ C;have x0:=H.x;exact Z2 rfl (ev (x0 (H.t 1 rfl))) rfl Oz (C _ _ H.k rfl (λ h=>(Xg Dz _).trans (x0 h)))
    ·intro S J K H _ _ C;have x0:=H.x;exact XR rfl (ev (H.d 0 rfl rfl)) (C _ _ H.k rfl (λ h=>by simp [ZV] at h))
    intro L a36 w37 Y D F V X;have x0:=X;replace hz:=D.Z hz;replace O:=D.E O;obtain ⟨s3,s6,s8,s9,s10,s11,s38,s39⟩:=D.G8 s3 s6 s8 s9 s10 s11 s38 s39;have s40:=gS a36 40 (V 1 _ rfl);replace b3:=b3.k0 F;replace b6:=b6.k0 F;replace b14:=b14.k0 F;replace hZ:=Nat.le_trans hZ F.size;replace U:=F.below0 U;clear D F V Y x0;refine Xk ?_;refine ⟨?_, ?_⟩
    ·exact ⟨hz,O,(k+1),(⟨⟨v.low.n,v.low.d⟩,⟨(Ye v.high (XD T0 ((Yz r s)*N0))).n,(Ye v.high (XD T0 ((Yz r s)*N0))).d⟩⟩),Oz,(adm_next hkl hv h9),s3,s6,s8,s9,s10,s11,s38,s39,s40,b3,b6,b14,U,Oz⟩
    ·show (e.length-(intOf (a36.tmps[40]?.getD undef)).toNat)<_;rw [s40,hmu];simp only [intOf];omega
   ·refine wp_cond_false (ev (vb s61 q33)) ?_;refine wp_seq ?_;refine Xj [74,75,73] [some (Vi N0),some (Bv (decide (N0<0))),some (Bv (decide (N0<0)))] (Yc 3) [74,75,73] [] (λ _ _ _=>True) ?_ (e2 ?_ ?_ (en rfl ?_ .nil)) ?_
    ·exact λ _ _=>trivial
    ·exact Z1 s15 rfl rfl rfl
    ·exact λ S J K H _ _ C=>Yl rfl (ev (H.d 0 rfl rfl)) rfl rfl rfl (C _ _ H.k rfl trivial)
    ·exact KE 1 rfl rfl rfl rfl
    intro L a38 w39 Y D F V X;replace hz:=D.Z hz;replace O:=D.E O;obtain ⟨s3,s6,s8,s9,s10,s11,s38,s39⟩:=D.G8 s3 s6 s8 s9 s10 s11 s38 s39;obtain ⟨s40,s14,s15⟩:=D.G3 s40 s14 s15;have s73:=gS a38 73 (V 2 _ rfl);replace b3:=b3.k0 F;replace b6:=b6.k0 F;replace b14:=b14.k0 F;replace hZ:=Nat.le_trans hZ F.size;replace U:=F.below0 U;clear D F V Y X s61;refine Xk ?_;rcases Bool.eq_false_or_eq_true (decide (N0<0)) with q40|q40
    ·have hn:Ze r (e.getD k Xa)<0:=by have:=KZ q40;omega
     obtain ⟨ht,hdn⟩:=adm_low P M hn;have h9:=step_lo (s:=s) (v:=v) hn;rw [hT0] at ht h9;rw [hN0] at hdn h9;refine wp_cond_true (ev (vb s73 q40)) ?_;have T:Xf [] (λ L aa K=>X6 K g14 48 [Vi v.low.n,Vi v.low.d,Vi v.high.n,Vi v.high.d] (L 11) (λ _ vs=>vs=[Vi ((Yf v.low (XD (-T0) ((-(Yz r s))*N0))).n),Vi ((Yf v.low (XD (-T0) ((-(Yz r s))*N0))).d),Vi v.high.n,Vi v.high.d])):=by
      intro L aa K w' kk vv hkk hb X;have x0:=X;exact (x0.bel hb (λ _ h=>h))
     refine Xr T [76,77,78,79,80,81,82,83,84,85,86,0] [some (Pz g14),some (.agg #[Vi v.low.n,Vi v.low.d]),some (Vi T0),some (Vi (-T0)),some (Vi (Yz r s)),some (Vi (-(Yz r s))),some (Vi N0),some (Vi ((-(Yz r s))*N0)),some (Xv (XD (-T0) ((-(Yz r s))*N0))),some (Xv (Yf v.low (XD (-T0) ((-(Yz r s))*N0)))),some (Pz g14),none] ([[],[0],[],[2],[],[4],[],[4,5,6],[2,3,4,5,6,7],[0,1,2,3,4,5,6,7,8],[0,1,2,3,4,5,6,7,8,9],[0,1,2,3,4,5,6,7,8,9,10]]) [76,77,78,79,80,81,82,83,84,85,86] [g14] ?_ (e4 ?_ ?_ ?_ ?_ (e4 ?_ ?_ ?_ ?_ (e4 ?_ ?_ ?_ ?_ .nil))) ?_
     ·exact λ _ h=>(⟨λ _=>b14.kp h Sz,Cz⟩)
     ·intro S J K H _ _ C;simp [go_sem,H.f.g rfl s8];exact (C _ _ H.k rfl H.x)
     ·intro S J K H _ _ C;have x0:=H.x;have hb0:=x0.1 (H.t 11 rfl);simp [go_sem,(gS J 76 (H.d 0 rfl rfl)),hb0.cell];exact (C _ _ H.k rfl H.x)
     ·exact ZK s14 rfl rfl rfl λ _ _ _ _ h=>h
     ·exact λ S J K H _ _ C=>Ja rfl (ev (H.d 2 rfl rfl)) Oz (C _ _ H.k rfl H.x)
     ·exact ZK s11 rfl rfl rfl λ _ _ _ _ h=>h
     ·exact λ S J K H _ _ C=>Ja rfl (ev (H.d 4 rfl rfl)) Oz (C _ _ H.k rfl H.x)
     ·exact ZK s15 rfl rfl rfl λ _ _ _ _ h=>h
     ·exact λ S J K H _ _ C=>YV rfl (ev (H.d 5 rfl rfl)) (ev (H.d 6 rfl rfl)) Oz (C _ _ H.k rfl H.x)
     ·intro S J K H _ _ C;simp [go_sem,(gS J 79 (H.d 3 rfl rfl)),(gS J 83 (H.d 7 rfl rfl))];refine (iRatioOf_c (-T0) ((-(Yz r s))*N0) K ⟨Oz,Oz⟩ ⟨Oz,Oz⟩).mono ?_;rintro x wx ⟨rfl,hb⟩;exact (C _ _ (H.k.call hb) rfl (T S J K _ none undef Sz hb H.x))
     ·intro S J K H _ _ C;simp [go_sem,(gS J 77 (H.d 1 rfl rfl)),(gS J 84 (H.d 8 rfl rfl))];refine (iRatioMax_c v.low (XD (-T0) ((-(Yz r s))*N0)) K hvi.1 (Kg (YP ht hdn).1)).mono ?_;rintro x wx ⟨rfl,hb⟩;exact (C _ _ (H.k.call hb) rfl (T S J K _ none undef Sz hb H.x))
     ·intro S J K H _ _ C;simp [go_sem,H.f.g rfl s8];exact (C _ _ H.k rfl H.x)
     ·intro S J K H _ _ C;have x0:=H.x;have HT:=x0.1 H.n;simp [go_sem,(gS J 86 (H.d 10 rfl rfl)),(gS J 85 (H.d 9 rfl rfl)),HT.cell,HT.frz];exact C undef _ (H.k.store (.inr Sz) [Vi ((Yf v.low (XD (-T0) ((-(Yz r s))*N0))).n),Vi ((Yf v.low (XD (-T0) ((-(Yz r s))*N0))).d)] 0) trivial (⟨(λ q=>by cases q),λ _=>⟨_,((HT.set_ 0 _).set_ 1 _),rfl⟩⟩)
     intro L a41 w42 Y D F V X;have x0:=X;replace hz:=D.Z hz;replace O:=D.E O;obtain ⟨s3,s6,s8,s9,s10,s11,s38,s39⟩:=D.G8 s3 s6 s8 s9 s10 s11 s38 s39;replace s40:=D.G s40;replace b3:=b3.kp F (by simp<;>omega);replace b6:=b6.kp F (by simp<;>omega);clear b14;obtain ⟨_,b14,rfl⟩:=x0.2 (Y 11 Dz);replace hZ:=Nat.le_trans hZ F.size;replace U:=F.below U U.size (by simp<;>omega);clear D F V Y x0 T s14 s15 s73;refine J8 (J8 (Xk ?_));refine Xj [91,40] [some (Vi ((k:Int)+1)),some (Vi ((k:Int)+1))] (Yc 2) [91,40] [] (λ L aa K=>(L 1=false->aa.tmps[40]?.getD undef=Vi (k:Int))) ?_ (e2 ?_ ?_ .nil) ?_
     ·exact λ _ h=>(λ _=>s40)
     ·intro S J K H _ _ C;have x0:=H.x;exact Z2 rfl (ev (x0 (H.t 1 rfl))) rfl Oz (C _ _ H.k rfl (λ h=>(Xg Dz _).trans (x0 h)))
     ·intro S J K H _ _ C;have x0:=H.x;exact XR rfl (ev (H.d 0 rfl rfl)) (C _ _ H.k rfl (λ h=>by simp [ZV] at h))
     intro L a43 w44 Y D F V X;have x0:=X;replace hz:=D.Z hz;replace O:=D.E O;obtain ⟨s3,s6,s8,s9,s10,s11,s38,s39⟩:=D.G8 s3 s6 s8 s9 s10 s11 s38 s39;have s40:=gS a43 40 (V 1 _ rfl);replace b3:=b3.k0 F;replace b6:=b6.k0 F;replace b14:=b14.k0 F;replace hZ:=Nat.le_trans hZ F.size;replace U:=F.below0 U;clear D F V Y x0;refine Xk ?_;refine ⟨?_, ?_⟩
     ·exact ⟨hz,O,(k+1),(⟨⟨(Yf v.low (XD (-T0) ((-(Yz r s))*N0))).n,(Yf v.low (XD (-T0) ((-(Yz r s))*N0))).d⟩,⟨v.high.n,v.high.d⟩⟩),Oz,(adm_next hkl hv h9),s3,s6,s8,s9,s10,s11,s38,s39,s40,b3,b6,b14,U,Oz⟩
     ·show (e.length-(intOf (a43.tmps[40]?.getD undef)).toNat)<_;rw [s40,hmu];simp only [intOf];omega
    ·refine wp_cond_false (ev (vb s73 q40)) ?_;refine wp_seq ?_;refine Xj [88,89,87] [some (Vi T0),some (Bv (decide (T0<0))),some (Bv (decide (T0<0)))] (Yc 3) [88,89,87] [] (λ _ _ _=>True) ?_ (e2 ?_ ?_ (en rfl ?_ .nil)) ?_
     ·exact λ _ _=>trivial
     ·exact Z1 s14 rfl rfl rfl
     ·exact λ S J K H _ _ C=>Yl rfl (ev (H.d 0 rfl rfl)) rfl rfl rfl (C _ _ H.k rfl trivial)
     ·exact KE 1 rfl rfl rfl rfl
     intro L a45 w46 Y D F V X;replace hz:=D.Z hz;replace O:=D.E O;obtain ⟨s3,s6,s8,s9,s10,s11,s38,s39⟩:=D.G8 s3 s6 s8 s9 s10 s11 s38 s39;replace s40:=D.G s40;have s87:=gS a45 87 (V 2 _ rfl);replace b3:=b3.k0 F;replace b6:=b6.k0 F;replace b14:=b14.k0 F;replace hZ:=Nat.le_trans hZ F.size;replace U:=F.below0 U;clear D F V Y X s14 s15 s73;refine Xk ?_;rcases Bool.eq_false_or_eq_true (decide (T0<0)) with q47|q47
     ·have h9:=step_out (r:=r) (s:=s) (v:=v) (h:=(e.getD k Xa)) (by have:=YT q33;have:=YT q40;omega) (by have:=KZ q47;omega);refine wp_cond_true (ev (vb s87 q47)) ?_;refine wp_seq ?_;have T:Xf [] (λ L aa K=>X6 K (w.heap.size+3) 48 [V0,V0,V0,V0] (L 1) (λ _ vs=>vs=[V0,V0,V0,V0])):=by
       intro L aa K w' kk vv hkk hb X;have x0:=X;exact (x0.bel hb (λ _ h=>h))
      refine Xr T [90,0,7] [some (.agg #[V0,V0,V0,V0]),none,some Bf] (Yc 3) [90,7] [(w.heap.size+3)] ?_ (e2 ?_ ?_ (en rfl ?_ .nil)) ?_
      ·exact λ _ h=>(⟨λ _=>b6.kp h Sz,Cz⟩)
      ·intro S J K H _ _ C;simp [go_sem];exact (C _ _ H.k rfl H.x)
      ·intro S J K H _ _ C;have x0:=H.x;have HT:=x0.1 H.n;simp [go_sem,(gS J 90 (H.d 0 rfl rfl)),H.f.g rfl s6,HT.cell,HT.frz];exact C undef _ (H.k.store (.inr Sz) [V0,V0,V0,V0] 0) trivial (X6.set HT (us:=[V0,V0,V0,V0]) rfl rfl)
      ·exact KQ rfl rfl λ _ _ _ _ h=>h
      intro L a48 w49 Y D F V X;have x0:=X;replace hz:=D.Z hz;replace O:=D.E O;replace s6:=D.G s6;have s7:=gS a48 7 (V 2 _ rfl);clear b6;obtain ⟨_,b6,rfl⟩:=x0.2 (Y 1 Dz);replace hZ:=Nat.le_trans hZ F.size;replace U:=F.below U U.size (by simp<;>omega);clear D F V Y x0 T s3 s8 s9 s10 s11 s38 s39 s40 s87 b3 b14;refine Xk (wp_ret ?_);refine Jj (Jj (Y6 (Y6 (Jj (Y6 ?_)))));refine bodyPost_ret (v:=.tuple #[.agg #[V0,V0,V0,V0],Bf]) (by simp [results,Tryz.results48,go_sem,s6,b6.cell,s7]) O ?_;exact ⟨by rw [adm_bad hd (adm_stop hkl hv h9)];rfl,U⟩
     ·have h9:=step_eq (r:=r) (s:=s) (v:=v) (h:=(e.getD k Xa)) (by have:=YT q33;have:=YT q40;omega) (by have:=YT q47;omega);refine wp_cond_false (ev (vb s87 q47)) ?_;refine wp_skip ?_;refine J8 (J8 (Xk ?_));refine Xj [91,40] [some (Vi ((k:Int)+1)),some (Vi ((k:Int)+1))] (Yc 2) [91,40] [] (λ L aa K=>(L 1=false->aa.tmps[40]?.getD undef=Vi (k:Int))) ?_ (e2 ?_ ?_ .nil) ?_
      ·exact λ _ h=>(λ _=>s40)
      ·intro S J K H _ _ C;have x0:=H.x;exact Z2 rfl (ev (x0 (H.t 1 rfl))) rfl Oz (C _ _ H.k rfl (λ h=>(Xg Dz _).trans (x0 h)))
      ·intro S J K H _ _ C;have x0:=H.x;exact XR rfl (ev (H.d 0 rfl rfl)) (C _ _ H.k rfl (λ h=>by simp [ZV] at h))
      intro L a50 w51 Y D F V X;have x0:=X;replace hz:=D.Z hz;replace O:=D.E O;obtain ⟨s3,s6,s8,s9,s10,s11,s38,s39⟩:=D.G8 s3 s6 s8 s9 s10 s11 s38 s39;have s40:=gS a50 40 (V 1 _ rfl);replace b3:=b3.k0 F;replace b6:=b6.k0 F;replace b14:=b14.k0 F;replace hZ:=Nat.le_trans hZ F.size;replace U:=F.below0 U;clear D F V Y x0 s87;refine Xk ?_;refine ⟨?_, ?_⟩
      ·exact ⟨hz,O,(k+1),(v),Oz,(adm_next hkl hv h9),s3,s6,s8,s9,s10,s11,s38,s39,s40,b3,b6,b14,U,Oz⟩
      ·show (e.length-(intOf (a50.tmps[40]?.getD undef)).toNat)<_;rw [s40,hmu];simp only [intOf];omega
  ·have ek:k=e.length:=by have:=YT q23;omega
   have hvo:=admL_ok B M he k hk v hv;have hvi:v.In:=⟨Kg hvo.1,Kg hvo.2⟩;rw [ek,List.take_length] at hv;refine wp_cond_false (ev (vb s41 q23)) ?_;refine wp_exit ?_;refine th_e (th_e (ib_x (Xk (wp_seq (wp_seq ?_)))));refine Xj [92,93,94] [some (Z8 v),some (Bv (XQ v)),some (Bv (!(XQ v)))] (Yc 3) [92,93,94] [] (λ _ _ _=>True) ?_ (e2 ?_ ?_ (en rfl ?_ .nil)) ?_
   ·exact λ _ _=>trivial
   ·intro S J K H _ _ C;simp [go_sem,H.f.g rfl s8,(b14.k0 H.k).cell];exact (C _ _ H.k rfl trivial)
   ·intro S J K H _ _ C;simp [go_sem,(gS J 92 (H.d 0 rfl rfl))];refine (iSpanOk_c v K hvi).mono ?_;rintro x wx ⟨rfl,hb⟩;exact (C _ _ (H.k.call hb) rfl trivial)
   ·exact Jc 1 rfl rfl rfl rfl
   intro L a52 w53 Y D F V X;replace hz:=D.Z hz;replace O:=D.E O;obtain ⟨s6,s8⟩:=D.G2 s6 s8;have s94:=gS a52 94 (V 2 _ rfl);replace b6:=b6.k0 F;replace b14:=b14.k0 F;replace hZ:=Nat.le_trans hZ F.size;replace U:=F.below0 U;clear D F V Y X s3 s9 s10 s11 s38 s39 s40 s41 b3;refine Xk ?_;rcases Bool.eq_false_or_eq_true (!(XQ v)) with q54|q54
   ·refine wp_cond_true (ev (vb s94 q54)) ?_;refine wp_seq ?_;have T:Xf [] (λ L aa K=>X6 K (w.heap.size+3) 48 [V0,V0,V0,V0] (L 1) (λ _ vs=>vs=[V0,V0,V0,V0])):=by
     intro L aa K w' kk vv hkk hb X;have x0:=X;exact (x0.bel hb (λ _ h=>h))
    refine Xr T [95,0,7] [some (.agg #[V0,V0,V0,V0]),none,some Bf] (Yc 3) [95,7] [(w.heap.size+3)] ?_ (e2 ?_ ?_ (en rfl ?_ .nil)) ?_
    ·exact λ _ h=>(⟨λ _=>b6.kp h Sz,Cz⟩)
    ·intro S J K H _ _ C;simp [go_sem];exact (C _ _ H.k rfl H.x)
    ·intro S J K H _ _ C;have x0:=H.x;have HT:=x0.1 H.n;simp [go_sem,(gS J 95 (H.d 0 rfl rfl)),H.f.g rfl s6,HT.cell,HT.frz];exact C undef _ (H.k.store (.inr Sz) [V0,V0,V0,V0] 0) trivial (X6.set HT (us:=[V0,V0,V0,V0]) rfl rfl)
    ·exact KQ rfl rfl λ _ _ _ _ h=>h
    intro L a55 w56 Y D F V X;have x0:=X;replace hz:=D.Z hz;replace O:=D.E O;replace s6:=D.G s6;have s7:=gS a55 7 (V 2 _ rfl);clear b6;obtain ⟨_,b6,rfl⟩:=x0.2 (Y 1 Dz);replace hZ:=Nat.le_trans hZ F.size;replace U:=F.below U U.size (by simp<;>omega);clear D F V Y x0 T s8 s94 b14;refine Xk (wp_ret (Y6 ?_));refine bodyPost_ret (v:=.tuple #[.agg #[V0,V0,V0,V0],Bf]) (by simp [results,Tryz.results48,go_sem,s6,b6.cell,s7]) O ?_;exact ⟨by rw [adm_bad2 hd hv (Jw q54)];rfl,U⟩
   ·refine wp_cond_false (ev (vb s94 q54)) ?_;refine wp_skip (Xk (wp_seq ?_));have T:Xf [] (λ L aa K=>X6 K (w.heap.size+3) 48 [V0,V0,V0,V0] (L 1) (λ _ vs=>vs=[Vi v.low.n,Vi v.low.d,Vi v.high.n,Vi v.high.d])):=by
     intro L aa K w' kk vv hkk hb X;have x0:=X;exact (x0.bel hb (λ _ h=>h))
    refine Xr T [96,0,7] [some (Z8 v),none,some Bt] (Yc 3) [96,7] [(w.heap.size+3)] ?_ (e2 ?_ ?_ (en rfl ?_ .nil)) ?_
    ·exact λ _ h=>(⟨λ _=>b6.kp h Sz,Cz⟩)
    ·intro S J K H _ _ C;simp [go_sem,H.f.g rfl s8,(b14.kp H.k (by simp<;>omega)).cell];exact (C _ _ H.k rfl H.x)
    ·intro S J K H _ _ C;have x0:=H.x;have HT:=x0.1 H.n;simp [go_sem,(gS J 96 (H.d 0 rfl rfl)),H.f.g rfl s6,HT.cell,HT.frz];exact C undef _ (H.k.store (.inr Sz) [Vi v.low.n,Vi v.low.d,Vi v.high.n,Vi v.high.d] 0) trivial (X6.set HT (us:=[Vi v.low.n,Vi v.low.d,Vi v.high.n,Vi v.high.d]) rfl rfl)
    ·exact KQ rfl rfl λ _ _ _ _ h=>h
    intro L a57 w58 Y D F V X;have x0:=X;replace hz:=D.Z hz;replace O:=D.E O;replace s6:=D.G s6;have s7:=gS a57 7 (V 2 _ rfl);clear b6;obtain ⟨_,b6,rfl⟩:=x0.2 (Y 1 Dz);replace hZ:=Nat.le_trans hZ F.size;replace U:=F.below U U.size (by simp<;>omega);clear D F V Y x0 T s8 s94 b14;refine Xk (wp_ret ?_);refine bodyPost_ret (v:=.tuple #[Z8 v,Bt]) (by simp [results,Tryz.results48,go_sem,s6,b6.cell,s7]) O ?_;exact ⟨by rw [adm_good hd hv (Yu q54)];rfl,U⟩
theorem sAdmit_c (r:XU) (e:List Half) (s:X9) (ra:Yn) (b:Zi) (w:World) (hr:XM r=true) (he:∀ h∈e,Xt h=true) (hle:e.length<=40) (hs:X7 s=true) (hd:¬ 100000<s.d) (hsR:Ym w r ra) (hsE:Sl 3 Xd w b.A e) :
 Calls Tryz.prog 154 #[Ya r ra,.agg #[Sv b.A e.length b.c],YK s] w λ x w'=>x=.returned (optSpanV (YL r e s))/\Below w.heap.size w w':=by
 have B:=roomB hr;obtain ⟨⟨lo1,lo2⟩,⟨hi1,hi2⟩⟩:(-1000<=r.low/\r.low<=1000)/\(-1000<=r.high/\r.high<=1000):=⟨B.low,by have:=B.low;have:=B.high;omega,B.high.2⟩;have M:=mapB B hs Oz;have hMd:=M.d;refine YN Tryz.func154 rfl (n:=82) Tryz.ntmps154 Sz ?_;intro a0 hz O ha;have s0:a0.tmps[0]?.getD undef=Ya r ra:=ha 0 _ rfl;have s1:a0.tmps[1]?.getD undef=.agg #[Sv b.A e.length b.c]:=ha 1 _ rfl;have s2:a0.tmps[2]?.getD undef=YK s:=ha 2 _ rfl;clear ha;have U:=Below.refl w.heap.size w;have hZ:=Nat.le_refl w.heap.size;refine wp_seq ?_;refine Yt [3,4,5,6,7] [Pz w.heap.size,Pz (w.heap.size+1),Pz (w.heap.size+2),Pz (w.heap.size+3),Bf] [some (.cells (Jv r ra).toArray 28),some (.cells [Sv b.A e.length b.c].toArray 26),some (.cells [Vi s.x,Vi s.y,Vi s.d].toArray 30),some (.cells [V0,V0,V0,V0].toArray 48),none] [0,1,2,3,4] [3,4,5,6,7] [0,1,2,3,4] (by kernel_rfl) (by rw [hz];decide) (ec ?_ (ec ?_ (ec ?_ (ec ?_ (ec ?_ .nil))))) ?_
 ·intro a w' D hs N Q C;simp [go_sem,D.g rfl s0];rw [hs];exact C
 ·intro a w' D hs N Q C;simp [go_sem,D.g rfl s1];rw [hs];exact C
 ·intro a w' D hs N Q C;simp [go_sem,D.g rfl s2];rw [hs];exact C
 ·intro a w' D hs N Q C;simp [go_sem];rw [hs];exact C
 ·intro a w' D hs N Q C;simp [go_sem];exact C
 intro a1 w2 D V hb hO;replace hz:=D.size.trans hz;replace O:=D.defers.trans O;have s3:a1.tmps[3]?.getD undef=Pz w.heap.size:=V 0 Dz;have s4:a1.tmps[4]?.getD undef=Pz (w.heap.size+1):=V 1 Dz;have s5:a1.tmps[5]?.getD undef=Pz (w.heap.size+2):=V 2 Dz;have s6:a1.tmps[6]?.getD undef=Pz (w.heap.size+3):=V 3 Dz;have b3:Xz w2 w.heap.size 28 (Jv r ra):=hO 0 _ rfl;have b4:Xz w2 (w.heap.size+1) 26 [Sv b.A e.length b.c]:=hO 1 _ rfl;have b5:Xz w2 (w.heap.size+2) 30 [Vi s.x,Vi s.y,Vi s.d]:=hO 2 _ rfl;have b6:Xz w2 (w.heap.size+3) 48 [V0,V0,V0,V0]:=hO 3 _ rfl;have hG:=b6.lt;replace U:=Xe U hb;have zw2:=Nat.le_trans hZ hb.size;replace hZ:=Nat.le_refl w2.heap.size;clear D V hb hO s0 s1 s2;refine Xk (wp_seq ?_);have T:Xf [8] (λ L aa K=>(L 7=true->Yg w2 aa K 8 48 [V0,V0,V0,V0] (L 8) (λ _ vs=>vs=[Vi r.low,Vi 1,Vi r.high,Vi 1]))):=by
  intro L aa K w' kk vv hkk hb X;have x0:=X;exact (λ h=>((x0 h).bel hb (λ _ h=>h)).put (hkk 8 Sz) _)
 refine Xr T [14,15,16,17,18,19,20,8,0] [some (.pointer (some ⟨w.heap.size,4,none⟩)),some (Vi r.low),some (.agg #[Vi r.low,Vi 1]),some (.pointer (some ⟨w.heap.size,5,none⟩)),some (Vi r.high),some (.agg #[Vi r.high,Vi 1]),some (.agg #[Vi r.low,Vi 1,Vi r.high,Vi 1]),none,none] ([[],[0],[0,1],[],[3],[0,1,2,3,4],[0,1,2,3,4,5],[],[0,1,2,3,4,5,6,7]]) [14,15,16,17,18,19,20,8] [] ?_ (e4 ?_ ?_ ?_ ?_ (e4 ?_ ?_ ?_ ?_ (en rfl ?_ .nil))) ?_
 ·exact λ _ h=>Cz
 ·intro S J K H _ _ C;simp [go_sem,H.f.g rfl s3];exact (C _ _ H.k rfl (T.q rfl H.x))
 ·intro S J K H _ _ C;simp [go_sem,(gS J 14 (H.d 0 rfl rfl)),(b3.k0 H.k).cell];exact (C _ _ H.k rfl (T.q rfl H.x))
 ·intro S J K H _ _ C;simp [go_sem,(gS J 15 (H.d 1 rfl rfl))];refine (sOne_c r.low K ⟨Oz,Oz⟩).mono ?_;rintro x wx ⟨rfl,hb⟩;exact (C _ _ (H.k.call hb) rfl (T.b rfl hb H.x))
 ·intro S J K H _ _ C;simp [go_sem,H.f.g rfl s3];exact (C _ _ H.k rfl (T.q rfl H.x))
 ·intro S J K H _ _ C;simp [go_sem,(gS J 17 (H.d 3 rfl rfl)),(b3.k0 H.k).cell];exact (C _ _ H.k rfl (T.q rfl H.x))
 ·intro S J K H _ _ C;simp [go_sem,(gS J 18 (H.d 4 rfl rfl))];refine (sOne_c r.high K ⟨Oz,Oz⟩).mono ?_;rintro x wx ⟨rfl,hb⟩;exact (C _ _ (H.k.call hb) rfl (T.b rfl hb H.x))
 ·intro S J K H _ _ C;simp [go_sem,(gS J 16 (H.d 2 rfl rfl)),(gS J 19 (H.d 5 rfl rfl))];exact (C _ _ H.k rfl (T.q rfl H.x))
 ·intro S J K H _ _ C;have x0:=H.x;simp [go_sem];exact C _ _ (H.k.alloc _) trivial (λ _=>by rw [show ZV S 7 8=false from H.t 8 rfl];exact Yg.new (s:=8) (H.f.lt (by rw [hz];decide)) H.k.size [V0,V0,V0,V0])
 ·intro S J K H _ _ C;have x0:=H.x;obtain ⟨g,eg,hg,y,_⟩:=x0 (H.r 7 rfl);have HT:=y H.n;simp [go_sem,(gS J 20 (H.d 6 rfl rfl)),eg,HT.cell,HT.frz];exact C undef _ (H.k.store (.inl hg) [Vi r.low,Vi 1,Vi r.high,Vi 1] 0) trivial (λ _=>Yg.set eg hg HT (us:=[Vi r.low,Vi 1,Vi r.high,Vi 1]) rfl rfl)
 intro L a7 w8 Y D F V X;have x0:=X;replace hz:=D.Z hz;replace O:=D.E O;obtain ⟨s3,s4,s5,s6⟩:=D.G4 s3 s4 s5 s6;replace b3:=b3.k0 F;replace b4:=b4.k0 F;replace b5:=b5.k0 F;replace b6:=b6.k0 F;obtain ⟨g9,s8,lg9,-,b9⟩:=x0 (Y 7 Dz);obtain ⟨_,b9,rfl⟩:=b9 (Y 8 Dz);have ug9:=b9.lt;have zw8:=F.size;replace hZ:=Nat.le_refl w8.heap.size;replace U:=F.below0 U;clear D F V Y x0 T;refine Xk (wp_seq (wp_seq ?_));refine Xj [21,22,23,24] [some (Pz (w.heap.size+1)),some (Sv b.A e.length b.c),some (Vi (e.length:Int)),some V0] (Yc 4) [21,22,23,24] [] (λ _ _ _=>True) ?_ (e4 ?_ ?_ ?_ ?_ .nil) ?_
 ·exact λ _ _=>trivial
 ·intro S J K H _ _ C;simp [go_sem,H.f.g rfl s4];exact (C _ _ H.k rfl trivial)
 ·intro S J K H _ _ C;simp [go_sem,(gS J 21 (H.d 0 rfl rfl)),(b4.k0 H.k).cell];exact (C _ _ H.k rfl trivial)
 ·intro S J K H _ _ C;simp [go_sem,(gS J 22 (H.d 1 rfl rfl))];exact (C _ _ H.k rfl trivial)
 ·exact oMCT rfl rfl
 intro L a10 w11 Y D F V X;replace hz:=D.Z hz;replace O:=D.E O;obtain ⟨s3,s5,s6,s8⟩:=D.G4 s3 s5 s6 s8;have s22:=gS a10 22 (V 1 _ rfl);have s23:=gS a10 23 (V 2 _ rfl);have s24:=gS a10 24 (V 3 _ rfl);replace b3:=b3.k0 F;replace b5:=b5.k0 F;replace b6:=b6.k0 F;replace b9:=b9.k0 F;replace hZ:=Nat.le_trans hZ F.size;replace U:=F.below0 U;clear D F V Y X s4 b4;refine Xk (wp_block ?_);refine wp_loop (λ al wl=>al.tmps.size=82/\al.defers=[]/\∃ (k:Nat) (v:K4),(k<=e.length)/\(admL r s (e.take k)=some v)/\al.tmps[3]?.getD undef=Pz w.heap.size/\al.tmps[5]?.getD undef=Pz (w.heap.size+2)/\al.tmps[6]?.getD undef=Pz (w.heap.size+3)/\al.tmps[8]?.getD undef=Pz g9/\al.tmps[22]?.getD undef=Sv b.A e.length b.c/\al.tmps[23]?.getD undef=Vi (e.length:Int)/\al.tmps[24]?.getD undef=Vi (k:Int)/\Xz wl w.heap.size 28 (Jv r ra)/\Xz wl (w.heap.size+2) 30 [Vi s.x,Vi s.y,Vi s.d]/\Xz wl (w.heap.size+3) 48 [V0,V0,V0,V0]/\Xz wl g9 48 [Vi v.low.n,Vi v.low.d,Vi v.high.n,Vi v.high.d]/\Below w.heap.size w wl/\w8.heap.size<=wl.heap.size) (λ al _=>(e.length-(intOf (al.tmps[24]?.getD undef)).toNat)) ?_ ?_
 ·exact ⟨hz,O,(0),(⟨⟨r.low,1⟩,⟨r.high,1⟩⟩),(Nat.zero_le _),(rfl),s3,s5,s6,s8,s22,s23,s24,b3,b5,b6,b9,U,Oz⟩
 clear hz O U hZ s3 s5 s6 s8 s22 s23 s24 b3 b5 b6 b9;rintro a12 w13 ⟨hz,O,k,v,hk,hv,s3,s5,s6,s8,s22,s23,s24,b3,b5,b6,b9,U,hZ⟩;have zw13:=hZ;replace hZ:=Nat.le_refl w13.heap.size;have hmu:(e.length-(intOf (a12.tmps[24]?.getD undef)).toNat)=(e.length-(intOf ((Vi (k:Int)))).toNat):=by rw [s24]
 refine wp_seq ?_;refine Xj [25] [some (Bv (decide ((k:Int)<(e.length:Int))))] (Yc 1) [25] [] (λ _ _ _=>True) ?_ (en rfl ?_ .nil) ?_
 ·exact λ _ _=>trivial
 ·exact λ S J K H _ _ C=>Yl rfl (ev (H.f.g rfl s24)) (ev (H.f.g rfl s23)) rfl rfl (C _ _ H.k rfl trivial)
 intro L a14 w15 Y D F V X;replace hz:=D.Z hz;replace O:=D.E O;obtain ⟨s3,s5,s6,s8,s22,s23,s24⟩:=D.G7 s3 s5 s6 s8 s22 s23 s24;have s25:=gS a14 25 (V 0 _ rfl);replace b3:=b3.k0 F;replace b5:=b5.k0 F;replace b6:=b6.k0 F;replace b9:=b9.k0 F;replace hZ:=Nat.le_trans hZ F.size;replace U:=F.below0 U;clear D F V Y X;refine Xk (wp_seq ?_);rcases Bool.eq_false_or_eq_true (decide ((k:Int)<(e.length:Int))) with q16|q16
 ·have hkl:k<e.length:=by have:=KZ q16;omega
  have hvo:=admL_ok B M he k hk v hv;have hvi:v.In:=⟨Kg hvo.1,Kg hvo.2⟩;have P:=admP B M (he _ (Y2 hkl));obtain ⟨⟨pa1,pa2⟩,⟨pb1,pb2⟩,⟨pc1,pc2⟩,⟨px1,px2⟩,⟨py1,py2⟩,⟨pn1,pn2⟩⟩:=admP B M (he _ (Y2 hkl));obtain ⟨be,oe,ee_,fe⟩:=ElS.open_ (hsE.below U) Oz;refine wp_cond_true (ev (vb s25 q16)) ?_;refine wp_skip (Xk (wp_seq (wp_block (wp_seq ?_))));have T:Xf [10] (λ L aa K=>(L 2=true->Yg w15 aa K 10 136 [V0,V0,V0] (L 3) (λ _ vs=>vs=[Vi ((e.getD k Xa).a),Vi ((e.getD k Xa).b),Vi ((e.getD k Xa).c)]))):=by
   intro L aa K w' kk vv hkk hb X;have x0:=X;exact (λ h=>((x0 h).bel hb (λ _ h=>h)).put (hkk 10 Sz) _)
  refine Xr T [26,27,10,0] [some (.pointer (some ⟨be,oe+k*3,none⟩)),some (X3 (e.getD k Xa)),none,none] (Yc 4) [26,27,10] [] ?_ (e4 ?_ ?_ ?_ ?_ .nil) ?_
  ·exact λ _ h=>Cz
  ·intro S J K H _ _ C;simp [go_sem,H.f.g rfl s22,H.f.g rfl s24,hkl,ee_];exact (C _ _ H.k rfl (T.q rfl H.x))
  ·intro S J K H _ _ C;have hE:=fe.kp H.k Sz;simp [go_sem,(gS J 26 (H.d 0 rfl rfl)),(hE.at_ Xa (i:=k) Oz 0 (p:=oe+k*3) Oz rfl),(hE.at_ Xa (i:=k) Oz 1 (p:=oe+k*3+1) Oz rfl),(hE.at_ Xa (i:=k) Oz 2 (p:=oe+k*3+2) Oz rfl)];exact (C _ _ H.k rfl (T.q rfl H.x))
  ·intro S J K H _ _ C;have x0:=H.x;simp [go_sem];exact C _ _ (H.k.alloc _) trivial (λ _=>by rw [show ZV S 2 3=false from H.t 3 rfl];exact Yg.new (s:=10) (H.f.lt (by rw [hz];decide)) H.k.size [V0,V0,V0])
  ·intro S J K H _ _ C;have x0:=H.x;obtain ⟨g,eg,hg,y,_⟩:=x0 (H.r 2 rfl);have HT:=y H.n;simp [go_sem,(gS J 27 (H.d 1 rfl rfl)),eg,HT.cell,HT.frz];exact C undef _ (H.k.store (.inl hg) [Vi ((e.getD k Xa).a),Vi ((e.getD k Xa).b),Vi ((e.getD k Xa).c)] 0) trivial (λ _=>Yg.set eg hg HT (us:=[Vi ((e.getD k Xa).a),Vi ((e.getD k Xa).b),Vi ((e.getD k Xa).c)]) rfl rfl)
  intro L a17 w18 Y D F V X;have x0:=X;replace hz:=D.Z hz;replace O:=D.E O;obtain ⟨s3,s5,s6,s8,s22,s23,s24⟩:=D.G7 s3 s5 s6 s8 s22 s23 s24;replace b3:=b3.k0 F;replace b5:=b5.k0 F;replace b6:=b6.k0 F;replace b9:=b9.k0 F;obtain ⟨g19,s10,lg19,-,b19⟩:=x0 (Y 2 Dz);obtain ⟨_,b19,rfl⟩:=b19 (Y 3 Dz);have ug19:=b19.lt;have zw15:=hZ;have zw18:=F.size;replace hZ:=Nat.le_refl w18.heap.size;replace U:=F.below0 U;clear D F V Y x0 T s25 fe;refine Xk (wp_seq ?_);refine Xj [29,30,31,32,28,33,34,11,12] [some (Ya r ra),some (X3 (e.getD k Xa)),some (YK s),some (.tuple #[Vi (JT r s (e.getD k Xa)),Vi (Yz r s)]),some (.tuple #[Vi (JT r s (e.getD k Xa)),Vi (Yz r s)]),some (Vi (JT r s (e.getD k Xa))),some (Vi (Yz r s)),some (Vi (JT r s (e.getD k Xa))),some (Vi (Yz r s))] (Yc 9) [29,30,31,32,28,33,34,11,12] [] (λ _ _ _=>True) ?_ (e4 ?_ ?_ ?_ ?_ (e4 ?_ ?_ ?_ ?_ (en rfl ?_ .nil))) ?_
  ·exact λ _ _=>trivial
  ·intro S J K H _ _ C;simp [go_sem,H.f.g rfl s3,(b3.k0 H.k).cell];exact (C _ _ H.k rfl trivial)
  ·intro S J K H _ _ C;simp [go_sem,H.f.g rfl s10,(b19.k0 H.k).cell];exact (C _ _ H.k rfl trivial)
  ·intro S J K H _ _ C;simp [go_sem,H.f.g rfl s5,(b5.k0 H.k).cell];exact (C _ _ H.k rfl trivial)
  ·intro S J K H _ _ C;simp [go_sem,(gS J 29 (H.d 0 rfl rfl)),(gS J 30 (H.d 1 rfl rfl)),(gS J 31 (H.d 2 rfl rfl))];have hBi:=H.k.below0 U;refine (l11Top_c r ra (e.getD k Xa) s K B M P (hsR.below hBi).map).mono ?_;rintro x wx ⟨rfl,hb⟩;exact (C _ _ (H.k.call hb) rfl trivial)
  ·exact Ks 3 rfl rfl rfl rfl
  ·exact oEDT 4 rfl rfl rfl rfl rfl
  ·exact oEDT 4 rfl rfl rfl rfl rfl
  ·exact KE 5 rfl rfl rfl rfl
  ·exact KE 6 rfl rfl rfl rfl
  intro L a20 w21 Y D F V X;replace hz:=D.Z hz;replace O:=D.E O;obtain ⟨s3,s5,s6,s8,s22,s23,s24,s10⟩:=D.G8 s3 s5 s6 s8 s22 s23 s24 s10;have s11:=gS a20 11 (V 7 _ rfl);have s12:=gS a20 12 (V 8 _ rfl);replace b3:=b3.k0 F;replace b5:=b5.k0 F;replace b6:=b6.k0 F;replace b9:=b9.k0 F;replace b19:=b19.k0 F;replace hZ:=Nat.le_trans hZ F.size;replace U:=F.below0 U;clear D F V Y X;obtain ⟨T0,eT0⟩:∃ z:Int,z=JT r s (e.getD k Xa):=⟨_,rfl⟩;rw [<- eT0] at s11;have hT0:JT r s (e.getD k Xa)=T0:=eT0.symm;have hTb : -1000000000000000<=T0/\T0<=1000000000000000:=by rw [<- hT0];unfold JT;omega
  refine Xk (wp_seq ?_);refine Xj [35,36,37,38,39,40,41,42,43,44,45,13] [some (Pz g19),some (Vi ((e.getD k Xa).a)),some (.pointer (some ⟨w.heap.size,2,none⟩)),some (Vi r.bx),some (Vi (((e.getD k Xa).a)*r.bx)),some (.pointer (some ⟨g19,1,none⟩)),some (Vi ((e.getD k Xa).b)),some (.pointer (some ⟨w.heap.size,3,none⟩)),some (Vi r.by_),some (Vi (((e.getD k Xa).b)*r.by_)),some (Vi ((((e.getD k Xa).a)*r.bx)+(((e.getD k Xa).b)*r.by_))),some (Vi ((((e.getD k Xa).a)*r.bx)+(((e.getD k Xa).b)*r.by_)))] (Yc 12) [35,36,37,38,39,40,41,42,43,44,45,13] [] (λ _ _ _=>True) ?_ (e4 ?_ ?_ ?_ ?_ (e4 ?_ ?_ ?_ ?_ (e4 ?_ ?_ ?_ ?_ .nil))) ?_
  ·exact λ _ _=>trivial
  ·intro S J K H _ _ C;simp [go_sem,H.f.g rfl s10];exact (C _ _ H.k rfl trivial)
  ·intro S J K H _ _ C;simp [go_sem,(gS J 35 (H.d 0 rfl rfl)),(b19.k0 H.k).cell];exact (C _ _ H.k rfl trivial)
  ·intro S J K H _ _ C;simp [go_sem,H.f.g rfl s3];exact (C _ _ H.k rfl trivial)
  ·intro S J K H _ _ C;simp [go_sem,(gS J 37 (H.d 2 rfl rfl)),(b3.k0 H.k).cell];exact (C _ _ H.k rfl trivial)
  ·exact λ S J K H _ _ C=>YV rfl (ev (H.d 1 rfl rfl)) (ev (H.d 3 rfl rfl)) Oz (C _ _ H.k rfl trivial)
  ·intro S J K H _ _ C;simp [go_sem,H.f.g rfl s10];exact (C _ _ H.k rfl trivial)
  ·intro S J K H _ _ C;simp [go_sem,(gS J 40 (H.d 5 rfl rfl)),(b19.k0 H.k).cell];exact (C _ _ H.k rfl trivial)
  ·intro S J K H _ _ C;simp [go_sem,H.f.g rfl s3];exact (C _ _ H.k rfl trivial)
  ·intro S J K H _ _ C;simp [go_sem,(gS J 42 (H.d 7 rfl rfl)),(b3.k0 H.k).cell];exact (C _ _ H.k rfl trivial)
  ·exact λ S J K H _ _ C=>YV rfl (ev (H.d 6 rfl rfl)) (ev (H.d 8 rfl rfl)) Oz (C _ _ H.k rfl trivial)
  ·exact λ S J K H _ _ C=>Z2 rfl (ev (H.d 4 rfl rfl)) (ev (H.d 9 rfl rfl)) Oz (C _ _ H.k rfl trivial)
  ·exact KE 10 rfl rfl rfl rfl
  intro L a22 w23 Y D F V X;replace hz:=D.Z hz;replace O:=D.E O;obtain ⟨s3,s5,s6,s8,s22,s23,s24,s11⟩:=D.G8 s3 s5 s6 s8 s22 s23 s24 s11;replace s12:=D.G s12;have s13:=gS a22 13 (V 11 _ rfl);replace b3:=b3.k0 F;replace b5:=b5.k0 F;replace b6:=b6.k0 F;replace b9:=b9.k0 F;replace hZ:=Nat.le_trans hZ F.size;replace U:=F.below0 U;clear D F V Y X s10 b19;obtain ⟨N0,eN0⟩:∃ z:Int,z=(((e.getD k Xa).a)*r.bx)+(((e.getD k Xa).b)*r.by_):=⟨_,rfl⟩;rw [<- eN0] at s13;have hN0:Ze r (e.getD k Xa)=N0:=eN0.symm;refine Xk (wp_block (wp_seq ?_));refine Xj [47,48,46] [some (Vi N0),some (Bv (decide (N0 > 0))),some (Bv (decide (N0 > 0)))] (Yc 3) [47,48,46] [] (λ _ _ _=>True) ?_ (e2 ?_ ?_ (en rfl ?_ .nil)) ?_
  ·exact λ _ _=>trivial
  ·exact Z1 s13 rfl rfl rfl
  ·exact λ S J K H _ _ C=>Yl rfl (ev (H.d 0 rfl rfl)) rfl rfl rfl (C _ _ H.k rfl trivial)
  ·exact KE 1 rfl rfl rfl rfl
  intro L a24 w25 Y D F V X;replace hz:=D.Z hz;replace O:=D.E O;obtain ⟨s3,s5,s6,s8,s22,s23,s24,s11⟩:=D.G8 s3 s5 s6 s8 s22 s23 s24 s11;obtain ⟨s12,s13⟩:=D.G2 s12 s13;have s46:=gS a24 46 (V 2 _ rfl);replace b3:=b3.k0 F;replace b5:=b5.k0 F;replace b6:=b6.k0 F;replace b9:=b9.k0 F;replace hZ:=Nat.le_trans hZ F.size;replace U:=F.below0 U;clear D F V Y X;refine Xk ?_;rcases Bool.eq_false_or_eq_true (decide (N0 > 0)) with q26|q26
  ·have hn:0<Ze r (e.getD k Xa):=by have:=KZ q26;omega
   obtain ⟨ht,hdn⟩:=adm_high P M hn;have h9:=step_hi (s:=s) (v:=v) hn;rw [hT0] at ht h9;rw [hN0] at hdn h9;refine wp_cond_true (ev (vb s46 q26)) ?_;have T:Xf [] (λ L aa K=>X6 K g9 48 [Vi v.low.n,Vi v.low.d,Vi v.high.n,Vi v.high.d] (L 9) (λ _ vs=>vs=[Vi v.low.n,Vi v.low.d,Vi ((Ye v.high (XD T0 ((Yz r s)*N0))).n),Vi ((Ye v.high (XD T0 ((Yz r s)*N0))).d)])):=by
    intro L aa K w' kk vv hkk hb X;have x0:=X;exact (x0.bel hb (λ _ h=>h))
   refine Xr T [49,50,51,52,53,54,55,56,57,0] [some (.pointer (some ⟨g9,2,none⟩)),some (.agg #[Vi v.high.n,Vi v.high.d]),some (Vi T0),some (Vi (Yz r s)),some (Vi N0),some (Vi ((Yz r s)*N0)),some (Xv (XD T0 ((Yz r s)*N0))),some (Xv (Ye v.high (XD T0 ((Yz r s)*N0)))),some (.pointer (some ⟨g9,2,none⟩)),none] ([[],[0],[],[],[],[3,4],[2,3,4,5],[0,1,2,3,4,5,6],[0,1,2,3,4,5,6,7],[0,1,2,3,4,5,6,7,8]]) [49,50,51,52,53,54,55,56,57] [g9] ?_ (e4 ?_ ?_ ?_ ?_ (e4 ?_ ?_ ?_ ?_ (e2 ?_ ?_ .nil))) ?_
   ·exact λ _ h=>(⟨λ _=>b9.kp h Sz,Cz⟩)
   ·intro S J K H _ _ C;simp [go_sem,H.f.g rfl s8];exact (C _ _ H.k rfl H.x)
   ·intro S J K H _ _ C;have x0:=H.x;have hb0:=x0.1 (H.t 9 rfl);simp [go_sem,(gS J 49 (H.d 0 rfl rfl)),hb0.cell];exact (C _ _ H.k rfl H.x)
   ·exact ZK s11 rfl rfl rfl λ _ _ _ _ h=>h
   ·exact ZK s12 rfl rfl rfl λ _ _ _ _ h=>h
   ·exact ZK s13 rfl rfl rfl λ _ _ _ _ h=>h
   ·exact λ S J K H _ _ C=>YV rfl (ev (H.d 3 rfl rfl)) (ev (H.d 4 rfl rfl)) Oz (C _ _ H.k rfl H.x)
   ·intro S J K H _ _ C;simp [go_sem,(gS J 51 (H.d 2 rfl rfl)),(gS J 54 (H.d 5 rfl rfl))];refine (J3 T0 ((Yz r s)*N0) K ⟨Oz,Oz⟩ ⟨Oz,Oz⟩).mono ?_;rintro x wx ⟨rfl,hb⟩;exact (C _ _ (H.k.call hb) rfl (T S J K _ none undef Sz hb H.x))
   ·intro S J K H _ _ C;simp [go_sem,(gS J 50 (H.d 1 rfl rfl)),(gS J 55 (H.d 6 rfl rfl))];refine (sRatioMin_c v.high (XD T0 ((Yz r s)*N0)) K hvi.2 (Kg (YP ht hdn).1)).mono ?_;rintro x wx ⟨rfl,hb⟩;exact (C _ _ (H.k.call hb) rfl (T S J K _ none undef Sz hb H.x))
   ·intro S J K H _ _ C;simp [go_sem,H.f.g rfl s8];exact (C _ _ H.k rfl H.x)
   ·intro S J K H _ _ C;have x0:=H.x;have HT:=x0.1 H.n;simp [go_sem,(gS J 57 (H.d 8 rfl rfl)),(gS J 56 (H.d 7 rfl rfl)),HT.cell,HT.frz];exact C undef _ (H.k.store (.inr Sz) [Vi ((Ye v.high (XD T0 ((Yz r s)*N0))).n),Vi ((Ye v.high (XD T0 ((Yz r s)*N0))).d)] 2) trivial (⟨(λ q=>by cases q),λ _=>⟨_,((HT.set_ 2 _).set_ 3 _),rfl⟩⟩)
   intro L a27 w28 Y D F V X;have x0:=X;replace hz:=D.Z hz;replace O:=D.E O;obtain ⟨s3,s5,s6,s8,s22,s23,s24⟩:=D.G7 s3 s5 s6 s8 s22 s23 s24;replace b3:=b3.kp F (by simp<;>omega);replace b5:=b5.kp F (by simp<;>omega);replace b6:=b6.kp F (by simp<;>omega);clear b9;obtain ⟨_,b9,rfl⟩:=x0.2 (Y 9 Dz);replace hZ:=Nat.le_trans hZ F.size;replace U:=F.below U U.size (by simp<;>omega);clear D F V Y x0 T s11 s12 s13 s46;refine J8 (J8 (Xk ?_));refine Xj [76,24] [some (Vi ((k:Int)+1)),some (Vi ((k:Int)+1))] (Yc 2) [76,24] [] (λ L aa K=>(L 1=false->aa.tmps[24]?.getD undef=Vi (k:Int))) ?_ (e2 ?_ ?_ .nil) ?_
   ·exact λ _ h=>(λ _=>s24)
   ·intro S J K H _ _ C;have x0:=H.x;exact Z2 rfl (ev (x0 (H.t 1 rfl))) rfl Oz (C _ _ H.k rfl (λ h=>(Xg Dz _).trans (x0 h)))
   ·intro S J K H _ _ C;have x0:=H.x;exact XR rfl (ev (H.d 0 rfl rfl)) (C _ _ H.k rfl (λ h=>by simp [ZV] at h))
   intro L a29 w30 Y D F V X;have x0:=X;replace hz:=D.Z hz;replace O:=D.E O;obtain ⟨s3,s5,s6,s8,s22,s23⟩:=D.G6 s3 s5 s6 s8 s22 s23;have s24:=gS a29 24 (V 1 _ rfl);replace b3:=b3.k0 F;replace b5:=b5.k0 F;replace b6:=b6.k0 F;replace b9:=b9.k0 F;replace hZ:=Nat.le_trans hZ F.size;replace U:=F.below0 U;clear D F V Y x0;refine Xk ?_;refine ⟨?_, ?_⟩
   ·exact ⟨hz,O,(k+1),(⟨⟨v.low.n,v.low.d⟩,⟨(Ye v.high (XD T0 ((Yz r s)*N0))).n,(Ye v.high (XD T0 ((Yz r s)*N0))).d⟩⟩),Oz,(adm_next hkl hv h9),s3,s5,s6,s8,s22,s23,s24,b3,b5,b6,b9,U,Oz⟩
   ·show (e.length-(intOf (a29.tmps[24]?.getD undef)).toNat)<_;rw [s24,hmu];simp only [intOf];omega
  ·refine wp_cond_false (ev (vb s46 q26)) ?_;refine wp_seq ?_;refine Xj [59,60,58] [some (Vi N0),some (Bv (decide (N0<0))),some (Bv (decide (N0<0)))] (Yc 3) [59,60,58] [] (λ _ _ _=>True) ?_ (e2 ?_ ?_ (en rfl ?_ .nil)) ?_
   ·exact λ _ _=>trivial
   ·exact Z1 s13 rfl rfl rfl
   ·exact λ S J K H _ _ C=>Yl rfl (ev (H.d 0 rfl rfl)) rfl rfl rfl (C _ _ H.k rfl trivial)
   ·exact KE 1 rfl rfl rfl rfl
   intro L a31 w32 Y D F V X;replace hz:=D.Z hz;replace O:=D.E O;obtain ⟨s3,s5,s6,s8,s22,s23,s24,s11⟩:=D.G8 s3 s5 s6 s8 s22 s23 s24 s11;obtain ⟨s12,s13⟩:=D.G2 s12 s13;have s58:=gS a31 58 (V 2 _ rfl);replace b3:=b3.k0 F;replace b5:=b5.k0 F;replace b6:=b6.k0 F;replace b9:=b9.k0 F;replace hZ:=Nat.le_trans hZ F.size;replace U:=F.below0 U;clear D F V Y X s46;refine Xk ?_;rcases Bool.eq_false_or_eq_true (decide (N0<0)) with q33|q33
   ·have hn:Ze r (e.getD k Xa)<0:=by have:=KZ q33;omega
    obtain ⟨ht,hdn⟩:=adm_low P M hn;have h9:=step_lo (s:=s) (v:=v) hn;rw [hT0] at ht h9;rw [hN0] at hdn h9;refine wp_cond_true (ev (vb s58 q33)) ?_;have T:Xf [] (λ L aa K=>X6 K g9 48 [Vi v.low.n,Vi v.low.d,Vi v.high.n,Vi v.high.d] (L 11) (λ _ vs=>vs=[Vi ((Yf v.low (XD (-T0) ((-(Yz r s))*N0))).n),Vi ((Yf v.low (XD (-T0) ((-(Yz r s))*N0))).d),Vi v.high.n,Vi v.high.d])):=by
     intro L aa K w' kk vv hkk hb X;have x0:=X;exact (x0.bel hb (λ _ h=>h))
    refine Xr T [61,62,63,64,65,66,67,68,69,70,71,0] [some (Pz g9),some (.agg #[Vi v.low.n,Vi v.low.d]),some (Vi T0),some (Vi (-T0)),some (Vi (Yz r s)),some (Vi (-(Yz r s))),some (Vi N0),some (Vi ((-(Yz r s))*N0)),some (Xv (XD (-T0) ((-(Yz r s))*N0))),some (Xv (Yf v.low (XD (-T0) ((-(Yz r s))*N0)))),some (Pz g9),none] ([[],[0],[],[2],[],[4],[],[4,5,6],[2,3,4,5,6,7],[0,1,2,3,4,5,6,7,8],[0,1,2,3,4,5,6,7,8,9],[0,1,2,3,4,5,6,7,8,9,10]]) [61,62,63,64,65,66,67,68,69,70,71] [g9] ?_ (e4 ?_ ?_ ?_ ?_ (e4 ?_ ?_ ?_ ?_ (e4 ?_ ?_ ?_ ?_ .nil))) ?_
    ·exact λ _ h=>(⟨λ _=>b9.kp h Sz,Cz⟩)
    ·intro S J K H _ _ C;simp [go_sem,H.f.g rfl s8];exact (C _ _ H.k rfl H.x)
    ·intro S J K H _ _ C;have x0:=H.x;have hb0:=x0.1 (H.t 11 rfl);simp [go_sem,(gS J 61 (H.d 0 rfl rfl)),hb0.cell];exact (C _ _ H.k rfl H.x)
    ·exact ZK s11 rfl rfl rfl λ _ _ _ _ h=>h
    ·exact λ S J K H _ _ C=>Ja rfl (ev (H.d 2 rfl rfl)) Oz (C _ _ H.k rfl H.x)
    ·exact ZK s12 rfl rfl rfl λ _ _ _ _ h=>h
    ·exact λ S J K H _ _ C=>Ja rfl (ev (H.d 4 rfl rfl)) Oz (C _ _ H.k rfl H.x)
    ·exact ZK s13 rfl rfl rfl λ _ _ _ _ h=>h
    ·exact λ S J K H _ _ C=>YV rfl (ev (H.d 5 rfl rfl)) (ev (H.d 6 rfl rfl)) Oz (C _ _ H.k rfl H.x)
    ·intro S J K H _ _ C;simp [go_sem,(gS J 64 (H.d 3 rfl rfl)),(gS J 68 (H.d 7 rfl rfl))];refine (J3 (-T0) ((-(Yz r s))*N0) K ⟨Oz,Oz⟩ ⟨Oz,Oz⟩).mono ?_;rintro x wx ⟨rfl,hb⟩;exact (C _ _ (H.k.call hb) rfl (T S J K _ none undef Sz hb H.x))
    ·intro S J K H _ _ C;simp [go_sem,(gS J 62 (H.d 1 rfl rfl)),(gS J 69 (H.d 8 rfl rfl))];refine (sRatioMax_c v.low (XD (-T0) ((-(Yz r s))*N0)) K hvi.1 (Kg (YP ht hdn).1)).mono ?_;rintro x wx ⟨rfl,hb⟩;exact (C _ _ (H.k.call hb) rfl (T S J K _ none undef Sz hb H.x))
    ·intro S J K H _ _ C;simp [go_sem,H.f.g rfl s8];exact (C _ _ H.k rfl H.x)
    ·intro S J K H _ _ C;have x0:=H.x;have HT:=x0.1 H.n;simp [go_sem,(gS J 71 (H.d 10 rfl rfl)),(gS J 70 (H.d 9 rfl rfl)),HT.cell,HT.frz];exact C undef _ (H.k.store (.inr Sz) [Vi ((Yf v.low (XD (-T0) ((-(Yz r s))*N0))).n),Vi ((Yf v.low (XD (-T0) ((-(Yz r s))*N0))).d)] 0) trivial (⟨(λ q=>by cases q),λ _=>⟨_,((HT.set_ 0 _).set_ 1 _),rfl⟩⟩)
    intro L a34 w35 Y D F V X;have x0:=X;replace hz:=D.Z hz;replace O:=D.E O;obtain ⟨s3,s5,s6,s8,s22,s23,s24⟩:=D.G7 s3 s5 s6 s8 s22 s23 s24;replace b3:=b3.kp F (by simp<;>omega);replace b5:=b5.kp F (by simp<;>omega);replace b6:=b6.kp F (by simp<;>omega);clear b9;obtain ⟨_,b9,rfl⟩:=x0.2 (Y 11 Dz);replace hZ:=Nat.le_trans hZ F.size;replace U:=F.below U U.size (by simp<;>omega);clear D F V Y x0 T s11 s12 s13 s58;refine J8 (J8 (Xk ?_));refine Xj [76,24] [some (Vi ((k:Int)+1)),some (Vi ((k:Int)+1))] (Yc 2) [76,24] [] (λ L aa K=>(L 1=false->aa.tmps[24]?.getD undef=Vi (k:Int))) ?_ (e2 ?_ ?_ .nil) ?_
    ·exact λ _ h=>(λ _=>s24)
    ·intro S J K H _ _ C;have x0:=H.x;exact Z2 rfl (ev (x0 (H.t 1 rfl))) rfl Oz (C _ _ H.k rfl (λ h=>(Xg Dz _).trans (x0 h)))
    ·intro S J K H _ _ C;have x0:=H.x;exact XR rfl (ev (H.d 0 rfl rfl)) (C _ _ H.k rfl (λ h=>by simp [ZV] at h))
    intro L a36 w37 Y D F V X;have x0:=X;replace hz:=D.Z hz;replace O:=D.E O;obtain ⟨s3,s5,s6,s8,s22,s23⟩:=D.G6 s3 s5 s6 s8 s22 s23;have s24:=gS a36 24 (V 1 _ rfl);replace b3:=b3.k0 F;replace b5:=b5.k0 F;replace b6:=b6.k0 F;replace b9:=b9.k0 F;replace hZ:=Nat.le_trans hZ F.size;replace U:=F.below0 U;clear D F V Y x0;refine Xk ?_;refine ⟨?_, ?_⟩
    ·exact ⟨hz,O,(k+1),(⟨⟨(Yf v.low (XD (-T0) ((-(Yz r s))*N0))).n,(Yf v.low (XD (-T0) ((-(Yz r s))*N0))).d⟩,⟨v.high.n,v.high.d⟩⟩),Oz,(adm_next hkl hv h9),s3,s5,s6,s8,s22,s23,s24,b3,b5,b6,b9,U,Oz⟩
    ·show (e.length-(intOf (a36.tmps[24]?.getD undef)).toNat)<_;rw [s24,hmu];simp only [intOf];omega
   ·refine wp_cond_false (ev (vb s58 q33)) ?_;refine wp_seq ?_;refine Xj [73,74,72] [some (Vi T0),some (Bv (decide (T0<0))),some (Bv (decide (T0<0)))] (Yc 3) [73,74,72] [] (λ _ _ _=>True) ?_ (e2 ?_ ?_ (en rfl ?_ .nil)) ?_
    ·exact λ _ _=>trivial
    ·exact Z1 s11 rfl rfl rfl
    ·exact λ S J K H _ _ C=>Yl rfl (ev (H.d 0 rfl rfl)) rfl rfl rfl (C _ _ H.k rfl trivial)
    ·exact KE 1 rfl rfl rfl rfl
    intro L a38 w39 Y D F V X;replace hz:=D.Z hz;replace O:=D.E O;obtain ⟨s3,s5,s6,s8,s22,s23,s24⟩:=D.G7 s3 s5 s6 s8 s22 s23 s24;have s72:=gS a38 72 (V 2 _ rfl);replace b3:=b3.k0 F;replace b5:=b5.k0 F;replace b6:=b6.k0 F;replace b9:=b9.k0 F;replace hZ:=Nat.le_trans hZ F.size;replace U:=F.below0 U;clear D F V Y X s11 s12 s13 s58;refine Xk ?_;rcases Bool.eq_false_or_eq_true (decide (T0<0)) with q40|q40
    ·have h9:=step_out (r:=r) (s:=s) (v:=v) (h:=(e.getD k Xa)) (by have:=YT q26;have:=YT q33;omega) (by have:=KZ q40;omega);refine wp_cond_true (ev (vb s72 q40)) ?_;refine wp_seq ?_;have T:Xf [] (λ L aa K=>X6 K (w.heap.size+3) 48 [V0,V0,V0,V0] (L 1) (λ _ vs=>vs=[V0,V0,V0,V0])):=by
      intro L aa K w' kk vv hkk hb X;have x0:=X;exact (x0.bel hb (λ _ h=>h))
     refine Xr T [75,0,7] [some (.agg #[V0,V0,V0,V0]),none,some Bf] (Yc 3) [75,7] [(w.heap.size+3)] ?_ (e2 ?_ ?_ (en rfl ?_ .nil)) ?_
     ·exact λ _ h=>(⟨λ _=>b6.kp h Sz,Cz⟩)
     ·intro S J K H _ _ C;simp [go_sem];exact (C _ _ H.k rfl H.x)
     ·intro S J K H _ _ C;have x0:=H.x;have HT:=x0.1 H.n;simp [go_sem,(gS J 75 (H.d 0 rfl rfl)),H.f.g rfl s6,HT.cell,HT.frz];exact C undef _ (H.k.store (.inr Sz) [V0,V0,V0,V0] 0) trivial (X6.set HT (us:=[V0,V0,V0,V0]) rfl rfl)
     ·exact KQ rfl rfl λ _ _ _ _ h=>h
     intro L a41 w42 Y D F V X;have x0:=X;replace hz:=D.Z hz;replace O:=D.E O;replace s6:=D.G s6;have s7:=gS a41 7 (V 2 _ rfl);clear b6;obtain ⟨_,b6,rfl⟩:=x0.2 (Y 1 Dz);replace hZ:=Nat.le_trans hZ F.size;replace U:=F.below U U.size (by simp<;>omega);clear D F V Y x0 T s3 s5 s8 s22 s23 s24 s72 b3 b5 b9;refine Xk (wp_ret ?_);refine Jj (Jj (Y6 (Y6 (Jj (Y6 ?_)))));refine bodyPost_ret (v:=.tuple #[.agg #[V0,V0,V0,V0],Bf]) (by simp [results,Tryz.results154,go_sem,s6,b6.cell,s7]) O ?_;exact ⟨by rw [adm_bad hd (adm_stop hkl hv h9)];rfl,U⟩
    ·have h9:=step_eq (r:=r) (s:=s) (v:=v) (h:=(e.getD k Xa)) (by have:=YT q26;have:=YT q33;omega) (by have:=YT q40;omega);refine wp_cond_false (ev (vb s72 q40)) ?_;refine wp_skip ?_;refine J8 (J8 (Xk ?_));refine Xj [76,24] [some (Vi ((k:Int)+1)),some (Vi ((k:Int)+1))] (Yc 2) [76,24] [] (λ L aa K=>(L 1=false->aa.tmps[24]?.getD undef=Vi (k:Int))) ?_ (e2 ?_ ?_ .nil) ?_
     ·exact λ _ h=>(λ _=>s24)
     ·intro S J K H _ _ C;have x0:=H.x;exact Z2 rfl (ev (x0 (H.t 1 rfl))) rfl Oz (C _ _ H.k rfl (λ h=>(Xg Dz _).trans (x0 h)))
     ·intro S J K H _ _ C;have x0:=H.x;exact XR rfl (ev (H.d 0 rfl rfl)) (C _ _ H.k rfl (λ h=>by simp [ZV] at h))
     intro L a43 w44 Y D F V X;have x0:=X;replace hz:=D.Z hz;replace O:=D.E O;obtain ⟨s3,s5,s6,s8,s22,s23⟩:=D.G6 s3 s5 s6 s8 s22 s23;have s24:=gS a43 24 (V 1 _ rfl);replace b3:=b3.k0 F;replace b5:=b5.k0 F;replace b6:=b6.k0 F;replace b9:=b9.k0 F;replace hZ:=Nat.le_trans hZ F.size;replace U:=F.below0 U;clear D F V Y x0 s72;refine Xk ?_;refine ⟨?_, ?_⟩
     ·exact ⟨hz,O,(k+1),(v),Oz,(adm_next hkl hv h9),s3,s5,s6,s8,s22,s23,s24,b3,b5,b6,b9,U,Oz⟩
     ·show (e.length-(intOf (a43.tmps[24]?.getD undef)).toNat)<_;rw [s24,hmu];simp only [intOf];omega
 ·have ek:k=e.length:=by have:=YT q16;omega
  have hvo:=admL_ok B M he k hk v hv;have hvi:v.In:=⟨Kg hvo.1,Kg hvo.2⟩;rw [ek,List.take_length] at hv;refine wp_cond_false (ev (vb s25 q16)) ?_;refine wp_exit ?_;refine th_e (th_e (ib_x (Xk (wp_seq (wp_seq ?_)))));refine Xj [77,78,79] [some (Z8 v),some (Bv (XQ v)),some (Bv (!(XQ v)))] (Yc 3) [77,78,79] [] (λ _ _ _=>True) ?_ (e2 ?_ ?_ (en rfl ?_ .nil)) ?_
  ·exact λ _ _=>trivial
  ·intro S J K H _ _ C;simp [go_sem,H.f.g rfl s8,(b9.k0 H.k).cell];exact (C _ _ H.k rfl trivial)
  ·intro S J K H _ _ C;simp [go_sem,(gS J 77 (H.d 0 rfl rfl))];refine (sSpanOk_c v K hvi).mono ?_;rintro x wx ⟨rfl,hb⟩;exact (C _ _ (H.k.call hb) rfl trivial)
  ·exact Jc 1 rfl rfl rfl rfl
  intro L a45 w46 Y D F V X;replace hz:=D.Z hz;replace O:=D.E O;obtain ⟨s6,s8⟩:=D.G2 s6 s8;have s79:=gS a45 79 (V 2 _ rfl);replace b6:=b6.k0 F;replace b9:=b9.k0 F;replace hZ:=Nat.le_trans hZ F.size;replace U:=F.below0 U;clear D F V Y X s3 s5 s22 s23 s24 s25 b3 b5;refine Xk ?_;rcases Bool.eq_false_or_eq_true (!(XQ v)) with q47|q47
  ·refine wp_cond_true (ev (vb s79 q47)) ?_;refine wp_seq ?_;have T:Xf [] (λ L aa K=>X6 K (w.heap.size+3) 48 [V0,V0,V0,V0] (L 1) (λ _ vs=>vs=[V0,V0,V0,V0])):=by
    intro L aa K w' kk vv hkk hb X;have x0:=X;exact (x0.bel hb (λ _ h=>h))
   refine Xr T [80,0,7] [some (.agg #[V0,V0,V0,V0]),none,some Bf] (Yc 3) [80,7] [(w.heap.size+3)] ?_ (e2 ?_ ?_ (en rfl ?_ .nil)) ?_
   ·exact λ _ h=>(⟨λ _=>b6.kp h Sz,Cz⟩)
   ·intro S J K H _ _ C;simp [go_sem];exact (C _ _ H.k rfl H.x)
   ·intro S J K H _ _ C;have x0:=H.x;have HT:=x0.1 H.n;simp [go_sem,(gS J 80 (H.d 0 rfl rfl)),H.f.g rfl s6,HT.cell,HT.frz];exact C undef _ (H.k.store (.inr Sz) [V0,V0,V0,V0] 0) trivial (X6.set HT (us:=[V0,V0,V0,V0]) rfl rfl)
   ·exact KQ rfl rfl λ _ _ _ _ h=>h
   intro L a48 w49 Y D F V X;have x0:=X;replace hz:=D.Z hz;replace O:=D.E O;replace s6:=D.G s6;have s7:=gS a48 7 (V 2 _ rfl);clear b6;obtain ⟨_,b6,rfl⟩:=x0.2 (Y 1 Dz);replace hZ:=Nat.le_trans hZ F.size;replace U:=F.below U U.size (by simp<;>omega);clear D F V Y x0 T s8 s79 b9;refine Xk (wp_ret (Y6 ?_));refine bodyPost_ret (v:=.tuple #[.agg #[V0,V0,V0,V0],Bf]) (by simp [results,Tryz.results154,go_sem,s6,b6.cell,s7]) O ?_;exact ⟨by rw [adm_bad2 hd hv (Jw q47)];rfl,U⟩
  ·refine wp_cond_false (ev (vb s79 q47)) ?_;refine wp_skip (Xk (wp_seq ?_));have T:Xf [] (λ L aa K=>X6 K (w.heap.size+3) 48 [V0,V0,V0,V0] (L 1) (λ _ vs=>vs=[Vi v.low.n,Vi v.low.d,Vi v.high.n,Vi v.high.d])):=by
    intro L aa K w' kk vv hkk hb X;have x0:=X;exact (x0.bel hb (λ _ h=>h))
   refine Xr T [81,0,7] [some (Z8 v),none,some Bt] (Yc 3) [81,7] [(w.heap.size+3)] ?_ (e2 ?_ ?_ (en rfl ?_ .nil)) ?_
   ·exact λ _ h=>(⟨λ _=>b6.kp h Sz,Cz⟩)
   ·intro S J K H _ _ C;simp [go_sem,H.f.g rfl s8,(b9.kp H.k (by simp<;>omega)).cell];exact (C _ _ H.k rfl H.x)
   ·intro S J K H _ _ C;have x0:=H.x;have HT:=x0.1 H.n;simp [go_sem,(gS J 81 (H.d 0 rfl rfl)),H.f.g rfl s6,HT.cell,HT.frz];exact C undef _ (H.k.store (.inr Sz) [Vi v.low.n,Vi v.low.d,Vi v.high.n,Vi v.high.d] 0) trivial (X6.set HT (us:=[Vi v.low.n,Vi v.low.d,Vi v.high.n,Vi v.high.d]) rfl rfl)
   ·exact KQ rfl rfl λ _ _ _ _ h=>h
   intro L a50 w51 Y D F V X;have x0:=X;replace hz:=D.Z hz;replace O:=D.E O;replace s6:=D.G s6;have s7:=gS a50 7 (V 2 _ rfl);clear b6;obtain ⟨_,b6,rfl⟩:=x0.2 (Y 1 Dz);replace hZ:=Nat.le_trans hZ F.size;replace U:=F.below U U.size (by simp<;>omega);clear D F V Y x0 T s8 s79 b9;refine Xk (wp_ret ?_);refine bodyPost_ret (v:=.tuple #[Z8 v,Bt]) (by simp [results,Tryz.results154,go_sem,s6,b6.cell,s7]) O ?_;exact ⟨by rw [adm_good hd hv (Yu q47)];rfl,U⟩
end Go.Proofs.YtbekjpkcicjcgaaGreat
namespace Go.Proofs.YtbekjpkcicjcgaaGreat
open Go.RowKit
theorem iRobustOf_c (r:XU) (p:List Half) (ra:Yn) (b:Zi) (w:World) (hn:Xy r<=1048576) (hin:Zh r) (hs:Ym w r ra) (hnl:YJ ra) (hlp:p.length<=1048576) (hpi:∀ h∈p,h.In) (hsp:Sl 3 Xd w b.A p) (hnb:b.A=none->b.c=0) :
 Calls Tryz.prog 47 #[Ya r ra,Yi p b] w λ e w'=>∃ v R,e=.returned (.tuple #[.agg #[v],.bool (Z9 r p)])/\(Z9 r p=true->R=Kb r p)/\R.length<=40/\XI 136 3 Xd w' w.heap.size v R/\Below w.heap.size w w':=by
 obtain ⟨W,hW⟩:∃ W,W=((w.alloc (.cells #[.slice ra.map.A (List.length r.map) ra.map.c,.int .i64 r.div,.int .i64 r.bx,.int .i64 r.by_,.int .i64 r.low,.int .i64 r.high,.slice ra.noise.A (List.length r.noise) ra.noise.c,.slice ra.limits.A (List.length r.limits) ra.limits.c] 28)).alloc (.cells #[.slice b.A p.length b.c] 26)).alloc (.cells #[.slice none 0 0] 26):=⟨_,rfl⟩;have HA:Xz W w.heap.size 28 [.slice ra.map.A (List.length r.map) ra.map.c,.int .i64 r.div,.int .i64 r.bx,.int .i64 r.by_,.int .i64 r.low,.int .i64 r.high,.slice ra.noise.A (List.length r.noise) ra.noise.c,.slice ra.limits.A (List.length r.limits) ra.limits.c]:=by
  rw [hW];exact ((Xz.new w [.slice ra.map.A (List.length r.map) ra.map.c,.int .i64 r.div,.int .i64 r.bx,.int .i64 r.by_,.int .i64 r.low,.int .i64 r.high,.slice ra.noise.A (List.length r.noise) ra.noise.c,.slice ra.limits.A (List.length r.limits) ra.limits.c] 28).alloc _).alloc _
 have HB:Xz W (w.heap.size+1) 26 [.slice b.A p.length b.c]:=by
  have h1:=(Xz.new (w.alloc (.cells #[.slice ra.map.A (List.length r.map) ra.map.c,.int .i64 r.div,.int .i64 r.bx,.int .i64 r.by_,.int .i64 r.low,.int .i64 r.high,.slice ra.noise.A (List.length r.noise) ra.noise.c,.slice ra.limits.A (List.length r.limits) ra.limits.c] 28)) [.slice b.A p.length b.c] 26).alloc (.cells #[.slice none 0 0] 26);simp only [World.size_alloc] at h1;rw [hW];exact h1
 have HR:Xz W (w.heap.size+1+1) 26 [.slice none 0 0]:=by
  have h1:=Xz.new ((w.alloc (.cells #[.slice ra.map.A (List.length r.map) ra.map.c,.int .i64 r.div,.int .i64 r.bx,.int .i64 r.by_,.int .i64 r.low,.int .i64 r.high,.slice ra.noise.A (List.length r.noise) ra.noise.c,.slice ra.limits.A (List.length r.limits) ra.limits.c] 28)).alloc (.cells #[.slice b.A p.length b.c] 26)) [.slice none 0 0] 26;simp only [World.size_alloc] at h1;rw [hW];exact h1
 have b0:Below w.heap.size w W:=by
  rw [hW];exact Xl
 have zW:=YD HR;have hs0:=hs.below b0;have sp:=hsp.below b0;have hW':=Lib.hid hW;clear hW hs hsp;have HA_:=HA.has;have HB_:=HB.has;obtain ⟨cHA__0,fHA__0⟩:=HA_.2 0 _ rfl;obtain ⟨cHA__1,fHA__1⟩:=HA_.2 1 _ rfl;obtain ⟨cHA__2,fHA__2⟩:=HA_.2 2 _ rfl;obtain ⟨cHA__3,fHA__3⟩:=HA_.2 3 _ rfl;obtain ⟨cHA__4,fHA__4⟩:=HA_.2 4 _ rfl;obtain ⟨cHA__5,fHA__5⟩:=HA_.2 5 _ rfl;obtain ⟨cHA__6,fHA__6⟩:=HA_.2 6 _ rfl;obtain ⟨cHA__7,fHA__7⟩:=HA_.2 7 _ rfl;obtain ⟨cHB__0,fHB__0⟩:=HB_.2 0 _ rfl;have lA:=HA_.1;have lB:=HB_.1;have cv:=λ W=>KJ p b W;have hdef:=Lib.hid (show Z9 r p=(!decide (p.length=0)&&Jn r p && !decide ((Kb r p).length=0)) from rfl);by_cases h0:p.length=0
 ·have D:=Lib.hid (show Z9 r p=false by rw [hdef.out,decide_eq_true h0];rfl);rw [decide_eq_true h0] at cv;clear h0;go_enter Tryz.func47,Tryz.ntmps47
  go_upto_region 1 with fail
  rw [<- hW'.out];clear hW';go_wp2_with (fail)
  refine (cv _).mono ?_;rintro e w1 ⟨rfl,hb1⟩;have R1:=(HR.below hb1).has;have b1:=Xe b0 hb1;obtain ⟨cR1_0,fR1_0⟩:=R1.2 0 _ rfl;have lR:=R1.1;go_wp2
  refine bodyPost_ret (v:=.tuple #[.agg #[.slice none 0 0],.bool false]) (by simp [results,Tryz.results47,go_sem,cR1_0]) rfl ⟨.slice none 0 0,[],by rw [D.out],(λ h=>by rw [D.out] at h;cases h),Sz,⟨none,0,rfl,World.ownsRow_nil _ _ _ _⟩,Yp b1 (by simp only;omega) _⟩
 have hp0:=Lib.hid h0;rw [decide_eq_false h0] at cv;clear h0;have cr:=λ W h1 h2=>iRob_c r p ra b W hn hin h1 hnl hlp hpi h2 hnb;have hro:=Zt (rpR_ok r p);go_enter Tryz.func47,Tryz.ntmps47
 go_upto_region 1 with fail
 rw [<- hW'.out];clear hW';go_wp2_with (fail)
 refine (cv _).mono ?_;rintro e w1 ⟨rfl,hb1⟩;have r1:=Xh hb1;have l1:=blt hb1 lA;have l2:=blt hb1 lB;go_wp2_with (fail)
 refine (cr _ (hs0.below hb1) (sp.below hb1)).mono ?_;rintro e w2 ⟨v2,rfl,N2,hb2⟩;obtain ⟨Av,cv2,rfl,o3⟩:=N2;obtain ⟨R,hR⟩:∃ R,R=Kb r p:=⟨_,rfl⟩;obtain ⟨ok,hok⟩:∃ ok,ok=Jn r p:=⟨_,rfl⟩;rw [<- hR] at o3 hro;rw [<- hR,<- hok];have N2:XI 136 3 Xd w2 w1.heap.size (.slice Av R.length cv2) R:=⟨Av,cv2,rfl,o3⟩;have hR':=Lib.hid hR;have hok':=Lib.hid hok;clear hR hok o3;have T3:Xz (w2.alloc (.cells #[.slice Av R.length cv2] 26)) w2.heap.size 26 [.slice Av R.length cv2]:=Xz.new w2 [.slice Av R.length cv2] 26;have R3:=((HR.below hb1).below hb2).alloc (.cells #[.slice Av R.length cv2] 26);have N3:=N2.alloc (.cells #[.slice Av R.length cv2] 26);have b3:=Xc (Xe (Xe b0 hb1) hb2) (.cells #[.slice Av R.length cv2] 26);have z3:=Nat.lt_of_lt_of_le zW (Nat.le_trans hb1.size hb2.size);have z1:=hb1.size;clear HA_ HB_ cHA__0 cHA__1 cHA__2 cHA__3 cHA__4 cHA__5 cHA__6 cHA__7 fHA__0 fHA__1 fHA__2 fHA__3 fHA__4 fHA__5 fHA__6 fHA__7 cHB__0 fHB__0 lA lB HA HB HR b0 hs0 sp r1 l1 l2 hb1 hb2 N2 cv cr;go_upto_region 4 with fail
 generalize w2.alloc (.cells #[.slice Av R.length cv2] 26)=w3 at *;generalize w2.heap.size=g2 at *;have cv:=λ W=>KJ R ⟨Av,cv2⟩ W;obtain ⟨vd,hvd⟩:∃ vd,vd=decide (R.length=0):=⟨_,rfl⟩;rw [<- hvd] at cv;have hvd':=Lib.hid hvd;have hBWA:w.heap.size+1+1<=w3.heap.size:=by have:=YD R3;omega
 have hTA_0:=T3;have hTA_1:=R3;have lT:=YD T3;have lR:=YD R3;clear hvd;cases ok
 ·have D:=Lib.hid (show Z9 r p=false by rw [hdef.out,<- hok'.out];simp);have hKA_0:=N3;obtain ⟨IA,hIA⟩:∃ I:Act->(Nat->Bool)->Act->World->Prop,I=(λ a0 L a w'=>XS a0 a [17,18,19,20,21,22,23,5]/\Below (w.heap.size+1+1) w3 w'/\(L 0=true->a.tmps[17]?.getD undef=.agg #[.slice Av R.length cv2])/\(L 1=true->a.tmps[18]?.getD undef=.bool false)/\(L 2=true->a.tmps[19]?.getD undef=.bool false)/\(L 3=true->a.tmps[20]?.getD undef=undef)/\(L 4=true->a.tmps[21]?.getD undef=undef)/\(L 5=true->a.tmps[22]?.getD undef=undef)/\(L 6=true->a.tmps[23]?.getD undef=.bool false)/\(L 8=true->a.tmps[5]?.getD undef=.bool false)/\(L 2=true->L 1=true)/\(L 6=true->L 2=true)/\(L 7=true->L 0=true)/\(L 8=true->L 6=true)/\Xz w' (g2) 26 [.slice Av R.length cv2]/\(L 7=false->Xz w' (w.heap.size+1+1) 26 [.slice none 0 0])/\(L 7=true->Xz w' (w.heap.size+1+1) 26 [.slice Av R.length cv2])/\(XI 136 3 Xd w' w1.heap.size (.slice Av R.length cv2) R)):=⟨_,rfl⟩;refine wp_region_I0 (by kernel_rfl) (by kernel_rfl) IA ?h0 ?hs ?he
  case h0 =>
   rw [hIA];exact ⟨XS.refl _ _,bR.drew,λ h=>absurd h Sz,λ h=>absurd h Sz,λ h=>absurd h Sz,λ h=>absurd h Sz,λ h=>absurd h Sz,λ h=>absurd h Sz,λ h=>absurd h Sz,λ h=>absurd h Sz,λ h=>absurd h Sz,λ h=>absurd h Sz,λ h=>absurd h Sz,λ h=>absurd h Sz,hTA_0,λ _=>hTA_1,λ h=>absurd h Sz,hKA_0⟩
  case hs =>
   intro L a w' i o ho hLi hd hI';rw [hIA] at hI';obtain ⟨D,U,ci0,ci1,ci2,ci3,ci4,ci5,ci6,ci8,cp2_1,cp6_2,cp7_0,cp8_6,cy0,cy1,cz1,ck0⟩:=hI';have hi:i<9:=by
    rcases Nat.lt_or_ge i 9 with h|h
    ·exact h
    ·rw [List.getElem?_eq_none (by simpa using h)] at ho;cases ho
   have zB:=U.size;have hBw:w.heap.size+1+1<=w'.heap.size:=Nat.le_trans hBWA zB;obtain rfl|rfl|rfl|rfl|rfl|rfl|rfl|rfl|rfl:i=0∨i=1∨i=2∨i=3∨i=4∨i=5∨i=6∨i=7∨i=8:=Oz
   ·simp only [List.getElem?_cons_zero,Option.some.injEq] at ho;subst ho;rw [if_pos (by simp [Region.wanted])];have e0:a.tmps[6]?.getD undef=.pointer (some ⟨g2,0,none⟩):=D.get Dz;have HT0:=cy0;have HH0:=HT0.has;have lH0:=HH0.1;obtain ⟨cH0_0,fH0_0⟩:=HH0.2 0 _ rfl;simp [go_sem,Array.getD_eq_getD_getElem?,e0,cH0_0];rw [hIA];exact ⟨D.put Dz _,U,λ _=>Xw (D.lt Sz) _,Zq ci1 Dz rfl,Zq ci2 Dz rfl,Zq ci3 Dz rfl,Zq ci4 Dz rfl,Zq ci5 Dz rfl,Zq ci6 Dz rfl,Zq ci8 Dz rfl,Kn cp2_1 rfl,Kn cp6_2 rfl,λ _=>Sz,Kn cp8_6 rfl,cy0,knK cy1 rfl,λ h=>cz1 (by simpa using h),ck0⟩
   ·simp only [List.getElem?_cons_zero,List.getElem?_cons_succ,Option.some.injEq] at ho;subst ho;rw [if_pos (by simp [Region.wanted])];have e0:a.tmps[7]?.getD undef=.bool false:=D.get Dz;simp [go_sem,Array.getD_eq_getD_getElem?,e0];rw [hIA];exact ⟨D.put Dz _,U,Zq ci0 Dz rfl,λ _=>Xw (D.lt Sz) _,Zq ci2 Dz rfl,Zq ci3 Dz rfl,Zq ci4 Dz rfl,Zq ci5 Dz rfl,Zq ci6 Dz rfl,Zq ci8 Dz rfl,λ _=>Sz,Kn cp6_2 rfl,Kn cp7_0 rfl,Kn cp8_6 rfl,cy0,knK cy1 rfl,λ h=>cz1 (by simpa using h),ck0⟩
   ·simp only [List.getElem?_cons_zero,List.getElem?_cons_succ,Option.some.injEq] at ho;subst ho;rw [if_pos (by simp [Region.wanted])];have d1:=hd { on:=1,ground:=.data } Sz Dz;have v1:=ci1 d1;simp [go_sem,Array.getD_eq_getD_getElem?,v1];rw [hIA];exact ⟨D.put Dz _,U,Zq ci0 Dz rfl,Zq ci1 Dz rfl,λ _=>Xw (D.lt Sz) _,Zq ci3 Dz rfl,Zq ci4 Dz rfl,Zq ci5 Dz rfl,Zq ci6 Dz rfl,Zq ci8 Dz rfl,λ _=>by simp [d1],λ _=>Sz,Kn cp7_0 rfl,Kn cp8_6 rfl,cy0,knK cy1 rfl,λ h=>cz1 (by simpa using h),ck0⟩
   ·simp only [List.getElem?_cons_zero,List.getElem?_cons_succ,Option.some.injEq] at ho;subst ho;have dg:=hd { on:=2,ground:=.guard } Sz Dz;have vg:=ci2 dg;rw [if_neg (unwanted_of rfl rfl rfl vg Dz)];rw [hIA];exact ⟨D.put Dz _,U,Zq ci0 Dz rfl,Zq ci1 Dz rfl,Zq ci2 Dz rfl,λ _=>Xw (D.lt Sz) _,Zq ci4 Dz rfl,Zq ci5 Dz rfl,Zq ci6 Dz rfl,Zq ci8 Dz rfl,Kn cp2_1 rfl,Kn cp6_2 rfl,Kn cp7_0 rfl,Kn cp8_6 rfl,cy0,knK cy1 rfl,λ h=>cz1 (by simpa using h),ck0⟩
   ·simp only [List.getElem?_cons_zero,List.getElem?_cons_succ,Option.some.injEq] at ho;subst ho;have dg:=hd { on:=2,ground:=.guard } Sz Dz;have vg:=ci2 dg;rw [if_neg (unwanted_of rfl rfl rfl vg Dz)];rw [hIA];exact ⟨D.put Dz _,U,Zq ci0 Dz rfl,Zq ci1 Dz rfl,Zq ci2 Dz rfl,Zq ci3 Dz rfl,λ _=>Xw (D.lt Sz) _,Zq ci5 Dz rfl,Zq ci6 Dz rfl,Zq ci8 Dz rfl,Kn cp2_1 rfl,Kn cp6_2 rfl,Kn cp7_0 rfl,Kn cp8_6 rfl,cy0,knK cy1 rfl,λ h=>cz1 (by simpa using h),ck0⟩
   ·simp only [List.getElem?_cons_zero,List.getElem?_cons_succ,Option.some.injEq] at ho;subst ho;have dg:=hd { on:=2,ground:=.guard } Sz Dz;have vg:=ci2 dg;rw [if_neg (unwanted_of rfl rfl rfl vg Dz)];rw [hIA];exact ⟨D.put Dz _,U,Zq ci0 Dz rfl,Zq ci1 Dz rfl,Zq ci2 Dz rfl,Zq ci3 Dz rfl,Zq ci4 Dz rfl,λ _=>Xw (D.lt Sz) _,Zq ci6 Dz rfl,Zq ci8 Dz rfl,Kn cp2_1 rfl,Kn cp6_2 rfl,Kn cp7_0 rfl,Kn cp8_6 rfl,cy0,knK cy1 rfl,λ h=>cz1 (by simpa using h),ck0⟩
   ·simp only [List.getElem?_cons_zero,List.getElem?_cons_succ,Option.some.injEq] at ho;subst ho;rw [if_pos (by simp [Region.wanted])];have d2:=hd { on:=2,ground:=.data } Sz Dz;have v2:=ci2 d2;simp [go_sem,Array.getD_eq_getD_getElem?,v2];rw [hIA];exact ⟨D.put Dz _,U,Zq ci0 Dz rfl,Zq ci1 Dz rfl,Zq ci2 Dz rfl,Zq ci3 Dz rfl,Zq ci4 Dz rfl,Zq ci5 Dz rfl,λ _=>Xw (D.lt Sz) _,Zq ci8 Dz rfl,Kn cp2_1 rfl,λ _=>by simp [d2],Kn cp7_0 rfl,λ _=>Sz,cy0,knK cy1 rfl,λ h=>cz1 (by simpa using h),ck0⟩
   ·simp only [List.getElem?_cons_zero,List.getElem?_cons_succ,Option.some.injEq] at ho;subst ho;rw [if_pos (by simp [Region.wanted])];have e0:a.tmps[4]?.getD undef=.pointer (some ⟨w.heap.size+1+1,0,none⟩):=D.get Dz;have d0:=hd { on:=0,ground:=.data } Sz Dz;have v0:=ci0 d0;have HT1:=cy1 hLi;have HH1:=HT1.has;have lH1:=HH1.1;obtain ⟨cH1_0,fH1_0⟩:=HH1.2 0 _ rfl;simp [go_sem,Array.getD_eq_getD_getElem?,e0,v0,cH1_0,fH1_0];rw [hIA];exact ⟨D,Zy Oz [_] 0 _ U,kpK ci0 rfl,kpK ci1 rfl,kpK ci2 rfl,kpK ci3 rfl,kpK ci4 rfl,kpK ci5 rfl,kpK ci6 rfl,kpK ci8 rfl,Kn cp2_1 rfl,Kn cp6_2 rfl,λ _=>by simp [d0],Kn cp8_6 rfl,(cy0).other (g':=w.heap.size+1+1) Oz [.slice Av R.length cv2] 0,λ h=>by simp at h,λ _=>HT1.store (us:=[.slice Av R.length cv2]) rfl,(ck0).otherC ((ck0).typ HT1 Dz) [.slice Av R.length cv2] 0⟩
   ·simp only [List.getElem?_cons_zero,List.getElem?_cons_succ,Option.some.injEq] at ho;subst ho;rw [if_pos (by simp [Region.wanted])];have d6:=hd { on:=6,ground:=.data } Sz Dz;have v6:=ci6 d6;simp [go_sem,Array.getD_eq_getD_getElem?,v6];rw [hIA];exact ⟨D.put Dz _,U,Zq ci0 Dz rfl,Zq ci1 Dz rfl,Zq ci2 Dz rfl,Zq ci3 Dz rfl,Zq ci4 Dz rfl,Zq ci5 Dz rfl,Zq ci6 Dz rfl,λ _=>Xw (D.lt Sz) _,Kn cp2_1 rfl,Kn cp6_2 rfl,Kn cp7_0 rfl,λ _=>by simp [d6],cy0,knK cy1 rfl,λ h=>cz1 (by simpa using h),ck0⟩
  case he =>
   intro L a' wA Y hI';rw [hIA] at hI';obtain ⟨D,hbA,ci0,ci1,ci2,ci3,ci4,ci5,ci6,ci8,cp2_1,cp6_2,cp7_0,cp8_6,cy0,cy1,cz1,ck0⟩:=hI';have eA_8:=ci8 (Y 8 Dz);have HTA_0:=cy0;have HTA_1:=cz1 (Y 7 Dz);have NKA_0:=ck0;have hout:=D.outG Sz;simp only [List.foldl_cons,List.foldl_nil,eA_8] at hout;rw [hout];generalize a'.tmps[17]?.getD undef=xA_17;generalize a'.tmps[18]?.getD undef=xA_18;generalize a'.tmps[19]?.getD undef=xA_19;generalize a'.tmps[20]?.getD undef=xA_20;generalize a'.tmps[21]?.getD undef=xA_21;generalize a'.tmps[22]?.getD undef=xA_22;generalize a'.tmps[23]?.getD undef=xA_23;clear hout hIA D Y ci0 ci1 ci2 ci3 ci4 ci5 ci6 ci8 cp2_1 cp6_2 cp7_0 cp8_6 cy0 cy1 cz1 ck0;go_simp
   have HF:=HTA_1.has;obtain ⟨cHF_0,fHF_0⟩:=HF.2 0 _ rfl;have lF:=HF.1;go_wp2
   refine bodyPost_ret (v:=.tuple #[.agg #[.slice Av R.length cv2],.bool false]) (by simp [results,Tryz.results47,go_sem, *]) rfl ⟨.slice Av R.length cv2,R,by rw [D.out],λ _=>hR'.out,hro, ?_,b3.trans (hbA.mono Oz)⟩;exact NKA_0.mono Oz
 ·have D:=Lib.hid (show Z9 r p = !vd by rw [hdef.out,<- hok'.out,<- hR'.out,decide_eq_false hp0.out,<- hvd'.out];simp);have hKA_0:=N3;obtain ⟨IA,hIA⟩:∃ I:Act->(Nat->Bool)->Act->World->Prop,I=(λ a0 L a w'=>XS a0 a [17,18,19,20,21,22,23,5]/\Below (w.heap.size+1+1) w3 w'/\(L 0=true->a.tmps[17]?.getD undef=.agg #[.slice Av R.length cv2])/\(L 1=true->a.tmps[18]?.getD undef=.bool true)/\(L 2=true->a.tmps[19]?.getD undef=.bool true)/\(L 3=true->a.tmps[20]?.getD undef=.agg #[.slice Av R.length cv2])/\(L 4=true->a.tmps[21]?.getD undef=.bool (vd))/\(L 5=true->a.tmps[22]?.getD undef=.bool (!vd))/\(L 6=true->a.tmps[23]?.getD undef=.bool (!vd))/\(L 8=true->a.tmps[5]?.getD undef=.bool (!vd))/\(L 2=true->L 1=true)/\(L 4=true->L 3=true)/\(L 5=true->L 4=true)/\(L 6=true->L 2=true)/\(L 6=true->L 5=true)/\(L 7=true->L 0=true)/\(L 8=true->L 6=true)/\Xz w' (g2) 26 [.slice Av R.length cv2]/\(L 7=false->Xz w' (w.heap.size+1+1) 26 [.slice none 0 0])/\(L 7=true->Xz w' (w.heap.size+1+1) 26 [.slice Av R.length cv2])/\(XI 136 3 Xd w' w1.heap.size (.slice Av R.length cv2) R)):=⟨_,rfl⟩;refine wp_region_I0 (by kernel_rfl) (by kernel_rfl) IA ?h0 ?hs ?he
  case h0 =>
   rw [hIA];exact ⟨XS.refl _ _,bR.drew,λ h=>absurd h Sz,λ h=>absurd h Sz,λ h=>absurd h Sz,λ h=>absurd h Sz,λ h=>absurd h Sz,λ h=>absurd h Sz,λ h=>absurd h Sz,λ h=>absurd h Sz,λ h=>absurd h Sz,λ h=>absurd h Sz,λ h=>absurd h Sz,λ h=>absurd h Sz,λ h=>absurd h Sz,λ h=>absurd h Sz,λ h=>absurd h Sz,hTA_0,λ _=>hTA_1,λ h=>absurd h Sz,hKA_0⟩
  case hs =>
   intro L a w' i o ho hLi hd hI';rw [hIA] at hI';obtain ⟨D,U,ci0,ci1,ci2,ci3,ci4,ci5,ci6,ci8,cp2_1,cp4_3,cp5_4,cp6_2,cp6_5,cp7_0,cp8_6,cy0,cy1,cz1,ck0⟩:=hI';have hi:i<9:=by
    rcases Nat.lt_or_ge i 9 with h|h
    ·exact h
    ·rw [List.getElem?_eq_none (by simpa using h)] at ho;cases ho
   have zB:=U.size;have hBw:w.heap.size+1+1<=w'.heap.size:=Nat.le_trans hBWA zB;obtain rfl|rfl|rfl|rfl|rfl|rfl|rfl|rfl|rfl:i=0∨i=1∨i=2∨i=3∨i=4∨i=5∨i=6∨i=7∨i=8:=Oz
   ·simp only [List.getElem?_cons_zero,Option.some.injEq] at ho;subst ho;rw [if_pos (by simp [Region.wanted])];have e0:a.tmps[6]?.getD undef=.pointer (some ⟨g2,0,none⟩):=D.get Dz;have HT0:=cy0;have HH0:=HT0.has;have lH0:=HH0.1;obtain ⟨cH0_0,fH0_0⟩:=HH0.2 0 _ rfl;simp [go_sem,Array.getD_eq_getD_getElem?,e0,cH0_0];rw [hIA];exact ⟨D.put Dz _,U,λ _=>Xw (D.lt Sz) _,Zq ci1 Dz rfl,Zq ci2 Dz rfl,Zq ci3 Dz rfl,Zq ci4 Dz rfl,Zq ci5 Dz rfl,Zq ci6 Dz rfl,Zq ci8 Dz rfl,Kn cp2_1 rfl,Kn cp4_3 rfl,Kn cp5_4 rfl,Kn cp6_2 rfl,Kn cp6_5 rfl,λ _=>Sz,Kn cp8_6 rfl,cy0,knK cy1 rfl,λ h=>cz1 (by simpa using h),ck0⟩
   ·simp only [List.getElem?_cons_zero,List.getElem?_cons_succ,Option.some.injEq] at ho;subst ho;rw [if_pos (by simp [Region.wanted])];have e0:a.tmps[7]?.getD undef=.bool true:=D.get Dz;simp [go_sem,Array.getD_eq_getD_getElem?,e0];rw [hIA];exact ⟨D.put Dz _,U,Zq ci0 Dz rfl,λ _=>Xw (D.lt Sz) _,Zq ci2 Dz rfl,Zq ci3 Dz rfl,Zq ci4 Dz rfl,Zq ci5 Dz rfl,Zq ci6 Dz rfl,Zq ci8 Dz rfl,λ _=>Sz,Kn cp4_3 rfl,Kn cp5_4 rfl,Kn cp6_2 rfl,Kn cp6_5 rfl,Kn cp7_0 rfl,Kn cp8_6 rfl,cy0,knK cy1 rfl,λ h=>cz1 (by simpa using h),ck0⟩
   ·simp only [List.getElem?_cons_zero,List.getElem?_cons_succ,Option.some.injEq] at ho;subst ho;rw [if_pos (by simp [Region.wanted])];have d1:=hd { on:=1,ground:=.data } Sz Dz;have v1:=ci1 d1;simp [go_sem,Array.getD_eq_getD_getElem?,v1];rw [hIA];exact ⟨D.put Dz _,U,Zq ci0 Dz rfl,Zq ci1 Dz rfl,λ _=>Xw (D.lt Sz) _,Zq ci3 Dz rfl,Zq ci4 Dz rfl,Zq ci5 Dz rfl,Zq ci6 Dz rfl,Zq ci8 Dz rfl,λ _=>by simp [d1],Kn cp4_3 rfl,Kn cp5_4 rfl,λ _=>Sz,Kn cp6_5 rfl,Kn cp7_0 rfl,Kn cp8_6 rfl,cy0,knK cy1 rfl,λ h=>cz1 (by simpa using h),ck0⟩
   ·simp only [List.getElem?_cons_zero,List.getElem?_cons_succ,Option.some.injEq] at ho;subst ho;have dg:=hd { on:=2,ground:=.guard } Sz Dz;have vg:=ci2 dg;rw [if_pos (wanted_of rfl rfl rfl vg)];have e0:a.tmps[6]?.getD undef=.pointer (some ⟨g2,0,none⟩):=D.get Dz;have HT0:=cy0;have HH0:=HT0.has;have lH0:=HH0.1;obtain ⟨cH0_0,fH0_0⟩:=HH0.2 0 _ rfl;simp [go_sem,Array.getD_eq_getD_getElem?,e0,cH0_0];rw [hIA];exact ⟨D.put Dz _,U,Zq ci0 Dz rfl,Zq ci1 Dz rfl,Zq ci2 Dz rfl,λ _=>Xw (D.lt Sz) _,Zq ci4 Dz rfl,Zq ci5 Dz rfl,Zq ci6 Dz rfl,Zq ci8 Dz rfl,Kn cp2_1 rfl,λ _=>Sz,Kn cp5_4 rfl,Kn cp6_2 rfl,Kn cp6_5 rfl,Kn cp7_0 rfl,Kn cp8_6 rfl,cy0,knK cy1 rfl,λ h=>cz1 (by simpa using h),ck0⟩
   ·simp only [List.getElem?_cons_zero,List.getElem?_cons_succ,Option.some.injEq] at ho;subst ho;have dg:=hd { on:=2,ground:=.guard } Sz Dz;have vg:=ci2 dg;rw [if_pos (wanted_of rfl rfl rfl vg)];have d3:=hd { on:=3,ground:=.data } Sz Dz;have v3:=ci3 d3;simp [go_sem,Array.getD_eq_getD_getElem?,v3];refine (cv _).mono ?_;rintro e wx ⟨rfl,hbx⟩;rw [hIA];exact ⟨D.put Dz _,U.trans (hbx.mono hBw),Zq ci0 Dz rfl,Zq ci1 Dz rfl,Zq ci2 Dz rfl,Zq ci3 Dz rfl,λ _=>Xw (D.lt Sz) _,Zq ci5 Dz rfl,Zq ci6 Dz rfl,Zq ci8 Dz rfl,Kn cp2_1 rfl,λ _=>by simp [d3],λ _=>Sz,Kn cp6_2 rfl,Kn cp6_5 rfl,Kn cp7_0 rfl,Kn cp8_6 rfl,(cy0).below hbx,λ h=>(cy1 (by simpa using h)).below hbx,λ h=>(cz1 (by simpa using h)).below hbx,(ck0).below hbx XE⟩
   ·simp only [List.getElem?_cons_zero,List.getElem?_cons_succ,Option.some.injEq] at ho;subst ho;have dg:=hd { on:=2,ground:=.guard } Sz Dz;have vg:=ci2 dg;rw [if_pos (wanted_of rfl rfl rfl vg)];have d4:=hd { on:=4,ground:=.data } Sz Dz;have v4:=ci4 d4;simp [go_sem,Array.getD_eq_getD_getElem?,v4];rw [hIA];exact ⟨D.put Dz _,U,Zq ci0 Dz rfl,Zq ci1 Dz rfl,Zq ci2 Dz rfl,Zq ci3 Dz rfl,Zq ci4 Dz rfl,λ _=>Xw (D.lt Sz) _,Zq ci6 Dz rfl,Zq ci8 Dz rfl,Kn cp2_1 rfl,Kn cp4_3 rfl,λ _=>by simp [d4],Kn cp6_2 rfl,λ _=>Sz,Kn cp7_0 rfl,Kn cp8_6 rfl,cy0,knK cy1 rfl,λ h=>cz1 (by simpa using h),ck0⟩
   ·simp only [List.getElem?_cons_zero,List.getElem?_cons_succ,Option.some.injEq] at ho;subst ho;rw [if_pos (by simp [Region.wanted])];have d2:=hd { on:=2,ground:=.data } Sz Dz;have v2:=ci2 d2;have d5:=hd { on:=5,ground:=.data } Sz Dz;have v5:=ci5 d5;simp [go_sem,Array.getD_eq_getD_getElem?,v2,v5];rw [hIA];exact ⟨D.put Dz _,U,Zq ci0 Dz rfl,Zq ci1 Dz rfl,Zq ci2 Dz rfl,Zq ci3 Dz rfl,Zq ci4 Dz rfl,Zq ci5 Dz rfl,λ _=>Xw (D.lt Sz) _,Zq ci8 Dz rfl,Kn cp2_1 rfl,Kn cp4_3 rfl,Kn cp5_4 rfl,λ _=>by simp [d2],λ _=>by simp [d5],Kn cp7_0 rfl,λ _=>Sz,cy0,knK cy1 rfl,λ h=>cz1 (by simpa using h),ck0⟩
   ·simp only [List.getElem?_cons_zero,List.getElem?_cons_succ,Option.some.injEq] at ho;subst ho;rw [if_pos (by simp [Region.wanted])];have e0:a.tmps[4]?.getD undef=.pointer (some ⟨w.heap.size+1+1,0,none⟩):=D.get Dz;have d0:=hd { on:=0,ground:=.data } Sz Dz;have v0:=ci0 d0;have HT1:=cy1 hLi;have HH1:=HT1.has;have lH1:=HH1.1;obtain ⟨cH1_0,fH1_0⟩:=HH1.2 0 _ rfl;simp [go_sem,Array.getD_eq_getD_getElem?,e0,v0,cH1_0,fH1_0];rw [hIA];exact ⟨D,Zy Oz [_] 0 _ U,kpK ci0 rfl,kpK ci1 rfl,kpK ci2 rfl,kpK ci3 rfl,kpK ci4 rfl,kpK ci5 rfl,kpK ci6 rfl,kpK ci8 rfl,Kn cp2_1 rfl,Kn cp4_3 rfl,Kn cp5_4 rfl,Kn cp6_2 rfl,Kn cp6_5 rfl,λ _=>by simp [d0],Kn cp8_6 rfl,(cy0).other (g':=w.heap.size+1+1) Oz [.slice Av R.length cv2] 0,λ h=>by simp at h,λ _=>HT1.store (us:=[.slice Av R.length cv2]) rfl,(ck0).otherC ((ck0).typ HT1 Dz) [.slice Av R.length cv2] 0⟩
   ·simp only [List.getElem?_cons_zero,List.getElem?_cons_succ,Option.some.injEq] at ho;subst ho;rw [if_pos (by simp [Region.wanted])];have d6:=hd { on:=6,ground:=.data } Sz Dz;have v6:=ci6 d6;simp [go_sem,Array.getD_eq_getD_getElem?,v6];rw [hIA];exact ⟨D.put Dz _,U,Zq ci0 Dz rfl,Zq ci1 Dz rfl,Zq ci2 Dz rfl,Zq ci3 Dz rfl,Zq ci4 Dz rfl,Zq ci5 Dz rfl,Zq ci6 Dz rfl,λ _=>Xw (D.lt Sz) _,Kn cp2_1 rfl,Kn cp4_3 rfl,Kn cp5_4 rfl,Kn cp6_2 rfl,Kn cp6_5 rfl,Kn cp7_0 rfl,λ _=>by simp [d6],cy0,knK cy1 rfl,λ h=>cz1 (by simpa using h),ck0⟩
  case he =>
   intro L a' wA Y hI';rw [hIA] at hI';obtain ⟨D,hbA,ci0,ci1,ci2,ci3,ci4,ci5,ci6,ci8,cp2_1,cp4_3,cp5_4,cp6_2,cp6_5,cp7_0,cp8_6,cy0,cy1,cz1,ck0⟩:=hI';have eA_8:=ci8 (Y 8 Dz);have HTA_0:=cy0;have HTA_1:=cz1 (Y 7 Dz);have NKA_0:=ck0;have hout:=D.outG Sz;simp only [List.foldl_cons,List.foldl_nil,eA_8] at hout;rw [hout];generalize a'.tmps[17]?.getD undef=xA_17;generalize a'.tmps[18]?.getD undef=xA_18;generalize a'.tmps[19]?.getD undef=xA_19;generalize a'.tmps[20]?.getD undef=xA_20;generalize a'.tmps[21]?.getD undef=xA_21;generalize a'.tmps[22]?.getD undef=xA_22;generalize a'.tmps[23]?.getD undef=xA_23;clear hout hIA D Y ci0 ci1 ci2 ci3 ci4 ci5 ci6 ci8 cp2_1 cp4_3 cp5_4 cp6_2 cp6_5 cp7_0 cp8_6 cy0 cy1 cz1 ck0;go_simp
   have HF:=HTA_1.has;obtain ⟨cHF_0,fHF_0⟩:=HF.2 0 _ rfl;have lF:=HF.1;go_wp2
   refine bodyPost_ret (v:=.tuple #[.agg #[.slice Av R.length cv2],.bool (!vd)]) (by simp [results,Tryz.results47,go_sem, *]) rfl ⟨.slice Av R.length cv2,R,by rw [D.out],λ _=>hR'.out,hro, ?_,b3.trans (hbA.mono Oz)⟩;exact NKA_0.mono Oz
theorem spanOk_r {s:K4} (h:XQ s=true):Xn s.low=true/\Xn s.high=true:=by
 simp only [XQ,Bool.and_eq_true] at h;exact ⟨h.1.1,h.1.2⟩
theorem admit_spanOk {r:XU} {e:List Half} {s:X9} {c:K4} (h:YL r e s=some c):XQ c=true:=by
 unfold YL at h;split at h
 ·cases h
 ·cases q:admL r s e with
  | none=>rw [q] at h;cases h
  | some w =>
   rw [q] at h;simp only [Option.bind_some] at h;split at h
   ·cases h;assumption
   ·cases h
theorem span_In {s:K4} (h:XQ s=true):s.In:=⟨Kg (spanOk_r h).1,Kg (spanOk_r h).2⟩
end Go.Proofs.YtbekjpkcicjcgaaGreat
