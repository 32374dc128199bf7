/-
 Parts of the inputs that a region admits: of the program and of the reference.
 Conditions: valid rooms, half planes and states.
-/
import Derived.Test.YtkjimfapbjdafaaGreatGrV
import Derived.Test.YtkjimfapbjdafaaGreatGrG
import Derived.Test.YtkjimfapbjdafaaGreatGrX
import Derived.Test.YtkjimfapbjdafaaGreatNewR
section
namespace Go.Proofs.YtkjimfapbjdafaaGreat
open Go.RowKit
theorem ratio_one {n:Int} (h : -1000≤n∧n≤1000):XD n 1=⟨n,1⟩:=by
 have:=ratio_less (c:=n) (n:=0) (d:=1) ⟨by omega,by omega⟩ ⟨by omega,by omega⟩ ⟨by omega,by omega⟩ (by decide)
 simpa using this
theorem four_of {m:List Int} (h:m.length=4):m=[m.getD 0 0,m.getD 1 0,m.getD 2 0,m.getD 3 0]:=by
 match m,h with
 | [_,_,_,_],_=>rfl
theorem whole_c (n:Int) (w:World) :
 Calls Tryz.prog 125 #[.int .i64 n] w fun e w'=>e=.returned (X9 ⟨n,1⟩)∧Below w.heap.size w w':=by
 have H0:=XG.new w #[.int .i64 0,.int .i64 0] 70
 have b0:=Xf (Below.refl w.heap.size w) (.cells #[.int .i64 0,.int .i64 0] 70)
 generalize hW:w.alloc (.cells #[.int .i64 0,.int .i64 0] 70)=W at *
 have hW':=Lib.hid hW
 clear hW
 obtain ⟨cH0_0,fH0_0⟩:=H0.2 0 _ rfl
 obtain ⟨cH0_1,fH0_1⟩:=H0.2 1 _ rfl
 have l0:=H0.1
 go_enter Tryz.func125,Tryz.ntmps125
 go_upto_region 1 with fail
 rw [hW'.out]
 clear hW'
 go_wp2
 refine bodyPost_ret (v:=.agg #[.int .i64 n,.int .i64 1]) (by simp [results,Tryz.results125,go_sem, *]) rfl ⟨rfl, ?_⟩
 exact Kl b0 (by omega) (o:=0) [_,_]
theorem slope_c (r:XJ) (a:Ye) (h:Half) (w:World) (ha : -5000000≤h.a*r.bx∧h.a*r.bx≤5000000) (hb : -5000000≤h.b*r.by_∧h.b*r.by_≤5000000) :
 Calls Tryz.prog 221 #[XY r a,YX h] w fun e w'=>e=.returned (.int .i64 (ZL r h))∧Below w.heap.size w w':=by
 go_enter Tryz.func221,Tryz.ntmps221
 go_wp2
 go_ret
 refine ⟨rfl, ?_⟩
 exact Xg
set_option maxRecDepth 100000 in
set_option maxHeartbeats 2000000 in
theorem mapped_c (m:List Int) (q:Int) (A:Option Addr) (c:Nat) (s:XC) (w:World) (hm:m.length=4) (h0 : -2000000000≤m.getD 0 0*s.x∧m.getD 0 0*s.x≤2000000000) (h1 : -2000000000≤m.getD 1 0*s.y∧m.getD 1 0*s.y≤2000000000) (h2 : -2000000000≤m.getD 2 0*s.x∧m.getD 2 0*s.x≤2000000000) (h3 : -2000000000≤m.getD 3 0*s.y∧m.getD 3 0*s.y≤2000000000) (hd:1≤q*s.d∧q*s.d≤2000000) (hs:Sl 1 YW w A m) :
 Calls Tryz.prog 220 #[Zi s,.slice A m.length c,.int .i64 q] w fun e w'=>e=.returned (.tuple #[.int .i64 (m.getD 0 0*s.x+m.getD 1 0*s.y),.int .i64 (m.getD 2 0*s.x+m.getD 3 0*s.y),.int .i64 (q*s.d)])∧Below w.heap.size w w':=by
 have e:=four_of hm
 generalize m.getD 0 0=m0 at *
 generalize m.getD 1 0=m1 at *
 generalize m.getD 2 0=m2 at *
 generalize m.getD 3 0=m3 at *
 subst e
 have H0:=XG.new w #[.int .i64 s.x,.int .i64 s.y,.int .i64 s.d] 44
 have b0:=Xf (Below.refl w.heap.size w) (.cells #[.int .i64 s.x,.int .i64 s.y,.int .i64 s.d] 44)
 have hs0:=hs.below b0
 generalize hW:w.alloc (.cells #[.int .i64 s.x,.int .i64 s.y,.int .i64 s.d] 44)=W at *
 have hW':=Lib.hid hW
 clear hW
 obtain ⟨b,off,hA,hblt,hc⟩:=hs0.at_ (show 0<[m0,m1,m2,m3].length by simp)
 have g0:=hc 0 _ rfl
 obtain ⟨b1,off1,hA1,_,hc1⟩:=hs0.at_ (show 1<[m0,m1,m2,m3].length by simp)
 obtain ⟨b2,off2,hA2,_,hc2⟩:=hs0.at_ (show 2<[m0,m1,m2,m3].length by simp)
 obtain ⟨b3,off3,hA3,_,hc3⟩:=hs0.at_ (show 3<[m0,m1,m2,m3].length by simp)
 rw [hA] at hA1 hA2 hA3
 cases hA1;cases hA2;cases hA3
 have g1:=hc1 0 _ rfl
 have g2:=hc2 0 _ rfl
 have g3:=hc3 0 _ rfl
 subst hA
 simp only [Nat.mul_one,Nat.add_zero,List.getElem_cons_zero,List.getElem_cons_succ] at g0 g1 g2 g3
 clear hc hc1 hc2 hc3 hs0
 obtain ⟨cH0_0,fH0_0⟩:=H0.2 0 _ rfl
 obtain ⟨cH0_1,fH0_1⟩:=H0.2 1 _ rfl
 obtain ⟨cH0_2,fH0_2⟩:=H0.2 2 _ rfl
 have l0:=H0.1
 go_enter Tryz.func220,Tryz.ntmps220
 go_upto_region 1 with fail
 rw [hW'.out]
 clear hW'
 go_big_quiet (fail)
 go_wp2
 refine bodyPost_ret (v:=.tuple #[.int .i64 (m0*s.x+m1*s.y),.int .i64 (m2*s.x+m3*s.y),.int .i64 (q*s.d)]) (by simp [results,Tryz.results220,go_sem]) rfl ⟨rfl, ?_⟩
 exact Xg
set_option maxRecDepth 100000 in
set_option maxHeartbeats 4000000 in
theorem l11Top_c (r:XJ) (a:Ye) (h:Half) (s:XC) (w:World) (B:RoomB r) (M:MapB r s) (P:AdmP r s h) (hs:Sl 1 YW w a.map.A r.map) :
 Calls Tryz.prog 216 #[XY r a,YX h,Zi s] w fun e w'=>e=.returned (.tuple #[.int .i64 (topA r s h),.int .i64 (Yv r s)])∧Below w.heap.size w w':=by
 obtain ⟨h0,h1,h2,h3,hd⟩:=M
 obtain ⟨_,_,pc,px,py,_⟩:=P
 have e:=four_of B.len
 clear B
 obtain ⟨map,div,bx,by_,low,high,noise,limits⟩:=r
 simp only [topA,mapX,mapY,Yv] at *
 generalize map.getD 0 0=m0 at *
 generalize map.getD 1 0=m1 at *
 generalize map.getD 2 0=m2 at *
 generalize map.getD 3 0=m3 at *
 subst e
 obtain ⟨W,hW⟩:∃ W,W=((w.alloc (.cells #[.slice a.map.A 4 a.map.c,.int .i64 div,.int .i64 bx,.int .i64 by_,.int .i64 low,.int .i64 high,.slice a.noise.A noise.length a.noise.c,.slice a.limits.A limits.length a.limits.c] 39)).alloc (.cells #[.int .i64 h.a,.int .i64 h.b,.int .i64 h.c] 175)).alloc (.cells #[.int .i64 s.x,.int .i64 s.y,.int .i64 s.d] 44):=⟨_,rfl⟩
 have HB:XG W w.heap.size [.slice a.map.A 4 a.map.c,.int .i64 div,.int .i64 bx,.int .i64 by_,.int .i64 low,.int .i64 high,.slice a.noise.A noise.length a.noise.c,.slice a.limits.A limits.length a.limits.c]:=by
  rw [hW]
  exact Ya
 have HH:XG W (w.heap.size+1) [.int .i64 h.a,.int .i64 h.b,.int .i64 h.c]:=by
  rw [hW]
  exact Ya
 have HS:XG W (w.heap.size+1+1) [.int .i64 s.x,.int .i64 s.y,.int .i64 s.d]:=by
  rw [hW]
  exact Ya
 have b0:Below w.heap.size w W:=by
  rw [hW]
  exact Xg
 have hs0:=hs.below b0
 have hW':=Lib.hid hW
 clear hW hs
 obtain ⟨b,off,hA,hblt,hc⟩:=hs0.at_ (show 0<[m0,m1,m2,m3].length by simp)
 have g0:=hc 0 _ rfl
 obtain ⟨b1,off1,hA1,_,hc1⟩:=hs0.at_ (show 1<[m0,m1,m2,m3].length by simp)
 obtain ⟨b2,off2,hA2,_,hc2⟩:=hs0.at_ (show 2<[m0,m1,m2,m3].length by simp)
 obtain ⟨b3,off3,hA3,_,hc3⟩:=hs0.at_ (show 3<[m0,m1,m2,m3].length by simp)
 rw [hA] at hA1 hA2 hA3
 cases hA1;cases hA2;cases hA3
 have g1:=hc1 0 _ rfl
 have g2:=hc2 0 _ rfl
 have g3:=hc3 0 _ rfl
 rw [hA] at HB hW'
 simp only [Nat.mul_one,Nat.add_zero,List.getElem_cons_zero,List.getElem_cons_succ] at g0 g1 g2 g3
 clear hc hc1 hc2 hc3 hs0
 obtain ⟨cHB_0,fHB_0⟩:=HB.2 0 _ rfl
 obtain ⟨cHB_1,fHB_1⟩:=HB.2 1 _ rfl
 obtain ⟨cHB_2,fHB_2⟩:=HB.2 2 _ rfl
 obtain ⟨cHB_3,fHB_3⟩:=HB.2 3 _ rfl
 obtain ⟨cHB_4,fHB_4⟩:=HB.2 4 _ rfl
 obtain ⟨cHB_5,fHB_5⟩:=HB.2 5 _ rfl
 obtain ⟨cHB_6,fHB_6⟩:=HB.2 6 _ rfl
 obtain ⟨cHB_7,fHB_7⟩:=HB.2 7 _ rfl
 obtain ⟨cHH_0,fHH_0⟩:=HH.2 0 _ rfl
 obtain ⟨cHH_1,fHH_1⟩:=HH.2 1 _ rfl
 obtain ⟨cHH_2,fHH_2⟩:=HH.2 2 _ rfl
 obtain ⟨cHS_0,fHS_0⟩:=HS.2 0 _ rfl
 obtain ⟨cHS_1,fHS_1⟩:=HS.2 1 _ rfl
 obtain ⟨cHS_2,fHS_2⟩:=HS.2 2 _ rfl
 have lB:=HB.1
 have lH:=HH.1
 have lS:=HS.1
 obtain ⟨⟨mA,mc⟩,nA,lA⟩:=a
 simp only at *
 subst hA
 go_enter Tryz.func216,Tryz.ntmps216
 go_upto_region 1 with fail
 rw [← hW'.out]
 clear hW'
 go_big_quiet (fail)
 go_upto_region 2 with fail
 go_big_quiet (fail)
 go_wp2
 refine bodyPost_ret (v:=.tuple #[.int .i64 (h.c*(div*s.d)-h.a*(m0*s.x+m1*s.y)-h.b*(m2*s.x+m3*s.y)),.int .i64 (div*s.d)]) (by simp [results,Tryz.results216,go_sem]) rfl ⟨rfl, ?_⟩
 exact Xg
end Go.Proofs.YtkjimfapbjdafaaGreat
end
section
namespace Go.Proofs.YtkjimfapbjdafaaGreat
open Go.RowKit
theorem ZX {w w':World} {B g:Nat} (b:Below B w w') (h:B≤g) (vs:List Value) (o:Nat):Below B w (w'.setCells g o vs):=Kl b h (o:=o) vs
theorem adm_no {r:XJ} {e:List Half} {s:XC} (h:100000<s.d):Yi r e s=none:=by unfold Yi;rw [if_pos h]
theorem adm_def {r:XJ} {e:List Half} {s:XC} (h:¬ 100000<s.d):Yi r e s=(admL r s e).bind fun w=>if YD w=true then some w else none:=by unfold Yi;rw [if_neg h]
set_option maxRecDepth 100000 in
set_option maxHeartbeats 3000000 in
theorem iAdmit_c (r:XJ) (e:List Half) (s:XC) (ra:Ye) (b:Zw) (w:World) (hr:XU r=true) (he:∀ h∈e,Xr h=true) (hle:e.length≤40) (hs:XQ s=true) (hsR:Yh w r ra) (hsE:Sl 3 Xj w b.A e) :
 Calls Tryz.prog 163 #[XY r ra,X5 e b,Zi s] w fun x w'=>x=.returned (optSpanV (Yi r e s))∧Below w.heap.size w w':=by
 obtain ⟨eA,ec⟩:=b
 simp only at hsE
 have B:=roomB hr
 obtain ⟨W,hW⟩:∃ W,W=(((w.alloc (.cells #[.slice ra.map.A (List.length r.map) ra.map.c,.int .i64 r.div,.int .i64 r.bx,.int .i64 r.by_,.int .i64 r.low,.int .i64 r.high,.slice ra.noise.A (List.length r.noise) ra.noise.c,.slice ra.limits.A (List.length r.limits) ra.limits.c] 39)).alloc (.cells #[.slice eA e.length ec] 37)).alloc (.cells #[.int .i64 s.x,.int .i64 s.y,.int .i64 s.d] 44)).alloc (.cells #[.int .i64 0,.int .i64 0,.int .i64 0,.int .i64 0] 72):=⟨_,rfl⟩
 have HB:Xu W w.heap.size 39 [.slice ra.map.A (List.length r.map) ra.map.c,.int .i64 r.div,.int .i64 r.bx,.int .i64 r.by_,.int .i64 r.low,.int .i64 r.high,.slice ra.noise.A (List.length r.noise) ra.noise.c,.slice ra.limits.A (List.length r.limits) ra.limits.c]:=by
  rw [hW];exact (((Xu.new w [.slice ra.map.A (List.length r.map) ra.map.c,.int .i64 r.div,.int .i64 r.bx,.int .i64 r.by_,.int .i64 r.low,.int .i64 r.high,.slice ra.noise.A (List.length r.noise) ra.noise.c,.slice ra.limits.A (List.length r.limits) ra.limits.c] 39).alloc _).alloc _).alloc _
 have HE:Xu W (w.heap.size+1) 37 [.slice eA e.length ec]:=by
  have h1:=(((Xu.new (w.alloc (.cells #[.slice ra.map.A (List.length r.map) ra.map.c,.int .i64 r.div,.int .i64 r.bx,.int .i64 r.by_,.int .i64 r.low,.int .i64 r.high,.slice ra.noise.A (List.length r.noise) ra.noise.c,.slice ra.limits.A (List.length r.limits) ra.limits.c] 39)) [.slice eA e.length ec] 37).alloc (.cells #[.int .i64 s.x,.int .i64 s.y,.int .i64 s.d] 44)).alloc (.cells #[.int .i64 0,.int .i64 0,.int .i64 0,.int .i64 0] 72))
  simp only [World.size_alloc] at h1;rw [hW];exact h1
 have HS:Xu W (w.heap.size+1+1) 44 [.int .i64 s.x,.int .i64 s.y,.int .i64 s.d]:=by
  have h1:=((Xu.new ((w.alloc (.cells #[.slice ra.map.A (List.length r.map) ra.map.c,.int .i64 r.div,.int .i64 r.bx,.int .i64 r.by_,.int .i64 r.low,.int .i64 r.high,.slice ra.noise.A (List.length r.noise) ra.noise.c,.slice ra.limits.A (List.length r.limits) ra.limits.c] 39)).alloc (.cells #[.slice eA e.length ec] 37)) [.int .i64 s.x,.int .i64 s.y,.int .i64 s.d] 44).alloc (.cells #[.int .i64 0,.int .i64 0,.int .i64 0,.int .i64 0] 72))
  simp only [World.size_alloc] at h1;rw [hW];exact h1
 have HR:Xu W (w.heap.size+1+1+1) 72 [.int .i64 0,.int .i64 0,.int .i64 0,.int .i64 0]:=by
  have h1:=Xu.new (((w.alloc (.cells #[.slice ra.map.A (List.length r.map) ra.map.c,.int .i64 r.div,.int .i64 r.bx,.int .i64 r.by_,.int .i64 r.low,.int .i64 r.high,.slice ra.noise.A (List.length r.noise) ra.noise.c,.slice ra.limits.A (List.length r.limits) ra.limits.c] 39)).alloc (.cells #[.slice eA e.length ec] 37)).alloc (.cells #[.int .i64 s.x,.int .i64 s.y,.int .i64 s.d] 44)) [.int .i64 0,.int .i64 0,.int .i64 0,.int .i64 0] 72
  simp only [World.size_alloc] at h1;rw [hW];exact h1
 have b0:Below w.heap.size w W:=by
  rw [hW]
  exact Xg
 have hW':=Lib.hid hW
 clear hW
 have HS_:=HS.has
 obtain ⟨cHS__0,fHS__0⟩:=HS_.2 0 _ rfl
 obtain ⟨cHS__1,fHS__1⟩:=HS_.2 1 _ rfl
 obtain ⟨cHS__2,fHS__2⟩:=HS_.2 2 _ rfl
 have lS:=HS_.1
 by_cases hd:100000<s.d
 ·have C:=Lib.hid (adm_no (r:=r) (e:=e) hd)
  go_enter Tryz.func163,Tryz.ntmps163
  go_upto_region 1 with fail
  rw [← hW'.out]
  clear hW'
  have HZ:=(HR).has
  obtain ⟨cHZ_0,fHZ_0⟩:=HZ.2 0 _ rfl
  obtain ⟨cHZ_1,fHZ_1⟩:=HZ.2 1 _ rfl
  obtain ⟨cHZ_2,fHZ_2⟩:=HZ.2 2 _ rfl
  obtain ⟨cHZ_3,fHZ_3⟩:=HZ.2 3 _ rfl
  have lZ:=HZ.1
  go_wp2
  refine bodyPost_ret (v:=.tuple #[.agg #[.int .i64 0,.int .i64 0,.int .i64 0,.int .i64 0],.bool false]) (by simp [results,Tryz.results163,go_sem, *]) rfl ⟨by rw [C.out];rfl, ?_⟩
  exact ZX b0 (by omega) [_,_,_,_] 0
 have hdef:=Lib.hid (adm_def (r:=r) (e:=e) hd)
 have M:=mapB B hs (by omega)
 have zW:=Xo HR
 have lB:=Xo HB
 have lE:=Xo HE
 have lS2:=Xo HS
 have hsR0:=hsR.below b0
 have hsE0:=hsE.below b0
 go_enter Tryz.func163,Tryz.ntmps163
 go_upto_region 1 with fail
 rw [← hW'.out]
 clear hW'
 go_upto_region 3 with fail
 clear HS_ cHS__0 cHS__1 cHS__2 fHS__0 fHS__1 fHS__2 lS
 have hBWA:W.heap.size≤W.heap.size:=Nat.le_refl _
 have hTA_0:=HB
 have hTA_1:=HE
 have hTA_2:=HS
 have hTA_3:=HR
 obtain ⟨IA,hIA⟩:∃ I:Act→(Nat→Bool)→Act→World→Prop,I=(fun a0 L a w'=>XI a0 a [20,21,22,23,24,25,26,8]∧Below (W.heap.size) W w'∧(L 0=true→a.tmps[20]?.getD undef=.pointer (some ⟨w.heap.size,4,none⟩))∧(L 1=true→a.tmps[21]?.getD undef=.int .i64 r.low)∧(L 2=true→a.tmps[22]?.getD undef=X9 ⟨r.low,1⟩)∧(L 3=true→a.tmps[23]?.getD undef=.pointer (some ⟨w.heap.size,5,none⟩))∧(L 4=true→a.tmps[24]?.getD undef=.int .i64 r.high)∧(L 5=true→a.tmps[25]?.getD undef=X9 ⟨r.high,1⟩)∧(L 6=true→a.tmps[26]?.getD undef=.agg #[.int .i64 r.low,.int .i64 1,.int .i64 r.high,.int .i64 1])∧(L 1=true→L 0=true)∧(L 2=true→L 1=true)∧(L 4=true→L 3=true)∧(L 5=true→L 4=true)∧(L 6=true→L 2=true)∧(L 6=true→L 5=true)∧(L 8=true→L 6=true)∧(L 8=true→L 7=true)∧(L 7=true→∃ g:Nat,a.tmps[8]?.getD undef=.pointer (some ⟨g,0,none⟩)∧W.heap.size≤g∧(L 8=false→Xu w' g 72 [.int .i64 0,.int .i64 0,.int .i64 0,.int .i64 0])∧(L 8=true→Xu w' (g) 72 [.int .i64 r.low,.int .i64 1,.int .i64 r.high,.int .i64 1]))∧Xu w' (w.heap.size) 39 [.slice ra.map.A (List.length r.map) ra.map.c,.int .i64 r.div,.int .i64 r.bx,.int .i64 r.by_,.int .i64 r.low,.int .i64 r.high,.slice ra.noise.A (List.length r.noise) ra.noise.c,.slice ra.limits.A (List.length r.limits) ra.limits.c]∧Xu w' (w.heap.size+1) 37 [.slice eA e.length ec]∧Xu w' (w.heap.size+1+1) 44 [.int .i64 s.x,.int .i64 s.y,.int .i64 s.d]∧Xu w' (w.heap.size+1+1+1) 72 [.int .i64 0,.int .i64 0,.int .i64 0,.int .i64 0]):=⟨_,rfl⟩
 refine Zp (by kernel_rfl) (by kernel_rfl) IA ?h0 ?hs ?he
 case h0 =>
  rw [hIA]
  exact ⟨XI.refl _ _,bR.drew,fun h=>absurd h (by simp),fun h=>absurd h (by simp),fun h=>absurd h (by simp),fun h=>absurd h (by simp),fun h=>absurd h (by simp),fun h=>absurd h (by simp),fun h=>absurd h (by simp),fun h=>absurd h (by simp),fun h=>absurd h (by simp),fun h=>absurd h (by simp),fun h=>absurd h (by simp),fun h=>absurd h (by simp),fun h=>absurd h (by simp),fun h=>absurd h (by simp),fun h=>absurd h (by simp),fun h=>absurd h (by simp),hTA_0,hTA_1,hTA_2,hTA_3⟩
 case hs =>
  intro L a w' i o ho hLi hd hI'
  rw [hIA] at hI'
  obtain ⟨C,D,ci0,ci1,ci2,ci3,ci4,ci5,ci6,cp1_0,cp2_1,cp4_3,cp5_4,cp6_2,cp6_5,cp8_6,cp8_7,ca4,cy0,cy1,cy2,cy3⟩:=hI'
  have hi:i<9:=by
   rcases Nat.lt_or_ge i 9 with h|h
   ·exact h
   ·rw [List.getElem?_eq_none (by simpa using h)] at ho;cases ho
  have zB:=D.size
  have hBw:W.heap.size≤w'.heap.size:=Nat.le_trans hBWA zB
  obtain rfl|rfl|rfl|rfl|rfl|rfl|rfl|rfl|rfl:i=0∨i=1∨i=2∨i=3∨i=4∨i=5∨i=6∨i=7∨i=8:=by omega
  ·simp only [List.getElem?_cons_zero,Option.some.injEq] at ho
   subst ho
   rw [if_pos (by simp [Region.wanted])]
   have e0:a.tmps[3]?.getD undef=.pointer (some ⟨w.heap.size,0,none⟩):=C.get (by decide)
   simp [go_sem,Array.getD_eq_getD_getElem?,e0]
   rw [hIA]
   exact ⟨C.put (by decide) _,D,fun _=>Xa (C.lt (by simp)) _,Xi ci1 (by decide) rfl,Xi ci2 (by decide) rfl,Xi ci3 (by decide) rfl,Xi ci4 (by decide) rfl,Xi ci5 (by decide) rfl,Xi ci6 (by decide) rfl,fun _=>by simp,Xk cp2_1 rfl,Xk cp4_3 rfl,Xk cp5_4 rfl,Xk cp6_2 rfl,Xk cp6_5 rfl,Xk cp8_6 rfl,Xk cp8_7 rfl,fun h=>by obtain ⟨g2,e2,hg2,y2,z2⟩:=ca4 (by simpa using h);exact ⟨g2,(Yt (by decide) _).trans e2,hg2,fun h=>y2 (by simpa using h),fun h=>z2 (by simpa using h)⟩,cy0,cy1,cy2,cy3⟩
  ·simp only [List.getElem?_cons_zero,List.getElem?_cons_succ,Option.some.injEq] at ho
   subst ho
   rw [if_pos (by simp [Region.wanted])]
   have d0:=hd { on:=0,ground:=.data } (by simp) (by decide)
   have v0:=ci0 d0
   have HT0:=cy0
   have HH0:=HT0.has
   have lH0:=HH0.1
   obtain ⟨cH0_4,fH0_4⟩:=HH0.2 4 _ rfl
   simp [go_sem,Array.getD_eq_getD_getElem?,v0,cH0_4]
   rw [hIA]
   exact ⟨C.put (by decide) _,D,Xi ci0 (by decide) rfl,fun _=>Xa (C.lt (by simp)) _,Xi ci2 (by decide) rfl,Xi ci3 (by decide) rfl,Xi ci4 (by decide) rfl,Xi ci5 (by decide) rfl,Xi ci6 (by decide) rfl,fun _=>by simp [d0],fun _=>by simp,Xk cp4_3 rfl,Xk cp5_4 rfl,Xk cp6_2 rfl,Xk cp6_5 rfl,Xk cp8_6 rfl,Xk cp8_7 rfl,fun h=>by obtain ⟨g2,e2,hg2,y2,z2⟩:=ca4 (by simpa using h);exact ⟨g2,(Yt (by decide) _).trans e2,hg2,fun h=>y2 (by simpa using h),fun h=>z2 (by simpa using h)⟩,cy0,cy1,cy2,cy3⟩
  ·simp only [List.getElem?_cons_zero,List.getElem?_cons_succ,Option.some.injEq] at ho
   subst ho
   rw [if_pos (by simp [Region.wanted])]
   have d1:=hd { on:=1,ground:=.data } (by simp) (by decide)
   have v1:=ci1 d1
   simp [go_sem,Array.getD_eq_getD_getElem?,v1]
   refine (whole_c r.low _).mono ?_
   rintro e wx ⟨rfl,hbx⟩
   rw [hIA]
   exact ⟨C.put (by decide) _,D.trans (hbx.mono hBw),Xi ci0 (by decide) rfl,Xi ci1 (by decide) rfl,fun _=>Xa (C.lt (by simp)) _,Xi ci3 (by decide) rfl,Xi ci4 (by decide) rfl,Xi ci5 (by decide) rfl,Xi ci6 (by decide) rfl,Xk cp1_0 rfl,fun _=>by simp [d1],Xk cp4_3 rfl,Xk cp5_4 rfl,fun _=>by simp,Xk cp6_5 rfl,Xk cp8_6 rfl,Xk cp8_7 rfl,fun h=>by obtain ⟨g2,e2,hg2,y2,z2⟩:=ca4 (by simpa using h);exact ⟨g2,(Yt (by decide) _).trans e2,hg2,fun h=>(y2 (by simpa using h)).below hbx,fun h=>(z2 (by simpa using h)).below hbx⟩,(cy0).below hbx,(cy1).below hbx,(cy2).below hbx,(cy3).below hbx⟩
  ·simp only [List.getElem?_cons_zero,List.getElem?_cons_succ,Option.some.injEq] at ho
   subst ho
   rw [if_pos (by simp [Region.wanted])]
   have e0:a.tmps[3]?.getD undef=.pointer (some ⟨w.heap.size,0,none⟩):=C.get (by decide)
   simp [go_sem,Array.getD_eq_getD_getElem?,e0]
   rw [hIA]
   exact ⟨C.put (by decide) _,D,Xi ci0 (by decide) rfl,Xi ci1 (by decide) rfl,Xi ci2 (by decide) rfl,fun _=>Xa (C.lt (by simp)) _,Xi ci4 (by decide) rfl,Xi ci5 (by decide) rfl,Xi ci6 (by decide) rfl,Xk cp1_0 rfl,Xk cp2_1 rfl,fun _=>by simp,Xk cp5_4 rfl,Xk cp6_2 rfl,Xk cp6_5 rfl,Xk cp8_6 rfl,Xk cp8_7 rfl,fun h=>by obtain ⟨g2,e2,hg2,y2,z2⟩:=ca4 (by simpa using h);exact ⟨g2,(Yt (by decide) _).trans e2,hg2,fun h=>y2 (by simpa using h),fun h=>z2 (by simpa using h)⟩,cy0,cy1,cy2,cy3⟩
  ·simp only [List.getElem?_cons_zero,List.getElem?_cons_succ,Option.some.injEq] at ho
   subst ho
   rw [if_pos (by simp [Region.wanted])]
   have d3:=hd { on:=3,ground:=.data } (by simp) (by decide)
   have v3:=ci3 d3
   have HT0:=cy0
   have HH0:=HT0.has
   have lH0:=HH0.1
   obtain ⟨cH0_5,fH0_5⟩:=HH0.2 5 _ rfl
   simp [go_sem,Array.getD_eq_getD_getElem?,v3,cH0_5]
   rw [hIA]
   exact ⟨C.put (by decide) _,D,Xi ci0 (by decide) rfl,Xi ci1 (by decide) rfl,Xi ci2 (by decide) rfl,Xi ci3 (by decide) rfl,fun _=>Xa (C.lt (by simp)) _,Xi ci5 (by decide) rfl,Xi ci6 (by decide) rfl,Xk cp1_0 rfl,Xk cp2_1 rfl,fun _=>by simp [d3],fun _=>by simp,Xk cp6_2 rfl,Xk cp6_5 rfl,Xk cp8_6 rfl,Xk cp8_7 rfl,fun h=>by obtain ⟨g2,e2,hg2,y2,z2⟩:=ca4 (by simpa using h);exact ⟨g2,(Yt (by decide) _).trans e2,hg2,fun h=>y2 (by simpa using h),fun h=>z2 (by simpa using h)⟩,cy0,cy1,cy2,cy3⟩
  ·simp only [List.getElem?_cons_zero,List.getElem?_cons_succ,Option.some.injEq] at ho
   subst ho
   rw [if_pos (by simp [Region.wanted])]
   have d4:=hd { on:=4,ground:=.data } (by simp) (by decide)
   have v4:=ci4 d4
   simp [go_sem,Array.getD_eq_getD_getElem?,v4]
   refine (whole_c r.high _).mono ?_
   rintro e wx ⟨rfl,hbx⟩
   rw [hIA]
   exact ⟨C.put (by decide) _,D.trans (hbx.mono hBw),Xi ci0 (by decide) rfl,Xi ci1 (by decide) rfl,Xi ci2 (by decide) rfl,Xi ci3 (by decide) rfl,Xi ci4 (by decide) rfl,fun _=>Xa (C.lt (by simp)) _,Xi ci6 (by decide) rfl,Xk cp1_0 rfl,Xk cp2_1 rfl,Xk cp4_3 rfl,fun _=>by simp [d4],Xk cp6_2 rfl,fun _=>by simp,Xk cp8_6 rfl,Xk cp8_7 rfl,fun h=>by obtain ⟨g2,e2,hg2,y2,z2⟩:=ca4 (by simpa using h);exact ⟨g2,(Yt (by decide) _).trans e2,hg2,fun h=>(y2 (by simpa using h)).below hbx,fun h=>(z2 (by simpa using h)).below hbx⟩,(cy0).below hbx,(cy1).below hbx,(cy2).below hbx,(cy3).below hbx⟩
  ·simp only [List.getElem?_cons_zero,List.getElem?_cons_succ,Option.some.injEq] at ho
   subst ho
   rw [if_pos (by simp [Region.wanted])]
   have d2:=hd { on:=2,ground:=.data } (by simp) (by decide)
   have v2:=ci2 d2
   have d5:=hd { on:=5,ground:=.data } (by simp) (by decide)
   have v5:=ci5 d5
   simp [go_sem,Array.getD_eq_getD_getElem?,v2,v5]
   rw [hIA]
   exact ⟨C.put (by decide) _,D,Xi ci0 (by decide) rfl,Xi ci1 (by decide) rfl,Xi ci2 (by decide) rfl,Xi ci3 (by decide) rfl,Xi ci4 (by decide) rfl,Xi ci5 (by decide) rfl,fun _=>Xa (C.lt (by simp)) _,Xk cp1_0 rfl,Xk cp2_1 rfl,Xk cp4_3 rfl,Xk cp5_4 rfl,fun _=>by simp [d2],fun _=>by simp [d5],fun _=>by simp,Xk cp8_7 rfl,fun h=>by obtain ⟨g2,e2,hg2,y2,z2⟩:=ca4 (by simpa using h);exact ⟨g2,(Yt (by decide) _).trans e2,hg2,fun h=>y2 (by simpa using h),fun h=>z2 (by simpa using h)⟩,cy0,cy1,cy2,cy3⟩
  ·simp only [List.getElem?_cons_zero,List.getElem?_cons_succ,Option.some.injEq] at ho
   subst ho
   rw [if_pos (by simp [Region.wanted])]
   simp [go_sem]
   rw [hIA]
   exact ⟨C.put (by decide) _,D.alloc hBw _,Xi ci0 (by decide) rfl,Xi ci1 (by decide) rfl,Xi ci2 (by decide) rfl,Xi ci3 (by decide) rfl,Xi ci4 (by decide) rfl,Xi ci5 (by decide) rfl,Xi ci6 (by decide) rfl,Xk cp1_0 rfl,Xk cp2_1 rfl,Xk cp4_3 rfl,Xk cp5_4 rfl,Xk cp6_2 rfl,Xk cp6_5 rfl,Xk cp8_6 rfl,fun _=>by simp,fun _=>⟨w'.heap.size,Xa (C.lt (by simp)) _,zB,fun _=>Xu.new w' [.int .i64 0,.int .i64 0,.int .i64 0,.int .i64 0] 72,fun h=>by have hq:=cp8_7 (by simpa using h);rw [hLi] at hq;cases hq⟩,(cy0).alloc _,(cy1).alloc _,(cy2).alloc _,(cy3).alloc _⟩
  ·simp only [List.getElem?_cons_zero,List.getElem?_cons_succ,Option.some.injEq] at ho
   subst ho
   rw [if_pos (by simp [Region.wanted])]
   have d6:=hd { on:=6,ground:=.data } (by simp) (by decide)
   have v6:=ci6 d6
   have d7:=hd { on:=7,ground:=.data } (by simp) (by decide)
   obtain ⟨gk,ek,hgk,yk,_⟩:=ca4 d7
   have HT4:=yk hLi
   have HH4:=HT4.has
   have lH4:=HH4.1
   obtain ⟨cH4_0,fH4_0⟩:=HH4.2 0 _ rfl
   obtain ⟨cH4_1,fH4_1⟩:=HH4.2 1 _ rfl
   obtain ⟨cH4_2,fH4_2⟩:=HH4.2 2 _ rfl
   obtain ⟨cH4_3,fH4_3⟩:=HH4.2 3 _ rfl
   simp [go_sem,Array.getD_eq_getD_getElem?,v6,ek,cH4_0,fH4_0,cH4_1,fH4_1,cH4_2,fH4_2,cH4_3,fH4_3]
   rw [hIA]
   exact ⟨C,X1 (by omega) [_,_,_,_] 0 _ D,Z4 ci0 rfl,Z4 ci1 rfl,Z4 ci2 rfl,Z4 ci3 rfl,Z4 ci4 rfl,Z4 ci5 rfl,Z4 ci6 rfl,Xk cp1_0 rfl,Xk cp2_1 rfl,Xk cp4_3 rfl,Xk cp5_4 rfl,Xk cp6_2 rfl,Xk cp6_5 rfl,fun _=>by simp [d6],fun _=>by simp [d7],fun _=>⟨gk,ek,hgk,fun h=>by simp at h,fun _=>HT4.store (us:=[.int .i64 r.low,.int .i64 1,.int .i64 r.high,.int .i64 1]) rfl⟩,(cy0).other (g':=gk) (by have hl:=Xo hTA_0;omega) [.int .i64 r.low,.int .i64 1,.int .i64 r.high,.int .i64 1] 0,(cy1).other (g':=gk) (by have hl:=Xo hTA_1;omega) [.int .i64 r.low,.int .i64 1,.int .i64 r.high,.int .i64 1] 0,(cy2).other (g':=gk) (by have hl:=Xo hTA_2;omega) [.int .i64 r.low,.int .i64 1,.int .i64 r.high,.int .i64 1] 0,(cy3).other (g':=gk) (by have hl:=Xo hTA_3;omega) [.int .i64 r.low,.int .i64 1,.int .i64 r.high,.int .i64 1] 0⟩
 case he =>
  intro L a' wA E hI'
  rw [hIA] at hI'
  obtain ⟨C,hbA,ci0,ci1,ci2,ci3,ci4,ci5,ci6,cp1_0,cp2_1,cp4_3,cp5_4,cp6_2,cp6_5,cp8_6,cp8_7,ca4,cy0,cy1,cy2,cy3⟩:=hI'
  obtain ⟨gA_4,eA_b4,hgA_4,_,cz4⟩:=ca4 (E 7 (by decide))
  have HTA_4:=cz4 (E 8 (by decide))
  have HTA_0:=cy0
  have HTA_1:=cy1
  have HTA_2:=cy2
  have HTA_3:=cy3
  have hout:=C.outG (by simp)
  simp only [List.foldl_cons,List.foldl_nil,eA_b4] at hout
  rw [hout]
  generalize a'.tmps[20]?.getD undef=xA_20
  generalize a'.tmps[21]?.getD undef=xA_21
  generalize a'.tmps[22]?.getD undef=xA_22
  generalize a'.tmps[23]?.getD undef=xA_23
  generalize a'.tmps[24]?.getD undef=xA_24
  generalize a'.tmps[25]?.getD undef=xA_25
  generalize a'.tmps[26]?.getD undef=xA_26
  clear hout hIA C E ci0 ci1 ci2 ci3 ci4 ci5 ci6 cp1_0 cp2_1 cp4_3 cp5_4 cp6_2 cp6_5 cp8_6 cp8_7 ca4 cy0 cy1 cy2 cy3
  go_simp
  have bA:=b0.trans (hbA.mono b0.size)
  have sR:=hsR0.below hbA
  have sE:=hsE0.below hbA
  have zA:=hbA.size
  have lg:=Xo HTA_4
  clear hTA_0 hTA_1 hTA_2 hTA_3 HB HE HS HR hsR0 hsE0 hBWA
  have hgs:w.heap.size+1+1+1<gA_4:=by omega
  have HB_:=HTA_0.has
  obtain ⟨cHB__0,fHB__0⟩:=HB_.2 0 _ rfl
  obtain ⟨cHB__1,fHB__1⟩:=HB_.2 1 _ rfl
  obtain ⟨cHB__2,fHB__2⟩:=HB_.2 2 _ rfl
  obtain ⟨cHB__3,fHB__3⟩:=HB_.2 3 _ rfl
  obtain ⟨cHB__4,fHB__4⟩:=HB_.2 4 _ rfl
  obtain ⟨cHB__5,fHB__5⟩:=HB_.2 5 _ rfl
  obtain ⟨cHB__6,fHB__6⟩:=HB_.2 6 _ rfl
  obtain ⟨cHB__7,fHB__7⟩:=HB_.2 7 _ rfl
  have HS_:=HTA_2.has
  obtain ⟨cHS__0,fHS__0⟩:=HS_.2 0 _ rfl
  obtain ⟨cHS__1,fHS__1⟩:=HS_.2 1 _ rfl
  obtain ⟨cHS__2,fHS__2⟩:=HS_.2 2 _ rfl
  have lB:=HB_.1
  have lS:=HS_.1
  have km:=mapped_c r.map r.div ra.map.A ra.map.c s wA B.len M.x0 M.x1 M.y0 M.y1 M.d sR.map
  change Calls _ _ _ _ fun e w'=>e=.returned (.tuple #[.int .i64 (mapX r s),.int .i64 (mapY r s),.int .i64 (Yv r s)])∧_ at km
  go_wp2_with (fail)
  refine km.mono ?_
  rintro x w4 ⟨rfl,hb4⟩
  clear HB_ HS_ km cHS__0 cHS__1 cHS__2 fHS__0 fHS__1 fHS__2 lS lB cHB__0 cHB__1 cHB__2 cHB__3 cHB__4 cHB__5 cHB__6 cHB__7 fHB__0 fHB__1 fHB__2 fHB__3 fHB__4 fHB__5 fHB__6 fHB__7
  have T0:=HTA_0.below hb4
  have T1:=HTA_1.below hb4
  have T2:=HTA_2.below hb4
  have T3:=HTA_3.below hb4
  have T4:=HTA_4.below hb4
  have b1:=Xb bA hb4
  have sR1:=sR.below hb4
  have sE1:=sE.below hb4
  have HE_:=T1.has
  obtain ⟨cHE__0,fHE__0⟩:=HE_.2 0 _ rfl
  have lE:=HE_.1
  go_wp2
  clear HE_ cHE__0 fHE__0 lE
  go_loopw [13,14,15,40,61,73,87] (fun _ _ _ i _ _ _ wr=>∃ k:Nat,k≤e.length∧i=.int .i64 k∧∃ v:Km,admL r s (e.take k)=some v∧Xu wr gA_4 72 [.int .i64 v.low.n,.int .i64 v.low.d,.int .i64 v.high.n,.int .i64 v.high.d]∧Xu wr (w.heap.size+1+1+1) 72 [.int .i64 0,.int .i64 0,.int .i64 0,.int .i64 0]∧Xu wr w.heap.size 39 [.slice ra.map.A (List.length r.map) ra.map.c,.int .i64 r.div,.int .i64 r.bx,.int .i64 r.by_,.int .i64 r.low,.int .i64 r.high,.slice ra.noise.A (List.length r.noise) ra.noise.c,.slice ra.limits.A (List.length r.limits) ra.limits.c]∧Xu wr (w.heap.size+1+1) 44 [.int .i64 s.x,.int .i64 s.y,.int .i64 s.d]∧Below w.heap.size w wr) (fun _ _ _ i _ _ _ _=>e.length-(intOf i).toNat)
  case atStart=>exact ⟨0,Nat.zero_le _,rfl,⟨⟨r.low,1⟩,⟨r.high,1⟩⟩,rfl,T4,T3,T0,T2,b1⟩
  case round =>
   obtain ⟨k,hk,rfl,v,hv,TS,TZ,TB,TP,hbr⟩:=hrel
   obtain ⟨vl,vh⟩:=admL_ok B M he k hk v hv
   have lTS:=Xo TS
   by_cases hlt:k<e.length
   ·obtain ⟨bb,off,hA,hblt,hc⟩:=(hsE.below hbr).at_ hlt
    have g0:=hc 0 _ rfl
    have g1:=hc 1 _ rfl
    have g2:=hc 2 _ rfl
    simp only [Nat.add_zero] at g0
    have P:=admP B M (he _ (List.getElem_mem hlt))
    have htk:=Lib.hid ((admL_take (r:=r) (s:=s) hlt).trans (by rw [hv];rfl:_=JT r s v e[k]))
    have hno:=Lib.hid (fun h=>admL_no (r:=r) (s:=s) hlt h)
    have hhi:=Lib.hid (fun h=>adm_high P M h)
    have hlo:=Lib.hid (fun h=>adm_low P M h)
    have hdD:=M.d
    clear hc hv
    generalize e[k]=h at *
    have XS:=TS.alloc (.cells #[.int .i64 h.a,.int .i64 h.b,.int .i64 h.c] 175)
    have XZ:=TZ.alloc (.cells #[.int .i64 h.a,.int .i64 h.b,.int .i64 h.c] 175)
    have XB:=TB.alloc (.cells #[.int .i64 h.a,.int .i64 h.b,.int .i64 h.c] 175)
    have XP:=TP.alloc (.cells #[.int .i64 h.a,.int .i64 h.b,.int .i64 h.c] 175)
    have bx:=Xf hbr (.cells #[.int .i64 h.a,.int .i64 h.b,.int .i64 h.c] 175)
    have XH:=XG.new wr #[.int .i64 h.a,.int .i64 h.b,.int .i64 h.c] 175
    subst hA
    skip
    go_upto_region 8 with fail
    clear g0 g1 g2 hblt TS TZ TB TP hbr
    generalize wr.alloc (.cells #[.int .i64 h.a,.int .i64 h.b,.int .i64 h.c] 175)=wx at *
    generalize wr.heap.size=gx at *
    obtain ⟨cXH_0,fXH_0⟩:=XH.2 0 _ rfl
    obtain ⟨cXH_1,fXH_1⟩:=XH.2 1 _ rfl
    obtain ⟨cXH_2,fXH_2⟩:=XH.2 2 _ rfl
    have lX:=XH.1
    have HB_:=XB.has
    obtain ⟨cHB__0,fHB__0⟩:=HB_.2 0 _ rfl
    obtain ⟨cHB__1,fHB__1⟩:=HB_.2 1 _ rfl
    obtain ⟨cHB__2,fHB__2⟩:=HB_.2 2 _ rfl
    obtain ⟨cHB__3,fHB__3⟩:=HB_.2 3 _ rfl
    obtain ⟨cHB__4,fHB__4⟩:=HB_.2 4 _ rfl
    obtain ⟨cHB__5,fHB__5⟩:=HB_.2 5 _ rfl
    obtain ⟨cHB__6,fHB__6⟩:=HB_.2 6 _ rfl
    obtain ⟨cHB__7,fHB__7⟩:=HB_.2 7 _ rfl
    have lB:=HB_.1
    have kt:=slope_c r ra h
    have pc:=P.c
    have px:=P.x
    have py:=P.y
    go_wp2_with (fail)
    refine (kt _ P.a P.b).mono ?_
    rintro x wy ⟨rfl,hby⟩
    skip
    have YS:=XS.below hby
    have YZ:=XZ.below hby
    have YB:=XB.below hby
    have YP:=XP.below hby
    have by_:=Xb bx hby
    obtain ⟨N,F⟩:∃ N,N=ZL r h:=⟨_,rfl⟩
    obtain ⟨T,hT⟩:∃ T,T=topA r s h:=⟨_,rfl⟩
    rw [show h.c*Yv r s-h.a*mapX r s-h.b*mapY r s=T from hT.symm]
    rw [← F]
    have hst:=Lib.hid (show JT r s v h=if 0<N then some ⟨v.low,Yk v.high (XD T (Yv r s*N))⟩ else if N<0 then some ⟨Yl v.low (XD (-T) (-(Yv r s)*N)),v.high⟩ else if T<0 then none else some v by rw [F,hT];rfl)
    rw [← F,← hT] at hhi hlo
    have pn:=P.n
    rw [← F] at pn
    have tb : -1000000000000000≤T∧T≤1000000000000000:=by have:=P.c;have:=P.x;have:=P.y;unfold topA at hT;omega
    have hN':=Lib.hid F
    have hT':=Lib.hid hT
    clear XS XZ XB XP bx XH cXH_0 cXH_1 cXH_2 fXH_0 fXH_1 fXH_2 lX HB_ cHB__0 cHB__1 cHB__2 cHB__3 cHB__4 cHB__5 cHB__6 cHB__7 fHB__0 fHB__1 fHB__2 fHB__3 fHB__4 fHB__5 fHB__6 fHB__7 lB hby P F hT kt pc px py
    by_cases hn:0<N
    ·obtain ⟨ht1,ht2⟩:=hhi.out hn
     have hs1:=Lib.hid (hst.out.trans (if_pos hn))
     have q3:=Yr ht1 ht2
     have kq:=fun W=>iRatioOf_c T (Yv r s*N) W ⟨by omega,by omega⟩ ⟨by omega,by omega⟩
     have km:=fun W=>iRatioMin_c v.high (XD T (Yv r s*N)) W (ZZ vh) (ZZ q3.1)
     generalize XD T (Yv r s*N)=q at *
     generalize Yk v.high q=m at *
     have hwn:IntKind.i64.wrap (Yv r s*N)=Yv r s*N:=IntWalk.i64_in _ (by omega)
     go_upto_region 11 with fail
     have hBWB:w.heap.size≤wy.heap.size:=by_.size
     have hTB_0:=YS
     have hTB_1:=YZ
     have hTB_2:=YB
     have hTB_3:=YP
     have lYS:=Xo YS
     have lYZ:=Xo YZ
     have lYB:=Xo YB
     have lYP:=Xo YP
     obtain ⟨IB,hIB⟩:∃ I:Act→(Nat→Bool)→Act→World→Prop,I=(fun a0 L a w'=>XI a0 a [64,65,66,67,68,69,70,71,72]∧Below (w.heap.size) wy w'∧(L 0=true→a.tmps[64]?.getD undef=.pointer (some ⟨gA_4,2,none⟩))∧(L 1=true→a.tmps[65]?.getD undef=X9 v.high)∧(L 2=true→a.tmps[66]?.getD undef=.int .i64 T)∧(L 3=true→a.tmps[67]?.getD undef=.int .i64 (Yv r s))∧(L 4=true→a.tmps[68]?.getD undef=.int .i64 N)∧(L 5=true→a.tmps[69]?.getD undef=.int .i64 (Yv r s*N))∧(L 6=true→a.tmps[70]?.getD undef=X9 q)∧(L 7=true→a.tmps[71]?.getD undef=X9 m)∧(L 8=true→a.tmps[72]?.getD undef=.pointer (some ⟨gA_4,2,none⟩))∧(L 1=true→L 0=true)∧(L 5=true→L 3=true)∧(L 5=true→L 4=true)∧(L 6=true→L 2=true)∧(L 6=true→L 5=true)∧(L 7=true→L 1=true)∧(L 7=true→L 6=true)∧(L 9=true→L 7=true)∧(L 9=true→L 8=true)∧(L 9=false→Xu w' (gA_4) 72 [.int .i64 v.low.n,.int .i64 v.low.d,.int .i64 v.high.n,.int .i64 v.high.d])∧(L 9=true→Xu w' (gA_4) 72 [.int .i64 v.low.n,.int .i64 v.low.d,.int .i64 m.n,.int .i64 m.d])∧Xu w' (w.heap.size+1+1+1) 72 [.int .i64 0,.int .i64 0,.int .i64 0,.int .i64 0]∧Xu w' (w.heap.size) 39 [.slice ra.map.A (List.length r.map) ra.map.c,.int .i64 r.div,.int .i64 r.bx,.int .i64 r.by_,.int .i64 r.low,.int .i64 r.high,.slice ra.noise.A (List.length r.noise) ra.noise.c,.slice ra.limits.A (List.length r.limits) ra.limits.c]∧Xu w' (w.heap.size+1+1) 44 [.int .i64 s.x,.int .i64 s.y,.int .i64 s.d]):=⟨_,rfl⟩
     refine Zp (by kernel_rfl) (by kernel_rfl) IB ?h0 ?hs ?he
     case h0 =>
      rw [hIB]
      exact ⟨XI.refl _ _,bR.drew,fun h=>absurd h (by simp),fun h=>absurd h (by simp),fun h=>absurd h (by simp),fun h=>absurd h (by simp),fun h=>absurd h (by simp),fun h=>absurd h (by simp),fun h=>absurd h (by simp),fun h=>absurd h (by simp),fun h=>absurd h (by simp),fun h=>absurd h (by simp),fun h=>absurd h (by simp),fun h=>absurd h (by simp),fun h=>absurd h (by simp),fun h=>absurd h (by simp),fun h=>absurd h (by simp),fun h=>absurd h (by simp),fun h=>absurd h (by simp),fun h=>absurd h (by simp),fun _=>hTB_0,fun h=>absurd h (by simp),hTB_1,hTB_2,hTB_3⟩
     case hs =>
      intro L a w' i o ho hLi hd hI'
      rw [hIB] at hI'
      obtain ⟨C,D,ci0,ci1,ci2,ci3,ci4,ci5,ci6,ci7,ci8,cp1_0,cp5_3,cp5_4,cp6_2,cp6_5,cp7_1,cp7_6,cp9_7,cp9_8,cy0,cz0,cy1,cy2,cy3⟩:=hI'
      have hi:i<10:=by
       rcases Nat.lt_or_ge i 10 with h|h
       ·exact h
       ·rw [List.getElem?_eq_none (by simpa using h)] at ho;cases ho
      have zB:=D.size
      have hBw:w.heap.size≤w'.heap.size:=Nat.le_trans hBWB zB
      obtain rfl|rfl|rfl|rfl|rfl|rfl|rfl|rfl|rfl|rfl:i=0∨i=1∨i=2∨i=3∨i=4∨i=5∨i=6∨i=7∨i=8∨i=9:=by omega
      ·simp only [List.getElem?_cons_zero,Option.some.injEq] at ho
       subst ho
       rw [if_pos (by simp [Region.wanted])]
       have e0:a.tmps[8]?.getD undef=.pointer (some ⟨gA_4,0,none⟩):=C.get (by decide)
       simp [go_sem,Array.getD_eq_getD_getElem?,e0]
       rw [hIB]
       exact ⟨C.put (by decide) _,D,fun _=>Xa (C.lt (by simp)) _,Xi ci1 (by decide) rfl,Xi ci2 (by decide) rfl,Xi ci3 (by decide) rfl,Xi ci4 (by decide) rfl,Xi ci5 (by decide) rfl,Xi ci6 (by decide) rfl,Xi ci7 (by decide) rfl,Xi ci8 (by decide) rfl,fun _=>by simp,Xk cp5_3 rfl,Xk cp5_4 rfl,Xk cp6_2 rfl,Xk cp6_5 rfl,Xk cp7_1 rfl,Xk cp7_6 rfl,Xk cp9_7 rfl,Xk cp9_8 rfl,K4 cy0 rfl,fun h=>cz0 (by simpa using h),cy1,cy2,cy3⟩
      ·simp only [List.getElem?_cons_zero,List.getElem?_cons_succ,Option.some.injEq] at ho
       subst ho
       rw [if_pos (by simp [Region.wanted])]
       have d0:=hd { on:=0,ground:=.data } (by simp) (by decide)
       have v0:=ci0 d0
       have HT0:=cy0 (by cases hq:L 9;exact rfl;exact absurd (cp7_1 (cp9_7 hq)) (by rw [hLi];decide))
       have HH0:=HT0.has
       have lH0:=HH0.1
       obtain ⟨cH0_2,fH0_2⟩:=HH0.2 2 _ rfl
       obtain ⟨cH0_3,fH0_3⟩:=HH0.2 3 _ rfl
       simp [go_sem,Array.getD_eq_getD_getElem?,v0,cH0_2,cH0_3]
       rw [hIB]
       exact ⟨C.put (by decide) _,D,Xi ci0 (by decide) rfl,fun _=>Xa (C.lt (by simp)) _,Xi ci2 (by decide) rfl,Xi ci3 (by decide) rfl,Xi ci4 (by decide) rfl,Xi ci5 (by decide) rfl,Xi ci6 (by decide) rfl,Xi ci7 (by decide) rfl,Xi ci8 (by decide) rfl,fun _=>by simp [d0],Xk cp5_3 rfl,Xk cp5_4 rfl,Xk cp6_2 rfl,Xk cp6_5 rfl,fun _=>by simp,Xk cp7_6 rfl,Xk cp9_7 rfl,Xk cp9_8 rfl,K4 cy0 rfl,fun h=>cz0 (by simpa using h),cy1,cy2,cy3⟩
      ·simp only [List.getElem?_cons_zero,List.getElem?_cons_succ,Option.some.injEq] at ho
       subst ho
       rw [if_pos (by simp [Region.wanted])]
       have e0:a.tmps[14]?.getD undef=.int .i64 T:=C.get (by decide)
       simp [go_sem,Array.getD_eq_getD_getElem?,e0]
       rw [hIB]
       exact ⟨C.put (by decide) _,D,Xi ci0 (by decide) rfl,Xi ci1 (by decide) rfl,fun _=>Xa (C.lt (by simp)) _,Xi ci3 (by decide) rfl,Xi ci4 (by decide) rfl,Xi ci5 (by decide) rfl,Xi ci6 (by decide) rfl,Xi ci7 (by decide) rfl,Xi ci8 (by decide) rfl,Xk cp1_0 rfl,Xk cp5_3 rfl,Xk cp5_4 rfl,fun _=>by simp,Xk cp6_5 rfl,Xk cp7_1 rfl,Xk cp7_6 rfl,Xk cp9_7 rfl,Xk cp9_8 rfl,K4 cy0 rfl,fun h=>cz0 (by simpa using h),cy1,cy2,cy3⟩
      ·simp only [List.getElem?_cons_zero,List.getElem?_cons_succ,Option.some.injEq] at ho
       subst ho
       rw [if_pos (by simp [Region.wanted])]
       have e0:a.tmps[11]?.getD undef=.int .i64 (Yv r s):=C.get (by decide)
       simp [go_sem,Array.getD_eq_getD_getElem?,e0]
       rw [hIB]
       exact ⟨C.put (by decide) _,D,Xi ci0 (by decide) rfl,Xi ci1 (by decide) rfl,Xi ci2 (by decide) rfl,fun _=>Xa (C.lt (by simp)) _,Xi ci4 (by decide) rfl,Xi ci5 (by decide) rfl,Xi ci6 (by decide) rfl,Xi ci7 (by decide) rfl,Xi ci8 (by decide) rfl,Xk cp1_0 rfl,fun _=>by simp,Xk cp5_4 rfl,Xk cp6_2 rfl,Xk cp6_5 rfl,Xk cp7_1 rfl,Xk cp7_6 rfl,Xk cp9_7 rfl,Xk cp9_8 rfl,K4 cy0 rfl,fun h=>cz0 (by simpa using h),cy1,cy2,cy3⟩
      ·simp only [List.getElem?_cons_zero,List.getElem?_cons_succ,Option.some.injEq] at ho
       subst ho
       rw [if_pos (by simp [Region.wanted])]
       have e0:a.tmps[15]?.getD undef=.int .i64 N:=C.get (by decide)
       simp [go_sem,Array.getD_eq_getD_getElem?,e0]
       rw [hIB]
       exact ⟨C.put (by decide) _,D,Xi ci0 (by decide) rfl,Xi ci1 (by decide) rfl,Xi ci2 (by decide) rfl,Xi ci3 (by decide) rfl,fun _=>Xa (C.lt (by simp)) _,Xi ci5 (by decide) rfl,Xi ci6 (by decide) rfl,Xi ci7 (by decide) rfl,Xi ci8 (by decide) rfl,Xk cp1_0 rfl,Xk cp5_3 rfl,fun _=>by simp,Xk cp6_2 rfl,Xk cp6_5 rfl,Xk cp7_1 rfl,Xk cp7_6 rfl,Xk cp9_7 rfl,Xk cp9_8 rfl,K4 cy0 rfl,fun h=>cz0 (by simpa using h),cy1,cy2,cy3⟩
      ·simp only [List.getElem?_cons_zero,List.getElem?_cons_succ,Option.some.injEq] at ho
       subst ho
       rw [if_pos (by simp [Region.wanted])]
       have d3:=hd { on:=3,ground:=.data } (by simp) (by decide)
       have v3:=ci3 d3
       have d4:=hd { on:=4,ground:=.data } (by simp) (by decide)
       have v4:=ci4 d4
       simp [go_sem,Array.getD_eq_getD_getElem?,v3,v4,hwn]
       rw [hIB]
       exact ⟨C.put (by decide) _,D,Xi ci0 (by decide) rfl,Xi ci1 (by decide) rfl,Xi ci2 (by decide) rfl,Xi ci3 (by decide) rfl,Xi ci4 (by decide) rfl,fun _=>Xa (C.lt (by simp)) _,Xi ci6 (by decide) rfl,Xi ci7 (by decide) rfl,Xi ci8 (by decide) rfl,Xk cp1_0 rfl,fun _=>by simp [d3],fun _=>by simp [d4],Xk cp6_2 rfl,fun _=>by simp,Xk cp7_1 rfl,Xk cp7_6 rfl,Xk cp9_7 rfl,Xk cp9_8 rfl,K4 cy0 rfl,fun h=>cz0 (by simpa using h),cy1,cy2,cy3⟩
      ·simp only [List.getElem?_cons_zero,List.getElem?_cons_succ,Option.some.injEq] at ho
       subst ho
       rw [if_pos (by simp [Region.wanted])]
       have d2:=hd { on:=2,ground:=.data } (by simp) (by decide)
       have v2:=ci2 d2
       have d5:=hd { on:=5,ground:=.data } (by simp) (by decide)
       have v5:=ci5 d5
       simp [go_sem,Array.getD_eq_getD_getElem?,v2,v5]
       refine (kq _).mono ?_
       rintro e wx ⟨rfl,hbx⟩
       rw [hIB]
       exact ⟨C.put (by decide) _,D.trans (hbx.mono hBw),Xi ci0 (by decide) rfl,Xi ci1 (by decide) rfl,Xi ci2 (by decide) rfl,Xi ci3 (by decide) rfl,Xi ci4 (by decide) rfl,Xi ci5 (by decide) rfl,fun _=>Xa (C.lt (by simp)) _,Xi ci7 (by decide) rfl,Xi ci8 (by decide) rfl,Xk cp1_0 rfl,Xk cp5_3 rfl,Xk cp5_4 rfl,fun _=>by simp [d2],fun _=>by simp [d5],Xk cp7_1 rfl,fun _=>by simp,Xk cp9_7 rfl,Xk cp9_8 rfl,fun h=>(cy0 (by simpa using h)).below hbx,fun h=>(cz0 (by simpa using h)).below hbx,(cy1).below hbx,(cy2).below hbx,(cy3).below hbx⟩
      ·simp only [List.getElem?_cons_zero,List.getElem?_cons_succ,Option.some.injEq] at ho
       subst ho
       rw [if_pos (by simp [Region.wanted])]
       have d1:=hd { on:=1,ground:=.data } (by simp) (by decide)
       have v1:=ci1 d1
       have d6:=hd { on:=6,ground:=.data } (by simp) (by decide)
       have v6:=ci6 d6
       simp [go_sem,Array.getD_eq_getD_getElem?,v1,v6]
       refine (km _).mono ?_
       rintro e wx ⟨rfl,hbx⟩
       rw [hIB]
       exact ⟨C.put (by decide) _,D.trans (hbx.mono hBw),Xi ci0 (by decide) rfl,Xi ci1 (by decide) rfl,Xi ci2 (by decide) rfl,Xi ci3 (by decide) rfl,Xi ci4 (by decide) rfl,Xi ci5 (by decide) rfl,Xi ci6 (by decide) rfl,fun _=>Xa (C.lt (by simp)) _,Xi ci8 (by decide) rfl,Xk cp1_0 rfl,Xk cp5_3 rfl,Xk cp5_4 rfl,Xk cp6_2 rfl,Xk cp6_5 rfl,fun _=>by simp [d1],fun _=>by simp [d6],fun _=>by simp,Xk cp9_8 rfl,fun h=>(cy0 (by simpa using h)).below hbx,fun h=>(cz0 (by simpa using h)).below hbx,(cy1).below hbx,(cy2).below hbx,(cy3).below hbx⟩
      ·simp only [List.getElem?_cons_zero,List.getElem?_cons_succ,Option.some.injEq] at ho
       subst ho
       rw [if_pos (by simp [Region.wanted])]
       have e0:a.tmps[8]?.getD undef=.pointer (some ⟨gA_4,0,none⟩):=C.get (by decide)
       simp [go_sem,Array.getD_eq_getD_getElem?,e0]
       rw [hIB]
       exact ⟨C.put (by decide) _,D,Xi ci0 (by decide) rfl,Xi ci1 (by decide) rfl,Xi ci2 (by decide) rfl,Xi ci3 (by decide) rfl,Xi ci4 (by decide) rfl,Xi ci5 (by decide) rfl,Xi ci6 (by decide) rfl,Xi ci7 (by decide) rfl,fun _=>Xa (C.lt (by simp)) _,Xk cp1_0 rfl,Xk cp5_3 rfl,Xk cp5_4 rfl,Xk cp6_2 rfl,Xk cp6_5 rfl,Xk cp7_1 rfl,Xk cp7_6 rfl,Xk cp9_7 rfl,fun _=>by simp,K4 cy0 rfl,fun h=>cz0 (by simpa using h),cy1,cy2,cy3⟩
      ·simp only [List.getElem?_cons_zero,List.getElem?_cons_succ,Option.some.injEq] at ho
       subst ho
       rw [if_pos (by simp [Region.wanted])]
       have d7:=hd { on:=7,ground:=.data } (by simp) (by decide)
       have v7:=ci7 d7
       have d8:=hd { on:=8,ground:=.data } (by simp) (by decide)
       have v8:=ci8 d8
       have HT0:=cy0 hLi
       have HH0:=HT0.has
       have lH0:=HH0.1
       obtain ⟨cH0_2,fH0_2⟩:=HH0.2 2 _ rfl
       obtain ⟨cH0_3,fH0_3⟩:=HH0.2 3 _ rfl
       simp [go_sem,Array.getD_eq_getD_getElem?,v7,v8,cH0_2,fH0_2,cH0_3,fH0_3]
       rw [hIB]
       exact ⟨C,X1 (by omega) [_,_] 2 _ D,Z4 ci0 rfl,Z4 ci1 rfl,Z4 ci2 rfl,Z4 ci3 rfl,Z4 ci4 rfl,Z4 ci5 rfl,Z4 ci6 rfl,Z4 ci7 rfl,Z4 ci8 rfl,Xk cp1_0 rfl,Xk cp5_3 rfl,Xk cp5_4 rfl,Xk cp6_2 rfl,Xk cp6_5 rfl,Xk cp7_1 rfl,Xk cp7_6 rfl,fun _=>by simp [d7],fun _=>by simp [d8],fun h=>by simp at h,fun _=>((HT0.set_ 2 _).set_ 3 _),(cy1).other (g':=gA_4) (by omega) [.int .i64 m.n,.int .i64 m.d] 2,(cy2).other (g':=gA_4) (by omega) [.int .i64 m.n,.int .i64 m.d] 2,(cy3).other (g':=gA_4) (by omega) [.int .i64 m.n,.int .i64 m.d] 2⟩
     case he =>
      intro L a' wB E hI'
      rw [hIB] at hI'
      obtain ⟨C,hbB,ci0,ci1,ci2,ci3,ci4,ci5,ci6,ci7,ci8,cp1_0,cp5_3,cp5_4,cp6_2,cp6_5,cp7_1,cp7_6,cp9_7,cp9_8,cy0,cz0,cy1,cy2,cy3⟩:=hI'
      have HTB_0:=cz0 (E 9 (by decide))
      have HTB_1:=cy1
      have HTB_2:=cy2
      have HTB_3:=cy3
      have hout:=C.outG (by simp)
      simp only [List.foldl_cons,List.foldl_nil] at hout
      rw [hout]
      generalize a'.tmps[64]?.getD undef=xB_64
      generalize a'.tmps[65]?.getD undef=xB_65
      generalize a'.tmps[66]?.getD undef=xB_66
      generalize a'.tmps[67]?.getD undef=xB_67
      generalize a'.tmps[68]?.getD undef=xB_68
      generalize a'.tmps[69]?.getD undef=xB_69
      generalize a'.tmps[70]?.getD undef=xB_70
      generalize a'.tmps[71]?.getD undef=xB_71
      generalize a'.tmps[72]?.getD undef=xB_72
      clear hout hIB C E ci0 ci1 ci2 ci3 ci4 ci5 ci6 ci7 ci8 cp1_0 cp5_3 cp5_4 cp6_2 cp6_5 cp7_1 cp7_6 cp9_7 cp9_8 cy0 cz0 cy1 cy2 cy3
      go_simp
      go_wp2
      go_roundw
      case rel=>exact ⟨k+1,by omega,by go_num,⟨v.low,m⟩,htk.out.trans hs1.out,HTB_0,HTB_1,HTB_2,HTB_3,by_.trans hbB⟩
      case measure=>simp [intOf];omega
    by_cases hn2:N<0
    ·obtain ⟨ht1,ht2⟩:=hlo.out hn2
     have hs1:=Lib.hid (hst.out.trans ((if_neg hn).trans (if_pos hn2)))
     have q3:=Yr ht1 ht2
     have kq:=fun W=>iRatioOf_c (-T) (-(Yv r s)*N) W ⟨by omega,by omega⟩ ⟨by omega,by omega⟩
     have km:=fun W=>iRatioMax_c v.low (XD (-T) (-(Yv r s)*N)) W (ZZ vl) (ZZ q3.1)
     generalize XD (-T) (-(Yv r s)*N)=q at *
     generalize Yl v.low q=m at *
     have hwn:IntKind.i64.wrap (-(Yv r s)*N) = -(Yv r s)*N:=IntWalk.i64_in _ (by omega)
     have hwd:IntKind.i64.wrap (-(Yv r s)) = -(Yv r s):=IntWalk.i64_in _ (by omega)
     have hwt:IntKind.i64.wrap (-T) = -T:=IntWalk.i64_in _ (by omega)
     go_upto_region 13 with fail
     have hBWC:w.heap.size≤wy.heap.size:=by_.size
     have hTC_0:=YS
     have hTC_1:=YZ
     have hTC_2:=YB
     have hTC_3:=YP
     have lYS:=Xo YS
     have lYZ:=Xo YZ
     have lYB:=Xo YB
     have lYP:=Xo YP
     obtain ⟨IC,hIC⟩:∃ I:Act→(Nat→Bool)→Act→World→Prop,I=(fun a0 L a w'=>XI a0 a [76,77,78,79,80,81,82,83,84,85,86]∧Below (w.heap.size) wy w'∧(L 0=true→a.tmps[76]?.getD undef=.pointer (some ⟨gA_4,0,none⟩))∧(L 1=true→a.tmps[77]?.getD undef=X9 v.low)∧(L 2=true→a.tmps[78]?.getD undef=.int .i64 T)∧(L 3=true→a.tmps[79]?.getD undef=.int .i64 (-T))∧(L 4=true→a.tmps[80]?.getD undef=.int .i64 (Yv r s))∧(L 5=true→a.tmps[81]?.getD undef=.int .i64 (-(Yv r s)))∧(L 6=true→a.tmps[82]?.getD undef=.int .i64 N)∧(L 7=true→a.tmps[83]?.getD undef=.int .i64 (-(Yv r s)*N))∧(L 8=true→a.tmps[84]?.getD undef=X9 q)∧(L 9=true→a.tmps[85]?.getD undef=X9 m)∧(L 10=true→a.tmps[86]?.getD undef=.pointer (some ⟨gA_4,0,none⟩))∧(L 1=true→L 0=true)∧(L 3=true→L 2=true)∧(L 5=true→L 4=true)∧(L 7=true→L 5=true)∧(L 7=true→L 6=true)∧(L 8=true→L 3=true)∧(L 8=true→L 7=true)∧(L 9=true→L 1=true)∧(L 9=true→L 8=true)∧(L 11=true→L 9=true)∧(L 11=true→L 10=true)∧(L 11=false→Xu w' (gA_4) 72 [.int .i64 v.low.n,.int .i64 v.low.d,.int .i64 v.high.n,.int .i64 v.high.d])∧(L 11=true→Xu w' (gA_4) 72 [.int .i64 m.n,.int .i64 m.d,.int .i64 v.high.n,.int .i64 v.high.d])∧Xu w' (w.heap.size+1+1+1) 72 [.int .i64 0,.int .i64 0,.int .i64 0,.int .i64 0]∧Xu w' (w.heap.size) 39 [.slice ra.map.A (List.length r.map) ra.map.c,.int .i64 r.div,.int .i64 r.bx,.int .i64 r.by_,.int .i64 r.low,.int .i64 r.high,.slice ra.noise.A (List.length r.noise) ra.noise.c,.slice ra.limits.A (List.length r.limits) ra.limits.c]∧Xu w' (w.heap.size+1+1) 44 [.int .i64 s.x,.int .i64 s.y,.int .i64 s.d]):=⟨_,rfl⟩
     refine Zp (by kernel_rfl) (by kernel_rfl) IC ?h0 ?hs ?he
     case h0 =>
      rw [hIC]
      exact ⟨XI.refl _ _,bR.drew,fun h=>absurd h (by simp),fun h=>absurd h (by simp),fun h=>absurd h (by simp),fun h=>absurd h (by simp),fun h=>absurd h (by simp),fun h=>absurd h (by simp),fun h=>absurd h (by simp),fun h=>absurd h (by simp),fun h=>absurd h (by simp),fun h=>absurd h (by simp),fun h=>absurd h (by simp),fun h=>absurd h (by simp),fun h=>absurd h (by simp),fun h=>absurd h (by simp),fun h=>absurd h (by simp),fun h=>absurd h (by simp),fun h=>absurd h (by simp),fun h=>absurd h (by simp),fun h=>absurd h (by simp),fun h=>absurd h (by simp),fun h=>absurd h (by simp),fun h=>absurd h (by simp),fun _=>hTC_0,fun h=>absurd h (by simp),hTC_1,hTC_2,hTC_3⟩
     case hs =>
      intro L a w' i o ho hLi hd hI'
      rw [hIC] at hI'
      obtain ⟨C,D,ci0,ci1,ci2,ci3,ci4,ci5,ci6,ci7,ci8,ci9,ci10,cp1_0,cp3_2,cp5_4,cp7_5,cp7_6,cp8_3,cp8_7,cp9_1,cp9_8,cp11_9,cp11_10,cy0,cz0,cy1,cy2,cy3⟩:=hI'
      have hi:i<12:=by
       rcases Nat.lt_or_ge i 12 with h|h
       ·exact h
       ·rw [List.getElem?_eq_none (by simpa using h)] at ho;cases ho
      have zB:=D.size
      have hBw:w.heap.size≤w'.heap.size:=Nat.le_trans hBWC zB
      obtain rfl|rfl|rfl|rfl|rfl|rfl|rfl|rfl|rfl|rfl|rfl|rfl:i=0∨i=1∨i=2∨i=3∨i=4∨i=5∨i=6∨i=7∨i=8∨i=9∨i=10∨i=11:=by omega
      ·simp only [List.getElem?_cons_zero,Option.some.injEq] at ho
       subst ho
       rw [if_pos (by simp [Region.wanted])]
       have e0:a.tmps[8]?.getD undef=.pointer (some ⟨gA_4,0,none⟩):=C.get (by decide)
       simp [go_sem,Array.getD_eq_getD_getElem?,e0]
       rw [hIC]
       exact ⟨C.put (by decide) _,D,fun _=>Xa (C.lt (by simp)) _,Xi ci1 (by decide) rfl,Xi ci2 (by decide) rfl,Xi ci3 (by decide) rfl,Xi ci4 (by decide) rfl,Xi ci5 (by decide) rfl,Xi ci6 (by decide) rfl,Xi ci7 (by decide) rfl,Xi ci8 (by decide) rfl,Xi ci9 (by decide) rfl,Xi ci10 (by decide) rfl,fun _=>by simp,Xk cp3_2 rfl,Xk cp5_4 rfl,Xk cp7_5 rfl,Xk cp7_6 rfl,Xk cp8_3 rfl,Xk cp8_7 rfl,Xk cp9_1 rfl,Xk cp9_8 rfl,Xk cp11_9 rfl,Xk cp11_10 rfl,K4 cy0 rfl,fun h=>cz0 (by simpa using h),cy1,cy2,cy3⟩
      ·simp only [List.getElem?_cons_zero,List.getElem?_cons_succ,Option.some.injEq] at ho
       subst ho
       rw [if_pos (by simp [Region.wanted])]
       have d0:=hd { on:=0,ground:=.data } (by simp) (by decide)
       have v0:=ci0 d0
       have HT0:=cy0 (by cases hq:L 11;exact rfl;exact absurd (cp9_1 (cp11_9 hq)) (by rw [hLi];decide))
       have HH0:=HT0.has
       have lH0:=HH0.1
       obtain ⟨cH0_0,fH0_0⟩:=HH0.2 0 _ rfl
       obtain ⟨cH0_1,fH0_1⟩:=HH0.2 1 _ rfl
       simp [go_sem,Array.getD_eq_getD_getElem?,v0,cH0_0,cH0_1]
       rw [hIC]
       exact ⟨C.put (by decide) _,D,Xi ci0 (by decide) rfl,fun _=>Xa (C.lt (by simp)) _,Xi ci2 (by decide) rfl,Xi ci3 (by decide) rfl,Xi ci4 (by decide) rfl,Xi ci5 (by decide) rfl,Xi ci6 (by decide) rfl,Xi ci7 (by decide) rfl,Xi ci8 (by decide) rfl,Xi ci9 (by decide) rfl,Xi ci10 (by decide) rfl,fun _=>by simp [d0],Xk cp3_2 rfl,Xk cp5_4 rfl,Xk cp7_5 rfl,Xk cp7_6 rfl,Xk cp8_3 rfl,Xk cp8_7 rfl,fun _=>by simp,Xk cp9_8 rfl,Xk cp11_9 rfl,Xk cp11_10 rfl,K4 cy0 rfl,fun h=>cz0 (by simpa using h),cy1,cy2,cy3⟩
      ·simp only [List.getElem?_cons_zero,List.getElem?_cons_succ,Option.some.injEq] at ho
       subst ho
       rw [if_pos (by simp [Region.wanted])]
       have e0:a.tmps[14]?.getD undef=.int .i64 T:=C.get (by decide)
       simp [go_sem,Array.getD_eq_getD_getElem?,e0]
       rw [hIC]
       exact ⟨C.put (by decide) _,D,Xi ci0 (by decide) rfl,Xi ci1 (by decide) rfl,fun _=>Xa (C.lt (by simp)) _,Xi ci3 (by decide) rfl,Xi ci4 (by decide) rfl,Xi ci5 (by decide) rfl,Xi ci6 (by decide) rfl,Xi ci7 (by decide) rfl,Xi ci8 (by decide) rfl,Xi ci9 (by decide) rfl,Xi ci10 (by decide) rfl,Xk cp1_0 rfl,fun _=>by simp,Xk cp5_4 rfl,Xk cp7_5 rfl,Xk cp7_6 rfl,Xk cp8_3 rfl,Xk cp8_7 rfl,Xk cp9_1 rfl,Xk cp9_8 rfl,Xk cp11_9 rfl,Xk cp11_10 rfl,K4 cy0 rfl,fun h=>cz0 (by simpa using h),cy1,cy2,cy3⟩
      ·simp only [List.getElem?_cons_zero,List.getElem?_cons_succ,Option.some.injEq] at ho
       subst ho
       rw [if_pos (by simp [Region.wanted])]
       have d2:=hd { on:=2,ground:=.data } (by simp) (by decide)
       have v2:=ci2 d2
       simp [go_sem,Array.getD_eq_getD_getElem?,v2,hwt]
       rw [hIC]
       exact ⟨C.put (by decide) _,D,Xi ci0 (by decide) rfl,Xi ci1 (by decide) rfl,Xi ci2 (by decide) rfl,fun _=>Xa (C.lt (by simp)) _,Xi ci4 (by decide) rfl,Xi ci5 (by decide) rfl,Xi ci6 (by decide) rfl,Xi ci7 (by decide) rfl,Xi ci8 (by decide) rfl,Xi ci9 (by decide) rfl,Xi ci10 (by decide) rfl,Xk cp1_0 rfl,fun _=>by simp [d2],Xk cp5_4 rfl,Xk cp7_5 rfl,Xk cp7_6 rfl,fun _=>by simp,Xk cp8_7 rfl,Xk cp9_1 rfl,Xk cp9_8 rfl,Xk cp11_9 rfl,Xk cp11_10 rfl,K4 cy0 rfl,fun h=>cz0 (by simpa using h),cy1,cy2,cy3⟩
      ·simp only [List.getElem?_cons_zero,List.getElem?_cons_succ,Option.some.injEq] at ho
       subst ho
       rw [if_pos (by simp [Region.wanted])]
       have e0:a.tmps[11]?.getD undef=.int .i64 (Yv r s):=C.get (by decide)
       simp [go_sem,Array.getD_eq_getD_getElem?,e0]
       rw [hIC]
       exact ⟨C.put (by decide) _,D,Xi ci0 (by decide) rfl,Xi ci1 (by decide) rfl,Xi ci2 (by decide) rfl,Xi ci3 (by decide) rfl,fun _=>Xa (C.lt (by simp)) _,Xi ci5 (by decide) rfl,Xi ci6 (by decide) rfl,Xi ci7 (by decide) rfl,Xi ci8 (by decide) rfl,Xi ci9 (by decide) rfl,Xi ci10 (by decide) rfl,Xk cp1_0 rfl,Xk cp3_2 rfl,fun _=>by simp,Xk cp7_5 rfl,Xk cp7_6 rfl,Xk cp8_3 rfl,Xk cp8_7 rfl,Xk cp9_1 rfl,Xk cp9_8 rfl,Xk cp11_9 rfl,Xk cp11_10 rfl,K4 cy0 rfl,fun h=>cz0 (by simpa using h),cy1,cy2,cy3⟩
      ·simp only [List.getElem?_cons_zero,List.getElem?_cons_succ,Option.some.injEq] at ho
       subst ho
       rw [if_pos (by simp [Region.wanted])]
       have d4:=hd { on:=4,ground:=.data } (by simp) (by decide)
       have v4:=ci4 d4
       simp [go_sem,Array.getD_eq_getD_getElem?,v4,hwd]
       rw [hIC]
       exact ⟨C.put (by decide) _,D,Xi ci0 (by decide) rfl,Xi ci1 (by decide) rfl,Xi ci2 (by decide) rfl,Xi ci3 (by decide) rfl,Xi ci4 (by decide) rfl,fun _=>Xa (C.lt (by simp)) _,Xi ci6 (by decide) rfl,Xi ci7 (by decide) rfl,Xi ci8 (by decide) rfl,Xi ci9 (by decide) rfl,Xi ci10 (by decide) rfl,Xk cp1_0 rfl,Xk cp3_2 rfl,fun _=>by simp [d4],fun _=>by simp,Xk cp7_6 rfl,Xk cp8_3 rfl,Xk cp8_7 rfl,Xk cp9_1 rfl,Xk cp9_8 rfl,Xk cp11_9 rfl,Xk cp11_10 rfl,K4 cy0 rfl,fun h=>cz0 (by simpa using h),cy1,cy2,cy3⟩
      ·simp only [List.getElem?_cons_zero,List.getElem?_cons_succ,Option.some.injEq] at ho
       subst ho
       rw [if_pos (by simp [Region.wanted])]
       have e0:a.tmps[15]?.getD undef=.int .i64 N:=C.get (by decide)
       simp [go_sem,Array.getD_eq_getD_getElem?,e0]
       rw [hIC]
       exact ⟨C.put (by decide) _,D,Xi ci0 (by decide) rfl,Xi ci1 (by decide) rfl,Xi ci2 (by decide) rfl,Xi ci3 (by decide) rfl,Xi ci4 (by decide) rfl,Xi ci5 (by decide) rfl,fun _=>Xa (C.lt (by simp)) _,Xi ci7 (by decide) rfl,Xi ci8 (by decide) rfl,Xi ci9 (by decide) rfl,Xi ci10 (by decide) rfl,Xk cp1_0 rfl,Xk cp3_2 rfl,Xk cp5_4 rfl,Xk cp7_5 rfl,fun _=>by simp,Xk cp8_3 rfl,Xk cp8_7 rfl,Xk cp9_1 rfl,Xk cp9_8 rfl,Xk cp11_9 rfl,Xk cp11_10 rfl,K4 cy0 rfl,fun h=>cz0 (by simpa using h),cy1,cy2,cy3⟩
      ·simp only [List.getElem?_cons_zero,List.getElem?_cons_succ,Option.some.injEq] at ho
       subst ho
       rw [if_pos (by simp [Region.wanted])]
       have d5:=hd { on:=5,ground:=.data } (by simp) (by decide)
       have v5:=ci5 d5
       have d6:=hd { on:=6,ground:=.data } (by simp) (by decide)
       have v6:=ci6 d6
       simp [go_sem,Array.getD_eq_getD_getElem?,v5,v6,hwn]
       rw [hIC]
       exact ⟨C.put (by decide) _,D,Xi ci0 (by decide) rfl,Xi ci1 (by decide) rfl,Xi ci2 (by decide) rfl,Xi ci3 (by decide) rfl,Xi ci4 (by decide) rfl,Xi ci5 (by decide) rfl,Xi ci6 (by decide) rfl,fun _=>Xa (C.lt (by simp)) _,Xi ci8 (by decide) rfl,Xi ci9 (by decide) rfl,Xi ci10 (by decide) rfl,Xk cp1_0 rfl,Xk cp3_2 rfl,Xk cp5_4 rfl,fun _=>by simp [d5],fun _=>by simp [d6],Xk cp8_3 rfl,fun _=>by simp,Xk cp9_1 rfl,Xk cp9_8 rfl,Xk cp11_9 rfl,Xk cp11_10 rfl,K4 cy0 rfl,fun h=>cz0 (by simpa using h),cy1,cy2,cy3⟩
      ·simp only [List.getElem?_cons_zero,List.getElem?_cons_succ,Option.some.injEq] at ho
       subst ho
       rw [if_pos (by simp [Region.wanted])]
       have d3:=hd { on:=3,ground:=.data } (by simp) (by decide)
       have v3:=ci3 d3
       have d7:=hd { on:=7,ground:=.data } (by simp) (by decide)
       have v7:=ci7 d7
       simp [go_sem,Array.getD_eq_getD_getElem?,v3,v7]
       refine (kq _).mono ?_
       rintro e wx ⟨rfl,hbx⟩
       rw [hIC]
       exact ⟨C.put (by decide) _,D.trans (hbx.mono hBw),Xi ci0 (by decide) rfl,Xi ci1 (by decide) rfl,Xi ci2 (by decide) rfl,Xi ci3 (by decide) rfl,Xi ci4 (by decide) rfl,Xi ci5 (by decide) rfl,Xi ci6 (by decide) rfl,Xi ci7 (by decide) rfl,fun _=>Xa (C.lt (by simp)) _,Xi ci9 (by decide) rfl,Xi ci10 (by decide) rfl,Xk cp1_0 rfl,Xk cp3_2 rfl,Xk cp5_4 rfl,Xk cp7_5 rfl,Xk cp7_6 rfl,fun _=>by simp [d3],fun _=>by simp [d7],Xk cp9_1 rfl,fun _=>by simp,Xk cp11_9 rfl,Xk cp11_10 rfl,fun h=>(cy0 (by simpa using h)).below hbx,fun h=>(cz0 (by simpa using h)).below hbx,(cy1).below hbx,(cy2).below hbx,(cy3).below hbx⟩
      ·simp only [List.getElem?_cons_zero,List.getElem?_cons_succ,Option.some.injEq] at ho
       subst ho
       rw [if_pos (by simp [Region.wanted])]
       have d1:=hd { on:=1,ground:=.data } (by simp) (by decide)
       have v1:=ci1 d1
       have d8:=hd { on:=8,ground:=.data } (by simp) (by decide)
       have v8:=ci8 d8
       simp [go_sem,Array.getD_eq_getD_getElem?,v1,v8]
       refine (km _).mono ?_
       rintro e wx ⟨rfl,hbx⟩
       rw [hIC]
       exact ⟨C.put (by decide) _,D.trans (hbx.mono hBw),Xi ci0 (by decide) rfl,Xi ci1 (by decide) rfl,Xi ci2 (by decide) rfl,Xi ci3 (by decide) rfl,Xi ci4 (by decide) rfl,Xi ci5 (by decide) rfl,Xi ci6 (by decide) rfl,Xi ci7 (by decide) rfl,Xi ci8 (by decide) rfl,fun _=>Xa (C.lt (by simp)) _,Xi ci10 (by decide) rfl,Xk cp1_0 rfl,Xk cp3_2 rfl,Xk cp5_4 rfl,Xk cp7_5 rfl,Xk cp7_6 rfl,Xk cp8_3 rfl,Xk cp8_7 rfl,fun _=>by simp [d1],fun _=>by simp [d8],fun _=>by simp,Xk cp11_10 rfl,fun h=>(cy0 (by simpa using h)).below hbx,fun h=>(cz0 (by simpa using h)).below hbx,(cy1).below hbx,(cy2).below hbx,(cy3).below hbx⟩
      ·simp only [List.getElem?_cons_zero,List.getElem?_cons_succ,Option.some.injEq] at ho
       subst ho
       rw [if_pos (by simp [Region.wanted])]
       have e0:a.tmps[8]?.getD undef=.pointer (some ⟨gA_4,0,none⟩):=C.get (by decide)
       simp [go_sem,Array.getD_eq_getD_getElem?,e0]
       rw [hIC]
       exact ⟨C.put (by decide) _,D,Xi ci0 (by decide) rfl,Xi ci1 (by decide) rfl,Xi ci2 (by decide) rfl,Xi ci3 (by decide) rfl,Xi ci4 (by decide) rfl,Xi ci5 (by decide) rfl,Xi ci6 (by decide) rfl,Xi ci7 (by decide) rfl,Xi ci8 (by decide) rfl,Xi ci9 (by decide) rfl,fun _=>Xa (C.lt (by simp)) _,Xk cp1_0 rfl,Xk cp3_2 rfl,Xk cp5_4 rfl,Xk cp7_5 rfl,Xk cp7_6 rfl,Xk cp8_3 rfl,Xk cp8_7 rfl,Xk cp9_1 rfl,Xk cp9_8 rfl,Xk cp11_9 rfl,fun _=>by simp,K4 cy0 rfl,fun h=>cz0 (by simpa using h),cy1,cy2,cy3⟩
      ·simp only [List.getElem?_cons_zero,List.getElem?_cons_succ,Option.some.injEq] at ho
       subst ho
       rw [if_pos (by simp [Region.wanted])]
       have d9:=hd { on:=9,ground:=.data } (by simp) (by decide)
       have v9:=ci9 d9
       have d10:=hd { on:=10,ground:=.data } (by simp) (by decide)
       have v10:=ci10 d10
       have HT0:=cy0 hLi
       have HH0:=HT0.has
       have lH0:=HH0.1
       obtain ⟨cH0_0,fH0_0⟩:=HH0.2 0 _ rfl
       obtain ⟨cH0_1,fH0_1⟩:=HH0.2 1 _ rfl
       simp [go_sem,Array.getD_eq_getD_getElem?,v9,v10,cH0_0,fH0_0,cH0_1,fH0_1]
       rw [hIC]
       exact ⟨C,X1 (by omega) [_,_] 0 _ D,Z4 ci0 rfl,Z4 ci1 rfl,Z4 ci2 rfl,Z4 ci3 rfl,Z4 ci4 rfl,Z4 ci5 rfl,Z4 ci6 rfl,Z4 ci7 rfl,Z4 ci8 rfl,Z4 ci9 rfl,Z4 ci10 rfl,Xk cp1_0 rfl,Xk cp3_2 rfl,Xk cp5_4 rfl,Xk cp7_5 rfl,Xk cp7_6 rfl,Xk cp8_3 rfl,Xk cp8_7 rfl,Xk cp9_1 rfl,Xk cp9_8 rfl,fun _=>by simp [d9],fun _=>by simp [d10],fun h=>by simp at h,fun _=>((HT0.set_ 0 _).set_ 1 _),(cy1).other (g':=gA_4) (by omega) [.int .i64 m.n,.int .i64 m.d] 0,(cy2).other (g':=gA_4) (by omega) [.int .i64 m.n,.int .i64 m.d] 0,(cy3).other (g':=gA_4) (by omega) [.int .i64 m.n,.int .i64 m.d] 0⟩
     case he =>
      intro L a' wC E hI'
      rw [hIC] at hI'
      obtain ⟨C,hbC,ci0,ci1,ci2,ci3,ci4,ci5,ci6,ci7,ci8,ci9,ci10,cp1_0,cp3_2,cp5_4,cp7_5,cp7_6,cp8_3,cp8_7,cp9_1,cp9_8,cp11_9,cp11_10,cy0,cz0,cy1,cy2,cy3⟩:=hI'
      have HTC_0:=cz0 (E 11 (by decide))
      have HTC_1:=cy1
      have HTC_2:=cy2
      have HTC_3:=cy3
      have hout:=C.outG (by simp)
      simp only [List.foldl_cons,List.foldl_nil] at hout
      rw [hout]
      generalize a'.tmps[76]?.getD undef=xC_76
      generalize a'.tmps[77]?.getD undef=xC_77
      generalize a'.tmps[78]?.getD undef=xC_78
      generalize a'.tmps[79]?.getD undef=xC_79
      generalize a'.tmps[80]?.getD undef=xC_80
      generalize a'.tmps[81]?.getD undef=xC_81
      generalize a'.tmps[82]?.getD undef=xC_82
      generalize a'.tmps[83]?.getD undef=xC_83
      generalize a'.tmps[84]?.getD undef=xC_84
      generalize a'.tmps[85]?.getD undef=xC_85
      generalize a'.tmps[86]?.getD undef=xC_86
      clear hout hIC C E ci0 ci1 ci2 ci3 ci4 ci5 ci6 ci7 ci8 ci9 ci10 cp1_0 cp3_2 cp5_4 cp7_5 cp7_6 cp8_3 cp8_7 cp9_1 cp9_8 cp11_9 cp11_10 cy0 cz0 cy1 cy2 cy3
      go_simp
      go_wp2
      go_roundw
      case rel=>exact ⟨k+1,by omega,by go_num,⟨m,v.high⟩,htk.out.trans hs1.out,HTC_0,HTC_1,HTC_2,HTC_3,by_.trans hbC⟩
      case measure=>simp [intOf];omega
    have hs0:=hst.out.trans ((if_neg hn).trans (if_neg hn2))
    by_cases ht:T<0
    ·have C:=Lib.hid (show Yi r e s=none from hdef.out.trans (by rw [hno.out (htk.out.trans (hs0.trans (if_pos ht)))];rfl))
     clear hs0
     have HZ:=(YZ).has
     obtain ⟨cHZ_0,fHZ_0⟩:=HZ.2 0 _ rfl
     obtain ⟨cHZ_1,fHZ_1⟩:=HZ.2 1 _ rfl
     obtain ⟨cHZ_2,fHZ_2⟩:=HZ.2 2 _ rfl
     obtain ⟨cHZ_3,fHZ_3⟩:=HZ.2 3 _ rfl
     have lZ:=HZ.1
     go_wp2
     refine bodyPost_ret (v:=.tuple #[.agg #[.int .i64 0,.int .i64 0,.int .i64 0,.int .i64 0],.bool false]) (by simp [results,Tryz.results163,go_sem, *]) rfl ⟨by rw [C.out];rfl, ?_⟩
     exact ZX by_ (by omega) [_,_,_,_] 0
    have hs1:=Lib.hid (hs0.trans (if_neg ht))
    clear hs0
    go_wp2
    go_roundw
    case rel=>exact ⟨k+1,by omega,by go_num,v,htk.out.trans hs1.out,YS,YZ,YB,YP,by_⟩
    case measure=>simp [intOf];omega
   ·obtain rfl:k=e.length:=by omega
    rw [List.take_length] at hv
    have c3:=fun W=>iSpanOk_c v W ⟨ZZ vl,ZZ vh⟩
    have HG:=TS.has
    obtain ⟨cHG_0,fHG_0⟩:=HG.2 0 _ rfl
    obtain ⟨cHG_1,fHG_1⟩:=HG.2 1 _ rfl
    obtain ⟨cHG_2,fHG_2⟩:=HG.2 2 _ rfl
    obtain ⟨cHG_3,fHG_3⟩:=HG.2 3 _ rfl
    have lG:=HG.1
    have hv':=Lib.hid hv
    clear hv
    go_wp2_with (fail)
    refine (c3 _).mono ?_
    rintro x w5 ⟨rfl,hb5⟩
    have R5:=TZ.below hb5
    have G5:=(TS.below hb5).has
    have b5:=Xb hbr hb5
    clear HG cHG_0 cHG_1 cHG_2 cHG_3 fHG_0 fHG_1 fHG_2 fHG_3 lG
    cases e3:YD v
    ·have C:=Lib.hid (show Yi r e s=none from hdef.out.trans (by rw [hv'.out];show (if YD v=true then some v else none)=none;rw [e3];rfl))
     have HZ:=(R5).has
     obtain ⟨cHZ_0,fHZ_0⟩:=HZ.2 0 _ rfl
     obtain ⟨cHZ_1,fHZ_1⟩:=HZ.2 1 _ rfl
     obtain ⟨cHZ_2,fHZ_2⟩:=HZ.2 2 _ rfl
     obtain ⟨cHZ_3,fHZ_3⟩:=HZ.2 3 _ rfl
     have lZ:=HZ.1
     go_wp2
     refine bodyPost_ret (v:=.tuple #[.agg #[.int .i64 0,.int .i64 0,.int .i64 0,.int .i64 0],.bool false]) (by simp [results,Tryz.results163,go_sem, *]) rfl ⟨by rw [C.out];rfl, ?_⟩
     exact ZX b5 (by omega) [_,_,_,_] 0
    have C:=Lib.hid (show Yi r e s=some v from hdef.out.trans (by rw [hv'.out];show (if YD v=true then some v else none)=some v;rw [e3];rfl))
    obtain ⟨cG5_0,fG5_0⟩:=G5.2 0 _ rfl
    obtain ⟨cG5_1,fG5_1⟩:=G5.2 1 _ rfl
    obtain ⟨cG5_2,fG5_2⟩:=G5.2 2 _ rfl
    obtain ⟨cG5_3,fG5_3⟩:=G5.2 3 _ rfl
    have lG:=G5.1
    have HZ:=(R5).has
    obtain ⟨cHZ_0,fHZ_0⟩:=HZ.2 0 _ rfl
    obtain ⟨cHZ_1,fHZ_1⟩:=HZ.2 1 _ rfl
    obtain ⟨cHZ_2,fHZ_2⟩:=HZ.2 2 _ rfl
    obtain ⟨cHZ_3,fHZ_3⟩:=HZ.2 3 _ rfl
    have lZ:=HZ.1
    go_wp2
    refine bodyPost_ret (v:=.tuple #[.agg #[.int .i64 v.low.n,.int .i64 v.low.d,.int .i64 v.high.n,.int .i64 v.high.d],.bool true]) (by simp [results,Tryz.results163,go_sem, *]) rfl ⟨by rw [C.out];rfl, ?_⟩
    exact ZX b5 (by omega) [_,_,_,_] 0
set_option maxRecDepth 100000 in
set_option maxHeartbeats 3000000 in
theorem sAdmit_c (r:XJ) (e:List Half) (s:XC) (ra:Ye) (b:Zw) (w:World) (hr:XU r=true) (he:∀ h∈e,Xr h=true) (hle:e.length≤40) (hs:XQ s=true) (hd:¬ 100000<s.d) (hsR:Yh w r ra) (hsE:Sl 3 Xj w b.A e) :
 Calls Tryz.prog 160 #[XY r ra,X5 e b,Zi s] w fun x w'=>x=.returned (optSpanV (Yi r e s))∧Below w.heap.size w w':=by
 obtain ⟨eA,ec⟩:=b
 simp only at hsE
 have B:=roomB hr
 obtain ⟨W,hW⟩:∃ W,W=(((w.alloc (.cells #[.slice ra.map.A (List.length r.map) ra.map.c,.int .i64 r.div,.int .i64 r.bx,.int .i64 r.by_,.int .i64 r.low,.int .i64 r.high,.slice ra.noise.A (List.length r.noise) ra.noise.c,.slice ra.limits.A (List.length r.limits) ra.limits.c] 39)).alloc (.cells #[.slice eA e.length ec] 37)).alloc (.cells #[.int .i64 s.x,.int .i64 s.y,.int .i64 s.d] 44)).alloc (.cells #[.int .i64 0,.int .i64 0,.int .i64 0,.int .i64 0] 72):=⟨_,rfl⟩
 have HB:Xu W w.heap.size 39 [.slice ra.map.A (List.length r.map) ra.map.c,.int .i64 r.div,.int .i64 r.bx,.int .i64 r.by_,.int .i64 r.low,.int .i64 r.high,.slice ra.noise.A (List.length r.noise) ra.noise.c,.slice ra.limits.A (List.length r.limits) ra.limits.c]:=by
  rw [hW];exact (((Xu.new w [.slice ra.map.A (List.length r.map) ra.map.c,.int .i64 r.div,.int .i64 r.bx,.int .i64 r.by_,.int .i64 r.low,.int .i64 r.high,.slice ra.noise.A (List.length r.noise) ra.noise.c,.slice ra.limits.A (List.length r.limits) ra.limits.c] 39).alloc _).alloc _).alloc _
 have HE:Xu W (w.heap.size+1) 37 [.slice eA e.length ec]:=by
  have h1:=(((Xu.new (w.alloc (.cells #[.slice ra.map.A (List.length r.map) ra.map.c,.int .i64 r.div,.int .i64 r.bx,.int .i64 r.by_,.int .i64 r.low,.int .i64 r.high,.slice ra.noise.A (List.length r.noise) ra.noise.c,.slice ra.limits.A (List.length r.limits) ra.limits.c] 39)) [.slice eA e.length ec] 37).alloc (.cells #[.int .i64 s.x,.int .i64 s.y,.int .i64 s.d] 44)).alloc (.cells #[.int .i64 0,.int .i64 0,.int .i64 0,.int .i64 0] 72))
  simp only [World.size_alloc] at h1;rw [hW];exact h1
 have HS:Xu W (w.heap.size+1+1) 44 [.int .i64 s.x,.int .i64 s.y,.int .i64 s.d]:=by
  have h1:=((Xu.new ((w.alloc (.cells #[.slice ra.map.A (List.length r.map) ra.map.c,.int .i64 r.div,.int .i64 r.bx,.int .i64 r.by_,.int .i64 r.low,.int .i64 r.high,.slice ra.noise.A (List.length r.noise) ra.noise.c,.slice ra.limits.A (List.length r.limits) ra.limits.c] 39)).alloc (.cells #[.slice eA e.length ec] 37)) [.int .i64 s.x,.int .i64 s.y,.int .i64 s.d] 44).alloc (.cells #[.int .i64 0,.int .i64 0,.int .i64 0,.int .i64 0] 72))
  simp only [World.size_alloc] at h1;rw [hW];exact h1
 have HR:Xu W (w.heap.size+1+1+1) 72 [.int .i64 0,.int .i64 0,.int .i64 0,.int .i64 0]:=by
  have h1:=Xu.new (((w.alloc (.cells #[.slice ra.map.A (List.length r.map) ra.map.c,.int .i64 r.div,.int .i64 r.bx,.int .i64 r.by_,.int .i64 r.low,.int .i64 r.high,.slice ra.noise.A (List.length r.noise) ra.noise.c,.slice ra.limits.A (List.length r.limits) ra.limits.c] 39)).alloc (.cells #[.slice eA e.length ec] 37)).alloc (.cells #[.int .i64 s.x,.int .i64 s.y,.int .i64 s.d] 44)) [.int .i64 0,.int .i64 0,.int .i64 0,.int .i64 0] 72
  simp only [World.size_alloc] at h1;rw [hW];exact h1
 have b0:Below w.heap.size w W:=by
  rw [hW]
  exact Xg
 have hW':=Lib.hid hW
 clear hW
 have hdef:=Lib.hid (adm_def (r:=r) (e:=e) hd)
 have M:=mapB B hs (by omega)
 have zW:=Xo HR
 have lB:=Xo HB
 have lE:=Xo HE
 have lS2:=Xo HS
 have hsR0:=hsR.below b0
 have hsE0:=hsE.below b0
 go_enter Tryz.func160,Tryz.ntmps160
 go_upto_region 1 with fail
 rw [← hW'.out]
 clear hW'
 have hBWA:W.heap.size≤W.heap.size:=Nat.le_refl _
 have hTA_0:=HB
 have hTA_1:=HE
 have hTA_2:=HS
 have hTA_3:=HR
 have kone_low:=fun W=>KA r.low 1 W ⟨by have:=B.low;have:=B.high;omega,by have:=B.low;have:=B.high;omega⟩ ⟨by omega,by omega⟩
 rw [ratio_one (by have:=B.low;have:=B.high;omega)] at kone_low
 have kone_high:=fun W=>KA r.high 1 W ⟨by have:=B.low;have:=B.high;omega,by have:=B.low;have:=B.high;omega⟩ ⟨by omega,by omega⟩
 rw [ratio_one (by have:=B.low;have:=B.high;omega)] at kone_high
 obtain ⟨IA,hIA⟩:∃ I:Act→(Nat→Bool)→Act→World→Prop,I=(fun a0 L a w'=>XI a0 a [14,15,16,17,18,19,20,8]∧Below (W.heap.size) W w'∧(L 0=true→a.tmps[14]?.getD undef=.pointer (some ⟨w.heap.size,4,none⟩))∧(L 1=true→a.tmps[15]?.getD undef=.int .i64 r.low)∧(L 2=true→a.tmps[16]?.getD undef=X9 ⟨r.low,1⟩)∧(L 3=true→a.tmps[17]?.getD undef=.pointer (some ⟨w.heap.size,5,none⟩))∧(L 4=true→a.tmps[18]?.getD undef=.int .i64 r.high)∧(L 5=true→a.tmps[19]?.getD undef=X9 ⟨r.high,1⟩)∧(L 6=true→a.tmps[20]?.getD undef=.agg #[.int .i64 r.low,.int .i64 1,.int .i64 r.high,.int .i64 1])∧(L 1=true→L 0=true)∧(L 2=true→L 1=true)∧(L 4=true→L 3=true)∧(L 5=true→L 4=true)∧(L 6=true→L 2=true)∧(L 6=true→L 5=true)∧(L 8=true→L 6=true)∧(L 8=true→L 7=true)∧(L 7=true→∃ g:Nat,a.tmps[8]?.getD undef=.pointer (some ⟨g,0,none⟩)∧W.heap.size≤g∧(L 8=false→Xu w' g 72 [.int .i64 0,.int .i64 0,.int .i64 0,.int .i64 0])∧(L 8=true→Xu w' (g) 72 [.int .i64 r.low,.int .i64 1,.int .i64 r.high,.int .i64 1]))∧Xu w' (w.heap.size) 39 [.slice ra.map.A (List.length r.map) ra.map.c,.int .i64 r.div,.int .i64 r.bx,.int .i64 r.by_,.int .i64 r.low,.int .i64 r.high,.slice ra.noise.A (List.length r.noise) ra.noise.c,.slice ra.limits.A (List.length r.limits) ra.limits.c]∧Xu w' (w.heap.size+1) 37 [.slice eA e.length ec]∧Xu w' (w.heap.size+1+1) 44 [.int .i64 s.x,.int .i64 s.y,.int .i64 s.d]∧Xu w' (w.heap.size+1+1+1) 72 [.int .i64 0,.int .i64 0,.int .i64 0,.int .i64 0]):=⟨_,rfl⟩
 refine Zp (by kernel_rfl) (by kernel_rfl) IA ?h0 ?hs ?he
 case h0 =>
  rw [hIA]
  exact ⟨XI.refl _ _,bR.drew,fun h=>absurd h (by simp),fun h=>absurd h (by simp),fun h=>absurd h (by simp),fun h=>absurd h (by simp),fun h=>absurd h (by simp),fun h=>absurd h (by simp),fun h=>absurd h (by simp),fun h=>absurd h (by simp),fun h=>absurd h (by simp),fun h=>absurd h (by simp),fun h=>absurd h (by simp),fun h=>absurd h (by simp),fun h=>absurd h (by simp),fun h=>absurd h (by simp),fun h=>absurd h (by simp),fun h=>absurd h (by simp),hTA_0,hTA_1,hTA_2,hTA_3⟩
 case hs =>
  intro L a w' i o ho hLi hd hI'
  rw [hIA] at hI'
  obtain ⟨C,D,ci0,ci1,ci2,ci3,ci4,ci5,ci6,cp1_0,cp2_1,cp4_3,cp5_4,cp6_2,cp6_5,cp8_6,cp8_7,ca4,cy0,cy1,cy2,cy3⟩:=hI'
  have hi:i<9:=by
   rcases Nat.lt_or_ge i 9 with h|h
   ·exact h
   ·rw [List.getElem?_eq_none (by simpa using h)] at ho;cases ho
  have zB:=D.size
  have hBw:W.heap.size≤w'.heap.size:=Nat.le_trans hBWA zB
  obtain rfl|rfl|rfl|rfl|rfl|rfl|rfl|rfl|rfl:i=0∨i=1∨i=2∨i=3∨i=4∨i=5∨i=6∨i=7∨i=8:=by omega
  ·simp only [List.getElem?_cons_zero,Option.some.injEq] at ho
   subst ho
   rw [if_pos (by simp [Region.wanted])]
   have e0:a.tmps[3]?.getD undef=.pointer (some ⟨w.heap.size,0,none⟩):=C.get (by decide)
   simp [go_sem,Array.getD_eq_getD_getElem?,e0]
   rw [hIA]
   exact ⟨C.put (by decide) _,D,fun _=>Xa (C.lt (by simp)) _,Xi ci1 (by decide) rfl,Xi ci2 (by decide) rfl,Xi ci3 (by decide) rfl,Xi ci4 (by decide) rfl,Xi ci5 (by decide) rfl,Xi ci6 (by decide) rfl,fun _=>by simp,Xk cp2_1 rfl,Xk cp4_3 rfl,Xk cp5_4 rfl,Xk cp6_2 rfl,Xk cp6_5 rfl,Xk cp8_6 rfl,Xk cp8_7 rfl,fun h=>by obtain ⟨g2,e2,hg2,y2,z2⟩:=ca4 (by simpa using h);exact ⟨g2,(Yt (by decide) _).trans e2,hg2,fun h=>y2 (by simpa using h),fun h=>z2 (by simpa using h)⟩,cy0,cy1,cy2,cy3⟩
  ·simp only [List.getElem?_cons_zero,List.getElem?_cons_succ,Option.some.injEq] at ho
   subst ho
   rw [if_pos (by simp [Region.wanted])]
   have d0:=hd { on:=0,ground:=.data } (by simp) (by decide)
   have v0:=ci0 d0
   have HT0:=cy0
   have HH0:=HT0.has
   have lH0:=HH0.1
   obtain ⟨cH0_4,fH0_4⟩:=HH0.2 4 _ rfl
   simp [go_sem,Array.getD_eq_getD_getElem?,v0,cH0_4]
   rw [hIA]
   exact ⟨C.put (by decide) _,D,Xi ci0 (by decide) rfl,fun _=>Xa (C.lt (by simp)) _,Xi ci2 (by decide) rfl,Xi ci3 (by decide) rfl,Xi ci4 (by decide) rfl,Xi ci5 (by decide) rfl,Xi ci6 (by decide) rfl,fun _=>by simp [d0],fun _=>by simp,Xk cp4_3 rfl,Xk cp5_4 rfl,Xk cp6_2 rfl,Xk cp6_5 rfl,Xk cp8_6 rfl,Xk cp8_7 rfl,fun h=>by obtain ⟨g2,e2,hg2,y2,z2⟩:=ca4 (by simpa using h);exact ⟨g2,(Yt (by decide) _).trans e2,hg2,fun h=>y2 (by simpa using h),fun h=>z2 (by simpa using h)⟩,cy0,cy1,cy2,cy3⟩
  ·simp only [List.getElem?_cons_zero,List.getElem?_cons_succ,Option.some.injEq] at ho
   subst ho
   rw [if_pos (by simp [Region.wanted])]
   have d1:=hd { on:=1,ground:=.data } (by simp) (by decide)
   have v1:=ci1 d1
   simp [go_sem,Array.getD_eq_getD_getElem?,v1]
   refine (kone_low _).mono ?_
   rintro e wx ⟨rfl,hbx⟩
   rw [hIA]
   exact ⟨C.put (by decide) _,D.trans (hbx.mono hBw),Xi ci0 (by decide) rfl,Xi ci1 (by decide) rfl,fun _=>Xa (C.lt (by simp)) _,Xi ci3 (by decide) rfl,Xi ci4 (by decide) rfl,Xi ci5 (by decide) rfl,Xi ci6 (by decide) rfl,Xk cp1_0 rfl,fun _=>by simp [d1],Xk cp4_3 rfl,Xk cp5_4 rfl,fun _=>by simp,Xk cp6_5 rfl,Xk cp8_6 rfl,Xk cp8_7 rfl,fun h=>by obtain ⟨g2,e2,hg2,y2,z2⟩:=ca4 (by simpa using h);exact ⟨g2,(Yt (by decide) _).trans e2,hg2,fun h=>(y2 (by simpa using h)).below hbx,fun h=>(z2 (by simpa using h)).below hbx⟩,(cy0).below hbx,(cy1).below hbx,(cy2).below hbx,(cy3).below hbx⟩
  ·simp only [List.getElem?_cons_zero,List.getElem?_cons_succ,Option.some.injEq] at ho
   subst ho
   rw [if_pos (by simp [Region.wanted])]
   have e0:a.tmps[3]?.getD undef=.pointer (some ⟨w.heap.size,0,none⟩):=C.get (by decide)
   simp [go_sem,Array.getD_eq_getD_getElem?,e0]
   rw [hIA]
   exact ⟨C.put (by decide) _,D,Xi ci0 (by decide) rfl,Xi ci1 (by decide) rfl,Xi ci2 (by decide) rfl,fun _=>Xa (C.lt (by simp)) _,Xi ci4 (by decide) rfl,Xi ci5 (by decide) rfl,Xi ci6 (by decide) rfl,Xk cp1_0 rfl,Xk cp2_1 rfl,fun _=>by simp,Xk cp5_4 rfl,Xk cp6_2 rfl,Xk cp6_5 rfl,Xk cp8_6 rfl,Xk cp8_7 rfl,fun h=>by obtain ⟨g2,e2,hg2,y2,z2⟩:=ca4 (by simpa using h);exact ⟨g2,(Yt (by decide) _).trans e2,hg2,fun h=>y2 (by simpa using h),fun h=>z2 (by simpa using h)⟩,cy0,cy1,cy2,cy3⟩
  ·simp only [List.getElem?_cons_zero,List.getElem?_cons_succ,Option.some.injEq] at ho
   subst ho
   rw [if_pos (by simp [Region.wanted])]
   have d3:=hd { on:=3,ground:=.data } (by simp) (by decide)
   have v3:=ci3 d3
   have HT0:=cy0
   have HH0:=HT0.has
   have lH0:=HH0.1
   obtain ⟨cH0_5,fH0_5⟩:=HH0.2 5 _ rfl
   simp [go_sem,Array.getD_eq_getD_getElem?,v3,cH0_5]
   rw [hIA]
   exact ⟨C.put (by decide) _,D,Xi ci0 (by decide) rfl,Xi ci1 (by decide) rfl,Xi ci2 (by decide) rfl,Xi ci3 (by decide) rfl,fun _=>Xa (C.lt (by simp)) _,Xi ci5 (by decide) rfl,Xi ci6 (by decide) rfl,Xk cp1_0 rfl,Xk cp2_1 rfl,fun _=>by simp [d3],fun _=>by simp,Xk cp6_2 rfl,Xk cp6_5 rfl,Xk cp8_6 rfl,Xk cp8_7 rfl,fun h=>by obtain ⟨g2,e2,hg2,y2,z2⟩:=ca4 (by simpa using h);exact ⟨g2,(Yt (by decide) _).trans e2,hg2,fun h=>y2 (by simpa using h),fun h=>z2 (by simpa using h)⟩,cy0,cy1,cy2,cy3⟩
  ·simp only [List.getElem?_cons_zero,List.getElem?_cons_succ,Option.some.injEq] at ho
   subst ho
   rw [if_pos (by simp [Region.wanted])]
   have d4:=hd { on:=4,ground:=.data } (by simp) (by decide)
   have v4:=ci4 d4
   simp [go_sem,Array.getD_eq_getD_getElem?,v4]
   refine (kone_high _).mono ?_
   rintro e wx ⟨rfl,hbx⟩
   rw [hIA]
   exact ⟨C.put (by decide) _,D.trans (hbx.mono hBw),Xi ci0 (by decide) rfl,Xi ci1 (by decide) rfl,Xi ci2 (by decide) rfl,Xi ci3 (by decide) rfl,Xi ci4 (by decide) rfl,fun _=>Xa (C.lt (by simp)) _,Xi ci6 (by decide) rfl,Xk cp1_0 rfl,Xk cp2_1 rfl,Xk cp4_3 rfl,fun _=>by simp [d4],Xk cp6_2 rfl,fun _=>by simp,Xk cp8_6 rfl,Xk cp8_7 rfl,fun h=>by obtain ⟨g2,e2,hg2,y2,z2⟩:=ca4 (by simpa using h);exact ⟨g2,(Yt (by decide) _).trans e2,hg2,fun h=>(y2 (by simpa using h)).below hbx,fun h=>(z2 (by simpa using h)).below hbx⟩,(cy0).below hbx,(cy1).below hbx,(cy2).below hbx,(cy3).below hbx⟩
  ·simp only [List.getElem?_cons_zero,List.getElem?_cons_succ,Option.some.injEq] at ho
   subst ho
   rw [if_pos (by simp [Region.wanted])]
   have d2:=hd { on:=2,ground:=.data } (by simp) (by decide)
   have v2:=ci2 d2
   have d5:=hd { on:=5,ground:=.data } (by simp) (by decide)
   have v5:=ci5 d5
   simp [go_sem,Array.getD_eq_getD_getElem?,v2,v5]
   rw [hIA]
   exact ⟨C.put (by decide) _,D,Xi ci0 (by decide) rfl,Xi ci1 (by decide) rfl,Xi ci2 (by decide) rfl,Xi ci3 (by decide) rfl,Xi ci4 (by decide) rfl,Xi ci5 (by decide) rfl,fun _=>Xa (C.lt (by simp)) _,Xk cp1_0 rfl,Xk cp2_1 rfl,Xk cp4_3 rfl,Xk cp5_4 rfl,fun _=>by simp [d2],fun _=>by simp [d5],fun _=>by simp,Xk cp8_7 rfl,fun h=>by obtain ⟨g2,e2,hg2,y2,z2⟩:=ca4 (by simpa using h);exact ⟨g2,(Yt (by decide) _).trans e2,hg2,fun h=>y2 (by simpa using h),fun h=>z2 (by simpa using h)⟩,cy0,cy1,cy2,cy3⟩
  ·simp only [List.getElem?_cons_zero,List.getElem?_cons_succ,Option.some.injEq] at ho
   subst ho
   rw [if_pos (by simp [Region.wanted])]
   simp [go_sem]
   rw [hIA]
   exact ⟨C.put (by decide) _,D.alloc hBw _,Xi ci0 (by decide) rfl,Xi ci1 (by decide) rfl,Xi ci2 (by decide) rfl,Xi ci3 (by decide) rfl,Xi ci4 (by decide) rfl,Xi ci5 (by decide) rfl,Xi ci6 (by decide) rfl,Xk cp1_0 rfl,Xk cp2_1 rfl,Xk cp4_3 rfl,Xk cp5_4 rfl,Xk cp6_2 rfl,Xk cp6_5 rfl,Xk cp8_6 rfl,fun _=>by simp,fun _=>⟨w'.heap.size,Xa (C.lt (by simp)) _,zB,fun _=>Xu.new w' [.int .i64 0,.int .i64 0,.int .i64 0,.int .i64 0] 72,fun h=>by have hq:=cp8_7 (by simpa using h);rw [hLi] at hq;cases hq⟩,(cy0).alloc _,(cy1).alloc _,(cy2).alloc _,(cy3).alloc _⟩
  ·simp only [List.getElem?_cons_zero,List.getElem?_cons_succ,Option.some.injEq] at ho
   subst ho
   rw [if_pos (by simp [Region.wanted])]
   have d6:=hd { on:=6,ground:=.data } (by simp) (by decide)
   have v6:=ci6 d6
   have d7:=hd { on:=7,ground:=.data } (by simp) (by decide)
   obtain ⟨gk,ek,hgk,yk,_⟩:=ca4 d7
   have HT4:=yk hLi
   have HH4:=HT4.has
   have lH4:=HH4.1
   obtain ⟨cH4_0,fH4_0⟩:=HH4.2 0 _ rfl
   obtain ⟨cH4_1,fH4_1⟩:=HH4.2 1 _ rfl
   obtain ⟨cH4_2,fH4_2⟩:=HH4.2 2 _ rfl
   obtain ⟨cH4_3,fH4_3⟩:=HH4.2 3 _ rfl
   simp [go_sem,Array.getD_eq_getD_getElem?,v6,ek,cH4_0,fH4_0,cH4_1,fH4_1,cH4_2,fH4_2,cH4_3,fH4_3]
   rw [hIA]
   exact ⟨C,X1 (by omega) [_,_,_,_] 0 _ D,Z4 ci0 rfl,Z4 ci1 rfl,Z4 ci2 rfl,Z4 ci3 rfl,Z4 ci4 rfl,Z4 ci5 rfl,Z4 ci6 rfl,Xk cp1_0 rfl,Xk cp2_1 rfl,Xk cp4_3 rfl,Xk cp5_4 rfl,Xk cp6_2 rfl,Xk cp6_5 rfl,fun _=>by simp [d6],fun _=>by simp [d7],fun _=>⟨gk,ek,hgk,fun h=>by simp at h,fun _=>HT4.store (us:=[.int .i64 r.low,.int .i64 1,.int .i64 r.high,.int .i64 1]) rfl⟩,(cy0).other (g':=gk) (by have hl:=Xo hTA_0;omega) [.int .i64 r.low,.int .i64 1,.int .i64 r.high,.int .i64 1] 0,(cy1).other (g':=gk) (by have hl:=Xo hTA_1;omega) [.int .i64 r.low,.int .i64 1,.int .i64 r.high,.int .i64 1] 0,(cy2).other (g':=gk) (by have hl:=Xo hTA_2;omega) [.int .i64 r.low,.int .i64 1,.int .i64 r.high,.int .i64 1] 0,(cy3).other (g':=gk) (by have hl:=Xo hTA_3;omega) [.int .i64 r.low,.int .i64 1,.int .i64 r.high,.int .i64 1] 0⟩
 case he =>
  intro L a' wA E hI'
  rw [hIA] at hI'
  obtain ⟨C,hbA,ci0,ci1,ci2,ci3,ci4,ci5,ci6,cp1_0,cp2_1,cp4_3,cp5_4,cp6_2,cp6_5,cp8_6,cp8_7,ca4,cy0,cy1,cy2,cy3⟩:=hI'
  obtain ⟨gA_4,eA_b4,hgA_4,_,cz4⟩:=ca4 (E 7 (by decide))
  have HTA_4:=cz4 (E 8 (by decide))
  have HTA_0:=cy0
  have HTA_1:=cy1
  have HTA_2:=cy2
  have HTA_3:=cy3
  have hout:=C.outG (by simp)
  simp only [List.foldl_cons,List.foldl_nil,eA_b4] at hout
  rw [hout]
  generalize a'.tmps[14]?.getD undef=xA_14
  generalize a'.tmps[15]?.getD undef=xA_15
  generalize a'.tmps[16]?.getD undef=xA_16
  generalize a'.tmps[17]?.getD undef=xA_17
  generalize a'.tmps[18]?.getD undef=xA_18
  generalize a'.tmps[19]?.getD undef=xA_19
  generalize a'.tmps[20]?.getD undef=xA_20
  clear hout hIA C E ci0 ci1 ci2 ci3 ci4 ci5 ci6 cp1_0 cp2_1 cp4_3 cp5_4 cp6_2 cp6_5 cp8_6 cp8_7 ca4 cy0 cy1 cy2 cy3
  go_simp
  have bA:=b0.trans (hbA.mono b0.size)
  have sR:=hsR0.below hbA
  have sE:=hsE0.below hbA
  have zA:=hbA.size
  have lg:=Xo HTA_4
  clear hTA_0 hTA_1 hTA_2 hTA_3 HB HE HS HR hsR0 hsE0 hBWA
  have hgs:w.heap.size+1+1+1<gA_4:=by omega
  have T0:=HTA_0
  have T1:=HTA_1
  have T2:=HTA_2
  have T3:=HTA_3
  have T4:=HTA_4
  have b1:=bA
  have sR1:=sR
  have sE1:=sE
  have HE_:=T1.has
  obtain ⟨cHE__0,fHE__0⟩:=HE_.2 0 _ rfl
  have lE:=HE_.1
  go_wp2
  clear HE_ cHE__0 fHE__0 lE
  go_loopw [10,11,12,13,24,46,58,72] (fun _ _ _ _ i _ _ _ wr=>∃ k:Nat,k≤e.length∧i=.int .i64 k∧∃ v:Km,admL r s (e.take k)=some v∧Xu wr gA_4 72 [.int .i64 v.low.n,.int .i64 v.low.d,.int .i64 v.high.n,.int .i64 v.high.d]∧Xu wr (w.heap.size+1+1+1) 72 [.int .i64 0,.int .i64 0,.int .i64 0,.int .i64 0]∧Xu wr w.heap.size 39 [.slice ra.map.A (List.length r.map) ra.map.c,.int .i64 r.div,.int .i64 r.bx,.int .i64 r.by_,.int .i64 r.low,.int .i64 r.high,.slice ra.noise.A (List.length r.noise) ra.noise.c,.slice ra.limits.A (List.length r.limits) ra.limits.c]∧Xu wr (w.heap.size+1+1) 44 [.int .i64 s.x,.int .i64 s.y,.int .i64 s.d]∧Below w.heap.size w wr) (fun _ _ _ _ i _ _ _ _=>e.length-(intOf i).toNat)
  case atStart=>exact ⟨0,Nat.zero_le _,rfl,⟨⟨r.low,1⟩,⟨r.high,1⟩⟩,rfl,T4,T3,T0,T2,b1⟩
  case round =>
   obtain ⟨k,hk,rfl,v,hv,TS,TZ,TB,TP,hbr⟩:=hrel
   obtain ⟨vl,vh⟩:=admL_ok B M he k hk v hv
   have lTS:=Xo TS
   by_cases hlt:k<e.length
   ·obtain ⟨bb,off,hA,hblt,hc⟩:=(hsE.below hbr).at_ hlt
    have g0:=hc 0 _ rfl
    have g1:=hc 1 _ rfl
    have g2:=hc 2 _ rfl
    simp only [Nat.add_zero] at g0
    have P:=admP B M (he _ (List.getElem_mem hlt))
    have htk:=Lib.hid ((admL_take (r:=r) (s:=s) hlt).trans (by rw [hv];rfl:_=JT r s v e[k]))
    have hno:=Lib.hid (fun h=>admL_no (r:=r) (s:=s) hlt h)
    have hhi:=Lib.hid (fun h=>adm_high P M h)
    have hlo:=Lib.hid (fun h=>adm_low P M h)
    have hdD:=M.d
    clear hc hv
    generalize e[k]=h at *
    have XS:=TS.alloc (.cells #[.int .i64 h.a,.int .i64 h.b,.int .i64 h.c] 175)
    have XZ:=TZ.alloc (.cells #[.int .i64 h.a,.int .i64 h.b,.int .i64 h.c] 175)
    have XB:=TB.alloc (.cells #[.int .i64 h.a,.int .i64 h.b,.int .i64 h.c] 175)
    have XP:=TP.alloc (.cells #[.int .i64 h.a,.int .i64 h.b,.int .i64 h.c] 175)
    have bx:=Xf hbr (.cells #[.int .i64 h.a,.int .i64 h.b,.int .i64 h.c] 175)
    have XH:=XG.new wr #[.int .i64 h.a,.int .i64 h.b,.int .i64 h.c] 175
    have sRx:=(hsR.below hbr).below (Xf bR (.cells #[.int .i64 h.a,.int .i64 h.b,.int .i64 h.c] 175))
    subst hA
    skip
    go_upto_region 5 with fail
    clear g0 g1 g2 hblt TS TZ TB TP hbr
    generalize wr.alloc (.cells #[.int .i64 h.a,.int .i64 h.b,.int .i64 h.c] 175)=wx at *
    generalize wr.heap.size=gx at *
    obtain ⟨cXH_0,fXH_0⟩:=XH.2 0 _ rfl
    obtain ⟨cXH_1,fXH_1⟩:=XH.2 1 _ rfl
    obtain ⟨cXH_2,fXH_2⟩:=XH.2 2 _ rfl
    have lX:=XH.1
    have HB_:=XB.has
    obtain ⟨cHB__0,fHB__0⟩:=HB_.2 0 _ rfl
    obtain ⟨cHB__1,fHB__1⟩:=HB_.2 1 _ rfl
    obtain ⟨cHB__2,fHB__2⟩:=HB_.2 2 _ rfl
    obtain ⟨cHB__3,fHB__3⟩:=HB_.2 3 _ rfl
    obtain ⟨cHB__4,fHB__4⟩:=HB_.2 4 _ rfl
    obtain ⟨cHB__5,fHB__5⟩:=HB_.2 5 _ rfl
    obtain ⟨cHB__6,fHB__6⟩:=HB_.2 6 _ rfl
    obtain ⟨cHB__7,fHB__7⟩:=HB_.2 7 _ rfl
    have lB:=HB_.1
    have HP_:=XP.has
    obtain ⟨cHP__0,fHP__0⟩:=HP_.2 0 _ rfl
    obtain ⟨cHP__1,fHP__1⟩:=HP_.2 1 _ rfl
    obtain ⟨cHP__2,fHP__2⟩:=HP_.2 2 _ rfl
    have lP:=HP_.1
    have pa:=P.a
    have pb:=P.b
    go_wp2_with (fail)
    refine (l11Top_c r ra h s _ B M P sRx.map).mono ?_
    rintro x wy ⟨rfl,hby⟩
    have lX:=(XH.below hby).1
    have r4:=Xd hby
    have lBy:=blt hby lB
    have lXy:=blt hby XH.1
    have YS:=XS.below hby
    have YZ:=XZ.below hby
    have YB:=XB.below hby
    have YP:=XP.below hby
    have by_:=Xb bx hby
    go_upto_region 7 with fail
    clear HP_ cHP__0 cHP__1 cHP__2 fHP__0 fHP__1 fHP__2 lP r4 lBy lXy
    obtain ⟨N,F⟩:∃ N,N=ZL r h:=⟨_,rfl⟩
    obtain ⟨T,hT⟩:∃ T,T=topA r s h:=⟨_,rfl⟩
    rw [show h.a*r.bx+h.b*r.by_=N from F.symm]
    rw [← hT]
    have hst:=Lib.hid (show JT r s v h=if 0<N then some ⟨v.low,Yk v.high (XD T (Yv r s*N))⟩ else if N<0 then some ⟨Yl v.low (XD (-T) (-(Yv r s)*N)),v.high⟩ else if T<0 then none else some v by rw [F,hT];rfl)
    rw [← F,← hT] at hhi hlo
    have pn:=P.n
    rw [← F] at pn
    have tb : -1000000000000000≤T∧T≤1000000000000000:=by have:=P.c;have:=P.x;have:=P.y;unfold topA at hT;omega
    have hN':=Lib.hid F
    have hT':=Lib.hid hT
    clear XS XZ XB XP bx XH cXH_0 cXH_1 cXH_2 fXH_0 fXH_1 fXH_2 lX HB_ cHB__0 cHB__1 cHB__2 cHB__3 cHB__4 cHB__5 cHB__6 cHB__7 fHB__0 fHB__1 fHB__2 fHB__3 fHB__4 fHB__5 fHB__6 fHB__7 lB hby P F hT sRx pa pb
    by_cases hn:0<N
    ·obtain ⟨ht1,ht2⟩:=hhi.out hn
     have hs1:=Lib.hid (hst.out.trans (if_pos hn))
     have q3:=Yr ht1 ht2
     have kq:=fun W=>KA T (Yv r s*N) W ⟨by omega,by omega⟩ ⟨by omega,by omega⟩
     have km:=fun W=>sRatioMin_c v.high (XD T (Yv r s*N)) W (ZZ vh) (ZZ q3.1)
     generalize XD T (Yv r s*N)=q at *
     generalize Yk v.high q=m at *
     have hwn:IntKind.i64.wrap (Yv r s*N)=Yv r s*N:=IntWalk.i64_in _ (by omega)
     go_upto_region 8 with fail
     have hBWB:w.heap.size≤wy.heap.size:=by_.size
     have hTB_0:=YS
     have hTB_1:=YZ
     have hTB_2:=YB
     have hTB_3:=YP
     have lYS:=Xo YS
     have lYZ:=Xo YZ
     have lYB:=Xo YB
     have lYP:=Xo YP
     obtain ⟨IB,hIB⟩:∃ I:Act→(Nat→Bool)→Act→World→Prop,I=(fun a0 L a w'=>XI a0 a [49,50,51,52,53,54,55,56,57]∧Below (w.heap.size) wy w'∧(L 0=true→a.tmps[49]?.getD undef=.pointer (some ⟨gA_4,2,none⟩))∧(L 1=true→a.tmps[50]?.getD undef=X9 v.high)∧(L 2=true→a.tmps[51]?.getD undef=.int .i64 T)∧(L 3=true→a.tmps[52]?.getD undef=.int .i64 (Yv r s))∧(L 4=true→a.tmps[53]?.getD undef=.int .i64 N)∧(L 5=true→a.tmps[54]?.getD undef=.int .i64 (Yv r s*N))∧(L 6=true→a.tmps[55]?.getD undef=X9 q)∧(L 7=true→a.tmps[56]?.getD undef=X9 m)∧(L 8=true→a.tmps[57]?.getD undef=.pointer (some ⟨gA_4,2,none⟩))∧(L 1=true→L 0=true)∧(L 5=true→L 3=true)∧(L 5=true→L 4=true)∧(L 6=true→L 2=true)∧(L 6=true→L 5=true)∧(L 7=true→L 1=true)∧(L 7=true→L 6=true)∧(L 9=true→L 7=true)∧(L 9=true→L 8=true)∧(L 9=false→Xu w' (gA_4) 72 [.int .i64 v.low.n,.int .i64 v.low.d,.int .i64 v.high.n,.int .i64 v.high.d])∧(L 9=true→Xu w' (gA_4) 72 [.int .i64 v.low.n,.int .i64 v.low.d,.int .i64 m.n,.int .i64 m.d])∧Xu w' (w.heap.size+1+1+1) 72 [.int .i64 0,.int .i64 0,.int .i64 0,.int .i64 0]∧Xu w' (w.heap.size) 39 [.slice ra.map.A (List.length r.map) ra.map.c,.int .i64 r.div,.int .i64 r.bx,.int .i64 r.by_,.int .i64 r.low,.int .i64 r.high,.slice ra.noise.A (List.length r.noise) ra.noise.c,.slice ra.limits.A (List.length r.limits) ra.limits.c]∧Xu w' (w.heap.size+1+1) 44 [.int .i64 s.x,.int .i64 s.y,.int .i64 s.d]):=⟨_,rfl⟩
     refine Zp (by kernel_rfl) (by kernel_rfl) IB ?h0 ?hs ?he
     case h0 =>
      rw [hIB]
      exact ⟨XI.refl _ _,bR.drew,fun h=>absurd h (by simp),fun h=>absurd h (by simp),fun h=>absurd h (by simp),fun h=>absurd h (by simp),fun h=>absurd h (by simp),fun h=>absurd h (by simp),fun h=>absurd h (by simp),fun h=>absurd h (by simp),fun h=>absurd h (by simp),fun h=>absurd h (by simp),fun h=>absurd h (by simp),fun h=>absurd h (by simp),fun h=>absurd h (by simp),fun h=>absurd h (by simp),fun h=>absurd h (by simp),fun h=>absurd h (by simp),fun h=>absurd h (by simp),fun h=>absurd h (by simp),fun _=>hTB_0,fun h=>absurd h (by simp),hTB_1,hTB_2,hTB_3⟩
     case hs =>
      intro L a w' i o ho hLi hd hI'
      rw [hIB] at hI'
      obtain ⟨C,D,ci0,ci1,ci2,ci3,ci4,ci5,ci6,ci7,ci8,cp1_0,cp5_3,cp5_4,cp6_2,cp6_5,cp7_1,cp7_6,cp9_7,cp9_8,cy0,cz0,cy1,cy2,cy3⟩:=hI'
      have hi:i<10:=by
       rcases Nat.lt_or_ge i 10 with h|h
       ·exact h
       ·rw [List.getElem?_eq_none (by simpa using h)] at ho;cases ho
      have zB:=D.size
      have hBw:w.heap.size≤w'.heap.size:=Nat.le_trans hBWB zB
      obtain rfl|rfl|rfl|rfl|rfl|rfl|rfl|rfl|rfl|rfl:i=0∨i=1∨i=2∨i=3∨i=4∨i=5∨i=6∨i=7∨i=8∨i=9:=by omega
      ·simp only [List.getElem?_cons_zero,Option.some.injEq] at ho
       subst ho
       rw [if_pos (by simp [Region.wanted])]
       have e0:a.tmps[8]?.getD undef=.pointer (some ⟨gA_4,0,none⟩):=C.get (by decide)
       simp [go_sem,Array.getD_eq_getD_getElem?,e0]
       rw [hIB]
       exact ⟨C.put (by decide) _,D,fun _=>Xa (C.lt (by simp)) _,Xi ci1 (by decide) rfl,Xi ci2 (by decide) rfl,Xi ci3 (by decide) rfl,Xi ci4 (by decide) rfl,Xi ci5 (by decide) rfl,Xi ci6 (by decide) rfl,Xi ci7 (by decide) rfl,Xi ci8 (by decide) rfl,fun _=>by simp,Xk cp5_3 rfl,Xk cp5_4 rfl,Xk cp6_2 rfl,Xk cp6_5 rfl,Xk cp7_1 rfl,Xk cp7_6 rfl,Xk cp9_7 rfl,Xk cp9_8 rfl,K4 cy0 rfl,fun h=>cz0 (by simpa using h),cy1,cy2,cy3⟩
      ·simp only [List.getElem?_cons_zero,List.getElem?_cons_succ,Option.some.injEq] at ho
       subst ho
       rw [if_pos (by simp [Region.wanted])]
       have d0:=hd { on:=0,ground:=.data } (by simp) (by decide)
       have v0:=ci0 d0
       have HT0:=cy0 (by cases hq:L 9;exact rfl;exact absurd (cp7_1 (cp9_7 hq)) (by rw [hLi];decide))
       have HH0:=HT0.has
       have lH0:=HH0.1
       obtain ⟨cH0_2,fH0_2⟩:=HH0.2 2 _ rfl
       obtain ⟨cH0_3,fH0_3⟩:=HH0.2 3 _ rfl
       simp [go_sem,Array.getD_eq_getD_getElem?,v0,cH0_2,cH0_3]
       rw [hIB]
       exact ⟨C.put (by decide) _,D,Xi ci0 (by decide) rfl,fun _=>Xa (C.lt (by simp)) _,Xi ci2 (by decide) rfl,Xi ci3 (by decide) rfl,Xi ci4 (by decide) rfl,Xi ci5 (by decide) rfl,Xi ci6 (by decide) rfl,Xi ci7 (by decide) rfl,Xi ci8 (by decide) rfl,fun _=>by simp [d0],Xk cp5_3 rfl,Xk cp5_4 rfl,Xk cp6_2 rfl,Xk cp6_5 rfl,fun _=>by simp,Xk cp7_6 rfl,Xk cp9_7 rfl,Xk cp9_8 rfl,K4 cy0 rfl,fun h=>cz0 (by simpa using h),cy1,cy2,cy3⟩
      ·simp only [List.getElem?_cons_zero,List.getElem?_cons_succ,Option.some.injEq] at ho
       subst ho
       rw [if_pos (by simp [Region.wanted])]
       have e0:a.tmps[11]?.getD undef=.int .i64 T:=C.get (by decide)
       simp [go_sem,Array.getD_eq_getD_getElem?,e0]
       rw [hIB]
       exact ⟨C.put (by decide) _,D,Xi ci0 (by decide) rfl,Xi ci1 (by decide) rfl,fun _=>Xa (C.lt (by simp)) _,Xi ci3 (by decide) rfl,Xi ci4 (by decide) rfl,Xi ci5 (by decide) rfl,Xi ci6 (by decide) rfl,Xi ci7 (by decide) rfl,Xi ci8 (by decide) rfl,Xk cp1_0 rfl,Xk cp5_3 rfl,Xk cp5_4 rfl,fun _=>by simp,Xk cp6_5 rfl,Xk cp7_1 rfl,Xk cp7_6 rfl,Xk cp9_7 rfl,Xk cp9_8 rfl,K4 cy0 rfl,fun h=>cz0 (by simpa using h),cy1,cy2,cy3⟩
      ·simp only [List.getElem?_cons_zero,List.getElem?_cons_succ,Option.some.injEq] at ho
       subst ho
       rw [if_pos (by simp [Region.wanted])]
       have e0:a.tmps[12]?.getD undef=.int .i64 (Yv r s):=C.get (by decide)
       simp [go_sem,Array.getD_eq_getD_getElem?,e0]
       rw [hIB]
       exact ⟨C.put (by decide) _,D,Xi ci0 (by decide) rfl,Xi ci1 (by decide) rfl,Xi ci2 (by decide) rfl,fun _=>Xa (C.lt (by simp)) _,Xi ci4 (by decide) rfl,Xi ci5 (by decide) rfl,Xi ci6 (by decide) rfl,Xi ci7 (by decide) rfl,Xi ci8 (by decide) rfl,Xk cp1_0 rfl,fun _=>by simp,Xk cp5_4 rfl,Xk cp6_2 rfl,Xk cp6_5 rfl,Xk cp7_1 rfl,Xk cp7_6 rfl,Xk cp9_7 rfl,Xk cp9_8 rfl,K4 cy0 rfl,fun h=>cz0 (by simpa using h),cy1,cy2,cy3⟩
      ·simp only [List.getElem?_cons_zero,List.getElem?_cons_succ,Option.some.injEq] at ho
       subst ho
       rw [if_pos (by simp [Region.wanted])]
       have e0:a.tmps[13]?.getD undef=.int .i64 N:=C.get (by decide)
       simp [go_sem,Array.getD_eq_getD_getElem?,e0]
       rw [hIB]
       exact ⟨C.put (by decide) _,D,Xi ci0 (by decide) rfl,Xi ci1 (by decide) rfl,Xi ci2 (by decide) rfl,Xi ci3 (by decide) rfl,fun _=>Xa (C.lt (by simp)) _,Xi ci5 (by decide) rfl,Xi ci6 (by decide) rfl,Xi ci7 (by decide) rfl,Xi ci8 (by decide) rfl,Xk cp1_0 rfl,Xk cp5_3 rfl,fun _=>by simp,Xk cp6_2 rfl,Xk cp6_5 rfl,Xk cp7_1 rfl,Xk cp7_6 rfl,Xk cp9_7 rfl,Xk cp9_8 rfl,K4 cy0 rfl,fun h=>cz0 (by simpa using h),cy1,cy2,cy3⟩
      ·simp only [List.getElem?_cons_zero,List.getElem?_cons_succ,Option.some.injEq] at ho
       subst ho
       rw [if_pos (by simp [Region.wanted])]
       have d3:=hd { on:=3,ground:=.data } (by simp) (by decide)
       have v3:=ci3 d3
       have d4:=hd { on:=4,ground:=.data } (by simp) (by decide)
       have v4:=ci4 d4
       simp [go_sem,Array.getD_eq_getD_getElem?,v3,v4,hwn]
       rw [hIB]
       exact ⟨C.put (by decide) _,D,Xi ci0 (by decide) rfl,Xi ci1 (by decide) rfl,Xi ci2 (by decide) rfl,Xi ci3 (by decide) rfl,Xi ci4 (by decide) rfl,fun _=>Xa (C.lt (by simp)) _,Xi ci6 (by decide) rfl,Xi ci7 (by decide) rfl,Xi ci8 (by decide) rfl,Xk cp1_0 rfl,fun _=>by simp [d3],fun _=>by simp [d4],Xk cp6_2 rfl,fun _=>by simp,Xk cp7_1 rfl,Xk cp7_6 rfl,Xk cp9_7 rfl,Xk cp9_8 rfl,K4 cy0 rfl,fun h=>cz0 (by simpa using h),cy1,cy2,cy3⟩
      ·simp only [List.getElem?_cons_zero,List.getElem?_cons_succ,Option.some.injEq] at ho
       subst ho
       rw [if_pos (by simp [Region.wanted])]
       have d2:=hd { on:=2,ground:=.data } (by simp) (by decide)
       have v2:=ci2 d2
       have d5:=hd { on:=5,ground:=.data } (by simp) (by decide)
       have v5:=ci5 d5
       simp [go_sem,Array.getD_eq_getD_getElem?,v2,v5]
       refine (kq _).mono ?_
       rintro e wx ⟨rfl,hbx⟩
       rw [hIB]
       exact ⟨C.put (by decide) _,D.trans (hbx.mono hBw),Xi ci0 (by decide) rfl,Xi ci1 (by decide) rfl,Xi ci2 (by decide) rfl,Xi ci3 (by decide) rfl,Xi ci4 (by decide) rfl,Xi ci5 (by decide) rfl,fun _=>Xa (C.lt (by simp)) _,Xi ci7 (by decide) rfl,Xi ci8 (by decide) rfl,Xk cp1_0 rfl,Xk cp5_3 rfl,Xk cp5_4 rfl,fun _=>by simp [d2],fun _=>by simp [d5],Xk cp7_1 rfl,fun _=>by simp,Xk cp9_7 rfl,Xk cp9_8 rfl,fun h=>(cy0 (by simpa using h)).below hbx,fun h=>(cz0 (by simpa using h)).below hbx,(cy1).below hbx,(cy2).below hbx,(cy3).below hbx⟩
      ·simp only [List.getElem?_cons_zero,List.getElem?_cons_succ,Option.some.injEq] at ho
       subst ho
       rw [if_pos (by simp [Region.wanted])]
       have d1:=hd { on:=1,ground:=.data } (by simp) (by decide)
       have v1:=ci1 d1
       have d6:=hd { on:=6,ground:=.data } (by simp) (by decide)
       have v6:=ci6 d6
       simp [go_sem,Array.getD_eq_getD_getElem?,v1,v6]
       refine (km _).mono ?_
       rintro e wx ⟨rfl,hbx⟩
       rw [hIB]
       exact ⟨C.put (by decide) _,D.trans (hbx.mono hBw),Xi ci0 (by decide) rfl,Xi ci1 (by decide) rfl,Xi ci2 (by decide) rfl,Xi ci3 (by decide) rfl,Xi ci4 (by decide) rfl,Xi ci5 (by decide) rfl,Xi ci6 (by decide) rfl,fun _=>Xa (C.lt (by simp)) _,Xi ci8 (by decide) rfl,Xk cp1_0 rfl,Xk cp5_3 rfl,Xk cp5_4 rfl,Xk cp6_2 rfl,Xk cp6_5 rfl,fun _=>by simp [d1],fun _=>by simp [d6],fun _=>by simp,Xk cp9_8 rfl,fun h=>(cy0 (by simpa using h)).below hbx,fun h=>(cz0 (by simpa using h)).below hbx,(cy1).below hbx,(cy2).below hbx,(cy3).below hbx⟩
      ·simp only [List.getElem?_cons_zero,List.getElem?_cons_succ,Option.some.injEq] at ho
       subst ho
       rw [if_pos (by simp [Region.wanted])]
       have e0:a.tmps[8]?.getD undef=.pointer (some ⟨gA_4,0,none⟩):=C.get (by decide)
       simp [go_sem,Array.getD_eq_getD_getElem?,e0]
       rw [hIB]
       exact ⟨C.put (by decide) _,D,Xi ci0 (by decide) rfl,Xi ci1 (by decide) rfl,Xi ci2 (by decide) rfl,Xi ci3 (by decide) rfl,Xi ci4 (by decide) rfl,Xi ci5 (by decide) rfl,Xi ci6 (by decide) rfl,Xi ci7 (by decide) rfl,fun _=>Xa (C.lt (by simp)) _,Xk cp1_0 rfl,Xk cp5_3 rfl,Xk cp5_4 rfl,Xk cp6_2 rfl,Xk cp6_5 rfl,Xk cp7_1 rfl,Xk cp7_6 rfl,Xk cp9_7 rfl,fun _=>by simp,K4 cy0 rfl,fun h=>cz0 (by simpa using h),cy1,cy2,cy3⟩
      ·simp only [List.getElem?_cons_zero,List.getElem?_cons_succ,Option.some.injEq] at ho
       subst ho
       rw [if_pos (by simp [Region.wanted])]
       have d7:=hd { on:=7,ground:=.data } (by simp) (by decide)
       have v7:=ci7 d7
       have d8:=hd { on:=8,ground:=.data } (by simp) (by decide)
       have v8:=ci8 d8
       have HT0:=cy0 hLi
       have HH0:=HT0.has
       have lH0:=HH0.1
       obtain ⟨cH0_2,fH0_2⟩:=HH0.2 2 _ rfl
       obtain ⟨cH0_3,fH0_3⟩:=HH0.2 3 _ rfl
       simp [go_sem,Array.getD_eq_getD_getElem?,v7,v8,cH0_2,fH0_2,cH0_3,fH0_3]
       rw [hIB]
       exact ⟨C,X1 (by omega) [_,_] 2 _ D,Z4 ci0 rfl,Z4 ci1 rfl,Z4 ci2 rfl,Z4 ci3 rfl,Z4 ci4 rfl,Z4 ci5 rfl,Z4 ci6 rfl,Z4 ci7 rfl,Z4 ci8 rfl,Xk cp1_0 rfl,Xk cp5_3 rfl,Xk cp5_4 rfl,Xk cp6_2 rfl,Xk cp6_5 rfl,Xk cp7_1 rfl,Xk cp7_6 rfl,fun _=>by simp [d7],fun _=>by simp [d8],fun h=>by simp at h,fun _=>((HT0.set_ 2 _).set_ 3 _),(cy1).other (g':=gA_4) (by omega) [.int .i64 m.n,.int .i64 m.d] 2,(cy2).other (g':=gA_4) (by omega) [.int .i64 m.n,.int .i64 m.d] 2,(cy3).other (g':=gA_4) (by omega) [.int .i64 m.n,.int .i64 m.d] 2⟩
     case he =>
      intro L a' wB E hI'
      rw [hIB] at hI'
      obtain ⟨C,hbB,ci0,ci1,ci2,ci3,ci4,ci5,ci6,ci7,ci8,cp1_0,cp5_3,cp5_4,cp6_2,cp6_5,cp7_1,cp7_6,cp9_7,cp9_8,cy0,cz0,cy1,cy2,cy3⟩:=hI'
      have HTB_0:=cz0 (E 9 (by decide))
      have HTB_1:=cy1
      have HTB_2:=cy2
      have HTB_3:=cy3
      have hout:=C.outG (by simp)
      simp only [List.foldl_cons,List.foldl_nil] at hout
      rw [hout]
      generalize a'.tmps[49]?.getD undef=xB_49
      generalize a'.tmps[50]?.getD undef=xB_50
      generalize a'.tmps[51]?.getD undef=xB_51
      generalize a'.tmps[52]?.getD undef=xB_52
      generalize a'.tmps[53]?.getD undef=xB_53
      generalize a'.tmps[54]?.getD undef=xB_54
      generalize a'.tmps[55]?.getD undef=xB_55
      generalize a'.tmps[56]?.getD undef=xB_56
      generalize a'.tmps[57]?.getD undef=xB_57
      clear hout hIB C E ci0 ci1 ci2 ci3 ci4 ci5 ci6 ci7 ci8 cp1_0 cp5_3 cp5_4 cp6_2 cp6_5 cp7_1 cp7_6 cp9_7 cp9_8 cy0 cz0 cy1 cy2 cy3
      go_simp
      go_wp2
      go_roundw
      case rel=>exact ⟨k+1,by omega,by go_num,⟨v.low,m⟩,htk.out.trans hs1.out,HTB_0,HTB_1,HTB_2,HTB_3,by_.trans hbB⟩
      case measure=>simp [intOf];omega
    by_cases hn2:N<0
    ·obtain ⟨ht1,ht2⟩:=hlo.out hn2
     have hs1:=Lib.hid (hst.out.trans ((if_neg hn).trans (if_pos hn2)))
     have q3:=Yr ht1 ht2
     have kq:=fun W=>KA (-T) (-(Yv r s)*N) W ⟨by omega,by omega⟩ ⟨by omega,by omega⟩
     have km:=fun W=>sRatioMax_c v.low (XD (-T) (-(Yv r s)*N)) W (ZZ vl) (ZZ q3.1)
     generalize XD (-T) (-(Yv r s)*N)=q at *
     generalize Yl v.low q=m at *
     have hwn:IntKind.i64.wrap (-(Yv r s)*N) = -(Yv r s)*N:=IntWalk.i64_in _ (by omega)
     have hwd:IntKind.i64.wrap (-(Yv r s)) = -(Yv r s):=IntWalk.i64_in _ (by omega)
     have hwt:IntKind.i64.wrap (-T) = -T:=IntWalk.i64_in _ (by omega)
     go_upto_region 10 with fail
     have hBWC:w.heap.size≤wy.heap.size:=by_.size
     have hTC_0:=YS
     have hTC_1:=YZ
     have hTC_2:=YB
     have hTC_3:=YP
     have lYS:=Xo YS
     have lYZ:=Xo YZ
     have lYB:=Xo YB
     have lYP:=Xo YP
     obtain ⟨IC,hIC⟩:∃ I:Act→(Nat→Bool)→Act→World→Prop,I=(fun a0 L a w'=>XI a0 a [61,62,63,64,65,66,67,68,69,70,71]∧Below (w.heap.size) wy w'∧(L 0=true→a.tmps[61]?.getD undef=.pointer (some ⟨gA_4,0,none⟩))∧(L 1=true→a.tmps[62]?.getD undef=X9 v.low)∧(L 2=true→a.tmps[63]?.getD undef=.int .i64 T)∧(L 3=true→a.tmps[64]?.getD undef=.int .i64 (-T))∧(L 4=true→a.tmps[65]?.getD undef=.int .i64 (Yv r s))∧(L 5=true→a.tmps[66]?.getD undef=.int .i64 (-(Yv r s)))∧(L 6=true→a.tmps[67]?.getD undef=.int .i64 N)∧(L 7=true→a.tmps[68]?.getD undef=.int .i64 (-(Yv r s)*N))∧(L 8=true→a.tmps[69]?.getD undef=X9 q)∧(L 9=true→a.tmps[70]?.getD undef=X9 m)∧(L 10=true→a.tmps[71]?.getD undef=.pointer (some ⟨gA_4,0,none⟩))∧(L 1=true→L 0=true)∧(L 3=true→L 2=true)∧(L 5=true→L 4=true)∧(L 7=true→L 5=true)∧(L 7=true→L 6=true)∧(L 8=true→L 3=true)∧(L 8=true→L 7=true)∧(L 9=true→L 1=true)∧(L 9=true→L 8=true)∧(L 11=true→L 9=true)∧(L 11=true→L 10=true)∧(L 11=false→Xu w' (gA_4) 72 [.int .i64 v.low.n,.int .i64 v.low.d,.int .i64 v.high.n,.int .i64 v.high.d])∧(L 11=true→Xu w' (gA_4) 72 [.int .i64 m.n,.int .i64 m.d,.int .i64 v.high.n,.int .i64 v.high.d])∧Xu w' (w.heap.size+1+1+1) 72 [.int .i64 0,.int .i64 0,.int .i64 0,.int .i64 0]∧Xu w' (w.heap.size) 39 [.slice ra.map.A (List.length r.map) ra.map.c,.int .i64 r.div,.int .i64 r.bx,.int .i64 r.by_,.int .i64 r.low,.int .i64 r.high,.slice ra.noise.A (List.length r.noise) ra.noise.c,.slice ra.limits.A (List.length r.limits) ra.limits.c]∧Xu w' (w.heap.size+1+1) 44 [.int .i64 s.x,.int .i64 s.y,.int .i64 s.d]):=⟨_,rfl⟩
     refine Zp (by kernel_rfl) (by kernel_rfl) IC ?h0 ?hs ?he
     case h0 =>
      rw [hIC]
      exact ⟨XI.refl _ _,bR.drew,fun h=>absurd h (by simp),fun h=>absurd h (by simp),fun h=>absurd h (by simp),fun h=>absurd h (by simp),fun h=>absurd h (by simp),fun h=>absurd h (by simp),fun h=>absurd h (by simp),fun h=>absurd h (by simp),fun h=>absurd h (by simp),fun h=>absurd h (by simp),fun h=>absurd h (by simp),fun h=>absurd h (by simp),fun h=>absurd h (by simp),fun h=>absurd h (by simp),fun h=>absurd h (by simp),fun h=>absurd h (by simp),fun h=>absurd h (by simp),fun h=>absurd h (by simp),fun h=>absurd h (by simp),fun h=>absurd h (by simp),fun h=>absurd h (by simp),fun h=>absurd h (by simp),fun _=>hTC_0,fun h=>absurd h (by simp),hTC_1,hTC_2,hTC_3⟩
     case hs =>
      intro L a w' i o ho hLi hd hI'
      rw [hIC] at hI'
      obtain ⟨C,D,ci0,ci1,ci2,ci3,ci4,ci5,ci6,ci7,ci8,ci9,ci10,cp1_0,cp3_2,cp5_4,cp7_5,cp7_6,cp8_3,cp8_7,cp9_1,cp9_8,cp11_9,cp11_10,cy0,cz0,cy1,cy2,cy3⟩:=hI'
      have hi:i<12:=by
       rcases Nat.lt_or_ge i 12 with h|h
       ·exact h
       ·rw [List.getElem?_eq_none (by simpa using h)] at ho;cases ho
      have zB:=D.size
      have hBw:w.heap.size≤w'.heap.size:=Nat.le_trans hBWC zB
      obtain rfl|rfl|rfl|rfl|rfl|rfl|rfl|rfl|rfl|rfl|rfl|rfl:i=0∨i=1∨i=2∨i=3∨i=4∨i=5∨i=6∨i=7∨i=8∨i=9∨i=10∨i=11:=by omega
      ·simp only [List.getElem?_cons_zero,Option.some.injEq] at ho
       subst ho
       rw [if_pos (by simp [Region.wanted])]
       have e0:a.tmps[8]?.getD undef=.pointer (some ⟨gA_4,0,none⟩):=C.get (by decide)
       simp [go_sem,Array.getD_eq_getD_getElem?,e0]
       rw [hIC]
       exact ⟨C.put (by decide) _,D,fun _=>Xa (C.lt (by simp)) _,Xi ci1 (by decide) rfl,Xi ci2 (by decide) rfl,Xi ci3 (by decide) rfl,Xi ci4 (by decide) rfl,Xi ci5 (by decide) rfl,Xi ci6 (by decide) rfl,Xi ci7 (by decide) rfl,Xi ci8 (by decide) rfl,Xi ci9 (by decide) rfl,Xi ci10 (by decide) rfl,fun _=>by simp,Xk cp3_2 rfl,Xk cp5_4 rfl,Xk cp7_5 rfl,Xk cp7_6 rfl,Xk cp8_3 rfl,Xk cp8_7 rfl,Xk cp9_1 rfl,Xk cp9_8 rfl,Xk cp11_9 rfl,Xk cp11_10 rfl,K4 cy0 rfl,fun h=>cz0 (by simpa using h),cy1,cy2,cy3⟩
      ·simp only [List.getElem?_cons_zero,List.getElem?_cons_succ,Option.some.injEq] at ho
       subst ho
       rw [if_pos (by simp [Region.wanted])]
       have d0:=hd { on:=0,ground:=.data } (by simp) (by decide)
       have v0:=ci0 d0
       have HT0:=cy0 (by cases hq:L 11;exact rfl;exact absurd (cp9_1 (cp11_9 hq)) (by rw [hLi];decide))
       have HH0:=HT0.has
       have lH0:=HH0.1
       obtain ⟨cH0_0,fH0_0⟩:=HH0.2 0 _ rfl
       obtain ⟨cH0_1,fH0_1⟩:=HH0.2 1 _ rfl
       simp [go_sem,Array.getD_eq_getD_getElem?,v0,cH0_0,cH0_1]
       rw [hIC]
       exact ⟨C.put (by decide) _,D,Xi ci0 (by decide) rfl,fun _=>Xa (C.lt (by simp)) _,Xi ci2 (by decide) rfl,Xi ci3 (by decide) rfl,Xi ci4 (by decide) rfl,Xi ci5 (by decide) rfl,Xi ci6 (by decide) rfl,Xi ci7 (by decide) rfl,Xi ci8 (by decide) rfl,Xi ci9 (by decide) rfl,Xi ci10 (by decide) rfl,fun _=>by simp [d0],Xk cp3_2 rfl,Xk cp5_4 rfl,Xk cp7_5 rfl,Xk cp7_6 rfl,Xk cp8_3 rfl,Xk cp8_7 rfl,fun _=>by simp,Xk cp9_8 rfl,Xk cp11_9 rfl,Xk cp11_10 rfl,K4 cy0 rfl,fun h=>cz0 (by simpa using h),cy1,cy2,cy3⟩
      ·simp only [List.getElem?_cons_zero,List.getElem?_cons_succ,Option.some.injEq] at ho
       subst ho
       rw [if_pos (by simp [Region.wanted])]
       have e0:a.tmps[11]?.getD undef=.int .i64 T:=C.get (by decide)
       simp [go_sem,Array.getD_eq_getD_getElem?,e0]
       rw [hIC]
       exact ⟨C.put (by decide) _,D,Xi ci0 (by decide) rfl,Xi ci1 (by decide) rfl,fun _=>Xa (C.lt (by simp)) _,Xi ci3 (by decide) rfl,Xi ci4 (by decide) rfl,Xi ci5 (by decide) rfl,Xi ci6 (by decide) rfl,Xi ci7 (by decide) rfl,Xi ci8 (by decide) rfl,Xi ci9 (by decide) rfl,Xi ci10 (by decide) rfl,Xk cp1_0 rfl,fun _=>by simp,Xk cp5_4 rfl,Xk cp7_5 rfl,Xk cp7_6 rfl,Xk cp8_3 rfl,Xk cp8_7 rfl,Xk cp9_1 rfl,Xk cp9_8 rfl,Xk cp11_9 rfl,Xk cp11_10 rfl,K4 cy0 rfl,fun h=>cz0 (by simpa using h),cy1,cy2,cy3⟩
      ·simp only [List.getElem?_cons_zero,List.getElem?_cons_succ,Option.some.injEq] at ho
       subst ho
       rw [if_pos (by simp [Region.wanted])]
       have d2:=hd { on:=2,ground:=.data } (by simp) (by decide)
       have v2:=ci2 d2
       simp [go_sem,Array.getD_eq_getD_getElem?,v2,hwt]
       rw [hIC]
       exact ⟨C.put (by decide) _,D,Xi ci0 (by decide) rfl,Xi ci1 (by decide) rfl,Xi ci2 (by decide) rfl,fun _=>Xa (C.lt (by simp)) _,Xi ci4 (by decide) rfl,Xi ci5 (by decide) rfl,Xi ci6 (by decide) rfl,Xi ci7 (by decide) rfl,Xi ci8 (by decide) rfl,Xi ci9 (by decide) rfl,Xi ci10 (by decide) rfl,Xk cp1_0 rfl,fun _=>by simp [d2],Xk cp5_4 rfl,Xk cp7_5 rfl,Xk cp7_6 rfl,fun _=>by simp,Xk cp8_7 rfl,Xk cp9_1 rfl,Xk cp9_8 rfl,Xk cp11_9 rfl,Xk cp11_10 rfl,K4 cy0 rfl,fun h=>cz0 (by simpa using h),cy1,cy2,cy3⟩
      ·simp only [List.getElem?_cons_zero,List.getElem?_cons_succ,Option.some.injEq] at ho
       subst ho
       rw [if_pos (by simp [Region.wanted])]
       have e0:a.tmps[12]?.getD undef=.int .i64 (Yv r s):=C.get (by decide)
       simp [go_sem,Array.getD_eq_getD_getElem?,e0]
       rw [hIC]
       exact ⟨C.put (by decide) _,D,Xi ci0 (by decide) rfl,Xi ci1 (by decide) rfl,Xi ci2 (by decide) rfl,Xi ci3 (by decide) rfl,fun _=>Xa (C.lt (by simp)) _,Xi ci5 (by decide) rfl,Xi ci6 (by decide) rfl,Xi ci7 (by decide) rfl,Xi ci8 (by decide) rfl,Xi ci9 (by decide) rfl,Xi ci10 (by decide) rfl,Xk cp1_0 rfl,Xk cp3_2 rfl,fun _=>by simp,Xk cp7_5 rfl,Xk cp7_6 rfl,Xk cp8_3 rfl,Xk cp8_7 rfl,Xk cp9_1 rfl,Xk cp9_8 rfl,Xk cp11_9 rfl,Xk cp11_10 rfl,K4 cy0 rfl,fun h=>cz0 (by simpa using h),cy1,cy2,cy3⟩
      ·simp only [List.getElem?_cons_zero,List.getElem?_cons_succ,Option.some.injEq] at ho
       subst ho
       rw [if_pos (by simp [Region.wanted])]
       have d4:=hd { on:=4,ground:=.data } (by simp) (by decide)
       have v4:=ci4 d4
       simp [go_sem,Array.getD_eq_getD_getElem?,v4,hwd]
       rw [hIC]
       exact ⟨C.put (by decide) _,D,Xi ci0 (by decide) rfl,Xi ci1 (by decide) rfl,Xi ci2 (by decide) rfl,Xi ci3 (by decide) rfl,Xi ci4 (by decide) rfl,fun _=>Xa (C.lt (by simp)) _,Xi ci6 (by decide) rfl,Xi ci7 (by decide) rfl,Xi ci8 (by decide) rfl,Xi ci9 (by decide) rfl,Xi ci10 (by decide) rfl,Xk cp1_0 rfl,Xk cp3_2 rfl,fun _=>by simp [d4],fun _=>by simp,Xk cp7_6 rfl,Xk cp8_3 rfl,Xk cp8_7 rfl,Xk cp9_1 rfl,Xk cp9_8 rfl,Xk cp11_9 rfl,Xk cp11_10 rfl,K4 cy0 rfl,fun h=>cz0 (by simpa using h),cy1,cy2,cy3⟩
      ·simp only [List.getElem?_cons_zero,List.getElem?_cons_succ,Option.some.injEq] at ho
       subst ho
       rw [if_pos (by simp [Region.wanted])]
       have e0:a.tmps[13]?.getD undef=.int .i64 N:=C.get (by decide)
       simp [go_sem,Array.getD_eq_getD_getElem?,e0]
       rw [hIC]
       exact ⟨C.put (by decide) _,D,Xi ci0 (by decide) rfl,Xi ci1 (by decide) rfl,Xi ci2 (by decide) rfl,Xi ci3 (by decide) rfl,Xi ci4 (by decide) rfl,Xi ci5 (by decide) rfl,fun _=>Xa (C.lt (by simp)) _,Xi ci7 (by decide) rfl,Xi ci8 (by decide) rfl,Xi ci9 (by decide) rfl,Xi ci10 (by decide) rfl,Xk cp1_0 rfl,Xk cp3_2 rfl,Xk cp5_4 rfl,Xk cp7_5 rfl,fun _=>by simp,Xk cp8_3 rfl,Xk cp8_7 rfl,Xk cp9_1 rfl,Xk cp9_8 rfl,Xk cp11_9 rfl,Xk cp11_10 rfl,K4 cy0 rfl,fun h=>cz0 (by simpa using h),cy1,cy2,cy3⟩
      ·simp only [List.getElem?_cons_zero,List.getElem?_cons_succ,Option.some.injEq] at ho
       subst ho
       rw [if_pos (by simp [Region.wanted])]
       have d5:=hd { on:=5,ground:=.data } (by simp) (by decide)
       have v5:=ci5 d5
       have d6:=hd { on:=6,ground:=.data } (by simp) (by decide)
       have v6:=ci6 d6
       simp [go_sem,Array.getD_eq_getD_getElem?,v5,v6,hwn]
       rw [hIC]
       exact ⟨C.put (by decide) _,D,Xi ci0 (by decide) rfl,Xi ci1 (by decide) rfl,Xi ci2 (by decide) rfl,Xi ci3 (by decide) rfl,Xi ci4 (by decide) rfl,Xi ci5 (by decide) rfl,Xi ci6 (by decide) rfl,fun _=>Xa (C.lt (by simp)) _,Xi ci8 (by decide) rfl,Xi ci9 (by decide) rfl,Xi ci10 (by decide) rfl,Xk cp1_0 rfl,Xk cp3_2 rfl,Xk cp5_4 rfl,fun _=>by simp [d5],fun _=>by simp [d6],Xk cp8_3 rfl,fun _=>by simp,Xk cp9_1 rfl,Xk cp9_8 rfl,Xk cp11_9 rfl,Xk cp11_10 rfl,K4 cy0 rfl,fun h=>cz0 (by simpa using h),cy1,cy2,cy3⟩
      ·simp only [List.getElem?_cons_zero,List.getElem?_cons_succ,Option.some.injEq] at ho
       subst ho
       rw [if_pos (by simp [Region.wanted])]
       have d3:=hd { on:=3,ground:=.data } (by simp) (by decide)
       have v3:=ci3 d3
       have d7:=hd { on:=7,ground:=.data } (by simp) (by decide)
       have v7:=ci7 d7
       simp [go_sem,Array.getD_eq_getD_getElem?,v3,v7]
       refine (kq _).mono ?_
       rintro e wx ⟨rfl,hbx⟩
       rw [hIC]
       exact ⟨C.put (by decide) _,D.trans (hbx.mono hBw),Xi ci0 (by decide) rfl,Xi ci1 (by decide) rfl,Xi ci2 (by decide) rfl,Xi ci3 (by decide) rfl,Xi ci4 (by decide) rfl,Xi ci5 (by decide) rfl,Xi ci6 (by decide) rfl,Xi ci7 (by decide) rfl,fun _=>Xa (C.lt (by simp)) _,Xi ci9 (by decide) rfl,Xi ci10 (by decide) rfl,Xk cp1_0 rfl,Xk cp3_2 rfl,Xk cp5_4 rfl,Xk cp7_5 rfl,Xk cp7_6 rfl,fun _=>by simp [d3],fun _=>by simp [d7],Xk cp9_1 rfl,fun _=>by simp,Xk cp11_9 rfl,Xk cp11_10 rfl,fun h=>(cy0 (by simpa using h)).below hbx,fun h=>(cz0 (by simpa using h)).below hbx,(cy1).below hbx,(cy2).below hbx,(cy3).below hbx⟩
      ·simp only [List.getElem?_cons_zero,List.getElem?_cons_succ,Option.some.injEq] at ho
       subst ho
       rw [if_pos (by simp [Region.wanted])]
       have d1:=hd { on:=1,ground:=.data } (by simp) (by decide)
       have v1:=ci1 d1
       have d8:=hd { on:=8,ground:=.data } (by simp) (by decide)
       have v8:=ci8 d8
       simp [go_sem,Array.getD_eq_getD_getElem?,v1,v8]
       refine (km _).mono ?_
       rintro e wx ⟨rfl,hbx⟩
       rw [hIC]
       exact ⟨C.put (by decide) _,D.trans (hbx.mono hBw),Xi ci0 (by decide) rfl,Xi ci1 (by decide) rfl,Xi ci2 (by decide) rfl,Xi ci3 (by decide) rfl,Xi ci4 (by decide) rfl,Xi ci5 (by decide) rfl,Xi ci6 (by decide) rfl,Xi ci7 (by decide) rfl,Xi ci8 (by decide) rfl,fun _=>Xa (C.lt (by simp)) _,Xi ci10 (by decide) rfl,Xk cp1_0 rfl,Xk cp3_2 rfl,Xk cp5_4 rfl,Xk cp7_5 rfl,Xk cp7_6 rfl,Xk cp8_3 rfl,Xk cp8_7 rfl,fun _=>by simp [d1],fun _=>by simp [d8],fun _=>by simp,Xk cp11_10 rfl,fun h=>(cy0 (by simpa using h)).below hbx,fun h=>(cz0 (by simpa using h)).below hbx,(cy1).below hbx,(cy2).below hbx,(cy3).below hbx⟩
      ·simp only [List.getElem?_cons_zero,List.getElem?_cons_succ,Option.some.injEq] at ho
       subst ho
       rw [if_pos (by simp [Region.wanted])]
       have e0:a.tmps[8]?.getD undef=.pointer (some ⟨gA_4,0,none⟩):=C.get (by decide)
       simp [go_sem,Array.getD_eq_getD_getElem?,e0]
       rw [hIC]
       exact ⟨C.put (by decide) _,D,Xi ci0 (by decide) rfl,Xi ci1 (by decide) rfl,Xi ci2 (by decide) rfl,Xi ci3 (by decide) rfl,Xi ci4 (by decide) rfl,Xi ci5 (by decide) rfl,Xi ci6 (by decide) rfl,Xi ci7 (by decide) rfl,Xi ci8 (by decide) rfl,Xi ci9 (by decide) rfl,fun _=>Xa (C.lt (by simp)) _,Xk cp1_0 rfl,Xk cp3_2 rfl,Xk cp5_4 rfl,Xk cp7_5 rfl,Xk cp7_6 rfl,Xk cp8_3 rfl,Xk cp8_7 rfl,Xk cp9_1 rfl,Xk cp9_8 rfl,Xk cp11_9 rfl,fun _=>by simp,K4 cy0 rfl,fun h=>cz0 (by simpa using h),cy1,cy2,cy3⟩
      ·simp only [List.getElem?_cons_zero,List.getElem?_cons_succ,Option.some.injEq] at ho
       subst ho
       rw [if_pos (by simp [Region.wanted])]
       have d9:=hd { on:=9,ground:=.data } (by simp) (by decide)
       have v9:=ci9 d9
       have d10:=hd { on:=10,ground:=.data } (by simp) (by decide)
       have v10:=ci10 d10
       have HT0:=cy0 hLi
       have HH0:=HT0.has
       have lH0:=HH0.1
       obtain ⟨cH0_0,fH0_0⟩:=HH0.2 0 _ rfl
       obtain ⟨cH0_1,fH0_1⟩:=HH0.2 1 _ rfl
       simp [go_sem,Array.getD_eq_getD_getElem?,v9,v10,cH0_0,fH0_0,cH0_1,fH0_1]
       rw [hIC]
       exact ⟨C,X1 (by omega) [_,_] 0 _ D,Z4 ci0 rfl,Z4 ci1 rfl,Z4 ci2 rfl,Z4 ci3 rfl,Z4 ci4 rfl,Z4 ci5 rfl,Z4 ci6 rfl,Z4 ci7 rfl,Z4 ci8 rfl,Z4 ci9 rfl,Z4 ci10 rfl,Xk cp1_0 rfl,Xk cp3_2 rfl,Xk cp5_4 rfl,Xk cp7_5 rfl,Xk cp7_6 rfl,Xk cp8_3 rfl,Xk cp8_7 rfl,Xk cp9_1 rfl,Xk cp9_8 rfl,fun _=>by simp [d9],fun _=>by simp [d10],fun h=>by simp at h,fun _=>((HT0.set_ 0 _).set_ 1 _),(cy1).other (g':=gA_4) (by omega) [.int .i64 m.n,.int .i64 m.d] 0,(cy2).other (g':=gA_4) (by omega) [.int .i64 m.n,.int .i64 m.d] 0,(cy3).other (g':=gA_4) (by omega) [.int .i64 m.n,.int .i64 m.d] 0⟩
     case he =>
      intro L a' wC E hI'
      rw [hIC] at hI'
      obtain ⟨C,hbC,ci0,ci1,ci2,ci3,ci4,ci5,ci6,ci7,ci8,ci9,ci10,cp1_0,cp3_2,cp5_4,cp7_5,cp7_6,cp8_3,cp8_7,cp9_1,cp9_8,cp11_9,cp11_10,cy0,cz0,cy1,cy2,cy3⟩:=hI'
      have HTC_0:=cz0 (E 11 (by decide))
      have HTC_1:=cy1
      have HTC_2:=cy2
      have HTC_3:=cy3
      have hout:=C.outG (by simp)
      simp only [List.foldl_cons,List.foldl_nil] at hout
      rw [hout]
      generalize a'.tmps[61]?.getD undef=xC_61
      generalize a'.tmps[62]?.getD undef=xC_62
      generalize a'.tmps[63]?.getD undef=xC_63
      generalize a'.tmps[64]?.getD undef=xC_64
      generalize a'.tmps[65]?.getD undef=xC_65
      generalize a'.tmps[66]?.getD undef=xC_66
      generalize a'.tmps[67]?.getD undef=xC_67
      generalize a'.tmps[68]?.getD undef=xC_68
      generalize a'.tmps[69]?.getD undef=xC_69
      generalize a'.tmps[70]?.getD undef=xC_70
      generalize a'.tmps[71]?.getD undef=xC_71
      clear hout hIC C E ci0 ci1 ci2 ci3 ci4 ci5 ci6 ci7 ci8 ci9 ci10 cp1_0 cp3_2 cp5_4 cp7_5 cp7_6 cp8_3 cp8_7 cp9_1 cp9_8 cp11_9 cp11_10 cy0 cz0 cy1 cy2 cy3
      go_simp
      go_wp2
      go_roundw
      case rel=>exact ⟨k+1,by omega,by go_num,⟨m,v.high⟩,htk.out.trans hs1.out,HTC_0,HTC_1,HTC_2,HTC_3,by_.trans hbC⟩
      case measure=>simp [intOf];omega
    have hs0:=hst.out.trans ((if_neg hn).trans (if_neg hn2))
    by_cases ht:T<0
    ·have C:=Lib.hid (show Yi r e s=none from hdef.out.trans (by rw [hno.out (htk.out.trans (hs0.trans (if_pos ht)))];rfl))
     clear hs0
     have HZ:=(YZ).has
     obtain ⟨cHZ_0,fHZ_0⟩:=HZ.2 0 _ rfl
     obtain ⟨cHZ_1,fHZ_1⟩:=HZ.2 1 _ rfl
     obtain ⟨cHZ_2,fHZ_2⟩:=HZ.2 2 _ rfl
     obtain ⟨cHZ_3,fHZ_3⟩:=HZ.2 3 _ rfl
     have lZ:=HZ.1
     go_wp2
     refine bodyPost_ret (v:=.tuple #[.agg #[.int .i64 0,.int .i64 0,.int .i64 0,.int .i64 0],.bool false]) (by simp [results,Tryz.results160,go_sem, *]) rfl ⟨by rw [C.out];rfl, ?_⟩
     exact ZX by_ (by omega) [_,_,_,_] 0
    have hs1:=Lib.hid (hs0.trans (if_neg ht))
    clear hs0
    go_wp2
    go_roundw
    case rel=>exact ⟨k+1,by omega,by go_num,v,htk.out.trans hs1.out,YS,YZ,YB,YP,by_⟩
    case measure=>simp [intOf];omega
   ·obtain rfl:k=e.length:=by omega
    rw [List.take_length] at hv
    have c3:=fun W=>sSpanOk_c v W ⟨ZZ vl,ZZ vh⟩
    have HG:=TS.has
    obtain ⟨cHG_0,fHG_0⟩:=HG.2 0 _ rfl
    obtain ⟨cHG_1,fHG_1⟩:=HG.2 1 _ rfl
    obtain ⟨cHG_2,fHG_2⟩:=HG.2 2 _ rfl
    obtain ⟨cHG_3,fHG_3⟩:=HG.2 3 _ rfl
    have lG:=HG.1
    have hv':=Lib.hid hv
    clear hv
    go_wp2_with (fail)
    refine (c3 _).mono ?_
    rintro x w5 ⟨rfl,hb5⟩
    have R5:=TZ.below hb5
    have G5:=(TS.below hb5).has
    have b5:=Xb hbr hb5
    clear HG cHG_0 cHG_1 cHG_2 cHG_3 fHG_0 fHG_1 fHG_2 fHG_3 lG
    cases e3:YD v
    ·have C:=Lib.hid (show Yi r e s=none from hdef.out.trans (by rw [hv'.out];show (if YD v=true then some v else none)=none;rw [e3];rfl))
     have HZ:=(R5).has
     obtain ⟨cHZ_0,fHZ_0⟩:=HZ.2 0 _ rfl
     obtain ⟨cHZ_1,fHZ_1⟩:=HZ.2 1 _ rfl
     obtain ⟨cHZ_2,fHZ_2⟩:=HZ.2 2 _ rfl
     obtain ⟨cHZ_3,fHZ_3⟩:=HZ.2 3 _ rfl
     have lZ:=HZ.1
     go_wp2
     refine bodyPost_ret (v:=.tuple #[.agg #[.int .i64 0,.int .i64 0,.int .i64 0,.int .i64 0],.bool false]) (by simp [results,Tryz.results160,go_sem, *]) rfl ⟨by rw [C.out];rfl, ?_⟩
     exact ZX b5 (by omega) [_,_,_,_] 0
    have C:=Lib.hid (show Yi r e s=some v from hdef.out.trans (by rw [hv'.out];show (if YD v=true then some v else none)=some v;rw [e3];rfl))
    obtain ⟨cG5_0,fG5_0⟩:=G5.2 0 _ rfl
    obtain ⟨cG5_1,fG5_1⟩:=G5.2 1 _ rfl
    obtain ⟨cG5_2,fG5_2⟩:=G5.2 2 _ rfl
    obtain ⟨cG5_3,fG5_3⟩:=G5.2 3 _ rfl
    have lG:=G5.1
    have HZ:=(R5).has
    obtain ⟨cHZ_0,fHZ_0⟩:=HZ.2 0 _ rfl
    obtain ⟨cHZ_1,fHZ_1⟩:=HZ.2 1 _ rfl
    obtain ⟨cHZ_2,fHZ_2⟩:=HZ.2 2 _ rfl
    obtain ⟨cHZ_3,fHZ_3⟩:=HZ.2 3 _ rfl
    have lZ:=HZ.1
    go_wp2
    refine bodyPost_ret (v:=.tuple #[.agg #[.int .i64 v.low.n,.int .i64 v.low.d,.int .i64 v.high.n,.int .i64 v.high.d],.bool true]) (by simp [results,Tryz.results160,go_sem, *]) rfl ⟨by rw [C.out];rfl, ?_⟩
    exact ZX b5 (by omega) [_,_,_,_] 0
end Go.Proofs.YtkjimfapbjdafaaGreat
end
section
namespace Go.Proofs.YtkjimfapbjdafaaGreat
open Go.RowKit
set_option maxRecDepth 100000 in
set_option maxHeartbeats 8000000 in
theorem iRobustOf_c (r:XJ) (p:List Half) (ra:Ye) (b:Zw) (w:World) (hn:Xp r≤1048576) (hin:Y6 r) (hs:Yh w r ra) (hnl:YV ra) (hlp:p.length≤1048576) (hpi:∀ h∈p,h.In) (hsp:Sl 3 Xj w b.A p) (hnb:b.A=none→b.c=0) :
 Calls Tryz.prog 113 #[XY r ra,X5 p b] w fun e w'=>∃ v R,e=.returned (.tuple #[.agg #[v],.bool (Zx r p)])∧(Zx r p=true→R=ZA r p)∧R.length≤40∧XK 175 3 Xj w' w.heap.size v R∧Below w.heap.size w w':=by
 obtain ⟨W,hW⟩:∃ W,W=((w.alloc (.cells #[.slice ra.map.A (List.length r.map) ra.map.c,.int .i64 r.div,.int .i64 r.bx,.int .i64 r.by_,.int .i64 r.low,.int .i64 r.high,.slice ra.noise.A (List.length r.noise) ra.noise.c,.slice ra.limits.A (List.length r.limits) ra.limits.c] 39)).alloc (.cells #[.slice b.A p.length b.c] 37)).alloc (.cells #[.slice none 0 0] 37):=⟨_,rfl⟩
 have HA:Xu W w.heap.size 39 [.slice ra.map.A (List.length r.map) ra.map.c,.int .i64 r.div,.int .i64 r.bx,.int .i64 r.by_,.int .i64 r.low,.int .i64 r.high,.slice ra.noise.A (List.length r.noise) ra.noise.c,.slice ra.limits.A (List.length r.limits) ra.limits.c]:=by
  rw [hW];exact ((Xu.new w [.slice ra.map.A (List.length r.map) ra.map.c,.int .i64 r.div,.int .i64 r.bx,.int .i64 r.by_,.int .i64 r.low,.int .i64 r.high,.slice ra.noise.A (List.length r.noise) ra.noise.c,.slice ra.limits.A (List.length r.limits) ra.limits.c] 39).alloc _).alloc _
 have HB:Xu W (w.heap.size+1) 37 [.slice b.A p.length b.c]:=by
  have h1:=(Xu.new (w.alloc (.cells #[.slice ra.map.A (List.length r.map) ra.map.c,.int .i64 r.div,.int .i64 r.bx,.int .i64 r.by_,.int .i64 r.low,.int .i64 r.high,.slice ra.noise.A (List.length r.noise) ra.noise.c,.slice ra.limits.A (List.length r.limits) ra.limits.c] 39)) [.slice b.A p.length b.c] 37).alloc (.cells #[.slice none 0 0] 37)
  simp only [World.size_alloc] at h1;rw [hW];exact h1
 have HR:Xu W (w.heap.size+1+1) 37 [.slice none 0 0]:=by
  have h1:=Xu.new ((w.alloc (.cells #[.slice ra.map.A (List.length r.map) ra.map.c,.int .i64 r.div,.int .i64 r.bx,.int .i64 r.by_,.int .i64 r.low,.int .i64 r.high,.slice ra.noise.A (List.length r.noise) ra.noise.c,.slice ra.limits.A (List.length r.limits) ra.limits.c] 39)).alloc (.cells #[.slice b.A p.length b.c] 37)) [.slice none 0 0] 37
  simp only [World.size_alloc] at h1;rw [hW];exact h1
 have b0:Below w.heap.size w W:=by
  rw [hW]
  exact Xg
 have zW:=Xo HR
 have hs0:=hs.below b0
 have sp:=hsp.below b0
 have hW':=Lib.hid hW
 clear hW hs hsp
 have HA_:=HA.has
 have HB_:=HB.has
 obtain ⟨cHA__0,fHA__0⟩:=HA_.2 0 _ rfl
 obtain ⟨cHA__1,fHA__1⟩:=HA_.2 1 _ rfl
 obtain ⟨cHA__2,fHA__2⟩:=HA_.2 2 _ rfl
 obtain ⟨cHA__3,fHA__3⟩:=HA_.2 3 _ rfl
 obtain ⟨cHA__4,fHA__4⟩:=HA_.2 4 _ rfl
 obtain ⟨cHA__5,fHA__5⟩:=HA_.2 5 _ rfl
 obtain ⟨cHA__6,fHA__6⟩:=HA_.2 6 _ rfl
 obtain ⟨cHA__7,fHA__7⟩:=HA_.2 7 _ rfl
 obtain ⟨cHB__0,fHB__0⟩:=HB_.2 0 _ rfl
 have lA:=HA_.1
 have lB:=HB_.1
 have cv:=fun W=>JE p b W
 have hdef:=Lib.hid (show Zx r p=(!decide (p.length=0)&&KB r p && !decide ((ZA r p).length=0)) from rfl)
 by_cases h0:p.length=0
 ·have C:=Lib.hid (show Zx r p=false by rw [hdef.out,decide_eq_true h0];rfl)
  rw [decide_eq_true h0] at cv
  clear h0
  go_enter Tryz.func113,Tryz.ntmps113
  go_upto_region 1 with fail
  rw [← hW'.out]
  clear hW'
  go_wp2_with (fail)
  refine (cv _).mono ?_
  rintro e w1 ⟨rfl,hb1⟩
  have R1:=(HR.below hb1).has
  have b1:=Xb b0 hb1
  obtain ⟨cR1_0,fR1_0⟩:=R1.2 0 _ rfl
  have lR:=R1.1
  go_wp2
  refine bodyPost_ret (v:=.tuple #[.agg #[.slice none 0 0],.bool false]) (by simp [results,Tryz.results113,go_sem,cR1_0]) rfl ⟨.slice none 0 0,[],by rw [C.out],(fun h=>by rw [C.out] at h;cases h),by simp,⟨none,0,rfl,World.ownsRow_nil _ _ _ _⟩,Yg b1 (by simp only;omega) _⟩
 have hp0:=Lib.hid h0
 rw [decide_eq_false h0] at cv
 clear h0
 have cr:=fun W h1 h2=>iRob_c r p ra b W hn hin h1 hnl hlp hpi h2 hnb
 have hro:=KL (rpR_ok r p)
 go_enter Tryz.func113,Tryz.ntmps113
 go_upto_region 1 with fail
 rw [← hW'.out]
 clear hW'
 go_wp2_with (fail)
 refine (cv _).mono ?_
 rintro e w1 ⟨rfl,hb1⟩
 have r1:=Xd hb1
 have l1:=blt hb1 lA
 have l2:=blt hb1 lB
 go_wp2_with (fail)
 refine (cr _ (hs0.below hb1) (sp.below hb1)).mono ?_
 rintro e w2 ⟨v2,rfl,N2,hb2⟩
 obtain ⟨Av,cv2,rfl,o3⟩:=N2
 obtain ⟨R,hR⟩:∃ R,R=ZA r p:=⟨_,rfl⟩
 obtain ⟨ok,hok⟩:∃ ok,ok=KB r p:=⟨_,rfl⟩
 rw [← hR] at o3 hro
 rw [← hR,← hok]
 have N2:XK 175 3 Xj w2 w1.heap.size (.slice Av R.length cv2) R:=⟨Av,cv2,rfl,o3⟩
 have hR':=Lib.hid hR
 have hok':=Lib.hid hok
 clear hR hok o3
 have T3:Xu (w2.alloc (.cells #[.slice Av R.length cv2] 37)) w2.heap.size 37 [.slice Av R.length cv2]:=Xu.new w2 [.slice Av R.length cv2] 37
 have R3:=((HR.below hb1).below hb2).alloc (.cells #[.slice Av R.length cv2] 37)
 have N3:=N2.alloc (.cells #[.slice Av R.length cv2] 37)
 have b3:=Xf (Xb (Xb b0 hb1) hb2) (.cells #[.slice Av R.length cv2] 37)
 have z3:=Nat.lt_of_lt_of_le zW (Nat.le_trans hb1.size hb2.size);have z1:=hb1.size;clear HA_ HB_ cHA__0 cHA__1 cHA__2 cHA__3 cHA__4 cHA__5 cHA__6 cHA__7 fHA__0 fHA__1 fHA__2 fHA__3 fHA__4 fHA__5 fHA__6 fHA__7 cHB__0 fHB__0 lA lB HA HB HR b0 hs0 sp r1 l1 l2 hb1 hb2 N2 cv cr
 go_upto_region 4 with fail
 generalize w2.alloc (.cells #[.slice Av R.length cv2] 37)=w3 at *
 generalize w2.heap.size=g2 at *
 have cv:=fun W=>JE R ⟨Av,cv2⟩ W
 obtain ⟨vd,hvd⟩:∃ vd,vd=decide (R.length=0):=⟨_,rfl⟩
 rw [← hvd] at cv
 have hvd':=Lib.hid hvd
 have hBWA:w.heap.size+1+1≤w3.heap.size:=by have:=Xo R3;omega
 have hTA_0:=T3
 have hTA_1:=R3
 have lT:=Xo T3
 have lR:=Xo R3
 clear hvd
 cases ok
 ·have C:=Lib.hid (show Zx r p=false by rw [hdef.out,← hok'.out];simp)
  have hKA_0:=N3
  obtain ⟨IA,hIA⟩:∃ I:Act→(Nat→Bool)→Act→World→Prop,I=(fun a0 L a w'=>XI a0 a [17,18,19,20,21,22,23,5]∧Below (w.heap.size+1+1) w3 w'∧(L 0=true→a.tmps[17]?.getD undef=.agg #[.slice Av R.length cv2])∧(L 1=true→a.tmps[18]?.getD undef=.bool false)∧(L 2=true→a.tmps[19]?.getD undef=.bool false)∧(L 3=true→a.tmps[20]?.getD undef=undef)∧(L 4=true→a.tmps[21]?.getD undef=undef)∧(L 5=true→a.tmps[22]?.getD undef=undef)∧(L 6=true→a.tmps[23]?.getD undef=.bool false)∧(L 8=true→a.tmps[5]?.getD undef=.bool false)∧(L 2=true→L 1=true)∧(L 6=true→L 2=true)∧(L 7=true→L 0=true)∧(L 8=true→L 6=true)∧Xu w' (g2) 37 [.slice Av R.length cv2]∧(L 7=false→Xu w' (w.heap.size+1+1) 37 [.slice none 0 0])∧(L 7=true→Xu w' (w.heap.size+1+1) 37 [.slice Av R.length cv2])∧(XK 175 3 Xj w' w1.heap.size (.slice Av R.length cv2) R)):=⟨_,rfl⟩
  refine Zp (by kernel_rfl) (by kernel_rfl) IA ?h0 ?hs ?he
  case h0 =>
   rw [hIA]
   exact ⟨XI.refl _ _,bR.drew,fun h=>absurd h (by simp),fun h=>absurd h (by simp),fun h=>absurd h (by simp),fun h=>absurd h (by simp),fun h=>absurd h (by simp),fun h=>absurd h (by simp),fun h=>absurd h (by simp),fun h=>absurd h (by simp),fun h=>absurd h (by simp),fun h=>absurd h (by simp),fun h=>absurd h (by simp),fun h=>absurd h (by simp),hTA_0,fun _=>hTA_1,fun h=>absurd h (by simp),hKA_0⟩
  case hs =>
   intro L a w' i o ho hLi hd hI'
   rw [hIA] at hI'
   obtain ⟨C,D,ci0,ci1,ci2,ci3,ci4,ci5,ci6,ci8,cp2_1,cp6_2,cp7_0,cp8_6,cy0,cy1,cz1,ck0⟩:=hI'
   have hi:i<9:=by
    rcases Nat.lt_or_ge i 9 with h|h
    ·exact h
    ·rw [List.getElem?_eq_none (by simpa using h)] at ho;cases ho
   have zB:=D.size
   have hBw:w.heap.size+1+1≤w'.heap.size:=Nat.le_trans hBWA zB
   obtain rfl|rfl|rfl|rfl|rfl|rfl|rfl|rfl|rfl:i=0∨i=1∨i=2∨i=3∨i=4∨i=5∨i=6∨i=7∨i=8:=by omega
   ·simp only [List.getElem?_cons_zero,Option.some.injEq] at ho
    subst ho
    rw [if_pos (by simp [Region.wanted])]
    have e0:a.tmps[6]?.getD undef=.pointer (some ⟨g2,0,none⟩):=C.get (by decide)
    have HT0:=cy0
    have HH0:=HT0.has
    have lH0:=HH0.1
    obtain ⟨cH0_0,fH0_0⟩:=HH0.2 0 _ rfl
    simp [go_sem,Array.getD_eq_getD_getElem?,e0,cH0_0]
    rw [hIA]
    exact ⟨C.put (by decide) _,D,fun _=>Xa (C.lt (by simp)) _,Xi ci1 (by decide) rfl,Xi ci2 (by decide) rfl,Xi ci3 (by decide) rfl,Xi ci4 (by decide) rfl,Xi ci5 (by decide) rfl,Xi ci6 (by decide) rfl,Xi ci8 (by decide) rfl,Xk cp2_1 rfl,Xk cp6_2 rfl,fun _=>by simp,Xk cp8_6 rfl,cy0,K4 cy1 rfl,fun h=>cz1 (by simpa using h),ck0⟩
   ·simp only [List.getElem?_cons_zero,List.getElem?_cons_succ,Option.some.injEq] at ho
    subst ho
    rw [if_pos (by simp [Region.wanted])]
    have e0:a.tmps[7]?.getD undef=.bool false:=C.get (by decide)
    simp [go_sem,Array.getD_eq_getD_getElem?,e0]
    rw [hIA]
    exact ⟨C.put (by decide) _,D,Xi ci0 (by decide) rfl,fun _=>Xa (C.lt (by simp)) _,Xi ci2 (by decide) rfl,Xi ci3 (by decide) rfl,Xi ci4 (by decide) rfl,Xi ci5 (by decide) rfl,Xi ci6 (by decide) rfl,Xi ci8 (by decide) rfl,fun _=>by simp,Xk cp6_2 rfl,Xk cp7_0 rfl,Xk cp8_6 rfl,cy0,K4 cy1 rfl,fun h=>cz1 (by simpa using h),ck0⟩
   ·simp only [List.getElem?_cons_zero,List.getElem?_cons_succ,Option.some.injEq] at ho
    subst ho
    rw [if_pos (by simp [Region.wanted])]
    have d1:=hd { on:=1,ground:=.data } (by simp) (by decide)
    have v1:=ci1 d1
    simp [go_sem,Array.getD_eq_getD_getElem?,v1]
    rw [hIA]
    exact ⟨C.put (by decide) _,D,Xi ci0 (by decide) rfl,Xi ci1 (by decide) rfl,fun _=>Xa (C.lt (by simp)) _,Xi ci3 (by decide) rfl,Xi ci4 (by decide) rfl,Xi ci5 (by decide) rfl,Xi ci6 (by decide) rfl,Xi ci8 (by decide) rfl,fun _=>by simp [d1],fun _=>by simp,Xk cp7_0 rfl,Xk cp8_6 rfl,cy0,K4 cy1 rfl,fun h=>cz1 (by simpa using h),ck0⟩
   ·simp only [List.getElem?_cons_zero,List.getElem?_cons_succ,Option.some.injEq] at ho
    subst ho
    have dg:=hd { on:=2,ground:=.guard } (by simp) (by decide)
    have vg:=ci2 dg
    rw [if_neg (Jr rfl rfl rfl vg (by decide))]
    rw [hIA]
    exact ⟨C.put (by decide) _,D,Xi ci0 (by decide) rfl,Xi ci1 (by decide) rfl,Xi ci2 (by decide) rfl,fun _=>Xa (C.lt (by simp)) _,Xi ci4 (by decide) rfl,Xi ci5 (by decide) rfl,Xi ci6 (by decide) rfl,Xi ci8 (by decide) rfl,Xk cp2_1 rfl,Xk cp6_2 rfl,Xk cp7_0 rfl,Xk cp8_6 rfl,cy0,K4 cy1 rfl,fun h=>cz1 (by simpa using h),ck0⟩
   ·simp only [List.getElem?_cons_zero,List.getElem?_cons_succ,Option.some.injEq] at ho
    subst ho
    have dg:=hd { on:=2,ground:=.guard } (by simp) (by decide)
    have vg:=ci2 dg
    rw [if_neg (Jr rfl rfl rfl vg (by decide))]
    rw [hIA]
    exact ⟨C.put (by decide) _,D,Xi ci0 (by decide) rfl,Xi ci1 (by decide) rfl,Xi ci2 (by decide) rfl,Xi ci3 (by decide) rfl,fun _=>Xa (C.lt (by simp)) _,Xi ci5 (by decide) rfl,Xi ci6 (by decide) rfl,Xi ci8 (by decide) rfl,Xk cp2_1 rfl,Xk cp6_2 rfl,Xk cp7_0 rfl,Xk cp8_6 rfl,cy0,K4 cy1 rfl,fun h=>cz1 (by simpa using h),ck0⟩
   ·simp only [List.getElem?_cons_zero,List.getElem?_cons_succ,Option.some.injEq] at ho
    subst ho
    have dg:=hd { on:=2,ground:=.guard } (by simp) (by decide)
    have vg:=ci2 dg
    rw [if_neg (Jr rfl rfl rfl vg (by decide))]
    rw [hIA]
    exact ⟨C.put (by decide) _,D,Xi ci0 (by decide) rfl,Xi ci1 (by decide) rfl,Xi ci2 (by decide) rfl,Xi ci3 (by decide) rfl,Xi ci4 (by decide) rfl,fun _=>Xa (C.lt (by simp)) _,Xi ci6 (by decide) rfl,Xi ci8 (by decide) rfl,Xk cp2_1 rfl,Xk cp6_2 rfl,Xk cp7_0 rfl,Xk cp8_6 rfl,cy0,K4 cy1 rfl,fun h=>cz1 (by simpa using h),ck0⟩
   ·simp only [List.getElem?_cons_zero,List.getElem?_cons_succ,Option.some.injEq] at ho
    subst ho
    rw [if_pos (by simp [Region.wanted])]
    have d2:=hd { on:=2,ground:=.data } (by simp) (by decide)
    have v2:=ci2 d2
    simp [go_sem,Array.getD_eq_getD_getElem?,v2]
    rw [hIA]
    exact ⟨C.put (by decide) _,D,Xi ci0 (by decide) rfl,Xi ci1 (by decide) rfl,Xi ci2 (by decide) rfl,Xi ci3 (by decide) rfl,Xi ci4 (by decide) rfl,Xi ci5 (by decide) rfl,fun _=>Xa (C.lt (by simp)) _,Xi ci8 (by decide) rfl,Xk cp2_1 rfl,fun _=>by simp [d2],Xk cp7_0 rfl,fun _=>by simp,cy0,K4 cy1 rfl,fun h=>cz1 (by simpa using h),ck0⟩
   ·simp only [List.getElem?_cons_zero,List.getElem?_cons_succ,Option.some.injEq] at ho
    subst ho
    rw [if_pos (by simp [Region.wanted])]
    have e0:a.tmps[4]?.getD undef=.pointer (some ⟨w.heap.size+1+1,0,none⟩):=C.get (by decide)
    have d0:=hd { on:=0,ground:=.data } (by simp) (by decide)
    have v0:=ci0 d0
    have HT1:=cy1 hLi
    have HH1:=HT1.has
    have lH1:=HH1.1
    obtain ⟨cH1_0,fH1_0⟩:=HH1.2 0 _ rfl
    simp [go_sem,Array.getD_eq_getD_getElem?,e0,v0,cH1_0,fH1_0]
    rw [hIA]
    exact ⟨C,X1 (by omega) [_] 0 _ D,Z4 ci0 rfl,Z4 ci1 rfl,Z4 ci2 rfl,Z4 ci3 rfl,Z4 ci4 rfl,Z4 ci5 rfl,Z4 ci6 rfl,Z4 ci8 rfl,Xk cp2_1 rfl,Xk cp6_2 rfl,fun _=>by simp [d0],Xk cp8_6 rfl,(cy0).other (g':=w.heap.size+1+1) (by omega) [.slice Av R.length cv2] 0,fun h=>by simp at h,fun _=>HT1.store (us:=[.slice Av R.length cv2]) rfl,(ck0).otherC ((ck0).typ HT1 (by decide)) [.slice Av R.length cv2] 0⟩
   ·simp only [List.getElem?_cons_zero,List.getElem?_cons_succ,Option.some.injEq] at ho
    subst ho
    rw [if_pos (by simp [Region.wanted])]
    have d6:=hd { on:=6,ground:=.data } (by simp) (by decide)
    have v6:=ci6 d6
    simp [go_sem,Array.getD_eq_getD_getElem?,v6]
    rw [hIA]
    exact ⟨C.put (by decide) _,D,Xi ci0 (by decide) rfl,Xi ci1 (by decide) rfl,Xi ci2 (by decide) rfl,Xi ci3 (by decide) rfl,Xi ci4 (by decide) rfl,Xi ci5 (by decide) rfl,Xi ci6 (by decide) rfl,fun _=>Xa (C.lt (by simp)) _,Xk cp2_1 rfl,Xk cp6_2 rfl,Xk cp7_0 rfl,fun _=>by simp [d6],cy0,K4 cy1 rfl,fun h=>cz1 (by simpa using h),ck0⟩
  case he =>
   intro L a' wA E hI'
   rw [hIA] at hI'
   obtain ⟨C,hbA,ci0,ci1,ci2,ci3,ci4,ci5,ci6,ci8,cp2_1,cp6_2,cp7_0,cp8_6,cy0,cy1,cz1,ck0⟩:=hI'
   have eA_8:=ci8 (E 8 (by decide))
   have HTA_0:=cy0
   have HTA_1:=cz1 (E 7 (by decide))
   have NKA_0:=ck0
   have hout:=C.outG (by simp)
   simp only [List.foldl_cons,List.foldl_nil,eA_8] at hout
   rw [hout]
   generalize a'.tmps[17]?.getD undef=xA_17
   generalize a'.tmps[18]?.getD undef=xA_18
   generalize a'.tmps[19]?.getD undef=xA_19
   generalize a'.tmps[20]?.getD undef=xA_20
   generalize a'.tmps[21]?.getD undef=xA_21
   generalize a'.tmps[22]?.getD undef=xA_22
   generalize a'.tmps[23]?.getD undef=xA_23
   clear hout hIA C E ci0 ci1 ci2 ci3 ci4 ci5 ci6 ci8 cp2_1 cp6_2 cp7_0 cp8_6 cy0 cy1 cz1 ck0
   go_simp
   have HF:=HTA_1.has
   obtain ⟨cHF_0,fHF_0⟩:=HF.2 0 _ rfl
   have lF:=HF.1
   go_wp2
   refine bodyPost_ret (v:=.tuple #[.agg #[.slice Av R.length cv2],.bool false]) (by simp [results,Tryz.results113,go_sem, *]) rfl ⟨.slice Av R.length cv2,R,by rw [C.out],fun _=>hR'.out,hro, ?_,b3.trans (hbA.mono (by omega))⟩
   exact NKA_0.mono (by omega)
 ·have C:=Lib.hid (show Zx r p = !vd by rw [hdef.out,← hok'.out,← hR'.out,decide_eq_false hp0.out,← hvd'.out];simp)
  have hKA_0:=N3
  obtain ⟨IA,hIA⟩:∃ I:Act→(Nat→Bool)→Act→World→Prop,I=(fun a0 L a w'=>XI a0 a [17,18,19,20,21,22,23,5]∧Below (w.heap.size+1+1) w3 w'∧(L 0=true→a.tmps[17]?.getD undef=.agg #[.slice Av R.length cv2])∧(L 1=true→a.tmps[18]?.getD undef=.bool true)∧(L 2=true→a.tmps[19]?.getD undef=.bool true)∧(L 3=true→a.tmps[20]?.getD undef=.agg #[.slice Av R.length cv2])∧(L 4=true→a.tmps[21]?.getD undef=.bool (vd))∧(L 5=true→a.tmps[22]?.getD undef=.bool (!vd))∧(L 6=true→a.tmps[23]?.getD undef=.bool (!vd))∧(L 8=true→a.tmps[5]?.getD undef=.bool (!vd))∧(L 2=true→L 1=true)∧(L 4=true→L 3=true)∧(L 5=true→L 4=true)∧(L 6=true→L 2=true)∧(L 6=true→L 5=true)∧(L 7=true→L 0=true)∧(L 8=true→L 6=true)∧Xu w' (g2) 37 [.slice Av R.length cv2]∧(L 7=false→Xu w' (w.heap.size+1+1) 37 [.slice none 0 0])∧(L 7=true→Xu w' (w.heap.size+1+1) 37 [.slice Av R.length cv2])∧(XK 175 3 Xj w' w1.heap.size (.slice Av R.length cv2) R)):=⟨_,rfl⟩
  refine Zp (by kernel_rfl) (by kernel_rfl) IA ?h0 ?hs ?he
  case h0 =>
   rw [hIA]
   exact ⟨XI.refl _ _,bR.drew,fun h=>absurd h (by simp),fun h=>absurd h (by simp),fun h=>absurd h (by simp),fun h=>absurd h (by simp),fun h=>absurd h (by simp),fun h=>absurd h (by simp),fun h=>absurd h (by simp),fun h=>absurd h (by simp),fun h=>absurd h (by simp),fun h=>absurd h (by simp),fun h=>absurd h (by simp),fun h=>absurd h (by simp),fun h=>absurd h (by simp),fun h=>absurd h (by simp),fun h=>absurd h (by simp),hTA_0,fun _=>hTA_1,fun h=>absurd h (by simp),hKA_0⟩
  case hs =>
   intro L a w' i o ho hLi hd hI'
   rw [hIA] at hI'
   obtain ⟨C,D,ci0,ci1,ci2,ci3,ci4,ci5,ci6,ci8,cp2_1,cp4_3,cp5_4,cp6_2,cp6_5,cp7_0,cp8_6,cy0,cy1,cz1,ck0⟩:=hI'
   have hi:i<9:=by
    rcases Nat.lt_or_ge i 9 with h|h
    ·exact h
    ·rw [List.getElem?_eq_none (by simpa using h)] at ho;cases ho
   have zB:=D.size
   have hBw:w.heap.size+1+1≤w'.heap.size:=Nat.le_trans hBWA zB
   obtain rfl|rfl|rfl|rfl|rfl|rfl|rfl|rfl|rfl:i=0∨i=1∨i=2∨i=3∨i=4∨i=5∨i=6∨i=7∨i=8:=by omega
   ·simp only [List.getElem?_cons_zero,Option.some.injEq] at ho
    subst ho
    rw [if_pos (by simp [Region.wanted])]
    have e0:a.tmps[6]?.getD undef=.pointer (some ⟨g2,0,none⟩):=C.get (by decide)
    have HT0:=cy0
    have HH0:=HT0.has
    have lH0:=HH0.1
    obtain ⟨cH0_0,fH0_0⟩:=HH0.2 0 _ rfl
    simp [go_sem,Array.getD_eq_getD_getElem?,e0,cH0_0]
    rw [hIA]
    exact ⟨C.put (by decide) _,D,fun _=>Xa (C.lt (by simp)) _,Xi ci1 (by decide) rfl,Xi ci2 (by decide) rfl,Xi ci3 (by decide) rfl,Xi ci4 (by decide) rfl,Xi ci5 (by decide) rfl,Xi ci6 (by decide) rfl,Xi ci8 (by decide) rfl,Xk cp2_1 rfl,Xk cp4_3 rfl,Xk cp5_4 rfl,Xk cp6_2 rfl,Xk cp6_5 rfl,fun _=>by simp,Xk cp8_6 rfl,cy0,K4 cy1 rfl,fun h=>cz1 (by simpa using h),ck0⟩
   ·simp only [List.getElem?_cons_zero,List.getElem?_cons_succ,Option.some.injEq] at ho
    subst ho
    rw [if_pos (by simp [Region.wanted])]
    have e0:a.tmps[7]?.getD undef=.bool true:=C.get (by decide)
    simp [go_sem,Array.getD_eq_getD_getElem?,e0]
    rw [hIA]
    exact ⟨C.put (by decide) _,D,Xi ci0 (by decide) rfl,fun _=>Xa (C.lt (by simp)) _,Xi ci2 (by decide) rfl,Xi ci3 (by decide) rfl,Xi ci4 (by decide) rfl,Xi ci5 (by decide) rfl,Xi ci6 (by decide) rfl,Xi ci8 (by decide) rfl,fun _=>by simp,Xk cp4_3 rfl,Xk cp5_4 rfl,Xk cp6_2 rfl,Xk cp6_5 rfl,Xk cp7_0 rfl,Xk cp8_6 rfl,cy0,K4 cy1 rfl,fun h=>cz1 (by simpa using h),ck0⟩
   ·simp only [List.getElem?_cons_zero,List.getElem?_cons_succ,Option.some.injEq] at ho
    subst ho
    rw [if_pos (by simp [Region.wanted])]
    have d1:=hd { on:=1,ground:=.data } (by simp) (by decide)
    have v1:=ci1 d1
    simp [go_sem,Array.getD_eq_getD_getElem?,v1]
    rw [hIA]
    exact ⟨C.put (by decide) _,D,Xi ci0 (by decide) rfl,Xi ci1 (by decide) rfl,fun _=>Xa (C.lt (by simp)) _,Xi ci3 (by decide) rfl,Xi ci4 (by decide) rfl,Xi ci5 (by decide) rfl,Xi ci6 (by decide) rfl,Xi ci8 (by decide) rfl,fun _=>by simp [d1],Xk cp4_3 rfl,Xk cp5_4 rfl,fun _=>by simp,Xk cp6_5 rfl,Xk cp7_0 rfl,Xk cp8_6 rfl,cy0,K4 cy1 rfl,fun h=>cz1 (by simpa using h),ck0⟩
   ·simp only [List.getElem?_cons_zero,List.getElem?_cons_succ,Option.some.injEq] at ho
    subst ho
    have dg:=hd { on:=2,ground:=.guard } (by simp) (by decide)
    have vg:=ci2 dg
    rw [if_pos (wanted_of rfl rfl rfl vg)]
    have e0:a.tmps[6]?.getD undef=.pointer (some ⟨g2,0,none⟩):=C.get (by decide)
    have HT0:=cy0
    have HH0:=HT0.has
    have lH0:=HH0.1
    obtain ⟨cH0_0,fH0_0⟩:=HH0.2 0 _ rfl
    simp [go_sem,Array.getD_eq_getD_getElem?,e0,cH0_0]
    rw [hIA]
    exact ⟨C.put (by decide) _,D,Xi ci0 (by decide) rfl,Xi ci1 (by decide) rfl,Xi ci2 (by decide) rfl,fun _=>Xa (C.lt (by simp)) _,Xi ci4 (by decide) rfl,Xi ci5 (by decide) rfl,Xi ci6 (by decide) rfl,Xi ci8 (by decide) rfl,Xk cp2_1 rfl,fun _=>by simp,Xk cp5_4 rfl,Xk cp6_2 rfl,Xk cp6_5 rfl,Xk cp7_0 rfl,Xk cp8_6 rfl,cy0,K4 cy1 rfl,fun h=>cz1 (by simpa using h),ck0⟩
   ·simp only [List.getElem?_cons_zero,List.getElem?_cons_succ,Option.some.injEq] at ho
    subst ho
    have dg:=hd { on:=2,ground:=.guard } (by simp) (by decide)
    have vg:=ci2 dg
    rw [if_pos (wanted_of rfl rfl rfl vg)]
    have d3:=hd { on:=3,ground:=.data } (by simp) (by decide)
    have v3:=ci3 d3
    simp [go_sem,Array.getD_eq_getD_getElem?,v3]
    refine (cv _).mono ?_
    rintro e wx ⟨rfl,hbx⟩
    rw [hIA]
    exact ⟨C.put (by decide) _,D.trans (hbx.mono hBw),Xi ci0 (by decide) rfl,Xi ci1 (by decide) rfl,Xi ci2 (by decide) rfl,Xi ci3 (by decide) rfl,fun _=>Xa (C.lt (by simp)) _,Xi ci5 (by decide) rfl,Xi ci6 (by decide) rfl,Xi ci8 (by decide) rfl,Xk cp2_1 rfl,fun _=>by simp [d3],fun _=>by simp,Xk cp6_2 rfl,Xk cp6_5 rfl,Xk cp7_0 rfl,Xk cp8_6 rfl,(cy0).below hbx,fun h=>(cy1 (by simpa using h)).below hbx,fun h=>(cz1 (by simpa using h)).below hbx,(ck0).below hbx Xw⟩
   ·simp only [List.getElem?_cons_zero,List.getElem?_cons_succ,Option.some.injEq] at ho
    subst ho
    have dg:=hd { on:=2,ground:=.guard } (by simp) (by decide)
    have vg:=ci2 dg
    rw [if_pos (wanted_of rfl rfl rfl vg)]
    have d4:=hd { on:=4,ground:=.data } (by simp) (by decide)
    have v4:=ci4 d4
    simp [go_sem,Array.getD_eq_getD_getElem?,v4]
    rw [hIA]
    exact ⟨C.put (by decide) _,D,Xi ci0 (by decide) rfl,Xi ci1 (by decide) rfl,Xi ci2 (by decide) rfl,Xi ci3 (by decide) rfl,Xi ci4 (by decide) rfl,fun _=>Xa (C.lt (by simp)) _,Xi ci6 (by decide) rfl,Xi ci8 (by decide) rfl,Xk cp2_1 rfl,Xk cp4_3 rfl,fun _=>by simp [d4],Xk cp6_2 rfl,fun _=>by simp,Xk cp7_0 rfl,Xk cp8_6 rfl,cy0,K4 cy1 rfl,fun h=>cz1 (by simpa using h),ck0⟩
   ·simp only [List.getElem?_cons_zero,List.getElem?_cons_succ,Option.some.injEq] at ho
    subst ho
    rw [if_pos (by simp [Region.wanted])]
    have d2:=hd { on:=2,ground:=.data } (by simp) (by decide)
    have v2:=ci2 d2
    have d5:=hd { on:=5,ground:=.data } (by simp) (by decide)
    have v5:=ci5 d5
    simp [go_sem,Array.getD_eq_getD_getElem?,v2,v5]
    rw [hIA]
    exact ⟨C.put (by decide) _,D,Xi ci0 (by decide) rfl,Xi ci1 (by decide) rfl,Xi ci2 (by decide) rfl,Xi ci3 (by decide) rfl,Xi ci4 (by decide) rfl,Xi ci5 (by decide) rfl,fun _=>Xa (C.lt (by simp)) _,Xi ci8 (by decide) rfl,Xk cp2_1 rfl,Xk cp4_3 rfl,Xk cp5_4 rfl,fun _=>by simp [d2],fun _=>by simp [d5],Xk cp7_0 rfl,fun _=>by simp,cy0,K4 cy1 rfl,fun h=>cz1 (by simpa using h),ck0⟩
   ·simp only [List.getElem?_cons_zero,List.getElem?_cons_succ,Option.some.injEq] at ho
    subst ho
    rw [if_pos (by simp [Region.wanted])]
    have e0:a.tmps[4]?.getD undef=.pointer (some ⟨w.heap.size+1+1,0,none⟩):=C.get (by decide)
    have d0:=hd { on:=0,ground:=.data } (by simp) (by decide)
    have v0:=ci0 d0
    have HT1:=cy1 hLi
    have HH1:=HT1.has
    have lH1:=HH1.1
    obtain ⟨cH1_0,fH1_0⟩:=HH1.2 0 _ rfl
    simp [go_sem,Array.getD_eq_getD_getElem?,e0,v0,cH1_0,fH1_0]
    rw [hIA]
    exact ⟨C,X1 (by omega) [_] 0 _ D,Z4 ci0 rfl,Z4 ci1 rfl,Z4 ci2 rfl,Z4 ci3 rfl,Z4 ci4 rfl,Z4 ci5 rfl,Z4 ci6 rfl,Z4 ci8 rfl,Xk cp2_1 rfl,Xk cp4_3 rfl,Xk cp5_4 rfl,Xk cp6_2 rfl,Xk cp6_5 rfl,fun _=>by simp [d0],Xk cp8_6 rfl,(cy0).other (g':=w.heap.size+1+1) (by omega) [.slice Av R.length cv2] 0,fun h=>by simp at h,fun _=>HT1.store (us:=[.slice Av R.length cv2]) rfl,(ck0).otherC ((ck0).typ HT1 (by decide)) [.slice Av R.length cv2] 0⟩
   ·simp only [List.getElem?_cons_zero,List.getElem?_cons_succ,Option.some.injEq] at ho
    subst ho
    rw [if_pos (by simp [Region.wanted])]
    have d6:=hd { on:=6,ground:=.data } (by simp) (by decide)
    have v6:=ci6 d6
    simp [go_sem,Array.getD_eq_getD_getElem?,v6]
    rw [hIA]
    exact ⟨C.put (by decide) _,D,Xi ci0 (by decide) rfl,Xi ci1 (by decide) rfl,Xi ci2 (by decide) rfl,Xi ci3 (by decide) rfl,Xi ci4 (by decide) rfl,Xi ci5 (by decide) rfl,Xi ci6 (by decide) rfl,fun _=>Xa (C.lt (by simp)) _,Xk cp2_1 rfl,Xk cp4_3 rfl,Xk cp5_4 rfl,Xk cp6_2 rfl,Xk cp6_5 rfl,Xk cp7_0 rfl,fun _=>by simp [d6],cy0,K4 cy1 rfl,fun h=>cz1 (by simpa using h),ck0⟩
  case he =>
   intro L a' wA E hI'
   rw [hIA] at hI'
   obtain ⟨C,hbA,ci0,ci1,ci2,ci3,ci4,ci5,ci6,ci8,cp2_1,cp4_3,cp5_4,cp6_2,cp6_5,cp7_0,cp8_6,cy0,cy1,cz1,ck0⟩:=hI'
   have eA_8:=ci8 (E 8 (by decide))
   have HTA_0:=cy0
   have HTA_1:=cz1 (E 7 (by decide))
   have NKA_0:=ck0
   have hout:=C.outG (by simp)
   simp only [List.foldl_cons,List.foldl_nil,eA_8] at hout
   rw [hout]
   generalize a'.tmps[17]?.getD undef=xA_17
   generalize a'.tmps[18]?.getD undef=xA_18
   generalize a'.tmps[19]?.getD undef=xA_19
   generalize a'.tmps[20]?.getD undef=xA_20
   generalize a'.tmps[21]?.getD undef=xA_21
   generalize a'.tmps[22]?.getD undef=xA_22
   generalize a'.tmps[23]?.getD undef=xA_23
   clear hout hIA C E ci0 ci1 ci2 ci3 ci4 ci5 ci6 ci8 cp2_1 cp4_3 cp5_4 cp6_2 cp6_5 cp7_0 cp8_6 cy0 cy1 cz1 ck0
   go_simp
   have HF:=HTA_1.has
   obtain ⟨cHF_0,fHF_0⟩:=HF.2 0 _ rfl
   have lF:=HF.1
   go_wp2
   refine bodyPost_ret (v:=.tuple #[.agg #[.slice Av R.length cv2],.bool (!vd)]) (by simp [results,Tryz.results113,go_sem, *]) rfl ⟨.slice Av R.length cv2,R,by rw [C.out],fun _=>hR'.out,hro, ?_,b3.trans (hbA.mono (by omega))⟩
   exact NKA_0.mono (by omega)
end Go.Proofs.YtkjimfapbjdafaaGreat
end
section
namespace Go.Proofs.YtkjimfapbjdafaaGreat
open Go.RowKit
end Go.Proofs.YtkjimfapbjdafaaGreat
end
