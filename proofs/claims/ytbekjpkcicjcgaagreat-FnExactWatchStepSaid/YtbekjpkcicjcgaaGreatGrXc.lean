/-
 Eroding of regions: of the program and of the reference.
 Conditions: valid regions.
-/
import Derived.Test.YtbekjpkcicjcgaaGreatVa
set_option maxHeartbeats 8000000
set_option maxRecDepth 100000
namespace Go.Proofs.YtbekjpkcicjcgaaGreat
open Go.RowKit
theorem iEroC_c (q:List Half) (b:Zi) (h:Half) (gw:Nat) (w:World) (hh:Xt h=true) (hq:Xb q=true) (hne:q≠[]) (hg:XV w gw [.slice b.A q.length b.c]) (hsl:Sl 3 Xd w b.A q) :
 Calls Tryz.prog 140 #[X3 h,.pointer (some ⟨gw,0,none⟩)] w λ e w'=>e=.returned (YY (YG q h))/\Below w.heap.size w w':=by
 obtain ⟨⟨e1,e2⟩,⟨e3,e4⟩,⟨e5,e6⟩,⟨e7,e8⟩,⟨e9,e10⟩⟩:=eroB hh hq hne;obtain ⟨a1,a2,a3,_⟩:=Y0.1 hh;have k1:=λ W h1=>iSupport_c q b h.a h.b W hq hne ⟨Oz,Oz⟩ ⟨Oz,Oz⟩ h1;have hdef:=Lib.hid (show YG q h=Y1 (h.a*(ZO q h.a h.b).d) (h.b*(ZO q h.a h.b).d) (h.c*(ZO q h.a h.b).d-(ZO q h.a h.b).n) from rfl);generalize ZO q h.a h.b=r at *;have k2:=λ W=>iHalfOf_c (h.a*r.d) (h.b*r.d) (h.c*r.d-r.n) W ⟨Oz,Oz⟩ ⟨Oz,Oz⟩ ⟨Oz,Oz⟩;generalize Y1 (h.a*r.d) (h.b*r.d) (h.c*r.d-r.n)=o at *;clear hh hq hne;obtain ⟨W,hW⟩:∃ W,W=(w.alloc (.cells #[.int .i64 h.a,.int .i64 h.b,.int .i64 h.c] 136)).alloc (.cells #[.int .i64 0,.int .i64 0,.int .i64 0] 136):=⟨_,rfl⟩;have HA:XV W w.heap.size [.int .i64 h.a,.int .i64 h.b,.int .i64 h.c]:=by rw [hW];exact Ys
 have HR:XV W (w.heap.size+1) [.int .i64 0,.int .i64 0,.int .i64 0]:=by rw [hW];exact Ys
 have b0:Below w.heap.size w W:=by rw [hW];exact Xl
 have HG:=hg.below b0;have hs0:=hsl.below b0;have hW':=Lib.hid hW;clear hW hg hsl;obtain ⟨cHA_0,fHA_0⟩:=HA.2 0 _ rfl;obtain ⟨cHA_1,fHA_1⟩:=HA.2 1 _ rfl;obtain ⟨cHA_2,fHA_2⟩:=HA.2 2 _ rfl;obtain ⟨cHG_0,fHG_0⟩:=HG.2 0 _ rfl;have lA:=HA.1;have lG:=HG.1;go_enter Tryz.func140,Tryz.ntmps140
 go_upto_region 1 with fail
 rw [<- hW'.out];clear hW';go_wp2_with (fail)
 refine (k1 _ hs0).mono ?_;rintro e w1 ⟨rfl,hb1⟩;have A2:=(HA.below hb1).alloc (.cells #[.int .i64 r.n,.int .i64 r.d] 46);have R2:=(HR.below hb1).alloc (.cells #[.int .i64 r.n,.int .i64 r.d] 46);have Q2:=XV.new w1 #[.int .i64 r.n,.int .i64 r.d] 46;have b2:=Xc (Xe b0 hb1) (.cells #[.int .i64 r.n,.int .i64 r.d] 46);clear HA HR HG hs0 b0 hb1 cHA_0 cHA_1 cHA_2 fHA_0 fHA_1 fHA_2 cHG_0 fHG_0 lA lG k1;go_upto_region 2 with fail
 generalize w1.alloc (.cells #[.int .i64 r.n,.int .i64 r.d] 46)=w2 at *;generalize w1.heap.size=gr at *;obtain ⟨cA2_0,fA2_0⟩:=A2.2 0 _ rfl;obtain ⟨cA2_1,fA2_1⟩:=A2.2 1 _ rfl;obtain ⟨cA2_2,fA2_2⟩:=A2.2 2 _ rfl;obtain ⟨cQ2_0,fQ2_0⟩:=Q2.2 0 _ rfl;obtain ⟨cQ2_1,fQ2_1⟩:=Q2.2 1 _ rfl;have lA:=A2.1;have lQ:=Q2.1;go_wp2_with (fail)
 refine (k2 _).mono ?_;rintro e w3 ⟨rfl,hb3⟩;have R3:=R2.below hb3;have b3:=Xe b2 hb3;clear R2 A2 Q2 b2 hb3 k2 cA2_0 cA2_1 cA2_2 fA2_0 fA2_1 fA2_2 cQ2_0 cQ2_1 fQ2_0 fQ2_1 lA lQ;obtain ⟨cR3_0,fR3_0⟩:=R3.2 0 _ rfl;obtain ⟨cR3_1,fR3_1⟩:=R3.2 1 _ rfl;obtain ⟨cR3_2,fR3_2⟩:=R3.2 2 _ rfl;have lR:=R3.1;cases o with
 | none =>
  simp only [YY];go_wp2
  refine bodyPost_ret (v:=.tuple #[.agg #[.int .i64 0,.int .i64 0,.int .i64 0],.bool false]) (by simp [results,Tryz.results140,go_sem, *]) rfl ⟨by rw [hdef.out];rfl, ?_⟩;exact KC b3 Oz
 | some g =>
  simp only [YY];go_wp2
  refine bodyPost_ret (v:=.tuple #[.agg #[.int .i64 g.a,.int .i64 g.b,.int .i64 g.c],.bool true]) (by simp [results,Tryz.results140,go_sem, *]) rfl ⟨by rw [hdef.out];rfl, ?_⟩;exact KC b3 Oz
theorem iMovE_c (p q:List Half) (a b:Zi) (gw:Nat) (w:World) (hp:Xb p=true) (hq:Xb q=true) (hne:q≠[]) (hsp:Sl 3 Xd w a.A p) (hg:XV w gw [.slice b.A q.length b.c]) (hsl:Sl 3 Xd w b.A q) :
 Calls Tryz.prog 139 #[Yi p a,.func (.func 140) #[] #[.pointer (some ⟨gw,0,none⟩)]] w λ e w'=>∃ v,e=.returned (.tuple #[.agg #[v],.bool (Yv (YG q) p)])/\XI 136 3 Xd w' w.heap.size v (YR (YG q) p)/\Below w.heap.size w w':=by
 obtain ⟨A,cap⟩:=a;simp only at hsp;obtain ⟨i0,hi0,hz0,hz1,hz2⟩:=info_parts (show (Tryz.prog.info? 136).map (λ i=>(i.zero,i.size,i.bytes))=some (some (.agg #[.int .i64 0,.int .i64 0,.int .i64 0]),3,24) by kernel_rfl);have hlen:=Zt hp;have hok:=Lib.hid (Jb hp);have hgok:=Lib.hid (λ h (_:h∈p) g (e:YG q h=some g)=>eroH_ok e);obtain ⟨W,hW⟩:∃ W,W=(w.alloc (.cells #[.slice A p.length cap] 26)).alloc (.cells #[.slice none 0 0] 26):=⟨_,rfl⟩;have HA:XV W w.heap.size [.slice A p.length cap]:=by rw [hW];exact Ys
 have HR:XV W (w.heap.size+1) [.slice none 0 0]:=by rw [hW];exact Ys
 have b0:Below w.heap.size w W:=by rw [hW];exact Xl
 have zW:w.heap.size+1<W.heap.size:=HR.1;have HG:=hg.below b0;have hs0:=hsl.below b0;have sp:=hsp.below b0;have hW':=Lib.hid hW;have kv:=KJ p ⟨A,cap⟩ W;clear hW hg hsl hsp hp;obtain ⟨cHA_0,fHA_0⟩:=HA.2 0 _ rfl;have lA:=HA.1;go_enter Tryz.func139,Tryz.ntmps139
 go_upto_region 1 with fail
 rw [<- hW'.out];clear hW';by_cases h0:p.length=0
 ·have hv:=Lib.hid (Jo (f:=YG q) h0);rw [decide_eq_true h0] at kv;clear h0;go_wp2_with (fail)
  refine kv.mono ?_;rintro e w1 ⟨rfl,hb1⟩;have R1:=HR.below hb1;have b1:=Xe b0 hb1;obtain ⟨cR1_0,fR1_0⟩:=R1.2 0 _ rfl;have lR:=R1.1;go_wp2
  refine bodyPost_ret (v:=.tuple #[.agg #[.slice none 0 0],.bool true]) (by simp [results,Tryz.results139,go_sem, *]) rfl ⟨.slice none 0 0,by rw [hv.out.1], ?_,Yp b1 (by simp only;omega) _⟩;rw [hv.out.2];exact ⟨none,0,rfl,World.ownsRow_nil _ _ _ _⟩
 rw [decide_eq_false h0] at kv;go_wp2_with (fail)
 refine kv.mono ?_;rintro e w1 ⟨rfl,hb1⟩;have A1:=HA.below hb1;have R1:=HR.below hb1;have G1:=HG.below hb1;have S1:=hs0.below hb1;have P1:=sp.below hb1;have b1:=Xe b0 hb1;have z1:w.heap.size+1<w1.heap.size:=Nat.lt_of_lt_of_le zW hb1.size;clear HA HR HG hs0 sp b0 zW hb1 cHA_0 fHA_0 lA kv;obtain ⟨cA1_0,fA1_0⟩:=A1.2 0 _ rfl;have lA:=A1.1;go_wp2
 go_loopw [6,8,9,10,17] (λ out _ _ _ i wr=>∃ k:Nat,k<=p.length/\i=.int .i64 k/\YZ (YG q) (p.take k)=true/\XI 136 3 Xd wr w1.heap.size out (XW (YG q) (p.take k))/\Below w1.heap.size w1 wr) (λ _ _ _ _ i _=>p.length-(intOf i).toNat)
 case atStart=>exact ⟨0,Nat.zero_le _,rfl,rfl,⟨none,0,rfl,World.ownsRow_nil _ _ _ _⟩,Below.refl _ _⟩
 case round =>
  obtain ⟨k,hk,rfl,hall,N,hbr⟩:=hrel;have br:=b1.trans (hbr.mono b1.size);by_cases hlt:k<p.length
  ·obtain ⟨bb,off,hA,hblt,hc⟩:=(P1.below hbr).at_ hlt;have g0:=hc 0 _ rfl;have g1:=hc 1 _ rfl;have g2:=hc 2 _ rfl;simp only [Nat.add_zero] at g0;have c1:=λ W h1 h2=>iEroC_c q b p[k] gw W (hok.out _ (List.getElem_mem hlt)) hq hne h1 h2;have hno:=Lib.hid (λ h=>@mov_none (YG q) p k hlt h);have hst:=Lib.hid (λ g h=>@movL_take (YG q) p k g hlt h);have hal:=Lib.hid (λ g h=>@movAll_take (YG q) p k g hlt hall h);clear hc hall;generalize YG q p[k]=o at *;generalize p[k]=h at *;have G2:=(G1.below hbr).alloc (.cells #[.int .i64 h.a,.int .i64 h.b,.int .i64 h.c] 136);have S2:=(S1.below hbr).alloc (.cells #[.int .i64 h.a,.int .i64 h.b,.int .i64 h.c] 136);have R2:=(R1.below hbr).alloc (.cells #[.int .i64 h.a,.int .i64 h.b,.int .i64 h.c] 136);have b2:=Xc hbr (.cells #[.int .i64 h.a,.int .i64 h.b,.int .i64 h.c] 136);have X2:=XV.new wr #[.int .i64 h.a,.int .i64 h.b,.int .i64 h.c] 136;have N2:=N.alloc (.cells #[.int .i64 h.a,.int .i64 h.b,.int .i64 h.c] 136);subst hA;go_upto_region 7 with fail
   clear g0 g1 g2 hblt N hbr br;generalize wr.alloc (.cells #[.int .i64 h.a,.int .i64 h.b,.int .i64 h.c] 136)=w2 at *;generalize wr.heap.size=gx at *;obtain ⟨cX2_0,fX2_0⟩:=X2.2 0 _ rfl;obtain ⟨cX2_1,fX2_1⟩:=X2.2 1 _ rfl;obtain ⟨cX2_2,fX2_2⟩:=X2.2 2 _ rfl;have lX:=X2.1;go_wp2_with (fail)
   refine (c1 _ G2 S2).mono ?_;rintro e w3 ⟨rfl,hb3⟩;have R3:=R2.below hb3;have N3:=N2.below hb3 XE;have b3:=Xe b2 hb3;clear X2 cX2_0 cX2_1 cX2_2 fX2_0 fX2_1 fX2_2 lX R2 N2 b2 G2 S2 hb3 c1;cases o with
   | none =>
    have hv:=Lib.hid (hno.out rfl);simp only [YY];have R4:=R3.alloc (.cells #[.int .i64 0,.int .i64 0,.int .i64 0] 136);have b4:=b1.trans ((Xc b3 (.cells #[.int .i64 0,.int .i64 0,.int .i64 0] 136)).mono b1.size);go_upto_region 8 with fail
    clear R3 b3 N3;generalize w3.alloc (.cells #[.int .i64 0,.int .i64 0,.int .i64 0] 136)=w4 at *;generalize w3.heap.size=g3 at *;obtain ⟨cR4_0,fR4_0⟩:=R4.2 0 _ rfl;have lR:=R4.1;go_wp2
    refine bodyPost_ret (v:=.tuple #[.agg #[.slice none 0 0],.bool false]) (by simp [results,Tryz.results139,go_sem, *]) rfl ⟨.slice none 0 0,by rw [hv.out.1], ?_,Yp b4 (by simp only;omega) _⟩;rw [hv.out.2];exact ⟨none,0,rfl,World.ownsRow_nil _ _ _ _⟩
   | some g =>
    have hs2:=Lib.hid (hst.out g rfl);have ha2:=Lib.hid (hal.out g rfl);simp only [YY];have N4:=N3.alloc (.cells #[.int .i64 g.a,.int .i64 g.b,.int .i64 g.c] 136);have b4:=Xc b3 (.cells #[.int .i64 g.a,.int .i64 g.b,.int .i64 g.c] 136);have X4:=XV.new w3 #[.int .i64 g.a,.int .i64 g.b,.int .i64 g.c] 136;go_upto_region 8 with fail
    clear R3 b3 N3;generalize w3.alloc (.cells #[.int .i64 g.a,.int .i64 g.b,.int .i64 g.c] 136)=w4 at *;generalize w3.heap.size=g3 at *;obtain ⟨cX4_0,fX4_0⟩:=X4.2 0 _ rfl;obtain ⟨cX4_1,fX4_1⟩:=X4.2 1 _ rfl;obtain ⟨cX4_2,fX4_2⟩:=X4.2 2 _ rfl;have lX:=X4.1;have hcm:(XW (YG q) (p.take k)).length<=1073741823:=by rw [ZH,List.length_take];omega
    have hle:w1.heap.size<=w4.heap.size:=b4.size;go_wp2_with (at_builtin;refine Z5 Xx _ rfl _ _ 24 rfl w1.heap.size i0 _ 24 Tryz.underlying24 hi0 hz0 hz1 hz2 rfl (by decide) rfl (N4.alloc _) _ 1 rfl g ?c1 (YE g) bR (by simp;omega) hcm (by decide) ?_)
    case c1 =>
     intro qq u hu;exact hu
    ·intro v7 w7 hn7 hb7;rw [<- hs2.out] at hn7;have b7:=(Xc b4 (.cells #[.int .i64 g.a,.int .i64 g.b,.int .i64 g.c] 136)).trans hb7;clear hb7 b4 N4 X4 cX4_0 cX4_1 cX4_2 fX4_0 fX4_1 fX4_2 lX;go_wp2
     go_roundw
     case rel=>exact ⟨k+1,by omega,by go_num,ha2.out,hn7,b7⟩
     case measure=>simp [intOf];omega
  ·obtain rfl:k=p.length:=Oz
   rw [List.take_length] at hall N;have hv:=Lib.hid (mov_all (f:=YG q) h0 hall);have hmo:=JV hgok.out hall;have hml:=ZH (YG q) p;have R2:=R1.below hbr;obtain ⟨Ao,co,rfl,o2⟩:=N;have N2:XI 136 3 Xd wr w1.heap.size (.slice Ao (XW (YG q) p).length co) (XW (YG q) p):=⟨Ao,co,rfl,o2⟩;have k9:=λ W h=>iMeet_c Ao (XW (YG q) p) co W (by omega) hmo h N2.nilcap;have SO:=N2.out Xx;clear hall o2 hmo hml cA1_0 fA1_0 lA A1;generalize XW (YG q) p=ML at *;go_wp2_with (fail)
   refine (k9 _ SO).mono ?_;rintro e w3 ⟨v,rfl,N3,hb3⟩;have R3:=R2.below hb3;have b3:=Xe br hb3;obtain ⟨cR3_0,fR3_0⟩:=R3.2 0 _ rfl;have lR:=R3.1;obtain ⟨Av,cv,rfl,o3⟩:=N3;have N3:XI 136 3 Xd w3 wr.heap.size (.slice Av (XZ (Xs ML)).length cv) (XZ (Xs ML)):=⟨Av,cv,rfl,o3⟩;have z3:=hbr.size;clear o3 k9 SO N2;go_wp2
   refine bodyPost_ret (v:=.tuple #[.agg #[.slice Av (XZ (Xs ML)).length cv],.bool (YA (Xs ML))]) (by simp [results,Tryz.results139,go_sem, *]) rfl ⟨.slice Av (XZ (Xs ML)).length cv,by rw [hv.out.1], ?_,Yp b3 (by simp only;omega) _⟩;rw [hv.out.2];exact (N3.lowC (q:=⟨w.heap.size+1,0,none⟩) (by simp only;omega) [.slice Av (XZ (Xs ML)).length cv]).mono Oz
theorem iErode_c (p q:List Half) (a b:Zi) (w:World) (hp:Xb p=true) (hq:Xb q=true) (hne:q≠[]) (hsp:Sl 3 Xd w a.A p) (hsl:Sl 3 Xd w b.A q) :
 Calls Tryz.prog 97 #[Yi p a,Yi q b] w λ e w'=>∃ v,e=.returned (.tuple #[.agg #[v],.bool (Yv (YG q) p)])/\XI 136 3 Xd w' w.heap.size v (YR (YG q) p)/\Below w.heap.size w w':=by
 obtain ⟨W,hW⟩:∃ W,W=((w.alloc (.cells #[.slice a.A p.length a.c] 26)).alloc (.cells #[.slice b.A q.length b.c] 26)).alloc (.cells #[.slice none 0 0] 26):=⟨_,rfl⟩;have HA:XV W w.heap.size [.slice a.A p.length a.c]:=by rw [hW];exact Ys
 have HB:XV W (w.heap.size+1) [.slice b.A q.length b.c]:=by rw [hW];exact Ys
 have HR:XV W (w.heap.size+1+1) [.slice none 0 0]:=by rw [hW];exact Ys
 have b0:Below w.heap.size w W:=by rw [hW];exact Xl
 have zW:w.heap.size+1+1<W.heap.size:=HR.1;have k1:=iMovE_c p q a b (w.heap.size+1) W hp hq hne (hsp.below b0) HB (hsl.below b0);have hW':=Lib.hid hW;clear hW hsp hsl hp hq hne;generalize Yv (YG q) p=ok at *;generalize YR (YG q) p=R at *;obtain ⟨cHA_0,fHA_0⟩:=HA.2 0 _ rfl;have lA:=HA.1;have hmf:∀ (fn:Fn) (first cap:Array Value) (w:World),(Instr.makeFunc fn first cap).run Tryz.prog w=.ok (.func fn first cap) w:=λ _ _ _ _=>rfl;go_enter Tryz.func97,Tryz.ntmps97
 go_upto_region 1 with fail
 rw [<- hW'.out];clear hW';go_wp2_with (fail)
 refine k1.mono ?_;rintro e w1 ⟨v,rfl,N1,hb1⟩;have R1:=HR.below hb1;have b1:=Xe b0 hb1;obtain ⟨Av,cv,rfl,o3⟩:=N1;have N3:XI 136 3 Xd w1 W.heap.size (.slice Av R.length cv) R:=⟨Av,cv,rfl,o3⟩;clear o3 HR HA HB b0 hb1 k1 cHA_0 fHA_0 lA;obtain ⟨cR1_0,fR1_0⟩:=R1.2 0 _ rfl;have lR:=R1.1;go_wp2
 refine bodyPost_ret (v:=.tuple #[.agg #[.slice Av R.length cv],.bool ok]) (by simp [results,Tryz.results97,go_sem, *]) rfl ⟨.slice Av R.length cv,rfl, ?_,Yp b1 (by simp only;omega) _⟩;exact (N3.lowC (q:=⟨w.heap.size+1+1,0,none⟩) (by simp only;omega) [.slice Av R.length cv]).mono Oz
theorem sSum_c (c n d:Int) (w:World) (hc : -100000000<=c/\c<=100000000) (hn : -500000000000000000<=n/\n<=500000000000000000) (hd:1<=d/\d<=5000000000) (hg:Nat.gcd n.natAbs d.natAbs=1) :
 Calls Tryz.prog 200 #[Xv ⟨c,1⟩,Xv ⟨-n,d⟩] w λ e w'=>e=.returned (.tuple #[Xv ⟨c*d-n,d⟩,.bool true])/\Below w.heap.size w w':=by
 have m:=Jd (a:=c) (b:=d) (A:=100000000) (B:=5000000000) ⟨Oz,Oz⟩ ⟨Oz,Oz⟩;have hless:=ratio_less hc hn hd hg;have k1:=λ W=>J3 (c*d-n) d W ⟨Oz,Oz⟩ ⟨Oz,Oz⟩;rw [hless] at k1;have k1:∀ x y:Int,x=c*d-n->y=d->∀ W,Calls Tryz.prog 176 #[.int .i64 x,.int .i64 y] W λ e w'=>e=.returned (Xv ⟨c*d-n,d⟩)/\Below W.heap.size W w':=λ x y hx hy W=>by rw [hx,hy];exact k1 W
 have hok:Xn ⟨c*d-n,d⟩=true:=by rw [<- hless];exact (YP ⟨Oz,Oz⟩ ⟨Oz,Oz⟩).1
 have k2:=λ W=>Zs ⟨c*d-n,d⟩ W ⟨⟨by simp only;omega,by simp only;omega⟩,⟨by simp only;omega,by simp only;omega⟩⟩;rw [hok] at k2;have hq:1800000000<=(9000000000000000000:Int) / d:=by
  rw [Int.le_ediv_iff_mul_le Oz];omega
 have d0:((d:Int) == 0)=false:=by simp;omega
 have d1:((d:Int) == -1)=false:=by simp;omega
 clear hless hok hg;have f1:¬ ((9000000000000000000:Int) / d<max c (-c)):=Oz
 have f2:¬ ((9000000000000000000:Int)<max (-n) n):=Oz
 have f3:¬ ((9000000000000000000:Int) / d<1):=Oz
 obtain ⟨W,hW⟩:∃ W,W=((w.alloc (.cells #[.int .i64 c,.int .i64 1] 46)).alloc (.cells #[.int .i64 (-n),.int .i64 d] 46)).alloc (.cells #[.int .i64 0,.int .i64 0] 46):=⟨_,rfl⟩;have HA:XV W w.heap.size [.int .i64 c,.int .i64 1]:=by rw [hW];exact Ys
 have HB:XV W (w.heap.size+1) [.int .i64 (-n),.int .i64 d]:=by rw [hW];exact Ys
 have HR:Xz W (w.heap.size+1+1) 46 [.int .i64 0,.int .i64 0]:=by
  have h1:=Xz.new ((w.alloc (.cells #[.int .i64 c,.int .i64 1] 46)).alloc (.cells #[.int .i64 (-n),.int .i64 d] 46)) [.int .i64 0,.int .i64 0] 46;simp only [World.size_alloc] at h1;rw [hW];exact h1
 have b0:Below w.heap.size w W:=by rw [hW];exact Xl
 have hW':=Lib.hid hW;clear hW;obtain ⟨cHA_0,fHA_0⟩:=HA.2 0 _ rfl;obtain ⟨cHA_1,fHA_1⟩:=HA.2 1 _ rfl;obtain ⟨cHB_0,fHB_0⟩:=HB.2 0 _ rfl;obtain ⟨cHB_1,fHB_1⟩:=HB.2 1 _ rfl;have lA:=HA.1;have lB:=HB.1;go_enter Tryz.func200,Tryz.ntmps200
 go_upto_region 2 with fail
 rw [<- hW'.out];clear hW';go_big_quiet (fail)
 have HA1:=HA.drewN nq;have HB1:=HB.drewN nq;have HR1:=HR.below (YQ bR nq);have zW:=YD HR1;have b1:=YQ b0 nq;clear HA HB HR b0 cHA_0 cHA_1 fHA_0 fHA_1 cHB_0 cHB_1 fHB_0 fHB_1 lA lB;generalize W.drewN nq=W1 at *;obtain ⟨cHA1_0,fHA1_0⟩:=HA1.2 0 _ rfl;obtain ⟨cHA1_1,fHA1_1⟩:=HA1.2 1 _ rfl;obtain ⟨cHB1_0,fHB1_0⟩:=HB1.2 0 _ rfl;obtain ⟨cHB1_1,fHB1_1⟩:=HB1.2 1 _ rfl;have lA:=HA1.1;have lB:=HB1.1;rcases (show 0<c*d∨(c*d<=0/\0<=c*d)∨c*d<0 by omega) with hm|⟨hm,_⟩|hm
 all_goals
  go_wp2_with (fail)
  refine (k1 _ _ (by omega) (by omega) _).mono ?_;rintro e w3 ⟨rfl,hb3⟩;have TR:=(HR1.below hb3).alloc (.cells #[.int .i64 (c*d-n),.int .i64 d] 46);have TQ:Xz (w3.alloc (.cells #[.int .i64 (c*d-n),.int .i64 d] 46)) w3.heap.size 46 [.int .i64 (c*d-n),.int .i64 d]:=Xz.new w3 [.int .i64 (c*d-n),.int .i64 d] 46;have b3:=Xc (Xe b1 hb3) (.cells #[.int .i64 (c*d-n),.int .i64 d] 46);have z3:=YD (HR1.below hb3);go_upto_region 9 with fail
  generalize w3.alloc (.cells #[.int .i64 (c*d-n),.int .i64 d] 46)=wa at *;generalize w3.heap.size=gq at *;have lQ:=YD TQ;have lR:=YD TR;have hBWA:w.heap.size+1+1<=wa.heap.size:=Oz
  have hTA_0:=TQ;have hTA_1:=TR;obtain ⟨IA,hIA⟩:∃ I:Act->(Nat->Bool)->Act->World->Prop,I=(λ a0 L a w'=>XS a0 a [85,86,87,5]/\Below (w.heap.size+1+1) wa w'/\(L 0=true->a.tmps[85]?.getD undef=.agg #[.int .i64 (c*d-n),.int .i64 d])/\(L 1=true->a.tmps[86]?.getD undef=.agg #[.int .i64 (c*d-n),.int .i64 d])/\(L 2=true->a.tmps[87]?.getD undef=.bool true)/\(L 4=true->a.tmps[5]?.getD undef=.bool true)/\(L 2=true->L 1=true)/\(L 3=true->L 0=true)/\(L 4=true->L 2=true)/\Xz w' (gq) 46 [.int .i64 (c*d-n),.int .i64 d]/\(L 3=false->Xz w' (w.heap.size+1+1) 46 [.int .i64 0,.int .i64 0])/\(L 3=true->Xz w' (w.heap.size+1+1) 46 [.int .i64 (c*d-n),.int .i64 d])):=⟨_,rfl⟩;refine wp_region_I0 (by kernel_rfl) (by kernel_rfl) IA ?h0 ?hs ?he
  case h0 =>
   rw [hIA];exact ⟨XS.refl _ _,bR.drew,λ h=>absurd h Sz,λ h=>absurd h Sz,λ h=>absurd h Sz,λ h=>absurd h Sz,λ h=>absurd h Sz,λ h=>absurd h Sz,λ h=>absurd h Sz,hTA_0,λ _=>hTA_1,λ h=>absurd h Sz⟩
  case hs =>
   intro L a w' i o ho hLi hd hI';rw [hIA] at hI';obtain ⟨C,D,ci0,ci1,ci2,ci4,cp2_1,cp3_0,cp4_2,cy0,cy1,cz1⟩:=hI';have hi:i<5:=by
    rcases Nat.lt_or_ge i 5 with h|h
    ·exact h
    ·rw [List.getElem?_eq_none (by simpa using h)] at ho;cases ho
   have zB:=D.size;have hBw:w.heap.size+1+1<=w'.heap.size:=Nat.le_trans hBWA zB;obtain rfl|rfl|rfl|rfl|rfl:i=0∨i=1∨i=2∨i=3∨i=4:=Oz
   ·simp only [List.getElem?_cons_zero,Option.some.injEq] at ho;subst ho;rw [if_pos (by simp [Region.wanted])];have e0:a.tmps[9]?.getD undef=.pointer (some ⟨gq,0,none⟩):=C.get Dz;have HT0:=cy0;have HH0:=HT0.has;have lH0:=HH0.1;obtain ⟨cH0_0,fH0_0⟩:=HH0.2 0 _ rfl;obtain ⟨cH0_1,fH0_1⟩:=HH0.2 1 _ rfl;simp [go_sem,Array.getD_eq_getD_getElem?,e0,cH0_0,cH0_1];rw [hIA];exact ⟨C.put Dz _,D,λ _=>Xw (C.lt Sz) _,Zq ci1 Dz rfl,Zq ci2 Dz rfl,Zq ci4 Dz rfl,Kn cp2_1 rfl,λ _=>Sz,Kn cp4_2 rfl,cy0,knK cy1 rfl,λ h=>cz1 (by simpa using h)⟩
   ·simp only [List.getElem?_cons_zero,List.getElem?_cons_succ,Option.some.injEq] at ho;subst ho;rw [if_pos (by simp [Region.wanted])];have e0:a.tmps[9]?.getD undef=.pointer (some ⟨gq,0,none⟩):=C.get Dz;have HT0:=cy0;have HH0:=HT0.has;have lH0:=HH0.1;obtain ⟨cH0_0,fH0_0⟩:=HH0.2 0 _ rfl;obtain ⟨cH0_1,fH0_1⟩:=HH0.2 1 _ rfl;simp [go_sem,Array.getD_eq_getD_getElem?,e0,cH0_0,cH0_1];rw [hIA];exact ⟨C.put Dz _,D,Zq ci0 Dz rfl,λ _=>Xw (C.lt Sz) _,Zq ci2 Dz rfl,Zq ci4 Dz rfl,λ _=>Sz,Kn cp3_0 rfl,Kn cp4_2 rfl,cy0,knK cy1 rfl,λ h=>cz1 (by simpa using h)⟩
   ·simp only [List.getElem?_cons_zero,List.getElem?_cons_succ,Option.some.injEq] at ho;subst ho;rw [if_pos (by simp [Region.wanted])];have d1:=hd { on:=1,ground:=.data } Sz Dz;have v1:=ci1 d1;simp [go_sem,Array.getD_eq_getD_getElem?,v1];refine (k2 _).mono ?_;rintro e wx ⟨rfl,hbx⟩;rw [hIA];exact ⟨C.put Dz _,D.trans (hbx.mono hBw),Zq ci0 Dz rfl,Zq ci1 Dz rfl,λ _=>Xw (C.lt Sz) _,Zq ci4 Dz rfl,λ _=>by simp [d1],Kn cp3_0 rfl,λ _=>Sz,(cy0).below hbx,λ h=>(cy1 (by simpa using h)).below hbx,λ h=>(cz1 (by simpa using h)).below hbx⟩
   ·simp only [List.getElem?_cons_zero,List.getElem?_cons_succ,Option.some.injEq] at ho;subst ho;rw [if_pos (by simp [Region.wanted])];have e0:a.tmps[4]?.getD undef=.pointer (some ⟨w.heap.size+1+1,0,none⟩):=C.get Dz;have d0:=hd { on:=0,ground:=.data } Sz Dz;have v0:=ci0 d0;have HT1:=cy1 hLi;have HH1:=HT1.has;have lH1:=HH1.1;obtain ⟨cH1_0,fH1_0⟩:=HH1.2 0 _ rfl;obtain ⟨cH1_1,fH1_1⟩:=HH1.2 1 _ rfl;simp [go_sem,Array.getD_eq_getD_getElem?,e0,v0,cH1_0,fH1_0,cH1_1,fH1_1];rw [hIA];exact ⟨C,Zy Oz [_,_] 0 _ D,kpK ci0 rfl,kpK ci1 rfl,kpK ci2 rfl,kpK ci4 rfl,Kn cp2_1 rfl,λ _=>by simp [d0],Kn cp4_2 rfl,(cy0).other (g':=w.heap.size+1+1) Oz [.int .i64 (c*d-n),.int .i64 d] 0,λ h=>by simp at h,λ _=>HT1.store (us:=[.int .i64 (c*d-n),.int .i64 d]) rfl⟩
   ·simp only [List.getElem?_cons_zero,List.getElem?_cons_succ,Option.some.injEq] at ho;subst ho;rw [if_pos (by simp [Region.wanted])];have d2:=hd { on:=2,ground:=.data } Sz Dz;have v2:=ci2 d2;simp [go_sem,Array.getD_eq_getD_getElem?,v2];rw [hIA];exact ⟨C.put Dz _,D,Zq ci0 Dz rfl,Zq ci1 Dz rfl,Zq ci2 Dz rfl,λ _=>Xw (C.lt Sz) _,Kn cp2_1 rfl,Kn cp3_0 rfl,λ _=>by simp [d2],cy0,knK cy1 rfl,λ h=>cz1 (by simpa using h)⟩
  case he =>
   intro L a' wA F hI';rw [hIA] at hI';obtain ⟨C,hbA,ci0,ci1,ci2,ci4,cp2_1,cp3_0,cp4_2,cy0,cy1,cz1⟩:=hI';have eA_4:=ci4 (F 4 Dz);have HTA_0:=cy0;have HTA_1:=cz1 (F 3 Dz);have hout:=C.outG Sz;simp only [List.foldl_cons,List.foldl_nil,eA_4] at hout;rw [hout];generalize a'.tmps[85]?.getD undef=xA_85;generalize a'.tmps[86]?.getD undef=xA_86;generalize a'.tmps[87]?.getD undef=xA_87;clear hout hIA C F ci0 ci1 ci2 ci4 cp2_1 cp3_0 cp4_2 cy0 cy1 cz1;go_simp
   have HF:=HTA_1.has;obtain ⟨cHF_0,fHF_0⟩:=HF.2 0 _ rfl;obtain ⟨cHF_1,fHF_1⟩:=HF.2 1 _ rfl;have lF:=HF.1;go_wp2
   refine bodyPost_ret (v:=.tuple #[.agg #[.int .i64 (c*d-n),.int .i64 d],.bool true]) (by simp [results,Tryz.results200,go_sem, *]) rfl ⟨rfl, ?_⟩;exact b3.trans (hbA.mono Oz)
def topH (a b:Int) (r:Yk):Option Half:=if 50000<r.d then none else Y1 (a*r.d) (b*r.d) r.n
theorem topH_ero {q:List Half} {h:Half} (hh:Xt h=true) (hq:Xb q=true) (hne:q≠[]):topH h.a h.b ⟨h.c*(ZO q h.a h.b).d-(ZO q h.a h.b).n,(ZO q h.a h.b).d⟩=YG q h:=by
 obtain ⟨a1,a2,a3,a4,_⟩:=Y0.1 hh;have R:=supR hq hne (a:=h.a) (b:=h.b) ⟨Oz,Oz⟩ ⟨Oz,Oz⟩;unfold topH YG;split
 ·rename_i hd
  exact (ero_none a4 hd R.g).symm
 ·rfl
theorem sTop_c (a b:Int) (r:Yk) (w:World) (ha : -50000<=a/\a<=50000) (hb : -50000<=b/\b<=50000) (hr:Xn r=true) :
 Calls Tryz.prog 201 #[.int .i64 a,.int .i64 b,Xv r] w λ e w'=>e=.returned (YY (topH a b r))/\Below w.heap.size w w':=by
 obtain ⟨⟨r1,r2⟩,⟨r3,r4⟩,_⟩:=Z6.1 hr;have k1:=λ W=>Zs r W ⟨⟨Oz,Oz⟩,⟨Oz,Oz⟩⟩;rw [hr] at k1;have hdef:=Lib.hid (show topH a b r=if 50000<r.d then none else Y1 (a*r.d) (b*r.d) r.n from rfl);clear hr;obtain ⟨W,hW⟩:∃ W,W=(w.alloc (.cells #[.int .i64 r.n,.int .i64 r.d] 46)).alloc (.cells #[.int .i64 0,.int .i64 0,.int .i64 0] 136):=⟨_,rfl⟩;have HA:XV W w.heap.size [.int .i64 r.n,.int .i64 r.d]:=by rw [hW];exact Ys
 have HR:XV W (w.heap.size+1) [.int .i64 0,.int .i64 0,.int .i64 0]:=by rw [hW];exact Ys
 have b0:Below w.heap.size w W:=by rw [hW];exact Xl
 have hW':=Lib.hid hW;clear hW;obtain ⟨cHA_0,fHA_0⟩:=HA.2 0 _ rfl;obtain ⟨cHA_1,fHA_1⟩:=HA.2 1 _ rfl;have lA:=HA.1;go_enter Tryz.func201,Tryz.ntmps201
 go_upto_region 1 with fail
 rw [<- hW'.out];clear hW';go_wp2_with (fail)
 refine (k1 _).mono ?_;rintro e w1 ⟨rfl,hb1⟩;have A1:=HA.below hb1;have R1:=HR.below hb1;have b1:=Xe b0 hb1;clear HA HR b0 hb1 k1 cHA_0 cHA_1 fHA_0 fHA_1 lA;obtain ⟨cA1_0,fA1_0⟩:=A1.2 0 _ rfl;obtain ⟨cA1_1,fA1_1⟩:=A1.2 1 _ rfl;have lA:=A1.1;by_cases hd:50000<r.d
 ·have hv:=Lib.hid (hdef.out.trans (if_pos hd));obtain ⟨cR1_0,fR1_0⟩:=R1.2 0 _ rfl;obtain ⟨cR1_1,fR1_1⟩:=R1.2 1 _ rfl;obtain ⟨cR1_2,fR1_2⟩:=R1.2 2 _ rfl;have lR:=R1.1;go_wp2
  refine bodyPost_ret (v:=.tuple #[.agg #[.int .i64 0,.int .i64 0,.int .i64 0],.bool false]) (by simp [results,Tryz.results201,go_sem, *]) rfl ⟨by rw [hv.out];rfl, ?_⟩;exact KC b1 Oz
 ·have hv:=Lib.hid (hdef.out.trans (if_neg hd));have p1:=Jd (a:=a) (b:=r.d) (A:=50000) (B:=50000) ⟨by omega,by omega⟩ ⟨by omega,by omega⟩;have p2:=Jd (a:=b) (b:=r.d) (A:=50000) (B:=50000) ⟨by omega,by omega⟩ ⟨by omega,by omega⟩;have k2:=λ W=>sHalfOf_c (a*r.d) (b*r.d) r.n W ⟨by omega,by omega⟩ ⟨by omega,by omega⟩ ⟨by omega,by omega⟩;generalize Y1 (a*r.d) (b*r.d) r.n=o at *;go_wp2_with (fail)
  refine (k2 _).mono ?_;rintro e w3 ⟨rfl,hb3⟩;have R3:=R1.below hb3;have b3:=Xe b1 hb3;clear R1 A1 b1 hb3 k2 cA1_0 cA1_1 fA1_0 fA1_1 lA;obtain ⟨cR3_0,fR3_0⟩:=R3.2 0 _ rfl;obtain ⟨cR3_1,fR3_1⟩:=R3.2 1 _ rfl;obtain ⟨cR3_2,fR3_2⟩:=R3.2 2 _ rfl;have lR:=R3.1;cases o with
  | none =>
   simp only [YY];go_wp2
   refine bodyPost_ret (v:=.tuple #[.agg #[.int .i64 0,.int .i64 0,.int .i64 0],.bool false]) (by simp [results,Tryz.results201,go_sem, *]) rfl ⟨by rw [hv.out];rfl, ?_⟩;exact KC b3 Oz
  | some g =>
   simp only [YY];go_wp2
   refine bodyPost_ret (v:=.tuple #[.agg #[.int .i64 g.a,.int .i64 g.b,.int .i64 g.c],.bool true]) (by simp [results,Tryz.results201,go_sem, *]) rfl ⟨by rw [hv.out];rfl, ?_⟩;exact KC b3 Oz
theorem sErode_c (p q:List Half) (a b:Zi) (w:World) (hp:Xb p=true) (hq:Xb q=true) (hne:q≠[]) (hsp:Sl 3 Xd w a.A p) (hsl:Sl 3 Xd w b.A q) (hna:a.A=none->a.c=0) (hnb:b.A=none->b.c=0) :
 Calls Tryz.prog 175 #[Yi p a,Yi q b] w λ e w'=>∃ v,e=.returned (.tuple #[.agg #[v],.bool (Yv (YG q) p)])/\XI 136 3 Xd w' w.heap.size v (YR (YG q) p)/\Below w.heap.size w w':=by
 obtain ⟨i0,hi0,hz0,hz1,hz2⟩:=info_parts (show (Tryz.prog.info? 136).map (λ i=>(i.zero,i.size,i.bytes))=some (some (.agg #[.int .i64 0,.int .i64 0,.int .i64 0]),3,24) by kernel_rfl);obtain ⟨A,cap⟩:=a;simp only at hsp hna;have hlp:=Zt hp;have hlq:=Zt hq;have hok:=Lib.hid (Jb hp);have hgok:=Lib.hid (λ h (_:h∈p) g (e:YG q h=some g)=>eroH_ok e);have k1:=λ W h=>XY p ⟨A,cap⟩ W Oz (λ h hh=>hIn (KS (Jb hp h hh))) h hna;have k2:=λ W h=>XY q b W Oz (λ h hh=>hIn (KS (Jb hq h hh))) h hnb;have k3:=λ W=>Yh q b W;rw [hp] at k1;rw [hq] at k2;rw [decide_eq_false (show ¬ q.length=0 from λ e=>hne (List.length_eq_zero_iff.1 e))] at k3;obtain ⟨W,hW⟩:∃ W,W=((w.alloc (.cells #[.slice A p.length cap] 26)).alloc (.cells #[.slice b.A q.length b.c] 26)).alloc (.cells #[.slice none 0 0] 26):=⟨_,rfl⟩;have HA:XV W w.heap.size [.slice A p.length cap]:=by rw [hW];exact Ys
 have HB:XV W (w.heap.size+1) [.slice b.A q.length b.c]:=by rw [hW];exact Ys
 have HR:XV W (w.heap.size+1+1) [.slice none 0 0]:=by rw [hW];exact Ys
 have b0:Below w.heap.size w W:=by rw [hW];exact Xl
 have zW:w.heap.size+1+1<W.heap.size:=HR.1;have sp:=hsp.below b0;have sq:=hsl.below b0;have hW':=Lib.hid hW;clear hW hsp hsl hp;obtain ⟨cHA_0,fHA_0⟩:=HA.2 0 _ rfl;obtain ⟨cHB_0,fHB_0⟩:=HB.2 0 _ rfl;have lA:=HA.1;have lB:=HB.1;go_enter Tryz.func175,Tryz.ntmps175
 go_upto_region 1 with fail
 rw [<- hW'.out];clear hW';go_wp2_with (fail)
 refine (k1 _ sp).mono ?_;rintro e w3 ⟨rfl,hb_w3⟩;have r_w3:=Xh hb_w3;have l_w3_0:w.heap.size<w3.heap.size:=Xo hb_w3;have l_w3_1:w.heap.size+1<w3.heap.size:=Xo hb_w3;go_wp2_with (fail)
 refine (k2 _ (sq.below (by exact Xl))).mono ?_;rintro e w4 ⟨rfl,hb_w4⟩;have r_w4:=Xh hb_w4;have l_w4_0:w.heap.size<w4.heap.size:=Xo hb_w4;have l_w4_1:w.heap.size+1<w4.heap.size:=Xo hb_w4;go_wp2_with (fail)
 refine (k3 _).mono ?_;rintro e w5 ⟨rfl,hb_w5⟩;have r_w5:=Xh hb_w5;have l_w5_0:w.heap.size<w5.heap.size:=Xo hb_w5;have l_w5_1:w.heap.size+1<w5.heap.size:=Xo hb_w5;have bb:=Xe (Xe hb_w3 hb_w4) hb_w5;have A5:=HA.below bb;have B5:=HB.below bb;have R5:=HR.below bb;have P5:=sp.below bb;have Q5:=sq.below bb;have b5:=b0.trans (bb.mono b0.size);have z5:w.heap.size+1+1<w5.heap.size:=Nat.lt_of_lt_of_le zW bb.size;clear HA HB HR sp sq b0 zW bb hb_w3 hb_w4 hb_w5 r_w3 r_w4 r_w5 l_w3_0 l_w3_1 l_w4_0 l_w4_1 l_w5_0 l_w5_1 cHA_0 fHA_0 cHB_0 fHB_0 lA lB k1 k2 k3;have N6:XI 136 3 Xd (w5.alloc (.cells #[] 136)) w5.heap.size (.slice (some ⟨w5.heap.size,0,none⟩) 0 0) ([]:List Half):=XI.mk0 w5;have b6:=Xc (Below.refl w5.heap.size w5) (.cells #[] 136);go_upto_region 4 with fail
 generalize w5.alloc (.cells #[] 136)=w6 at *;have A6:=A5.below b6;obtain ⟨cA6_0,fA6_0⟩:=A6.2 0 _ rfl;have lA:=A6.1;go_wp2
 clear cA6_0 fA6_0 lA A6;go_loopw [6,8,9,10,11,12,13,14,32] (λ out _ _ _ _ _ _ _ i wr=>∃ k:Nat,k<=p.length/\i=.int .i64 k/\YZ (YG q) (p.take k)=true/\XI 136 3 Xd wr w5.heap.size out (XW (YG q) (p.take k))/\Below w5.heap.size w5 wr) (λ _ _ _ _ _ _ _ _ i _=>p.length-(intOf i).toNat)
 case atStart=>exact ⟨0,Nat.zero_le _,rfl,rfl,N6,b6⟩
 case round =>
  obtain ⟨k,hk,rfl,hall,N,hbr⟩:=hrel;by_cases hlt:k<p.length
  ·obtain ⟨bb,off,hA,hblt,hc⟩:=(P5.below hbr).at_ hlt;have g0:=hc 0 _ rfl;have g1:=hc 1 _ rfl;have g2:=hc 2 _ rfl;simp only [Nat.add_zero] at g0;have hhk:=hok.out _ (List.getElem_mem hlt);have E:=eroB hhk hq hne;have SR:=supR hq hne (a:=p[k].a) (b:=p[k].b) (by have:=Y0.1 hhk;omega) (by have:=Y0.1 hhk;omega);have hh:=Y0.1 hhk;have hto:=Lib.hid (topH_ero hhk hq hne);have hno:=Lib.hid (λ h=>@mov_none (YG q) p k hlt h);have hst:=Lib.hid (λ g h=>@movL_take (YG q) p k g hlt h);have hal:=Lib.hid (λ g h=>@movAll_take (YG q) p k g hlt hall h);have c1:=λ W h=>sFarL_c q b p[k].a p[k].b W hq hne hh.1 hh.2.1 h;have c2:=λ W=>sSum_c p[k].c (ZO q p[k].a p[k].b).n (ZO q p[k].a p[k].b).d W hh.2.2.1 SR.n SR.d SR.g;have hless:=ratio_less hh.2.2.1 SR.n SR.d SR.g;have hrok:Xn ⟨p[k].c*(ZO q p[k].a p[k].b).d-(ZO q p[k].a p[k].b).n,(ZO q p[k].a p[k].b).d⟩=true:=by
    rw [<- hless];exact (YP (by have:=E.c;have:=E.n;omega) (by have:=SR.d;omega)).1
   have c3:=λ W=>sTop_c p[k].a p[k].b ⟨p[k].c*(ZO q p[k].a p[k].b).d-(ZO q p[k].a p[k].b).n,(ZO q p[k].a p[k].b).d⟩ W hh.1 hh.2.1 hrok;rw [hto.out] at c3;have rd:=SR.d;have rn:=SR.n;clear hc hall hhk E SR hh hto hless hrok;generalize YG q p[k]=o at *;generalize ZO q p[k].a p[k].b=r at *;generalize (Jz q p[k].a p[k].b).1=fi at *;generalize p[k]=h at *;have Q2:=(Q5.below hbr).alloc (.cells #[.int .i64 h.a,.int .i64 h.b,.int .i64 h.c] 136);have B2:=(B5.below hbr).alloc (.cells #[.int .i64 h.a,.int .i64 h.b,.int .i64 h.c] 136);have b2:=Xc hbr (.cells #[.int .i64 h.a,.int .i64 h.b,.int .i64 h.c] 136);have X2:=XV.new wr #[.int .i64 h.a,.int .i64 h.b,.int .i64 h.c] 136;have N2:=N.alloc (.cells #[.int .i64 h.a,.int .i64 h.b,.int .i64 h.c] 136);subst hA;go_upto_region 7 with fail
   clear g0 g1 g2 hblt N hbr;generalize wr.alloc (.cells #[.int .i64 h.a,.int .i64 h.b,.int .i64 h.c] 136)=w2 at *;generalize wr.heap.size=gx at *;obtain ⟨cX2_0,fX2_0⟩:=X2.2 0 _ rfl;obtain ⟨cX2_1,fX2_1⟩:=X2.2 1 _ rfl;obtain ⟨cX2_2,fX2_2⟩:=X2.2 2 _ rfl;obtain ⟨cB2_0,fB2_0⟩:=B2.2 0 _ rfl;have lX:=X2.1;have lB:=B2.1;go_wp2_with (fail)
   refine (c1 _ Q2).mono ?_;rintro e w3 ⟨rfl,hb3⟩;have X4:=(X2.below hb3).alloc (.cells #[.int .i64 r.n,.int .i64 r.d] 46);have S4:=XV.new w3 #[.int .i64 r.n,.int .i64 r.d] 46;have N4:=(N2.below hb3 XE).alloc (.cells #[.int .i64 r.n,.int .i64 r.d] 46);have b4:=Xc (Xe b2 hb3) (.cells #[.int .i64 r.n,.int .i64 r.d] 46);clear Q2 B2 b2 N2 X2 cX2_0 cX2_1 cX2_2 fX2_0 fX2_1 fX2_2 cB2_0 fB2_0 lX lB c1 hb3;go_upto_region 8 with fail
   generalize w3.alloc (.cells #[.int .i64 r.n,.int .i64 r.d] 46)=w4 at *;generalize w3.heap.size=gs at *;obtain ⟨cX4_0,fX4_0⟩:=X4.2 0 _ rfl;obtain ⟨cX4_1,fX4_1⟩:=X4.2 1 _ rfl;obtain ⟨cX4_2,fX4_2⟩:=X4.2 2 _ rfl;obtain ⟨cS4_0,fS4_0⟩:=S4.2 0 _ rfl;obtain ⟨cS4_1,fS4_1⟩:=S4.2 1 _ rfl;have lX:=X4.1;have lS:=S4.1;go_wp2_with (fail)
   refine (c2 _).mono ?_;rintro e w7 ⟨rfl,hb7⟩;generalize h.c*r.d-r.n=tn at *;have X8:=(X4.below hb7).alloc (.cells #[.int .i64 tn,.int .i64 r.d] 46);have S8:=XV.new w7 #[.int .i64 tn,.int .i64 r.d] 46;have N8:=(N4.below hb7 XE).alloc (.cells #[.int .i64 tn,.int .i64 r.d] 46);have b8:=Xc (Xe b4 hb7) (.cells #[.int .i64 tn,.int .i64 r.d] 46);clear N4 b4 X4 S4 cX4_0 cX4_1 cX4_2 fX4_0 fX4_1 fX4_2 cS4_0 cS4_1 fS4_0 fS4_1 lX lS c2 hb7;go_upto_region 9 with fail
   generalize w7.alloc (.cells #[.int .i64 tn,.int .i64 r.d] 46)=w8 at *;generalize w7.heap.size=gt at *;obtain ⟨cX8_0,fX8_0⟩:=X8.2 0 _ rfl;obtain ⟨cX8_1,fX8_1⟩:=X8.2 1 _ rfl;obtain ⟨cX8_2,fX8_2⟩:=X8.2 2 _ rfl;obtain ⟨cS8_0,fS8_0⟩:=S8.2 0 _ rfl;obtain ⟨cS8_1,fS8_1⟩:=S8.2 1 _ rfl;have lX:=X8.1;have lS:=S8.1;go_wp2_with (fail)
   refine (c3 _).mono ?_;rintro e w9 ⟨rfl,hb9⟩;have N9:=N8.below hb9 XE;have b9:=Xe b8 hb9;clear N8 b8 X8 S8 cX8_0 cX8_1 cX8_2 fX8_0 fX8_1 fX8_2 cS8_0 cS8_1 fS8_0 fS8_1 lX lS c3 hb9;cases o with
   | none =>
    have hv:=Lib.hid (hno.out rfl);simp only [YY];have b10:=Xc b9 (.cells #[.int .i64 0,.int .i64 0,.int .i64 0] 136);have R10:=R5.below b10;have b11:=b5.trans (b10.mono b5.size);go_upto_region 10 with fail
    clear N9 b9 b10;generalize w9.alloc (.cells #[.int .i64 0,.int .i64 0,.int .i64 0] 136)=w10 at *;generalize w9.heap.size=g9 at *;obtain ⟨cR10_0,fR10_0⟩:=R10.2 0 _ rfl;have lR:=R10.1;go_wp2
    refine bodyPost_ret (v:=.tuple #[.agg #[.slice none 0 0],.bool false]) (by simp [results,Tryz.results175,go_sem, *]) rfl ⟨.slice none 0 0,by rw [hv.out.1], ?_,Yp b11 (by simp only;omega) _⟩;rw [hv.out.2];exact ⟨none,0,rfl,World.ownsRow_nil _ _ _ _⟩
   | some g =>
    have hs2:=Lib.hid (hst.out g rfl);have ha2:=Lib.hid (hal.out g rfl);simp only [YY];have N10:=N9.alloc (.cells #[.int .i64 g.a,.int .i64 g.b,.int .i64 g.c] 136);have b10:=Xc b9 (.cells #[.int .i64 g.a,.int .i64 g.b,.int .i64 g.c] 136);have X10:=XV.new w9 #[.int .i64 g.a,.int .i64 g.b,.int .i64 g.c] 136;go_upto_region 10 with fail
    clear N9 b9;generalize w9.alloc (.cells #[.int .i64 g.a,.int .i64 g.b,.int .i64 g.c] 136)=w10 at *;generalize w9.heap.size=g9 at *;obtain ⟨cX10_0,fX10_0⟩:=X10.2 0 _ rfl;obtain ⟨cX10_1,fX10_1⟩:=X10.2 1 _ rfl;obtain ⟨cX10_2,fX10_2⟩:=X10.2 2 _ rfl;have lX:=X10.1;have hcm:(XW (YG q) (p.take k)).length<=1073741823:=by rw [ZH,List.length_take];omega
    have hle:w5.heap.size<=w10.heap.size:=b10.size;go_wp2_with (at_builtin;refine Z5 Xx _ rfl _ _ 24 rfl w5.heap.size i0 _ 24 Tryz.underlying24 hi0 hz0 hz1 hz2 rfl (by decide) rfl (N10.alloc _) _ 1 rfl g ?c1 (YE g) bR (by simp;omega) hcm (by decide) ?_)
    case c1 =>
     intro qq u hu;exact hu
    ·intro v7 w11 hn7 hb7;rw [<- hs2.out] at hn7;have b11:=(Xc b10 (.cells #[.int .i64 g.a,.int .i64 g.b,.int .i64 g.c] 136)).trans hb7;clear hb7 b10 N10 X10 cX10_0 cX10_1 cX10_2 fX10_0 fX10_1 fX10_2 lX;go_wp2
     go_roundw
     case rel=>exact ⟨k+1,by omega,by go_num,ha2.out,hn7,b11⟩
     case measure=>simp [intOf];omega
  ·obtain rfl:k=p.length:=Oz
   rw [List.take_length] at hall N;have R6:=R5.below hbr;have b7:=b5.trans (hbr.mono b5.size);have hml:=ZH (YG q) p;by_cases h0:p.length=0
   ·have hv:=Lib.hid (Jo (f:=YG q) h0);have hml0:(XW (YG q) p).length=0:=Oz
    obtain ⟨Ao,co,rfl,o2⟩:=N;rw [hml0];obtain ⟨cR6_0,fR6_0⟩:=R6.2 0 _ rfl;have lR:=R6.1;clear h0 hml hml0 o2 hall;go_wp2
    refine bodyPost_ret (v:=.tuple #[.agg #[.slice none 0 0],.bool true]) (by simp [results,Tryz.results175,go_sem, *]) rfl ⟨.slice none 0 0,by rw [hv.out.1], ?_,Yp b7 (by simp only;omega) _⟩;rw [hv.out.2];exact ⟨none,0,rfl,World.ownsRow_nil _ _ _ _⟩
   have hv:=Lib.hid (mov_all (f:=YG q) h0 hall);have hmo:=JV hgok.out hall;have hml1:¬ (XW (YG q) p).length=0:=Oz
   obtain ⟨Ao,co,rfl,o2⟩:=N;have N2:XI 136 3 Xd wr w5.heap.size (.slice Ao (XW (YG q) p).length co) (XW (YG q) p):=⟨Ao,co,rfl,o2⟩;have k9:=λ W h=>sFitL_c Ao (XW (YG q) p) co W Oz hmo h N2.nilcap;have SO:=N2.out Xx;clear hall o2 hmo hml;generalize XW (YG q) p=ML at *;have hml2:((ML.length:Int) == 0)=false:=by rw [beq_eq_false_iff_ne];omega
   go_wp2_with (fail)
   refine (k9 _ SO).mono ?_;rintro e w7 ⟨v,rfl,N3,hb7⟩;have R7:=R6.below hb7;have b8:=Xe b7 hb7;obtain ⟨cR7_0,fR7_0⟩:=R7.2 0 _ rfl;have lR:=R7.1;obtain ⟨Av,cv,rfl,o3⟩:=N3;have N3:XI 136 3 Xd w7 wr.heap.size (.slice Av (XZ (Xs ML)).length cv) (XZ (Xs ML)):=⟨Av,cv,rfl,o3⟩;have z3:=hbr.size;clear o3 k9 SO N2;go_wp2
   refine bodyPost_ret (v:=.tuple #[.agg #[.slice Av (XZ (Xs ML)).length cv],.bool (YA (Xs ML))]) (by simp [results,Tryz.results175,go_sem, *]) rfl ⟨.slice Av (XZ (Xs ML)).length cv,by rw [hv.out.1], ?_,Yp b8 (by simp only;omega) _⟩;rw [hv.out.2];exact (N3.lowC (q:=⟨w.heap.size+1+1,0,none⟩) (by simp only;omega) [.slice Av (XZ (Xs ML)).length cv]).mono Oz
end Go.Proofs.YtbekjpkcicjcgaaGreat
