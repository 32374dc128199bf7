/-
 Eroding of regions: of the program and of the reference.
 Conditions: valid regions.
-/
import Derived.Deep.RegionHeld3
import Derived.Deep.DeepMust
import Derived.Deep.DeepCutAuto
import Derived.Test.YtbekjpkcicjcgabGreatGrXfQa
set_option maxHeartbeats 8000000
set_option maxRecDepth 100000
namespace Go.Proofs.YtbekjpkcicjcgabGreat
open Go.RowKit
theorem iEroC_c (q:List Half) (b:ZC) (h:Half) (gw:Nat) (w:World) (hh:Xq h=true) (hq:Xc q=true) (hne:q≠[]) (hg:X0 w gw [.slice b.A q.length b.c]) (hsl:Sl 3 Xe w b.A q) :
 Calls Tryz.prog 133 #[Yf h,.pointer (some ⟨gw,0,none⟩)] w λ e w'=>e=.returned (JQ (KC q h))/\Below w.heap.size w w':=by
 obtain ⟨⟨e1,e2⟩,⟨e3,e4⟩,⟨e5,e6⟩,⟨e7,e8⟩,⟨e9,e10⟩⟩:=eroB hh hq hne;obtain ⟨a1,a2,a3,_⟩:=Zm.1 hh;have k1:=λ W h1=>iSupport_c q b h.a h.b W hq hne ⟨by omega,by omega⟩ ⟨by omega,by omega⟩ h1;have hdef:=Lib.hid (show KC q h=XO (h.a*(J4 q h.a h.b).d) (h.b*(J4 q h.a h.b).d) (h.c*(J4 q h.a h.b).d-(J4 q h.a h.b).n) from rfl);generalize J4 q h.a h.b=r at *;have k2:=λ W=>iHalfOf_c (h.a*r.d) (h.b*r.d) (h.c*r.d-r.n) W ⟨by omega,by omega⟩ ⟨by omega,by omega⟩ ⟨by omega,by omega⟩;generalize XO (h.a*r.d) (h.b*r.d) (h.c*r.d-r.n)=o at *;clear hh hq hne;obtain ⟨W,hW⟩:∃ W,W=(w.alloc (.cells #[.int .i64 h.a,.int .i64 h.b,.int .i64 h.c] 85)).alloc (.cells #[.int .i64 0,.int .i64 0,.int .i64 0] 85):=⟨_,rfl⟩;have HA:X0 W w.heap.size [.int .i64 h.a,.int .i64 h.b,.int .i64 h.c]:=by rw [hW];exact ZQ
 have HR:X0 W (w.heap.size+1) [.int .i64 0,.int .i64 0,.int .i64 0]:=by rw [hW];exact ZQ
 have b0:Below w.heap.size w W:=by rw [hW];exact Xn
 have HG:=hg.below b0;have hs0:=hsl.below b0;have hW':=Lib.hid hW;clear hW hg hsl;obtain ⟨cHA_0,fHA_0⟩:=HA.2 0 _ rfl;obtain ⟨cHA_1,fHA_1⟩:=HA.2 1 _ rfl;obtain ⟨cHA_2,fHA_2⟩:=HA.2 2 _ rfl;obtain ⟨cHG_0,fHG_0⟩:=HG.2 0 _ rfl;have lA:=HA.1;have lG:=HG.1;go_enter Tryz.func133,Tryz.ntmps133
 go_upto_region 1 with fail
 rw [<- hW'.out];clear hW';go_wp2_with (fail)
 refine (k1 _ hs0).mono ?_;rintro e w1 ⟨rfl,hb1⟩;have A2:=(HA.below hb1).alloc (.cells #[.int .i64 r.n,.int .i64 r.d] 45);have R2:=(HR.below hb1).alloc (.cells #[.int .i64 r.n,.int .i64 r.d] 45);have Q2:=X0.new w1 #[.int .i64 r.n,.int .i64 r.d] 45;have b2:=Xa (Xg b0 hb1) (.cells #[.int .i64 r.n,.int .i64 r.d] 45);clear HA HR HG hs0 b0 hb1 cHA_0 cHA_1 cHA_2 fHA_0 fHA_1 fHA_2 cHG_0 fHG_0 lA lG k1;go_upto_region 2 with fail
 generalize w1.alloc (.cells #[.int .i64 r.n,.int .i64 r.d] 45)=w2 at *;generalize w1.heap.size=gr at *;obtain ⟨cA2_0,fA2_0⟩:=A2.2 0 _ rfl;obtain ⟨cA2_1,fA2_1⟩:=A2.2 1 _ rfl;obtain ⟨cA2_2,fA2_2⟩:=A2.2 2 _ rfl;obtain ⟨cQ2_0,fQ2_0⟩:=Q2.2 0 _ rfl;obtain ⟨cQ2_1,fQ2_1⟩:=Q2.2 1 _ rfl;have lA:=A2.1;have lQ:=Q2.1;go_wp2_with (fail)
 refine (k2 _).mono ?_;rintro e w3 ⟨rfl,hb3⟩;have R3:=R2.below hb3;have b3:=Xg b2 hb3;clear R2 A2 Q2 b2 hb3 k2 cA2_0 cA2_1 cA2_2 fA2_0 fA2_1 fA2_2 cQ2_0 cQ2_1 fQ2_0 fQ2_1 lA lQ;obtain ⟨cR3_0,fR3_0⟩:=R3.2 0 _ rfl;obtain ⟨cR3_1,fR3_1⟩:=R3.2 1 _ rfl;obtain ⟨cR3_2,fR3_2⟩:=R3.2 2 _ rfl;have lR:=R3.1;cases o with
 | none =>
  simp only [JQ];go_wp2
  refine bodyPost_ret (v:=.tuple #[.agg #[.int .i64 0,.int .i64 0,.int .i64 0],.bool false]) (by simp [results,Tryz.results133,go_sem, *]) rfl ⟨by rw [hdef.out];rfl, ?_⟩;exact below_cells3 b3 (by omega)
 | some g =>
  simp only [JQ];go_wp2
  refine bodyPost_ret (v:=.tuple #[.agg #[.int .i64 g.a,.int .i64 g.b,.int .i64 g.c],.bool true]) (by simp [results,Tryz.results133,go_sem, *]) rfl ⟨by rw [hdef.out];rfl, ?_⟩;exact below_cells3 b3 (by omega)
theorem iMovE_c (p q:List Half) (a b:ZC) (gw:Nat) (w:World) (hp:Xc p=true) (hq:Xc q=true) (hne:q≠[]) (hsp:Sl 3 Xe w a.A p) (hg:X0 w gw [.slice b.A q.length b.c]) (hsl:Sl 3 Xe w b.A q) :
 Calls Tryz.prog 132 #[Yr p a,.func (.func 133) #[] #[.pointer (some ⟨gw,0,none⟩)]] w λ e w'=>∃ v,e=.returned (.tuple #[.agg #[v],.bool (movOk (KC q) p)])/\XI 85 3 Xe w' w.heap.size v (movR (KC q) p)/\Below w.heap.size w w':=by
 obtain ⟨A,cap⟩:=a;simp only at hsp;obtain ⟨i0,hi0,hz0,hz1,hz2⟩:=info_parts (show (Tryz.prog.info? 85).map (λ i=>(i.zero,i.size,i.bytes))=some (some (.agg #[.int .i64 0,.int .i64 0,.int .i64 0]),3,24) by kernel_rfl);have hlen:=Z4 hp;have hok:=Lib.hid (Z1 hp);have hgok:=Lib.hid (λ h (_:h∈p) g (e:KC q h=some g)=>eroH_ok e);obtain ⟨W,hW⟩:∃ W,W=(w.alloc (.cells #[.slice A p.length cap] 26)).alloc (.cells #[.slice none 0 0] 26):=⟨_,rfl⟩;have HA:X0 W w.heap.size [.slice A p.length cap]:=by rw [hW];exact ZQ
 have HR:X0 W (w.heap.size+1) [.slice none 0 0]:=by rw [hW];exact ZQ
 have b0:Below w.heap.size w W:=by rw [hW];exact Xn
 have zW:w.heap.size+1<W.heap.size:=HR.1;have HG:=hg.below b0;have hs0:=hsl.below b0;have sp:=hsp.below b0;have hW':=Lib.hid hW;have kv:=Jc p ⟨A,cap⟩ W;clear hW hg hsl hsp hp;obtain ⟨cHA_0,fHA_0⟩:=HA.2 0 _ rfl;have lA:=HA.1;go_enter Tryz.func132,Tryz.ntmps132
 go_upto_region 1 with fail
 rw [<- hW'.out];clear hW';by_cases h0:p.length=0
 ·have hv:=Lib.hid (mov_void (f:=KC q) h0);rw [decide_eq_true h0] at kv;clear h0;go_wp2_with (fail)
  refine kv.mono ?_;rintro e w1 ⟨rfl,hb1⟩;have R1:=HR.below hb1;have b1:=Xg b0 hb1;obtain ⟨cR1_0,fR1_0⟩:=R1.2 0 _ rfl;have lR:=R1.1;go_wp2
  refine bodyPost_ret (v:=.tuple #[.agg #[.slice none 0 0],.bool true]) (by simp [results,Tryz.results132,go_sem, *]) rfl ⟨.slice none 0 0,by rw [hv.out.1], ?_,YV b1 (by simp only;omega) _⟩;rw [hv.out.2];exact ⟨none,0,rfl,World.ownsRow_nil _ _ _ _⟩
 rw [decide_eq_false h0] at kv;go_wp2_with (fail)
 refine kv.mono ?_;rintro e w1 ⟨rfl,hb1⟩;have A1:=HA.below hb1;have R1:=HR.below hb1;have G1:=HG.below hb1;have S1:=hs0.below hb1;have P1:=sp.below hb1;have b1:=Xg b0 hb1;have z1:w.heap.size+1<w1.heap.size:=Nat.lt_of_lt_of_le zW hb1.size;clear HA HR HG hs0 sp b0 zW hb1 cHA_0 fHA_0 lA kv;obtain ⟨cA1_0,fA1_0⟩:=A1.2 0 _ rfl;have lA:=A1.1;go_wp2
 go_loopw [6,8,9,10,17] (λ out _ _ _ i wr=>∃ k:Nat,k<=p.length/\i=.int .i64 k/\Ko (KC q) (p.take k)=true/\XI 85 3 Xe wr w1.heap.size out (movL (KC q) (p.take k))/\Below w1.heap.size w1 wr) (λ _ _ _ _ i _=>p.length-(intOf i).toNat)
 case atStart=>exact ⟨0,Nat.zero_le _,rfl,rfl,⟨none,0,rfl,World.ownsRow_nil _ _ _ _⟩,Below.refl _ _⟩
 case round =>
  obtain ⟨k,hk,rfl,hall,N,hbr⟩:=hrel;have br:=b1.trans (hbr.mono b1.size);by_cases hlt:k<p.length
  ·obtain ⟨bb,off,hA,hblt,hc⟩:=(P1.below hbr).at_ hlt;have g0:=hc 0 _ rfl;have g1:=hc 1 _ rfl;have g2:=hc 2 _ rfl;simp only [Nat.add_zero] at g0;have c1:=λ W h1 h2=>iEroC_c q b p[k] gw W (hok.out _ (List.getElem_mem hlt)) hq hne h1 h2;have hno:=Lib.hid (λ h=>@mov_none (KC q) p k hlt h);have hst:=Lib.hid (λ g h=>@movL_take (KC q) p k g hlt h);have hal:=Lib.hid (λ g h=>@movAll_take (KC q) p k g hlt hall h);clear hc hall;generalize KC q p[k]=o at *;generalize p[k]=h at *;have G2:=(G1.below hbr).alloc (.cells #[.int .i64 h.a,.int .i64 h.b,.int .i64 h.c] 85);have S2:=(S1.below hbr).alloc (.cells #[.int .i64 h.a,.int .i64 h.b,.int .i64 h.c] 85);have R2:=(R1.below hbr).alloc (.cells #[.int .i64 h.a,.int .i64 h.b,.int .i64 h.c] 85);have b2:=Xa hbr (.cells #[.int .i64 h.a,.int .i64 h.b,.int .i64 h.c] 85);have X2:=X0.new wr #[.int .i64 h.a,.int .i64 h.b,.int .i64 h.c] 85;have N2:=N.alloc (.cells #[.int .i64 h.a,.int .i64 h.b,.int .i64 h.c] 85);subst hA;go_upto_region 7 with fail
   clear g0 g1 g2 hblt N hbr br;generalize wr.alloc (.cells #[.int .i64 h.a,.int .i64 h.b,.int .i64 h.c] 85)=w2 at *;generalize wr.heap.size=gx at *;obtain ⟨cX2_0,fX2_0⟩:=X2.2 0 _ rfl;obtain ⟨cX2_1,fX2_1⟩:=X2.2 1 _ rfl;obtain ⟨cX2_2,fX2_2⟩:=X2.2 2 _ rfl;have lX:=X2.1;go_wp2_with (fail)
   refine (c1 _ G2 S2).mono ?_;rintro e w3 ⟨rfl,hb3⟩;have R3:=R2.below hb3;have N3:=N2.below hb3 Xs;have b3:=Xg b2 hb3;clear X2 cX2_0 cX2_1 cX2_2 fX2_0 fX2_1 fX2_2 lX R2 N2 b2 G2 S2 hb3 c1;cases o with
   | none =>
    have hv:=Lib.hid (hno.out rfl);simp only [JQ];have R4:=R3.alloc (.cells #[.int .i64 0,.int .i64 0,.int .i64 0] 85);have b4:=b1.trans ((Xa b3 (.cells #[.int .i64 0,.int .i64 0,.int .i64 0] 85)).mono b1.size);go_upto_region 8 with fail
    clear R3 b3 N3;generalize w3.alloc (.cells #[.int .i64 0,.int .i64 0,.int .i64 0] 85)=w4 at *;generalize w3.heap.size=g3 at *;obtain ⟨cR4_0,fR4_0⟩:=R4.2 0 _ rfl;have lR:=R4.1;go_wp2
    refine bodyPost_ret (v:=.tuple #[.agg #[.slice none 0 0],.bool false]) (by simp [results,Tryz.results132,go_sem, *]) rfl ⟨.slice none 0 0,by rw [hv.out.1], ?_,YV b4 (by simp only;omega) _⟩;rw [hv.out.2];exact ⟨none,0,rfl,World.ownsRow_nil _ _ _ _⟩
   | some g =>
    have hs2:=Lib.hid (hst.out g rfl);have ha2:=Lib.hid (hal.out g rfl);simp only [JQ];have N4:=N3.alloc (.cells #[.int .i64 g.a,.int .i64 g.b,.int .i64 g.c] 85);have b4:=Xa b3 (.cells #[.int .i64 g.a,.int .i64 g.b,.int .i64 g.c] 85);have X4:=X0.new w3 #[.int .i64 g.a,.int .i64 g.b,.int .i64 g.c] 85;go_upto_region 8 with fail
    clear R3 b3 N3;generalize w3.alloc (.cells #[.int .i64 g.a,.int .i64 g.b,.int .i64 g.c] 85)=w4 at *;generalize w3.heap.size=g3 at *;obtain ⟨cX4_0,fX4_0⟩:=X4.2 0 _ rfl;obtain ⟨cX4_1,fX4_1⟩:=X4.2 1 _ rfl;obtain ⟨cX4_2,fX4_2⟩:=X4.2 2 _ rfl;have lX:=X4.1;have hcm:(movL (KC q) (p.take k)).length<=1073741823:=by rw [movL_len,List.length_take];omega
    have hle:w1.heap.size<=w4.heap.size:=b4.size;go_wp2_with (at_builtin;refine KG Xu _ rfl _ _ 24 rfl w1.heap.size i0 _ 24 Tryz.underlying24 hi0 hz0 hz1 hz2 rfl (by decide) rfl (N4.alloc _) _ 1 rfl g ?c1 (YR g) bR (by simp;omega) hcm (by decide) ?_)
    case c1 =>
     intro qq u hu;exact hu
    ·intro v7 w7 hn7 hb7;rw [<- hs2.out] at hn7;have b7:=(Xa b4 (.cells #[.int .i64 g.a,.int .i64 g.b,.int .i64 g.c] 85)).trans hb7;clear hb7 b4 N4 X4 cX4_0 cX4_1 cX4_2 fX4_0 fX4_1 fX4_2 lX;go_wp2
     go_roundw
     case rel=>exact ⟨k+1,by omega,by go_num,ha2.out,hn7,b7⟩
     case measure=>simp [intOf];omega
  ·obtain rfl:k=p.length:=by omega
   rw [List.take_length] at hall N;have hv:=Lib.hid (mov_all (f:=KC q) h0 hall);have hmo:=movL_ok hgok.out hall;have hml:=movL_len (KC q) p;have R2:=R1.below hbr;obtain ⟨Ao,co,rfl,o2⟩:=N;have N2:XI 85 3 Xe wr w1.heap.size (.slice Ao (movL (KC q) p).length co) (movL (KC q) p):=⟨Ao,co,rfl,o2⟩;have k9:=λ W h=>iMeet_c Ao (movL (KC q) p) co W (by omega) hmo h N2.nilcap;have SO:=N2.out Xu;clear hall o2 hmo hml cA1_0 fA1_0 lA A1;generalize movL (KC q) p=ML at *;go_wp2_with (fail)
   refine (k9 _ SO).mono ?_;rintro e w3 ⟨v,rfl,N3,hb3⟩;have R3:=R2.below hb3;have b3:=Xg br hb3;obtain ⟨cR3_0,fR3_0⟩:=R3.2 0 _ rfl;have lR:=R3.1;obtain ⟨Av,cv,rfl,o3⟩:=N3;have N3:XI 85 3 Xe w3 wr.heap.size (.slice Av (Yk (Xk ML)).length cv) (Yk (Xk ML)):=⟨Av,cv,rfl,o3⟩;have z3:=hbr.size;clear o3 k9 SO N2;go_wp2
   refine bodyPost_ret (v:=.tuple #[.agg #[.slice Av (Yk (Xk ML)).length cv],.bool (Yw (Xk ML))]) (by simp [results,Tryz.results132,go_sem, *]) rfl ⟨.slice Av (Yk (Xk ML)).length cv,by rw [hv.out.1], ?_,YV b3 (by simp only;omega) _⟩;rw [hv.out.2];exact (N3.lowC (q:=⟨w.heap.size+1,0,none⟩) (by simp only;omega) [.slice Av (Yk (Xk ML)).length cv]).mono (by omega)
theorem iErode_c (p q:List Half) (a b:ZC) (w:World) (hp:Xc p=true) (hq:Xc q=true) (hne:q≠[]) (hsp:Sl 3 Xe w a.A p) (hsl:Sl 3 Xe w b.A q) :
 Calls Tryz.prog 112 #[Yr p a,Yr q b] w λ e w'=>∃ v,e=.returned (.tuple #[.agg #[v],.bool (movOk (KC q) p)])/\XI 85 3 Xe w' w.heap.size v (movR (KC q) p)/\Below w.heap.size w w':=by
 obtain ⟨W,hW⟩:∃ W,W=((w.alloc (.cells #[.slice a.A p.length a.c] 26)).alloc (.cells #[.slice b.A q.length b.c] 26)).alloc (.cells #[.slice none 0 0] 26):=⟨_,rfl⟩;have HA:X0 W w.heap.size [.slice a.A p.length a.c]:=by rw [hW];exact ZQ
 have HB:X0 W (w.heap.size+1) [.slice b.A q.length b.c]:=by rw [hW];exact ZQ
 have HR:X0 W (w.heap.size+1+1) [.slice none 0 0]:=by rw [hW];exact ZQ
 have b0:Below w.heap.size w W:=by rw [hW];exact Xn
 have zW:w.heap.size+1+1<W.heap.size:=HR.1;have k1:=iMovE_c p q a b (w.heap.size+1) W hp hq hne (hsp.below b0) HB (hsl.below b0);have hW':=Lib.hid hW;clear hW hsp hsl hp hq hne;generalize movOk (KC q) p=ok at *;generalize movR (KC q) p=R at *;obtain ⟨cHA_0,fHA_0⟩:=HA.2 0 _ rfl;have lA:=HA.1;have hmf:∀ (fn:Fn) (first cap:Array Value) (w:World),(Instr.makeFunc fn first cap).run Tryz.prog w=.ok (.func fn first cap) w:=λ _ _ _ _=>rfl;go_enter Tryz.func112,Tryz.ntmps112
 go_upto_region 1 with fail
 rw [<- hW'.out];clear hW';go_wp2_with (fail)
 refine k1.mono ?_;rintro e w1 ⟨v,rfl,N1,hb1⟩;have R1:=HR.below hb1;have b1:=Xg b0 hb1;obtain ⟨Av,cv,rfl,o3⟩:=N1;have N3:XI 85 3 Xe w1 W.heap.size (.slice Av R.length cv) R:=⟨Av,cv,rfl,o3⟩;clear o3 HR HA HB b0 hb1 k1 cHA_0 fHA_0 lA;obtain ⟨cR1_0,fR1_0⟩:=R1.2 0 _ rfl;have lR:=R1.1;go_wp2
 refine bodyPost_ret (v:=.tuple #[.agg #[.slice Av R.length cv],.bool ok]) (by simp [results,Tryz.results112,go_sem, *]) rfl ⟨.slice Av R.length cv,rfl, ?_,YV b1 (by simp only;omega) _⟩;exact (N3.lowC (q:=⟨w.heap.size+1+1,0,none⟩) (by simp only;omega) [.slice Av R.length cv]).mono (by omega)
end Go.Proofs.YtbekjpkcicjcgabGreat
