/-
 Eroding of regions: of the program and of the reference.
 Conditions: valid regions.
-/
import Derived.Test.YtabfdkpdppemaaaGreatGrXa
set_option maxHeartbeats 8000000
set_option maxRecDepth 100000
namespace Go.Proofs.YtabfdkpdppemaaaGreat
open Go.RowKit
theorem iEroC_c (q:List Half) (b:Ks) (h:Half) (gw:Nat) (w:World) (hh:Xy h=true) (hq:Xe q=true) (hne:q≠[]) (hg:Yi w gw [.slice b.A q.length b.c]) (hsl:Sl 3 Xg w b.A q) :
 Calls Tryz.prog 205 #[Y8 h,.pointer (some ⟨gw,0,none⟩)] w λ e w'=>e=.returned (KP (Kg q h))/\Below w.heap.size w w':=by
 obtain ⟨⟨e1,e2⟩,⟨e3,e4⟩,⟨e5,e6⟩,⟨e7,e8⟩,⟨e9,e10⟩⟩:=eroB hh hq hne;obtain ⟨a1,a2,a3,_⟩:=Zv.1 hh;have k1:=λ W h1=>iSupport_c q b h.a h.b W hq hne ⟨by omega,by omega⟩ ⟨by omega,by omega⟩ h1;have hdef:=Lib.hid (show Kg q h=Zy (h.a*(Kc q h.a h.b).d) (h.b*(Kc q h.a h.b).d) (h.c*(Kc q h.a h.b).d-(Kc q h.a h.b).n) from rfl);generalize Kc q h.a h.b=r at *;have k2:=λ W=>iHalfOf_c (h.a*r.d) (h.b*r.d) (h.c*r.d-r.n) W ⟨by omega,by omega⟩ ⟨by omega,by omega⟩ ⟨by omega,by omega⟩;generalize Zy (h.a*r.d) (h.b*r.d) (h.c*r.d-r.n)=o at *;clear hh hq hne;obtain ⟨W,hW⟩:∃ W,W=(w.alloc (.cells #[.int .i64 h.a,.int .i64 h.b,.int .i64 h.c] 174)).alloc (.cells #[.int .i64 0,.int .i64 0,.int .i64 0] 174):=⟨_,rfl⟩;have HA:Yi W w.heap.size [.int .i64 h.a,.int .i64 h.b,.int .i64 h.c]:=by rw [hW];exact ZC
 have HR:Yi W (w.heap.size+1) [.int .i64 0,.int .i64 0,.int .i64 0]:=by rw [hW];exact ZC
 have b0:Below w.heap.size w W:=by rw [hW];exact XF
 have HG:=hg.below b0;have hs0:=hsl.below b0;have hW':=Lib.hid hW;clear hW hg hsl;obtain ⟨cHA_0,fHA_0⟩:=HA.2 0 _ rfl;obtain ⟨cHA_1,fHA_1⟩:=HA.2 1 _ rfl;obtain ⟨cHA_2,fHA_2⟩:=HA.2 2 _ rfl;obtain ⟨cHG_0,fHG_0⟩:=HG.2 0 _ rfl;have lA:=HA.1;have lG:=HG.1;go_enter Tryz.func205,Tryz.ntmps205
 go_upto_region 1 with fail
 rw [<- hW'.out];clear hW';go_wp2_with (fail)
 refine (k1 _ hs0).mono ?_;rintro e w1 ⟨rfl,hb1⟩;have A2:=(HA.below hb1).alloc (.cells #[.int .i64 r.n,.int .i64 r.d] 36);have R2:=(HR.below hb1).alloc (.cells #[.int .i64 r.n,.int .i64 r.d] 36);have Q2:=Yi.new w1 #[.int .i64 r.n,.int .i64 r.d] 36;have b2:=Xc (Xh b0 hb1) (.cells #[.int .i64 r.n,.int .i64 r.d] 36);clear HA HR HG hs0 b0 hb1 cHA_0 cHA_1 cHA_2 fHA_0 fHA_1 fHA_2 cHG_0 fHG_0 lA lG k1;go_upto_region 2 with fail
 generalize w1.alloc (.cells #[.int .i64 r.n,.int .i64 r.d] 36)=w2 at *;generalize w1.heap.size=gr at *;obtain ⟨cA2_0,fA2_0⟩:=A2.2 0 _ rfl;obtain ⟨cA2_1,fA2_1⟩:=A2.2 1 _ rfl;obtain ⟨cA2_2,fA2_2⟩:=A2.2 2 _ rfl;obtain ⟨cQ2_0,fQ2_0⟩:=Q2.2 0 _ rfl;obtain ⟨cQ2_1,fQ2_1⟩:=Q2.2 1 _ rfl;have lA:=A2.1;have lQ:=Q2.1;go_wp2_with (fail)
 refine (k2 _).mono ?_;rintro e w3 ⟨rfl,hb3⟩;have R3:=R2.below hb3;have b3:=Xh b2 hb3;clear R2 A2 Q2 b2 hb3 k2 cA2_0 cA2_1 cA2_2 fA2_0 fA2_1 fA2_2 cQ2_0 cQ2_1 fQ2_0 fQ2_1 lA lQ;obtain ⟨cR3_0,fR3_0⟩:=R3.2 0 _ rfl;obtain ⟨cR3_1,fR3_1⟩:=R3.2 1 _ rfl;obtain ⟨cR3_2,fR3_2⟩:=R3.2 2 _ rfl;have lR:=R3.1;cases o with
 | none =>
  simp only [KP];go_wp2
  refine bodyPost_ret (v:=.tuple #[.agg #[.int .i64 0,.int .i64 0,.int .i64 0],.bool false]) (by simp [results,Tryz.results205,go_sem, *]) rfl ⟨by rw [hdef.out];rfl, ?_⟩;exact below_cells3 b3 (by omega)
 | some g =>
  simp only [KP];go_wp2
  refine bodyPost_ret (v:=.tuple #[.agg #[.int .i64 g.a,.int .i64 g.b,.int .i64 g.c],.bool true]) (by simp [results,Tryz.results205,go_sem, *]) rfl ⟨by rw [hdef.out];rfl, ?_⟩;exact below_cells3 b3 (by omega)
theorem iMovE_c (p q:List Half) (a b:Ks) (gw:Nat) (w:World) (hp:Xe p=true) (hq:Xe q=true) (hne:q≠[]) (hsp:Sl 3 Xg w a.A p) (hg:Yi w gw [.slice b.A q.length b.c]) (hsl:Sl 3 Xg w b.A q) :
 Calls Tryz.prog 204 #[Zt p a,.func (.func 205) #[] #[.pointer (some ⟨gw,0,none⟩)]] w λ e w'=>∃ v,e=.returned (.tuple #[.agg #[v],.bool (ZH (Kg q) p)])/\XH 174 3 Xg w' w.heap.size v (ZS (Kg q) p)/\Below w.heap.size w w':=by
 obtain ⟨A,cap⟩:=a;simp only at hsp;obtain ⟨i0,hi0,hz0,hz1,hz2⟩:=info_parts (show (Tryz.prog.info? 174).map (λ i=>(i.zero,i.size,i.bytes))=some (some (.agg #[.int .i64 0,.int .i64 0,.int .i64 0]),3,24) by kernel_rfl);have hlen:=Yo hp;have hok:=Lib.hid (Zo hp);have hgok:=Lib.hid (λ h (_:h∈p) g (e:Kg q h=some g)=>eroH_ok e);obtain ⟨W,hW⟩:∃ W,W=(w.alloc (.cells #[.slice A p.length cap] 26)).alloc (.cells #[.slice none 0 0] 26):=⟨_,rfl⟩;have HA:Yi W w.heap.size [.slice A p.length cap]:=by rw [hW];exact ZC
 have HR:Yi W (w.heap.size+1) [.slice none 0 0]:=by rw [hW];exact ZC
 have b0:Below w.heap.size w W:=by rw [hW];exact XF
 have zW:w.heap.size+1<W.heap.size:=HR.1;have HG:=hg.below b0;have hs0:=hsl.below b0;have sp:=hsp.below b0;have hW':=Lib.hid hW;have kv:=Z8 p ⟨A,cap⟩ W;clear hW hg hsl hsp hp;obtain ⟨cHA_0,fHA_0⟩:=HA.2 0 _ rfl;have lA:=HA.1;go_enter Tryz.func204,Tryz.ntmps204
 go_upto_region 1 with fail
 rw [<- hW'.out];clear hW';by_cases h0:p.length=0
 ·have hv:=Lib.hid (mov_void (f:=Kg q) h0);rw [decide_eq_true h0] at kv;clear h0;go_wp2_with (fail)
  refine kv.mono ?_;rintro e w1 ⟨rfl,hb1⟩;have R1:=HR.below hb1;have b1:=Xh b0 hb1;obtain ⟨cR1_0,fR1_0⟩:=R1.2 0 _ rfl;have lR:=R1.1;go_wp2
  refine bodyPost_ret (v:=.tuple #[.agg #[.slice none 0 0],.bool true]) (by simp [results,Tryz.results204,go_sem, *]) rfl ⟨.slice none 0 0,by rw [hv.out.1], ?_,Zj b1 (by simp only;omega) _⟩;rw [hv.out.2];exact ⟨none,0,rfl,World.ownsRow_nil _ _ _ _⟩
 rw [decide_eq_false h0] at kv;go_wp2_with (fail)
 refine kv.mono ?_;rintro e w1 ⟨rfl,hb1⟩;have A1:=HA.below hb1;have R1:=HR.below hb1;have G1:=HG.below hb1;have S1:=hs0.below hb1;have P1:=sp.below hb1;have b1:=Xh b0 hb1;have z1:w.heap.size+1<w1.heap.size:=Nat.lt_of_lt_of_le zW hb1.size;clear HA HR HG hs0 sp b0 zW hb1 cHA_0 fHA_0 lA kv;obtain ⟨cA1_0,fA1_0⟩:=A1.2 0 _ rfl;have lA:=A1.1;go_wp2
 go_loopw [6,8,9,10,17] (λ out _ _ _ i wr=>∃ k:Nat,k<=p.length/\i=.int .i64 k/\ZF (Kg q) (p.take k)=true/\XH 174 3 Xg wr w1.heap.size out (KQ (Kg q) (p.take k))/\Below w1.heap.size w1 wr) (λ _ _ _ _ i _=>p.length-(intOf i).toNat)
 case atStart=>exact ⟨0,Nat.zero_le _,rfl,rfl,⟨none,0,rfl,World.ownsRow_nil _ _ _ _⟩,Below.refl _ _⟩
 case round =>
  obtain ⟨k,hk,rfl,hall,N,hbr⟩:=hrel;have br:=b1.trans (hbr.mono b1.size);by_cases hlt:k<p.length
  ·obtain ⟨bb,off,hA,hblt,hc⟩:=(P1.below hbr).at_ hlt;have g0:=hc 0 _ rfl;have g1:=hc 1 _ rfl;have g2:=hc 2 _ rfl;simp only [Nat.add_zero] at g0;have c1:=λ W h1 h2=>iEroC_c q b p[k] gw W (hok.out _ (List.getElem_mem hlt)) hq hne h1 h2;have hno:=Lib.hid (λ h=>@mov_none (Kg q) p k hlt h);have hst:=Lib.hid (λ g h=>@movL_take (Kg q) p k g hlt h);have hal:=Lib.hid (λ g h=>@movAll_take (Kg q) p k g hlt hall h);clear hc hall;generalize Kg q p[k]=o at *;generalize p[k]=h at *;have G2:=(G1.below hbr).alloc (.cells #[.int .i64 h.a,.int .i64 h.b,.int .i64 h.c] 174);have S2:=(S1.below hbr).alloc (.cells #[.int .i64 h.a,.int .i64 h.b,.int .i64 h.c] 174);have R2:=(R1.below hbr).alloc (.cells #[.int .i64 h.a,.int .i64 h.b,.int .i64 h.c] 174);have b2:=Xc hbr (.cells #[.int .i64 h.a,.int .i64 h.b,.int .i64 h.c] 174);have X2:=Yi.new wr #[.int .i64 h.a,.int .i64 h.b,.int .i64 h.c] 174;have N2:=N.alloc (.cells #[.int .i64 h.a,.int .i64 h.b,.int .i64 h.c] 174);subst hA;go_upto_region 7 with fail
   clear g0 g1 g2 hblt N hbr br;generalize wr.alloc (.cells #[.int .i64 h.a,.int .i64 h.b,.int .i64 h.c] 174)=w2 at *;generalize wr.heap.size=gx at *;obtain ⟨cX2_0,fX2_0⟩:=X2.2 0 _ rfl;obtain ⟨cX2_1,fX2_1⟩:=X2.2 1 _ rfl;obtain ⟨cX2_2,fX2_2⟩:=X2.2 2 _ rfl;have lX:=X2.1;go_wp2_with (fail)
   refine (c1 _ G2 S2).mono ?_;rintro e w3 ⟨rfl,hb3⟩;have R3:=R2.below hb3;have N3:=N2.below hb3 Xf;have b3:=Xh b2 hb3;clear X2 cX2_0 cX2_1 cX2_2 fX2_0 fX2_1 fX2_2 lX R2 N2 b2 G2 S2 hb3 c1;cases o with
   | none =>
    have hv:=Lib.hid (hno.out rfl);simp only [KP];have R4:=R3.alloc (.cells #[.int .i64 0,.int .i64 0,.int .i64 0] 174);have b4:=b1.trans ((Xc b3 (.cells #[.int .i64 0,.int .i64 0,.int .i64 0] 174)).mono b1.size);go_upto_region 8 with fail
    clear R3 b3 N3;generalize w3.alloc (.cells #[.int .i64 0,.int .i64 0,.int .i64 0] 174)=w4 at *;generalize w3.heap.size=g3 at *;obtain ⟨cR4_0,fR4_0⟩:=R4.2 0 _ rfl;have lR:=R4.1;go_wp2
    refine bodyPost_ret (v:=.tuple #[.agg #[.slice none 0 0],.bool false]) (by simp [results,Tryz.results204,go_sem, *]) rfl ⟨.slice none 0 0,by rw [hv.out.1], ?_,Zj b4 (by simp only;omega) _⟩;rw [hv.out.2];exact ⟨none,0,rfl,World.ownsRow_nil _ _ _ _⟩
   | some g =>
    have hs2:=Lib.hid (hst.out g rfl);have ha2:=Lib.hid (hal.out g rfl);simp only [KP];have N4:=N3.alloc (.cells #[.int .i64 g.a,.int .i64 g.b,.int .i64 g.c] 174);have b4:=Xc b3 (.cells #[.int .i64 g.a,.int .i64 g.b,.int .i64 g.c] 174);have X4:=Yi.new w3 #[.int .i64 g.a,.int .i64 g.b,.int .i64 g.c] 174;go_upto_region 8 with fail
    clear R3 b3 N3;generalize w3.alloc (.cells #[.int .i64 g.a,.int .i64 g.b,.int .i64 g.c] 174)=w4 at *;generalize w3.heap.size=g3 at *;obtain ⟨cX4_0,fX4_0⟩:=X4.2 0 _ rfl;obtain ⟨cX4_1,fX4_1⟩:=X4.2 1 _ rfl;obtain ⟨cX4_2,fX4_2⟩:=X4.2 2 _ rfl;have lX:=X4.1;have hcm:(KQ (Kg q) (p.take k)).length<=1073741823:=by rw [movL_len,List.length_take];omega
    have hle:w1.heap.size<=w4.heap.size:=b4.size;go_wp2_with (at_builtin;refine Jt Xx _ rfl _ _ 24 rfl w1.heap.size i0 _ 24 Tryz.underlying24 hi0 hz0 hz1 hz2 rfl (by decide) rfl (N4.alloc _) _ 1 rfl g ?c1 (Zz g) bR (by simp;omega) hcm (by decide) ?_)
    case c1 =>
     intro qq u hu;exact hu
    ·intro v7 w7 hn7 hb7;rw [<- hs2.out] at hn7;have b7:=(Xc b4 (.cells #[.int .i64 g.a,.int .i64 g.b,.int .i64 g.c] 174)).trans hb7;clear hb7 b4 N4 X4 cX4_0 cX4_1 cX4_2 fX4_0 fX4_1 fX4_2 lX;go_wp2
     go_roundw
     case rel=>exact ⟨k+1,by omega,by go_num,ha2.out,hn7,b7⟩
     case measure=>simp [intOf];omega
  ·obtain rfl:k=p.length:=by omega
   rw [List.take_length] at hall N;have hv:=Lib.hid (mov_all (f:=Kg q) h0 hall);have hmo:=movL_ok hgok.out hall;have hml:=movL_len (Kg q) p;have R2:=R1.below hbr;obtain ⟨Ao,co,rfl,o2⟩:=N;have N2:XH 174 3 Xg wr w1.heap.size (.slice Ao (KQ (Kg q) p).length co) (KQ (Kg q) p):=⟨Ao,co,rfl,o2⟩;have k9:=λ W h=>iMeet_c Ao (KQ (Kg q) p) co W (by omega) hmo h N2.nilcap;have SO:=N2.out Xx;clear hall o2 hmo hml cA1_0 fA1_0 lA A1;generalize KQ (Kg q) p=ML at *;go_wp2_with (fail)
   refine (k9 _ SO).mono ?_;rintro e w3 ⟨v,rfl,N3,hb3⟩;have R3:=R2.below hb3;have b3:=Xh br hb3;obtain ⟨cR3_0,fR3_0⟩:=R3.2 0 _ rfl;have lR:=R3.1;obtain ⟨Av,cv,rfl,o3⟩:=N3;have N3:XH 174 3 Xg w3 wr.heap.size (.slice Av (Yd (Xq ML)).length cv) (Yd (Xq ML)):=⟨Av,cv,rfl,o3⟩;have z3:=hbr.size;clear o3 k9 SO N2;go_wp2
   refine bodyPost_ret (v:=.tuple #[.agg #[.slice Av (Yd (Xq ML)).length cv],.bool (YK (Xq ML))]) (by simp [results,Tryz.results204,go_sem, *]) rfl ⟨.slice Av (Yd (Xq ML)).length cv,by rw [hv.out.1], ?_,Zj b3 (by simp only;omega) _⟩;rw [hv.out.2];exact (N3.lowC (q:=⟨w.heap.size+1,0,none⟩) (by simp only;omega) [.slice Av (Yd (Xq ML)).length cv]).mono (by omega)
theorem iErode_c (p q:List Half) (a b:Ks) (w:World) (hp:Xe p=true) (hq:Xe q=true) (hne:q≠[]) (hsp:Sl 3 Xg w a.A p) (hsl:Sl 3 Xg w b.A q) :
 Calls Tryz.prog 135 #[Zt p a,Zt q b] w λ e w'=>∃ v,e=.returned (.tuple #[.agg #[v],.bool (ZH (Kg q) p)])/\XH 174 3 Xg w' w.heap.size v (ZS (Kg q) p)/\Below w.heap.size w w':=by
 obtain ⟨W,hW⟩:∃ W,W=((w.alloc (.cells #[.slice a.A p.length a.c] 26)).alloc (.cells #[.slice b.A q.length b.c] 26)).alloc (.cells #[.slice none 0 0] 26):=⟨_,rfl⟩;have HA:Yi W w.heap.size [.slice a.A p.length a.c]:=by rw [hW];exact ZC
 have HB:Yi W (w.heap.size+1) [.slice b.A q.length b.c]:=by rw [hW];exact ZC
 have HR:Yi W (w.heap.size+1+1) [.slice none 0 0]:=by rw [hW];exact ZC
 have b0:Below w.heap.size w W:=by rw [hW];exact XF
 have zW:w.heap.size+1+1<W.heap.size:=HR.1;have k1:=iMovE_c p q a b (w.heap.size+1) W hp hq hne (hsp.below b0) HB (hsl.below b0);have hW':=Lib.hid hW;clear hW hsp hsl hp hq hne;generalize ZH (Kg q) p=ok at *;generalize ZS (Kg q) p=R at *;obtain ⟨cHA_0,fHA_0⟩:=HA.2 0 _ rfl;have lA:=HA.1;have hmf:∀ (fn:Fn) (first cap:Array Value) (w:World),(Instr.makeFunc fn first cap).run Tryz.prog w=.ok (.func fn first cap) w:=λ _ _ _ _=>rfl;go_enter Tryz.func135,Tryz.ntmps135
 go_upto_region 1 with fail
 rw [<- hW'.out];clear hW';go_wp2_with (fail)
 refine k1.mono ?_;rintro e w1 ⟨v,rfl,N1,hb1⟩;have R1:=HR.below hb1;have b1:=Xh b0 hb1;obtain ⟨Av,cv,rfl,o3⟩:=N1;have N3:XH 174 3 Xg w1 W.heap.size (.slice Av R.length cv) R:=⟨Av,cv,rfl,o3⟩;clear o3 HR HA HB b0 hb1 k1 cHA_0 fHA_0 lA;obtain ⟨cR1_0,fR1_0⟩:=R1.2 0 _ rfl;have lR:=R1.1;go_wp2
 refine bodyPost_ret (v:=.tuple #[.agg #[.slice Av R.length cv],.bool ok]) (by simp [results,Tryz.results135,go_sem, *]) rfl ⟨.slice Av R.length cv,rfl, ?_,Zj b1 (by simp only;omega) _⟩;exact (N3.lowC (q:=⟨w.heap.size+1+1,0,none⟩) (by simp only;omega) [.slice Av R.length cv]).mono (by omega)
def Ze (r:Xv) (h:Half):Int:=h.a*r.bx+h.b*r.by_
def Jk (r:Xv) (s:XJ):Int:=r.map.getD 0 0*s.x+r.map.getD 1 0*s.y
def Jr (r:Xv) (s:XJ):Int:=r.map.getD 2 0*s.x+r.map.getD 3 0*s.y
def Ym (r:Xv) (s:XJ):Int:=r.div*s.d
def topA (r:Xv) (s:XJ) (h:Half):Int:=h.c*Ym r s-h.a*Jk r s-h.b*Jr r s
def Ky (r:Xv) (s:XJ) (w:YY) (h:Half):Option YY :=
 if 0<Ze r h then some ⟨w.low,YL w.high (X6 (topA r s h) (Ym r s*Ze r h))⟩
 else if Ze r h<0 then some ⟨YM w.low (X6 (-(topA r s h)) (-(Ym r s)*Ze r h)),w.high⟩
 else if topA r s h<0 then none else some w
def admL (r:Xv) (s:XJ) (l:List Half):Option YY:=l.foldl (λ o h=>o.bind λ w=>Ky r s w h) (some ⟨⟨r.low,1⟩,⟨r.high,1⟩⟩)
def Yz (r:Xv) (e:List Half) (s:XJ):Option YY :=
 if 100000<s.d then none else (admL r s e).bind λ w=>if XO w=true then some w else none
theorem admL_take {r:Xv} {s:XJ} {l:List Half} {k:Nat} (h:k<l.length):admL r s (l.take (k+1))=(admL r s (l.take k)).bind λ w=>Ky r s w l[k]:=by
 unfold admL;rw [ZE l k h,List.foldl_append];rfl
theorem admL_none {r:Xv} {s:XJ}:∀ (l m:List Half),admL r s l=none->admL r s (l++m)=none:=by
 intro l m h;unfold admL at h ⊢;rw [List.foldl_append,h];clear h;induction m with
 | nil=>rfl
 | cons x t ih=>exact ih
theorem admL_no {r:Xv} {s:XJ} {l:List Half} {k:Nat} (_:k<l.length) (h1:admL r s (l.take (k+1))=none):admL r s l=none:=by
 have:=admL_none (l.take (k+1)) (l.drop (k+1)) h1;rwa [List.take_append_drop] at this
structure RoomB (r:Xv):Prop where
 len:r.map.length=4
 m:∀ i,-20<=r.map.getD i 0/\r.map.getD i 0<=20
 div:1<=r.div/\r.div<=20
 bx : -100<=r.bx/\r.bx<=100
 by_ : -100<=r.by_/\r.by_<=100
 low : -1000<=r.low/\r.low<=1000
 high:r.low<=r.high/\r.high<=1000
theorem J9 {r:Xv} (h:XK r=true):RoomB r:=by
 simp only [XK,turnOk,Bool.and_eq_true] at h;obtain ⟨⟨⟨⟨⟨⟨⟨⟨h1,_⟩,h2⟩,h3⟩,h4,h5⟩,_⟩,_⟩,_⟩,_⟩:=h;have hq:=h1;simp only [mapOk,Bool.and_eq_true] at hq;obtain ⟨a,b,c,d,e,ha,hb,hc,hd⟩:=map_four h1;refine ⟨by rw [e];rfl,λ i=>?_,YP.1 hq.1.2,YP.1 h2,YP.1 h3,YP.1 h4,YP.1 h5⟩;rw [e];match i with
 | 0=>simpa using ha
 | 1=>simpa using hb
 | 2=>simpa using hc
 | 3=>simpa using hd
 | _+4=>simp
structure MapB (r:Xv) (s:XJ):Prop where
 x0 : -2000000000<=r.map.getD 0 0*s.x/\r.map.getD 0 0*s.x<=2000000000
 x1 : -2000000000<=r.map.getD 1 0*s.y/\r.map.getD 1 0*s.y<=2000000000
 y0 : -2000000000<=r.map.getD 2 0*s.x/\r.map.getD 2 0*s.x<=2000000000
 y1 : -2000000000<=r.map.getD 3 0*s.y/\r.map.getD 3 0*s.y<=2000000000
 d:1<=Ym r s/\Ym r s<=2000000
theorem mapB {r:Xv} {s:XJ} (B:RoomB r) (hs:Xt s=true) (hd:s.d<=100000):MapB r s:=by
 obtain ⟨h1,h2,h3,_⟩:=Z3.1 hs;have p:=λ i (x:Int) (hx : -100000000<=x/\x<=100000000)=>mulB (a:=r.map.getD i 0) (b:=x) (A:=20) (B:=100000000) ⟨by have:=B.m i;omega,by have:=B.m i;omega⟩ ⟨by omega,by omega⟩;have q:=mulB (a:=r.div) (b:=s.d) (A:=20) (B:=100000) ⟨by have:=B.div;omega,by have:=B.div;omega⟩ ⟨by omega,by omega⟩;have q0:=Int.mul_pos (show 0<r.div by have:=B.div;omega) (show 0<s.d by omega);have a:=p 0 s.x ⟨by omega,by omega⟩;have b:=p 1 s.y ⟨by omega,by omega⟩;have c:=p 2 s.x ⟨by omega,by omega⟩;have d:=p 3 s.y ⟨by omega,by omega⟩;exact ⟨⟨by omega,by omega⟩,⟨by omega,by omega⟩,⟨by omega,by omega⟩,⟨by omega,by omega⟩,⟨by unfold Ym;omega,by unfold Ym;omega⟩⟩
structure AdmP (r:Xv) (s:XJ) (h:Half):Prop where
 a : -5000000<=h.a*r.bx/\h.a*r.bx<=5000000
 b : -5000000<=h.b*r.by_/\h.b*r.by_<=5000000
 c : -200000000000000<=h.c*Ym r s/\h.c*Ym r s<=200000000000000
 x : -200000000000000<=h.a*Jk r s/\h.a*Jk r s<=200000000000000
 y : -200000000000000<=h.b*Jr r s/\h.b*Jr r s<=200000000000000
 n : -20000000000000<=Ym r s*Ze r h/\Ym r s*Ze r h<=20000000000000
theorem admP {r:Xv} {s:XJ} {h:Half} (B:RoomB r) (M:MapB r s) (hh:Xy h=true):AdmP r s h:=by
 obtain ⟨a1,a2,a3,_⟩:=Zv.1 hh;have hd:=M.d;have h0:=M.x0;have h1:=M.x1;have h2:=M.y0;have h3:=M.y1;have p:=mulB (a:=h.a) (b:=r.bx) (A:=50000) (B:=100) ⟨by omega,by omega⟩ ⟨by have:=B.bx;omega,by have:=B.bx;omega⟩;have q:=mulB (a:=h.b) (b:=r.by_) (A:=50000) (B:=100) ⟨by omega,by omega⟩ ⟨by have:=B.by_;omega,by have:=B.by_;omega⟩;have c:=mulB (a:=h.c) (b:=Ym r s) (A:=100000000) (B:=2000000) ⟨by omega,by omega⟩ ⟨by omega,by omega⟩;have x:=mulB (a:=h.a) (b:=Jk r s) (A:=50000) (B:=4000000000) ⟨by omega,by omega⟩ ⟨by unfold Jk;omega,by unfold Jk;omega⟩;have y:=mulB (a:=h.b) (b:=Jr r s) (A:=50000) (B:=4000000000) ⟨by omega,by omega⟩ ⟨by unfold Jr;omega,by unfold Jr;omega⟩;have n:=mulB (a:=Ym r s) (b:=Ze r h) (A:=2000000) (B:=10000000) ⟨by omega,by omega⟩ ⟨by unfold Ze;omega,by unfold Ze;omega⟩;exact ⟨⟨by omega,by omega⟩,⟨by omega,by omega⟩,⟨by omega,by omega⟩,⟨by omega,by omega⟩,⟨by omega,by omega⟩,⟨by omega,by omega⟩⟩
theorem adm_high {r:Xv} {s:XJ} {h:Half} (P:AdmP r s h) (M:MapB r s) (hn:0<Ze r h):(-1000000000000000000<=topA r s h/\topA r s h<=1000000000000000000)/\(1<=Ym r s*Ze r h/\Ym r s*Ze r h<=1000000000000000):=by
 have:=Int.mul_pos (show 0<Ym r s by have:=M.d;omega) hn;have hc:=P.c;have hx:=P.x;have hy:=P.y;have hp:=P.n;unfold topA;exact ⟨⟨by omega,by omega⟩,⟨by omega,by omega⟩⟩
theorem adm_low {r:Xv} {s:XJ} {h:Half} (P:AdmP r s h) (M:MapB r s) (hn:Ze r h<0):(-1000000000000000000<=-(topA r s h)/\-(topA r s h)<=1000000000000000000)/\(1<=-(Ym r s)*Ze r h/\-(Ym r s)*Ze r h<=1000000000000000):=by
 have:=Int.mul_pos (show 0<Ym r s by have:=M.d;omega) (show 0 < -(Ze r h) by omega);rw [Int.mul_neg] at this;have hc:=P.c;have hx:=P.x;have hy:=P.y;have hp:=P.n;rw [Int.neg_mul];unfold topA;exact ⟨⟨by omega,by omega⟩,⟨by omega,by omega⟩⟩
theorem one_ok {n:Int} (h : -1000<=n/\n<=1000):Xm ⟨n,1⟩=true:=by
 refine KI.2 ⟨⟨by simp,by simp⟩,⟨by simp only;omega,by simp only;omega⟩, ?_⟩;simp
theorem admL_ok {r:Xv} {s:XJ} {l:List Half} (B:RoomB r) (M:MapB r s) (hl:∀ h∈l,Xy h=true):∀ k,k<=l.length->∀ w,admL r s (l.take k)=some w->Xm w.low=true/\Xm w.high=true
 | 0,_,w,h=>by
  have:=B.low;have:=B.high;cases h;exact ⟨one_ok ⟨by omega,by omega⟩,one_ok ⟨by omega,by omega⟩⟩
 | k+1,hk,w,h=>by
  rw [admL_take (by omega)] at h;cases e:admL r s (l.take k) with
  | none=>rw [e] at h;cases h
  | some v =>
   rw [e] at h;obtain ⟨h1,h2⟩:=admL_ok B M hl k (by omega) v e;simp only [Option.bind_some] at h;have P:=admP B M (hl _ (List.getElem_mem (show k<l.length by omega)));unfold Ky at h;split at h
   ·rename_i hn
    cases h;obtain ⟨t,d⟩:=adm_high P M hn;exact ⟨h1,ratioMin_ok h2 (ZZ t d).1⟩
   split at h
   ·rename_i hn
    cases h;obtain ⟨t,d⟩:=adm_low P M hn;exact ⟨ratioMax_ok h1 (ZZ t d).1,h2⟩
   split at h
   ·cases h
   ·cases h;exact ⟨h1,h2⟩
theorem ratio_In {r:Ya} (h:Xm r=true):r.In:=by
 obtain ⟨⟨a,b⟩,⟨c,d⟩,_⟩:=KI.1 h;exact ⟨⟨by omega,by omega⟩,⟨by omega,by omega⟩⟩
def rpOk (r:Xv) (p:List Half):Bool:=XK r&&Xe p&&ZH (Kg r.noise) p
def JQ (r:Xv) (p:List Half):List Half:=if XK r=true/\Xe p=true then ZS (Kg r.noise) p else []
def Yv (r:Xv) (p:List Half):Bool:=!decide (p.length=0)&&rpOk r p && !decide ((JQ r p).length=0)
theorem rpR_ok (r:Xv) (p:List Half):Xe (JQ r p)=true:=by
 unfold JQ;split
 ·exact movR_ok (λ h _ g e=>eroH_ok e)
 ·rfl
def XG (r:Xv) (p:List Half) (s:XJ):Option YY:=if Yv r p=true/\Xt s=true then Yz r (JQ r p) s else none
def JJ:Option YY->Value
 | some w=>.tuple #[Zk w,.bool true]
 | none=>.tuple #[Zk Xp,.bool false]
theorem room_noise {r:Xv} (h:XK r=true):Xe r.noise=true/\r.noise≠[]:=by
 simp only [XK,Bool.and_eq_true] at h;obtain ⟨⟨⟨⟨_,h1⟩,_⟩,h2⟩,_⟩:=h;refine ⟨h2,λ e=>?_⟩;rw [e] at h1;simp at h1
theorem rp_no {r:Xv} {p:List Half} (h:XK r=false∨Xe p=false):rpOk r p=false/\JQ r p=[]:=by
 unfold rpOk JQ;rcases h with h|h
 ·rw [h,if_neg (by simp)];exact ⟨rfl,rfl⟩
 ·rw [h,if_neg (by simp),Bool.and_false];exact ⟨rfl,rfl⟩
theorem rp_yes {r:Xv} {p:List Half} (h:XK r=true) (h2:Xe p=true):rpOk r p=ZH (Kg r.noise) p/\JQ r p=ZS (Kg r.noise) p:=by
 unfold rpOk JQ;rw [h,h2,if_pos ⟨rfl,rfl⟩];exact ⟨rfl,rfl⟩
theorem iRob_c (r:Xv) (p:List Half) (a:YO) (b:Ks) (w:World) (hn:Zs r<=1048576) (hin:KH r) (hs:Zw w r a) (hnl:Kz a) (hlp:p.length<=1048576) (hpi:∀ h∈p,h.In) (hsp:Sl 3 Xg w b.A p) (hnb:b.A=none->b.c=0) :
 Calls Tryz.prog 191 #[XQ r a,Zt p b] w λ e w'=>∃ v,e=.returned (.tuple #[.agg #[v],.bool (rpOk r p)])/\XH 174 3 Xg w' w.heap.size v (JQ r p)/\Below w.heap.size w w':=by
 have c1:=λ W h=>iRoomOk_c r a W hn hin h hnl;have c2:=λ W h=>Z9 p b W hlp hpi h hnb;obtain ⟨W,hW⟩:∃ W,W=((w.alloc (.cells #[.slice a.map.A (List.length r.map) a.map.c,.int .i64 r.div,.int .i64 r.bx,.int .i64 r.by_,.int .i64 r.low,.int .i64 r.high,.slice a.noise.A (List.length r.noise) a.noise.c,.slice a.limits.A (List.length r.limits) a.limits.c] 28)).alloc (.cells #[.slice b.A p.length b.c] 26)).alloc (.cells #[.slice none 0 0] 26):=⟨_,rfl⟩;have HA:Yi W w.heap.size [.slice a.map.A (List.length r.map) a.map.c,.int .i64 r.div,.int .i64 r.bx,.int .i64 r.by_,.int .i64 r.low,.int .i64 r.high,.slice a.noise.A (List.length r.noise) a.noise.c,.slice a.limits.A (List.length r.limits) a.limits.c]:=by
  rw [hW];exact ZC
 have HB:Yi W (w.heap.size+1) [.slice b.A p.length b.c]:=by
  rw [hW];exact ZC
 have HR:Yi W (w.heap.size+1+1) [.slice none 0 0]:=by
  rw [hW];exact ZC
 have b0:Below w.heap.size w W:=by
  rw [hW];exact XF
 have zW:w.heap.size+1+1<W.heap.size:=HR.1;have hs0:=hs.below b0;have sp:=hsp.below b0;have hW':=Lib.hid hW;clear hW hs hsp;obtain ⟨cHA_0,fHA_0⟩:=HA.2 0 _ rfl;obtain ⟨cHA_1,fHA_1⟩:=HA.2 1 _ rfl;obtain ⟨cHA_2,fHA_2⟩:=HA.2 2 _ rfl;obtain ⟨cHA_3,fHA_3⟩:=HA.2 3 _ rfl;obtain ⟨cHA_4,fHA_4⟩:=HA.2 4 _ rfl;obtain ⟨cHA_5,fHA_5⟩:=HA.2 5 _ rfl;obtain ⟨cHA_6,fHA_6⟩:=HA.2 6 _ rfl;obtain ⟨cHA_7,fHA_7⟩:=HA.2 7 _ rfl;obtain ⟨cHB_0,fHB_0⟩:=HB.2 0 _ rfl;have lA:=HA.1;have lB:=HB.1;cases e1:XK r
 ·have hF:=Lib.hid (rp_no (r:=r) (p:=p) (.inl e1));rw [e1] at c1;go_enter Tryz.func191,Tryz.ntmps191
  go_upto_region 1 with fail
  rw [<- hW'.out];clear hW';go_wp2_with (fail)
  refine (c1 _ hs0).mono ?_;rintro e w1 ⟨rfl,hb1⟩;have R9:=HR.below hb1;have b9:=Xh b0 hb1;obtain ⟨cR9_0,fR9_0⟩:=R9.2 0 _ rfl;have lR:=R9.1;go_wp2
  refine bodyPost_ret (v:=.tuple #[.agg #[.slice none 0 0],.bool false]) (by simp [results,Tryz.results191,go_sem,cR9_0]) rfl ⟨.slice none 0 0,by rw [hF.out.1], ?_,Zj b9 (by simp only;omega) _⟩;rw [hF.out.2];exact ⟨none,0,rfl,World.ownsRow_nil _ _ _ _⟩
 rw [e1] at c1;cases e2:Xe p
 ·have hF:=Lib.hid (rp_no (r:=r) (p:=p) (.inr e2));rw [e2] at c2;go_enter Tryz.func191,Tryz.ntmps191
  go_upto_region 1 with fail
  rw [<- hW'.out];clear hW';go_wp2_with (fail)
  refine (c1 _ hs0).mono ?_;rintro e w1 ⟨rfl,hb1⟩;have l2:=blt hb1 lB;have r1:=XI hb1;go_wp2_with (fail)
  refine (c2 _ (sp.below hb1)).mono ?_;rintro e w2 ⟨rfl,hb2⟩;have R9:=(HR.below hb1).below hb2;have b9:=Xh (Xh b0 hb1) hb2;obtain ⟨cR9_0,fR9_0⟩:=R9.2 0 _ rfl;have lR:=R9.1;go_wp2
  refine bodyPost_ret (v:=.tuple #[.agg #[.slice none 0 0],.bool false]) (by simp [results,Tryz.results191,go_sem,cR9_0]) rfl ⟨.slice none 0 0,by rw [hF.out.1], ?_,Zj b9 (by simp only;omega) _⟩;rw [hF.out.2];exact ⟨none,0,rfl,World.ownsRow_nil _ _ _ _⟩
 rw [e2] at c2;have hF:=Lib.hid (rp_yes e1 e2);have hq:=room_noise e1;have c4:=λ W h1 h2=>iErode_c p r.noise b a.noise W e2 hq.1 hq.2 h1 h2;generalize hok:ZH (Kg r.noise) p=ok at *;generalize hR:ZS (Kg r.noise) p=R at *;clear hok hR hq;go_enter Tryz.func191,Tryz.ntmps191
 go_upto_region 1 with fail
 rw [<- hW'.out];clear hW';go_wp2_with (fail)
 refine (c1 _ hs0).mono ?_;rintro e w1 ⟨rfl,hb1⟩;have l1:=blt hb1 lA;have l2:=blt hb1 lB;have r1:=XI hb1;go_wp2_with (fail)
 refine (c2 _ (sp.below hb1)).mono ?_;rintro e w2 ⟨rfl,hb2⟩;have l3:=blt hb2 l1;have l4:=blt hb2 l2;have r2:=XI hb2;have z4:=Nat.lt_of_lt_of_le zW (Nat.le_trans hb1.size hb2.size);go_wp2_with (fail)
 refine (c4 _ ((sp.below hb1).below hb2) ((hs0.below hb1).below hb2).noise.halves).mono ?_;rintro e w4 ⟨v4,rfl,N4,hb4⟩;have R9:=((HR.below hb1).below hb2).below hb4;have b9:=Xh (Xh (Xh b0 hb1) hb2) hb4;obtain ⟨cR9_0,fR9_0⟩:=R9.2 0 _ rfl;have lR:=R9.1;obtain ⟨Av,cv,rfl,o3⟩:=N4;have N5:XH 174 3 Xg w4 w2.heap.size (.slice Av R.length cv) R:=⟨Av,cv,rfl,o3⟩;go_wp2
 refine bodyPost_ret (v:=.tuple #[.agg #[.slice Av R.length cv],.bool ok]) (by simp [results,Tryz.results191,go_sem, *]) rfl ⟨.slice Av R.length cv,by rw [hF.out.1], ?_,Zj b9 (by simp only;omega) _⟩;rw [hF.out.2];exact (N5.lowC (q:=⟨w.heap.size+1+1,0,none⟩) (by simp only;omega) [.slice Av R.length cv]).mono (by omega)
end Go.Proofs.YtabfdkpdppemaaaGreat
