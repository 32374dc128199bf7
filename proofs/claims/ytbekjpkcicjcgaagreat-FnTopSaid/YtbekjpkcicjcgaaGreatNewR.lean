/-
 A record that changes the fitted region: of the program and of the reference.
 Conditions: the slices hold at most 2^20 elements.
-/
import Derived.Test.YtbekjpkcicjcgaaGreatGrXf
import Derived.Lib.SliceRun
import Derived.Deep.RegionHeld3
import Derived.Deep.DeepMust
import Derived.Deep.DeepCutAuto
set_option maxHeartbeats 8000000
set_option maxRecDepth 100000
namespace Go.Proofs.YtbekjpkcicjcgaaGreat
open Go.RowKit
theorem Yd.grown {w w':World} {g:Nat} {vs:List Value} {row:Option Nat} (h:Yd w g vs) (hG:w.grownBy w' row) (hne:∀ k,row=some k->g≠k):Yd w' g vs:=by
 have hb:=hG.block g h.1 (λ e=>hne g e.symm rfl);refine ⟨Nat.lt_of_lt_of_le h.1 hG.size,λ j u hu=>?_⟩;have h2:=h.2 j u hu;exact ⟨(World.cell?_of_block (w:=w) hb).trans h2.1,(World.frozen?_of_block (w:=w) hb).trans h2.2⟩
theorem XG.own {α:Type} {T sz:Nat} {enc:α->List Value} {base:Nat} {w:World} {v:Value} {xs:List α} (h:XG T sz enc w base v xs):∀ k,v.ownBlock=some k->base<=k/\k<w.heap.size:=by
 obtain ⟨A,cap,rfl,hr⟩:=h;exact λ k e=>hr.lt k e
theorem run_appS {α:Type} {T sz:Nat} {enc:α->List Value} (X5:∀ x,(enc x).length=sz) {P:Program} (w:World) (t ty:TypeId)
 (base:Nat) (i:TypeInfo) (z:Value) (bytes:Nat) (ht:P.underlying t=some (.slice T)) (hi:P.info? T=some i) (hz:i.zero=some z)
 (hsize:i.size=sz) (hby:i.bytes=bytes) (hzs:z.cells.size=sz) (hpos:0<sz)
 {v:Value} {xs ys:List α} (hown:XG T sz enc w base v xs)
 (B:Option Addr) (c:Nat) (hys:Sl sz enc w B ys) (hnil:B=none->c=0) (h1:∀ y,∀ u∈enc y,u.oneCell'=true)
 {W0:World} (hb:Below base W0 w) (hbase:base<=w.heap.size) (hn:xs.length+ys.length<=1073741824) (hbytes:bytes<=128) :
 ∃ v' w',(Builtin.append_ #[t,t] ty #[v,.slice B ys.length c]).run P w=.ok v' w'/\XG T sz enc w' base v' (xs++ys)/\Below base W0 w'/\w.grownBy w' v.ownBlock:=by
 obtain ⟨A,cap,rfl,hr⟩:=hown;have hb2:(xs.length+ys.length)*bytes<=1073741824*128:=Nat.mul_le_mul hn hbytes;have hl:(xs++ys).length=xs.length+ys.length:=List.length_append;have hf:(xs++ys).flatMap enc=xs.flatMap enc++ys.flatMap enc:=List.flatMap_append;have go:∀ ad:Addr,B=some ad->(∀ j u,(ys.flatMap enc)[j]? = some u->w.cell? (ad.add j)=some u)->∃ v' w',(Builtin.append_ #[t,t] ty #[.slice A xs.length cap,.slice B ys.length c]).run P w=.ok v' w'/\XG T sz enc w' base v' (xs++ys)/\Below base W0 w'/\w.grownBy w' (Value.slice A xs.length cap).ownBlock:=by
  intro ad hB hc;subst hB;obtain ⟨v',w',hrun,hown',hg,_⟩:=run_append_own (P:=P) w base t ty T i z sz bytes ht hi hz hsize hby hzs hpos _ _ _ hr ad ys.length c (ys.flatMap enc) (Y5 X5 ys) hc (λ u hu=>by
   obtain ⟨y,_,hy⟩:=List.mem_flatMap.1 hu;exact h1 y u hy) (by unfold maxLen;omega) Oz hbase
  have hbl:=hb.grown hg hbase (λ k e=>(hr.lt k e).1);rw [<- hf] at hown';exact ⟨_,_,hrun,XG.mk' hl.symm hown',hbl,hg⟩
 by_cases h0:ys.length=0
 ·have hy:ys=[]:=List.eq_nil_of_length_eq_zero h0;subst hy;cases B with
  | none =>
   have hc0:=hnil rfl;subst hc0;have hrun:=run_append_owned_none (P:=P) (w:=w) base t ty T i sz ht hi _ _ _ hr;exact ⟨_,_,hrun,XG.mk' (n:=xs.length) Sz (by simpa using hr),hb,World.grownBy.refl _ _⟩
  | some ad=>exact go ad rfl (λ j u hu=>by simp at hu)
 ·obtain ⟨b,off,hB,_,hc⟩:=hys Oz;refine go ⟨b,off,none⟩ hB (λ j u hu=>?_);rw [Addr.add_lit];have hjl:j<ys.length*sz:=by
   rw [<- Y5 X5 ys];rcases Nat.lt_or_ge j (ys.flatMap enc).length with h3|h3
   ·exact h3
   ·rw [List.getElem?_eq_none h3] at hu;cases hu
  have hq:j / sz<ys.length:=Nat.div_lt_of_lt_mul (by rw [Nat.mul_comm];exact hjl);have hm:j % sz<sz:=Nat.mod_lt _ hpos;have hjj:j / sz*sz+j % sz=j:=by rw [Nat.mul_comm];exact Nat.div_add_mod j sz
  have hu2:(enc ys[j / sz])[j % sz]? = some ((enc ys[j / sz])[j % sz]'(by rw [X5];exact hm)):=List.getElem?_eq_getElem _;have h4:=Jq X5 ys _ hq _ _ hu2;rw [hjj,hu] at h4;have h5:=hc _ hq _ _ hu2;rw [Nat.add_assoc,hjj,<- h4] at h5;exact h5
theorem Xq.belowB {B g T:Nat} {w w':World} {vs:List Value} (h:Xq w g T vs) (hb:Below B w w') (hg:g<B):Xq w' g T vs:=(hb.block g hg).trans h
theorem step_appO {α:Type} {T sz:Nat} {enc:α->List Value} (X5:∀ x,(enc x).length=sz) {P:Program} {o:Oper} {a:Act} {w:World} {K:Act->World->Prop} {Q:Exit->Act->World->Prop} (s x:Operand) (t:TypeId)
 (ho:o.op=.call { callee:=.builtin .append,args:=#[s,x],argTypes:=#[t,t] })
 (base:Nat) (i:TypeInfo) (z:Value) (bytes:Nat) (ht:P.underlying t=some (.slice T)) (hi:P.info? T=some i) (hz:i.zero=some z)
 (hsize:i.size=sz) (hby:i.bytes=bytes) (hzs:z.cells.size=sz) (hpos:0<sz)
 {v:Value} {xs ys:List α} (hs:a.eval s=v) (hown:XG T sz enc w base v xs)
 (B:Option Addr) (c:Nat) (hx:a.eval x=.slice B ys.length c) (hys:Sl sz enc w B ys) (hnil:B=none->c=0) (h1:∀ y,∀ u∈enc y,u.oneCell'=true)
 (hbase:base<=w.heap.size) (hn:xs.length+ys.length<=1073741824) (hbytes:bytes<=128)
 (hK:∀ v' w',XG T sz enc w' base v' (xs++ys)->Below base w w'->w.grownBy w' v.ownBlock->K (a.put o.dst v') w'):Oper.wp P o a w K Q:=by
 obtain ⟨v',w',hrun,hN,hB,hG⟩:=run_appS X5 w t o.type base i z bytes ht hi hz hsize hby hzs hpos hown B c hys hnil h1 (Below.refl base w) hbase hn hbytes;unfold Oper.wp;simp [execOp,ho,resolve,invoke,builtin,hs,hx,hrun,Result.andThen];exact hK v' w' hN hB hG
theorem step_app0 {α:Type} {T sz:Nat} {enc:α->List Value} (X5:∀ x,(enc x).length=sz) {P:Program} {o:Oper} {a:Act} {w:World} {K:Act->World->Prop} {Q:Exit->Act->World->Prop} (s x:Operand) (t:TypeId)
 (ho:o.op=.call { callee:=.builtin .append,args:=#[s,x],argTypes:=#[t,t] })
 (base:Nat) (i:TypeInfo) (z:Value) (bytes:Nat) (ht:P.underlying t=some (.slice T)) (hi:P.info? T=some i) (hz:i.zero=some z)
 (hsize:i.size=sz) (hby:i.bytes=bytes) (hzs:z.cells.size=sz) (hpos:0<sz)
 {p:Addr} {ys:List α} (hs:a.eval s=.slice (some p) 0 0) (hown:XG T sz enc w base (.slice (some p) 0 0) ([]:List α))
 (B:Option Addr) (c:Nat) (hx:a.eval x=.slice B ys.length c) (hys:Sl sz enc w B ys) (hnil:B=none->c=0)
 (hbase:base<=w.heap.size) (hn:ys.length<=1073741824) (hbytes:bytes<=128)
 (hK:∀ v' w',XG T sz enc w' base v' ys->Below w.heap.size w w'->K (a.put o.dst v') w'):Oper.wp P o a w K Q:=by
 have run:∃ v' w',(Builtin.append_ #[t,t] o.type #[.slice (some p) 0 0,.slice B ys.length c]).run P w=.ok v' w'/\XG T sz enc w' base v' ys/\Below w.heap.size w w':=by
  by_cases h0:ys.length=0
  ·have hy:ys=[]:=List.eq_nil_of_length_eq_zero h0;subst hy;refine ⟨_,_, ?_,hown,Below.refl _ _⟩;cases B with
   | none=>have:=hnil rfl;subst this;simp [Builtin.append_,run_underlying ht,sizeOf,typeInfo,hi,Builtin.lenOf,Builtin.firstCells,storeCells]
   | some ad=>simp [Builtin.append_,run_underlying ht,sizeOf,typeInfo,hi,Builtin.lenOf,Builtin.firstCells,storeCells,loadCells,loadCellsFrom]
  ·obtain ⟨b,off,hB,_,hc⟩:=hys Oz;subst hB;have hb2:ys.length*bytes<=1073741824*128:=Nat.mul_le_mul hn hbytes;obtain ⟨v',w',hrun,hown',hg⟩:=run_append_arg_grows (P:=P) (w:=w) t o.type T i z sz bytes ht hi hz hsize hby hzs hpos p 0 0 [] Sz (λ j u hu=>by simp at hu) ⟨b,off,none⟩ ys.length c (ys.flatMap enc) (Y5 X5 ys) (λ j u hu=>by
    rw [Addr.add_lit];have hjl:j<ys.length*sz:=by
     rw [<- Y5 X5 ys];rcases Nat.lt_or_ge j (ys.flatMap enc).length with h3|h3
     ·exact h3
     ·rw [List.getElem?_eq_none h3] at hu;cases hu
    have hq:j / sz<ys.length:=Nat.div_lt_of_lt_mul (by rw [Nat.mul_comm];exact hjl);have hm:j % sz<sz:=Nat.mod_lt _ hpos;have hjj:j / sz*sz+j % sz=j:=by rw [Nat.mul_comm];exact Nat.div_add_mod j sz
    have hu2:(enc ys[j / sz])[j % sz]? = some ((enc ys[j / sz])[j % sz]'(by rw [X5];exact hm)):=List.getElem?_eq_getElem _;have h4:=Jq X5 ys _ hq _ _ hu2;rw [hjj,hu] at h4;have h5:=hc _ hq _ _ hu2;rw [Nat.add_assoc,hjj,<- h4] at h5;exact h5) Oz (by unfold maxLen;omega) (by rw [Nat.zero_add];omega)
   refine ⟨v',w',hrun, ?_,bR.grown hg Xy (λ k e=>by cases e)⟩;rw [Nat.zero_add,List.nil_append] at hown';exact (XG.mk' rfl hown').mono hbase
 obtain ⟨v',w',hrun,hN,hB⟩:=run;unfold Oper.wp;simp [execOp,ho,resolve,invoke,builtin,hs,hx,hrun,Result.andThen];exact hK v' w' hN hB
theorem iEroC_c (q:List Half) (b:Kw) (h:Half) (gw:Nat) (w:World) (hh:Xs h=true) (hq:Xc q=true) (hne:q≠[]) (hg:Yd w gw [.slice b.A q.length b.c]) (hsl:Sl 3 Xe w b.A q) :
 Calls Tryz.prog 140 #[YI h,.pointer (some ⟨gw,0,none⟩)] w λ e w'=>e=.returned (Kr (Z3 q h))/\Below w.heap.size w w':=by
 obtain ⟨⟨e1,e2⟩,⟨e3,e4⟩,⟨e5,e6⟩,⟨e7,e8⟩,⟨e9,e10⟩⟩:=eroB hh hq hne;obtain ⟨a1,a2,a3,_⟩:=Zk.1 hh;have k1:=λ W h1=>iSupport_c q b h.a h.b W hq hne ⟨Oz,Oz⟩ ⟨Oz,Oz⟩ h1;have hdef:=Lib.hid (show Z3 q h=Zd (h.a*(ZS q h.a h.b).d) (h.b*(ZS q h.a h.b).d) (h.c*(ZS q h.a h.b).d-(ZS q h.a h.b).n) from rfl);generalize ZS q h.a h.b=r at *;have k2:=λ W=>iHalfOf_c (h.a*r.d) (h.b*r.d) (h.c*r.d-r.n) W ⟨Oz,Oz⟩ ⟨Oz,Oz⟩ ⟨Oz,Oz⟩;generalize Zd (h.a*r.d) (h.b*r.d) (h.c*r.d-r.n)=o at *;clear hh hq hne;obtain ⟨W,hW⟩:∃ W,W=(w.alloc (.cells #[.int .i64 h.a,.int .i64 h.b,.int .i64 h.c] 136)).alloc (.cells #[.int .i64 0,.int .i64 0,.int .i64 0] 136):=⟨_,rfl⟩;have HA:Yd W w.heap.size [.int .i64 h.a,.int .i64 h.b,.int .i64 h.c]:=by rw [hW];exact ZK
 have HR:Yd W (w.heap.size+1) [.int .i64 0,.int .i64 0,.int .i64 0]:=by rw [hW];exact ZK
 have b0:Below w.heap.size w W:=by rw [hW];exact Xw
 have HG:=hg.below b0;have hs0:=hsl.below b0;have hW':=Lib.hid hW;clear hW hg hsl;obtain ⟨cHA_0,fHA_0⟩:=HA.2 0 _ rfl;obtain ⟨cHA_1,fHA_1⟩:=HA.2 1 _ rfl;obtain ⟨cHA_2,fHA_2⟩:=HA.2 2 _ rfl;obtain ⟨cHG_0,fHG_0⟩:=HG.2 0 _ rfl;have lA:=HA.1;have lG:=HG.1;go_enter Tryz.func140,Tryz.ntmps140
 go_upto_region 1 with fail
 rw [<- hW'.out];clear hW';go_wp2_with (fail)
 refine (k1 _ hs0).mono ?_;rintro e w1 ⟨rfl,hb1⟩;have A2:=(HA.below hb1).alloc (.cells #[.int .i64 r.n,.int .i64 r.d] 46);have R2:=(HR.below hb1).alloc (.cells #[.int .i64 r.n,.int .i64 r.d] 46);have Q2:=Yd.new w1 #[.int .i64 r.n,.int .i64 r.d] 46;have b2:=Xb (Xf b0 hb1) (.cells #[.int .i64 r.n,.int .i64 r.d] 46);clear HA HR HG hs0 b0 hb1 cHA_0 cHA_1 cHA_2 fHA_0 fHA_1 fHA_2 cHG_0 fHG_0 lA lG k1;go_upto_region 2 with fail
 generalize w1.alloc (.cells #[.int .i64 r.n,.int .i64 r.d] 46)=w2 at *;generalize w1.heap.size=gr at *;obtain ⟨cA2_0,fA2_0⟩:=A2.2 0 _ rfl;obtain ⟨cA2_1,fA2_1⟩:=A2.2 1 _ rfl;obtain ⟨cA2_2,fA2_2⟩:=A2.2 2 _ rfl;obtain ⟨cQ2_0,fQ2_0⟩:=Q2.2 0 _ rfl;obtain ⟨cQ2_1,fQ2_1⟩:=Q2.2 1 _ rfl;have lA:=A2.1;have lQ:=Q2.1;go_wp2_with (fail)
 refine (k2 _).mono ?_;rintro e w3 ⟨rfl,hb3⟩;have R3:=R2.below hb3;have b3:=Xf b2 hb3;clear R2 A2 Q2 b2 hb3 k2 cA2_0 cA2_1 cA2_2 fA2_0 fA2_1 fA2_2 cQ2_0 cQ2_1 fQ2_0 fQ2_1 lA lQ;obtain ⟨cR3_0,fR3_0⟩:=R3.2 0 _ rfl;obtain ⟨cR3_1,fR3_1⟩:=R3.2 1 _ rfl;obtain ⟨cR3_2,fR3_2⟩:=R3.2 2 _ rfl;have lR:=R3.1;cases o with
 | none =>
  simp only [Kr];go_wp2
  refine bodyPost_ret (v:=.tuple #[.agg #[.int .i64 0,.int .i64 0,.int .i64 0],.bool false]) (by simp [results,Tryz.results140,go_sem, *]) rfl ⟨by rw [hdef.out];rfl, ?_⟩;exact below_cells3 b3 Oz
 | some g =>
  simp only [Kr];go_wp2
  refine bodyPost_ret (v:=.tuple #[.agg #[.int .i64 g.a,.int .i64 g.b,.int .i64 g.c],.bool true]) (by simp [results,Tryz.results140,go_sem, *]) rfl ⟨by rw [hdef.out];rfl, ?_⟩;exact below_cells3 b3 Oz
theorem iMovE_c (p q:List Half) (a b:Kw) (gw:Nat) (w:World) (hp:Xc p=true) (hq:Xc q=true) (hne:q≠[]) (hsp:Sl 3 Xe w a.A p) (hg:Yd w gw [.slice b.A q.length b.c]) (hsl:Sl 3 Xe w b.A q) :
 Calls Tryz.prog 139 #[Zl p a,.func (.func 140) #[] #[.pointer (some ⟨gw,0,none⟩)]] w λ e w'=>∃ v,e=.returned (.tuple #[.agg #[v],.bool (Zw (Z3 q) p)])/\XG 136 3 Xe w' w.heap.size v (ZD (Z3 q) p)/\Below w.heap.size w w':=by
 obtain ⟨A,cap⟩:=a;simp only at hsp;obtain ⟨i0,hi0,hz0,hz1,hz2⟩:=info_parts (show (Tryz.prog.info? 136).map (λ i=>(i.zero,i.size,i.bytes))=some (some (.agg #[.int .i64 0,.int .i64 0,.int .i64 0]),3,24) by kernel_rfl);have hlen:=Y0 hp;have hok:=Lib.hid (Zp hp);have hgok:=Lib.hid (λ h (_:h∈p) g (e:Z3 q h=some g)=>eroH_ok e);obtain ⟨W,hW⟩:∃ W,W=(w.alloc (.cells #[.slice A p.length cap] 26)).alloc (.cells #[.slice none 0 0] 26):=⟨_,rfl⟩;have HA:Yd W w.heap.size [.slice A p.length cap]:=by rw [hW];exact ZK
 have HR:Yd W (w.heap.size+1) [.slice none 0 0]:=by rw [hW];exact ZK
 have b0:Below w.heap.size w W:=by rw [hW];exact Xw
 have zW:w.heap.size+1<W.heap.size:=HR.1;have HG:=hg.below b0;have hs0:=hsl.below b0;have sp:=hsp.below b0;have hW':=Lib.hid hW;have kv:=ZW p ⟨A,cap⟩ W;clear hW hg hsl hsp hp;obtain ⟨cHA_0,fHA_0⟩:=HA.2 0 _ rfl;have lA:=HA.1;go_enter Tryz.func139,Tryz.ntmps139
 go_upto_region 1 with fail
 rw [<- hW'.out];clear hW';by_cases h0:p.length=0
 ·have hv:=Lib.hid (mov_void (f:=Z3 q) h0);rw [decide_eq_true h0] at kv;clear h0;go_wp2_with (fail)
  refine kv.mono ?_;rintro e w1 ⟨rfl,hb1⟩;have R1:=HR.below hb1;have b1:=Xf b0 hb1;obtain ⟨cR1_0,fR1_0⟩:=R1.2 0 _ rfl;have lR:=R1.1;go_wp2
  refine bodyPost_ret (v:=.tuple #[.agg #[.slice none 0 0],.bool true]) (by simp [results,Tryz.results139,go_sem, *]) rfl ⟨.slice none 0 0,by rw [hv.out.1], ?_,YY b1 (by simp only;omega) _⟩;rw [hv.out.2];exact ⟨none,0,rfl,World.ownsRow_nil _ _ _ _⟩
 rw [decide_eq_false h0] at kv;go_wp2_with (fail)
 refine kv.mono ?_;rintro e w1 ⟨rfl,hb1⟩;have A1:=HA.below hb1;have R1:=HR.below hb1;have G1:=HG.below hb1;have S1:=hs0.below hb1;have P1:=sp.below hb1;have b1:=Xf b0 hb1;have z1:w.heap.size+1<w1.heap.size:=Nat.lt_of_lt_of_le zW hb1.size;clear HA HR HG hs0 sp b0 zW hb1 cHA_0 fHA_0 lA kv;obtain ⟨cA1_0,fA1_0⟩:=A1.2 0 _ rfl;have lA:=A1.1;go_wp2
 go_loopw [6,8,9,10,17] (λ out _ _ _ i wr=>∃ k:Nat,k<=p.length/\i=.int .i64 k/\Zj (Z3 q) (p.take k)=true/\XG 136 3 Xe wr w1.heap.size out (Ks (Z3 q) (p.take k))/\Below w1.heap.size w1 wr) (λ _ _ _ _ i _=>p.length-(intOf i).toNat)
 case atStart=>exact ⟨0,Nat.zero_le _,rfl,rfl,⟨none,0,rfl,World.ownsRow_nil _ _ _ _⟩,Below.refl _ _⟩
 case round =>
  obtain ⟨k,hk,rfl,hall,N,hbr⟩:=hrel;have br:=b1.trans (hbr.mono b1.size);by_cases hlt:k<p.length
  ·obtain ⟨bb,off,hA,hblt,hc⟩:=(P1.below hbr).at_ hlt;have g0:=hc 0 _ rfl;have g1:=hc 1 _ rfl;have g2:=hc 2 _ rfl;simp only [Nat.add_zero] at g0;have c1:=λ W h1 h2=>iEroC_c q b p[k] gw W (hok.out _ (List.getElem_mem hlt)) hq hne h1 h2;have hno:=Lib.hid (λ h=>@mov_none (Z3 q) p k hlt h);have hst:=Lib.hid (λ g h=>@movL_take (Z3 q) p k g hlt h);have hal:=Lib.hid (λ g h=>@movAll_take (Z3 q) p k g hlt hall h);clear hc hall;generalize Z3 q p[k]=o at *;generalize p[k]=h at *;have G2:=(G1.below hbr).alloc (.cells #[.int .i64 h.a,.int .i64 h.b,.int .i64 h.c] 136);have S2:=(S1.below hbr).alloc (.cells #[.int .i64 h.a,.int .i64 h.b,.int .i64 h.c] 136);have R2:=(R1.below hbr).alloc (.cells #[.int .i64 h.a,.int .i64 h.b,.int .i64 h.c] 136);have b2:=Xb hbr (.cells #[.int .i64 h.a,.int .i64 h.b,.int .i64 h.c] 136);have X2:=Yd.new wr #[.int .i64 h.a,.int .i64 h.b,.int .i64 h.c] 136;have N2:=N.alloc (.cells #[.int .i64 h.a,.int .i64 h.b,.int .i64 h.c] 136);subst hA;go_upto_region 7 with fail
   clear g0 g1 g2 hblt N hbr br;generalize wr.alloc (.cells #[.int .i64 h.a,.int .i64 h.b,.int .i64 h.c] 136)=w2 at *;generalize wr.heap.size=gx at *;obtain ⟨cX2_0,fX2_0⟩:=X2.2 0 _ rfl;obtain ⟨cX2_1,fX2_1⟩:=X2.2 1 _ rfl;obtain ⟨cX2_2,fX2_2⟩:=X2.2 2 _ rfl;have lX:=X2.1;go_wp2_with (fail)
   refine (c1 _ G2 S2).mono ?_;rintro e w3 ⟨rfl,hb3⟩;have R3:=R2.below hb3;have N3:=N2.below hb3 Xy;have b3:=Xf b2 hb3;clear X2 cX2_0 cX2_1 cX2_2 fX2_0 fX2_1 fX2_2 lX R2 N2 b2 G2 S2 hb3 c1;cases o with
   | none =>
    have hv:=Lib.hid (hno.out rfl);simp only [Kr];have R4:=R3.alloc (.cells #[.int .i64 0,.int .i64 0,.int .i64 0] 136);have b4:=b1.trans ((Xb b3 (.cells #[.int .i64 0,.int .i64 0,.int .i64 0] 136)).mono b1.size);go_upto_region 8 with fail
    clear R3 b3 N3;generalize w3.alloc (.cells #[.int .i64 0,.int .i64 0,.int .i64 0] 136)=w4 at *;generalize w3.heap.size=g3 at *;obtain ⟨cR4_0,fR4_0⟩:=R4.2 0 _ rfl;have lR:=R4.1;go_wp2
    refine bodyPost_ret (v:=.tuple #[.agg #[.slice none 0 0],.bool false]) (by simp [results,Tryz.results139,go_sem, *]) rfl ⟨.slice none 0 0,by rw [hv.out.1], ?_,YY b4 (by simp only;omega) _⟩;rw [hv.out.2];exact ⟨none,0,rfl,World.ownsRow_nil _ _ _ _⟩
   | some g =>
    have hs2:=Lib.hid (hst.out g rfl);have ha2:=Lib.hid (hal.out g rfl);simp only [Kr];have N4:=N3.alloc (.cells #[.int .i64 g.a,.int .i64 g.b,.int .i64 g.c] 136);have b4:=Xb b3 (.cells #[.int .i64 g.a,.int .i64 g.b,.int .i64 g.c] 136);have X4:=Yd.new w3 #[.int .i64 g.a,.int .i64 g.b,.int .i64 g.c] 136;go_upto_region 8 with fail
    clear R3 b3 N3;generalize w3.alloc (.cells #[.int .i64 g.a,.int .i64 g.b,.int .i64 g.c] 136)=w4 at *;generalize w3.heap.size=g3 at *;obtain ⟨cX4_0,fX4_0⟩:=X4.2 0 _ rfl;obtain ⟨cX4_1,fX4_1⟩:=X4.2 1 _ rfl;obtain ⟨cX4_2,fX4_2⟩:=X4.2 2 _ rfl;have lX:=X4.1;have hcm:(Ks (Z3 q) (p.take k)).length<=1073741823:=by rw [movL_len,List.length_take];omega
    have hle:w1.heap.size<=w4.heap.size:=b4.size;go_wp2_with (at_builtin;refine KV Xx _ rfl _ _ 24 rfl w1.heap.size i0 _ 24 Tryz.underlying24 hi0 hz0 hz1 hz2 rfl (by decide) rfl (N4.alloc _) _ 1 rfl g ?c1 (Ze g) bR (by simp;omega) hcm (by decide) ?_)
    case c1 =>
     intro qq u hu;exact hu
    ·intro v7 w7 hn7 hb7;rw [<- hs2.out] at hn7;have b7:=(Xb b4 (.cells #[.int .i64 g.a,.int .i64 g.b,.int .i64 g.c] 136)).trans hb7;clear hb7 b4 N4 X4 cX4_0 cX4_1 cX4_2 fX4_0 fX4_1 fX4_2 lX;go_wp2
     go_roundw
     case rel=>exact ⟨k+1,by omega,by go_num,ha2.out,hn7,b7⟩
     case measure=>simp [intOf];omega
  ·obtain rfl:k=p.length:=Oz
   rw [List.take_length] at hall N;have hv:=Lib.hid (mov_all (f:=Z3 q) h0 hall);have hmo:=movL_ok hgok.out hall;have hml:=movL_len (Z3 q) p;have R2:=R1.below hbr;obtain ⟨Ao,co,rfl,o2⟩:=N;have N2:XG 136 3 Xe wr w1.heap.size (.slice Ao (Ks (Z3 q) p).length co) (Ks (Z3 q) p):=⟨Ao,co,rfl,o2⟩;have k9:=λ W h=>iMeet_c Ao (Ks (Z3 q) p) co W (by omega) hmo h N2.nilcap;have SO:=N2.out Xx;clear hall o2 hmo hml cA1_0 fA1_0 lA A1;generalize Ks (Z3 q) p=ML at *;go_wp2_with (fail)
   refine (k9 _ SO).mono ?_;rintro e w3 ⟨v,rfl,N3,hb3⟩;have R3:=R2.below hb3;have b3:=Xf br hb3;obtain ⟨cR3_0,fR3_0⟩:=R3.2 0 _ rfl;have lR:=R3.1;obtain ⟨Av,cv,rfl,o3⟩:=N3;have N3:XG 136 3 Xe w3 wr.heap.size (.slice Av (X3 (Xk ML)).length cv) (X3 (Xk ML)):=⟨Av,cv,rfl,o3⟩;have z3:=hbr.size;clear o3 k9 SO N2;go_wp2
   refine bodyPost_ret (v:=.tuple #[.agg #[.slice Av (X3 (Xk ML)).length cv],.bool (Yt (Xk ML))]) (by simp [results,Tryz.results139,go_sem, *]) rfl ⟨.slice Av (X3 (Xk ML)).length cv,by rw [hv.out.1], ?_,YY b3 (by simp only;omega) _⟩;rw [hv.out.2];exact (N3.lowC (q:=⟨w.heap.size+1,0,none⟩) (by simp only;omega) [.slice Av (X3 (Xk ML)).length cv]).mono Oz
theorem iErode_c (p q:List Half) (a b:Kw) (w:World) (hp:Xc p=true) (hq:Xc q=true) (hne:q≠[]) (hsp:Sl 3 Xe w a.A p) (hsl:Sl 3 Xe w b.A q) :
 Calls Tryz.prog 97 #[Zl p a,Zl q b] w λ e w'=>∃ v,e=.returned (.tuple #[.agg #[v],.bool (Zw (Z3 q) p)])/\XG 136 3 Xe w' w.heap.size v (ZD (Z3 q) p)/\Below w.heap.size w w':=by
 obtain ⟨W,hW⟩:∃ W,W=((w.alloc (.cells #[.slice a.A p.length a.c] 26)).alloc (.cells #[.slice b.A q.length b.c] 26)).alloc (.cells #[.slice none 0 0] 26):=⟨_,rfl⟩;have HA:Yd W w.heap.size [.slice a.A p.length a.c]:=by rw [hW];exact ZK
 have HB:Yd W (w.heap.size+1) [.slice b.A q.length b.c]:=by rw [hW];exact ZK
 have HR:Yd W (w.heap.size+1+1) [.slice none 0 0]:=by rw [hW];exact ZK
 have b0:Below w.heap.size w W:=by rw [hW];exact Xw
 have zW:w.heap.size+1+1<W.heap.size:=HR.1;have k1:=iMovE_c p q a b (w.heap.size+1) W hp hq hne (hsp.below b0) HB (hsl.below b0);have hW':=Lib.hid hW;clear hW hsp hsl hp hq hne;generalize Zw (Z3 q) p=ok at *;generalize ZD (Z3 q) p=R at *;obtain ⟨cHA_0,fHA_0⟩:=HA.2 0 _ rfl;have lA:=HA.1;have hmf:∀ (fn:Fn) (first cap:Array Value) (w:World),(Instr.makeFunc fn first cap).run Tryz.prog w=.ok (.func fn first cap) w:=λ _ _ _ _=>rfl;go_enter Tryz.func97,Tryz.ntmps97
 go_upto_region 1 with fail
 rw [<- hW'.out];clear hW';go_wp2_with (fail)
 refine k1.mono ?_;rintro e w1 ⟨v,rfl,N1,hb1⟩;have R1:=HR.below hb1;have b1:=Xf b0 hb1;obtain ⟨Av,cv,rfl,o3⟩:=N1;have N3:XG 136 3 Xe w1 W.heap.size (.slice Av R.length cv) R:=⟨Av,cv,rfl,o3⟩;clear o3 HR HA HB b0 hb1 k1 cHA_0 fHA_0 lA;obtain ⟨cR1_0,fR1_0⟩:=R1.2 0 _ rfl;have lR:=R1.1;go_wp2
 refine bodyPost_ret (v:=.tuple #[.agg #[.slice Av R.length cv],.bool ok]) (by simp [results,Tryz.results97,go_sem, *]) rfl ⟨.slice Av R.length cv,rfl, ?_,YY b1 (by simp only;omega) _⟩;exact (N3.lowC (q:=⟨w.heap.size+1+1,0,none⟩) (by simp only;omega) [.slice Av R.length cv]).mono Oz
end Go.Proofs.YtbekjpkcicjcgaaGreat
