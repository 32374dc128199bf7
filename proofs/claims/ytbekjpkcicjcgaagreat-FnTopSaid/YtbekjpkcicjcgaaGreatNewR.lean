/-
 A record that changes the fitted region: of the program and of the reference.
 Conditions: the slices hold at most 2^20 elements.
-/
import Derived.Test.YtbekjpkcicjcgaaGreatGrXf
import Derived.Lib.SliceRun
import Derived.Deep.RegionHeld3
import Derived.Deep.DeepMust
import Derived.Deep.DeepCutAuto
import Derived.Test.YtbekjpkcicjcgaaGreatGrU
set_option maxHeartbeats 4000000
set_option maxRecDepth 100000
namespace Go.Proofs.YtbekjpkcicjcgaaGreat
open Go.RowKit
theorem Yd.grown {w w':World} {g:Nat} {vs:List Value} {row:Option Nat} (h:Yd w g vs) (hG:w.grownBy w' row) (hne:∀ k,row=some k->g≠k):Yd w' g vs:=by
 have hb:=hG.block g h.1 (λ e=>hne g e.symm rfl);refine ⟨Nat.lt_of_lt_of_le h.1 hG.size,λ j u hu=>?_⟩;have h2:=h.2 j u hu;exact ⟨(World.cell?_of_block (w:=w) hb).trans h2.1,(World.frozen?_of_block (w:=w) hb).trans h2.2⟩
theorem XG.own {α:Type} {T sz:Nat} {enc:α->List Value} {base:Nat} {w:World} {v:Value} {xs:List α} (h:XG T sz enc w base v xs):∀ k,v.ownBlock=some k->base<=k/\k<w.heap.size:=by
 obtain ⟨A,cap,rfl,hr⟩:=h;exact λ k e=>hr.lt k e
theorem run_appS {α:Type} {T sz:Nat} {enc:α->List Value} (X5:∀ x,(enc x).length=sz) {P:Program} (w:World) (t ty:TypeId)
 (base:Nat) (i:TypeInfo) (z:Value) (bytes:Nat) (ht:P.underlying t=some (.slice T)) (hi:P.info? T=some i) (hz:i.zero=some z)
 (hsize:i.size=sz) (hby:i.bytes=bytes) (hzs:z.cells.size=sz) (hpos:0<sz)
 {v:Value} {xs ys:List α} (hown:XG T sz enc w base v xs)
 (B:Option Addr) (c:Nat) (hys:Sl sz enc w B ys) (hnil:B=none->c=0) (h1:∀ y,∀ u∈enc y,u.oneCell'=true)
 {W0:World} (hb:Below base W0 w) (hbase:base<=w.heap.size) (hn:xs.length+ys.length<=1073741824) (hbytes:bytes<=128) :
 ∃ v' w',(Builtin.append_ #[t,t] ty #[v,Sv B ys.length c]).run P w=.ok v' w'/\XG T sz enc w' base v' (xs++ys)/\Below base W0 w'/\w.grownBy w' v.ownBlock:=by
 obtain ⟨A,cap,rfl,hr⟩:=hown;have hb2:(xs.length+ys.length)*bytes<=1073741824*128:=Nat.mul_le_mul hn hbytes;have hl:(xs++ys).length=xs.length+ys.length:=List.length_append;have hf:(xs++ys).flatMap enc=xs.flatMap enc++ys.flatMap enc:=List.flatMap_append;have go:∀ ad:Addr,B=some ad->(∀ j u,(ys.flatMap enc)[j]? = some u->w.cell? (ad.add j)=some u)->∃ v' w',(Builtin.append_ #[t,t] ty #[Sv A xs.length cap,Sv B ys.length c]).run P w=.ok v' w'/\XG T sz enc w' base v' (xs++ys)/\Below base W0 w'/\w.grownBy w' (Value.slice A xs.length cap).ownBlock:=by
  intro ad hB hc;subst hB;obtain ⟨v',w',hrun,hown',hg,_⟩:=run_append_own (P:=P) w base t ty T i z sz bytes ht hi hz hsize hby hzs hpos _ _ _ hr ad ys.length c (ys.flatMap enc) (Y5 X5 ys) hc (λ u hu=>by
   obtain ⟨y,_,hy⟩:=List.mem_flatMap.1 hu;exact h1 y u hy) (by unfold maxLen;omega) Oz hbase
  have hbl:=hb.grown hg hbase (λ k e=>(hr.lt k e).1);rw [<- hf] at hown';exact ⟨_,_,hrun,XG.mk' hl.symm hown',hbl,hg⟩
 by_cases h0:ys.length=0
 ·have hy:ys=[]:=List.eq_nil_of_length_eq_zero h0;subst hy;cases B with
  | none =>
   have hc0:=hnil rfl;subst hc0;have hrun:=run_append_owned_none (P:=P) (w:=w) base t ty T i sz ht hi _ _ _ hr;exact ⟨_,_,hrun,XG.mk' (n:=xs.length) Sz (by simpa using hr),hb,World.grownBy.refl _ _⟩
  | some ad=>exact go ad rfl (λ j u hu=>by simp at hu)
 ·obtain ⟨b,off,hB,_,hc⟩:=hys Oz;refine go ⟨b,off,none⟩ hB (λ j u hu=>?_);rw [Addr.add_lit];have hjl:j<ys.length*sz:=by
   rw [<- Y5 X5 ys];rcases Nat.lt_or_ge j (ys.flatMap enc).length with h3|h3
   ·exact h3
   ·rw [List.getElem?_eq_none h3] at hu;cases hu
  have hq:j / sz<ys.length:=Nat.div_lt_of_lt_mul (by rw [Nat.mul_comm];exact hjl);have hm:j % sz<sz:=Nat.mod_lt _ hpos;have hjj:j / sz*sz+j % sz=j:=by rw [Nat.mul_comm];exact Nat.div_add_mod j sz
  have hu2:(enc ys[j / sz])[j % sz]? = some ((enc ys[j / sz])[j % sz]'(by rw [X5];exact hm)):=List.getElem?_eq_getElem _;have h4:=Jr X5 ys _ hq _ _ hu2;rw [hjj,hu] at h4;have h5:=hc _ hq _ _ hu2;rw [Nat.add_assoc,hjj,<- h4] at h5;exact h5
theorem Xq.belowB {B g T:Nat} {w w':World} {vs:List Value} (h:Xq w g T vs) (hb:Below B w w') (hg:g<B):Xq w' g T vs:=(hb.block g hg).trans h
theorem step_appO {α:Type} {T sz:Nat} {enc:α->List Value} (X5:∀ x,(enc x).length=sz) {P:Program} {o:Oper} {a:Act} {w:World} {K:Act->World->Prop} {Q:Exit->Act->World->Prop} (s x:Operand) (t:TypeId)
 (ho:o.op=.call { callee:=.builtin .append,args:=#[s,x],argTypes:=#[t,t] })
 (base:Nat) (i:TypeInfo) (z:Value) (bytes:Nat) (ht:P.underlying t=some (.slice T)) (hi:P.info? T=some i) (hz:i.zero=some z)
 (hsize:i.size=sz) (hby:i.bytes=bytes) (hzs:z.cells.size=sz) (hpos:0<sz)
 {v:Value} {xs ys:List α} (hs:a.eval s=v) (hown:XG T sz enc w base v xs)
 (B:Option Addr) (c:Nat) (hx:a.eval x=Sv B ys.length c) (hys:Sl sz enc w B ys) (hnil:B=none->c=0) (h1:∀ y,∀ u∈enc y,u.oneCell'=true)
 (hbase:base<=w.heap.size) (hn:xs.length+ys.length<=1073741824) (hbytes:bytes<=128)
 (hK:∀ v' w',XG T sz enc w' base v' (xs++ys)->Below base w w'->w.grownBy w' v.ownBlock->K (a.put o.dst v') w'):Oper.wp P o a w K Q:=by
 obtain ⟨v',w',hrun,hN,hB,hG⟩:=run_appS X5 w t o.type base i z bytes ht hi hz hsize hby hzs hpos hown B c hys hnil h1 (Below.refl base w) hbase hn hbytes;unfold Oper.wp;simp [execOp,ho,resolve,invoke,builtin,hs,hx,hrun,Result.andThen];exact hK v' w' hN hB hG
theorem step_app0 {α:Type} {T sz:Nat} {enc:α->List Value} (X5:∀ x,(enc x).length=sz) {P:Program} {o:Oper} {a:Act} {w:World} {K:Act->World->Prop} {Q:Exit->Act->World->Prop} (s x:Operand) (t:TypeId)
 (ho:o.op=.call { callee:=.builtin .append,args:=#[s,x],argTypes:=#[t,t] })
 (base:Nat) (i:TypeInfo) (z:Value) (bytes:Nat) (ht:P.underlying t=some (.slice T)) (hi:P.info? T=some i) (hz:i.zero=some z)
 (hsize:i.size=sz) (hby:i.bytes=bytes) (hzs:z.cells.size=sz) (hpos:0<sz)
 {p:Addr} {ys:List α} (hs:a.eval s=Sv (some p) 0 0) (hown:XG T sz enc w base (Sv (some p) 0 0) ([]:List α))
 (B:Option Addr) (c:Nat) (hx:a.eval x=Sv B ys.length c) (hys:Sl sz enc w B ys) (hnil:B=none->c=0)
 (hbase:base<=w.heap.size) (hn:ys.length<=1073741824) (hbytes:bytes<=128)
 (hK:∀ v' w',XG T sz enc w' base v' ys->Below w.heap.size w w'->K (a.put o.dst v') w'):Oper.wp P o a w K Q:=by
 have run:∃ v' w',(Builtin.append_ #[t,t] o.type #[Sv (some p) 0 0,Sv B ys.length c]).run P w=.ok v' w'/\XG T sz enc w' base v' ys/\Below w.heap.size w w':=by
  by_cases h0:ys.length=0
  ·have hy:ys=[]:=List.eq_nil_of_length_eq_zero h0;subst hy;refine ⟨_,_, ?_,hown,Below.refl _ _⟩;cases B with
   | none=>have:=hnil rfl;subst this;simp [Builtin.append_,run_underlying ht,sizeOf,typeInfo,hi,Builtin.lenOf,Builtin.firstCells,storeCells]
   | some ad=>simp [Builtin.append_,run_underlying ht,sizeOf,typeInfo,hi,Builtin.lenOf,Builtin.firstCells,storeCells,loadCells,loadCellsFrom]
  ·obtain ⟨b,off,hB,_,hc⟩:=hys Oz;subst hB;have hb2:ys.length*bytes<=1073741824*128:=Nat.mul_le_mul hn hbytes;obtain ⟨v',w',hrun,hown',hg⟩:=run_append_arg_grows (P:=P) (w:=w) t o.type T i z sz bytes ht hi hz hsize hby hzs hpos p 0 0 [] Sz (λ j u hu=>by simp at hu) ⟨b,off,none⟩ ys.length c (ys.flatMap enc) (Y5 X5 ys) (λ j u hu=>by
    rw [Addr.add_lit];have hjl:j<ys.length*sz:=by
     rw [<- Y5 X5 ys];rcases Nat.lt_or_ge j (ys.flatMap enc).length with h3|h3
     ·exact h3
     ·rw [List.getElem?_eq_none h3] at hu;cases hu
    have hq:j / sz<ys.length:=Nat.div_lt_of_lt_mul (by rw [Nat.mul_comm];exact hjl);have hm:j % sz<sz:=Nat.mod_lt _ hpos;have hjj:j / sz*sz+j % sz=j:=by rw [Nat.mul_comm];exact Nat.div_add_mod j sz
    have hu2:(enc ys[j / sz])[j % sz]? = some ((enc ys[j / sz])[j % sz]'(by rw [X5];exact hm)):=List.getElem?_eq_getElem _;have h4:=Jr X5 ys _ hq _ _ hu2;rw [hjj,hu] at h4;have h5:=hc _ hq _ _ hu2;rw [Nat.add_assoc,hjj,<- h4] at h5;exact h5) Oz (by unfold maxLen;omega) (by rw [Nat.zero_add];omega)
   refine ⟨v',w',hrun, ?_,bR.grown hg Xy (λ k e=>by cases e)⟩;rw [Nat.zero_add,List.nil_append] at hown';exact (XG.mk' rfl hown').mono hbase
 obtain ⟨v',w',hrun,hN,hB⟩:=run;unfold Oper.wp;simp [execOp,ho,resolve,invoke,builtin,hs,hx,hrun,Result.andThen];exact hK v' w' hN hB
def valS (h:Half) (s:XH):Int:=h.a*s.x+h.b*s.y-h.c*s.d
def holdsH (s:XH) (h:Half):Bool:=decide (valS h s<=0)
def YL (p:List Half) (s:XH):Bool:=!decide (p.length=0)&&p.all (holdsH s)
def Zs (p q:List Half):Bool:=(Xj p).all (YL q)
theorem holds_no {p:List Half} {s:XH} {k:Nat} (h:k<p.length) (hb:0<sgn (valS p[k] s)):YL p s=false:=by
 unfold YL;have:p.all (holdsH s)=false:=by
  rw [List.all_eq_false];refine ⟨p[k],List.getElem_mem h, ?_⟩;unfold holdsH;have:¬ valS p[k] s<=0:=λ h2=>by have:=sgn_le.2 h2;omega
  rw [decide_eq_false this];decide
 rw [this,Bool.and_false]
theorem holds_step {p:List Half} {s:XH} {k:Nat} (h:k<p.length) (h1:(p.take k).all (holdsH s)=true) (hb:¬ 0<sgn (valS p[k] s)):(p.take (k+1)).all (holdsH s)=true:=by
 rw [List.take_add_one,List.getElem?_eq_getElem h,List.all_append,h1];have:valS p[k] s<=0:=sgn_le.1 Oz;simp [holdsH,this]
theorem valS_bd {h:Half} {s:XH} (hh:Xs h=true) (hs:Xo s=true):(-250000000000000000<=h.a*s.x/\h.a*s.x<=250000000000000000)/\(-250000000000000000<=h.b*s.y/\h.b*s.y<=250000000000000000)/\(-500000000000000000<=h.c*s.d/\h.c*s.d<=500000000000000000):=by
 obtain ⟨h1,h2,h3,_⟩:=ZF.1 hs;obtain ⟨a1,a2,a3,_⟩:=Zk.1 hh;have p:=JF (a:=h.a) (b:=s.x) (A:=50000) (B:=5000000000000) ⟨Oz,Oz⟩ ⟨Oz,Oz⟩;have q:=JF (a:=h.b) (b:=s.y) (A:=50000) (B:=5000000000000) ⟨Oz,Oz⟩ ⟨Oz,Oz⟩;have r:=JF (a:=h.c) (b:=s.d) (A:=100000000) (B:=5000000000) ⟨Oz,Oz⟩ ⟨Oz,Oz⟩;exact ⟨⟨Oz,Oz⟩,⟨Oz,Oz⟩,⟨Oz,Oz⟩⟩
theorem spot_In {s:XH} (hs:Xo s=true):s.In:=by
 obtain ⟨h1,h2,h3,_⟩:=ZF.1 hs;exact ⟨⟨Oz,Oz⟩,⟨Oz,Oz⟩,⟨Oz,Oz⟩⟩
theorem iSignOf_c (n:Int) (w:World) :
 Calls Tryz.prog 147 #[.int .i64 n] w λ e w'=>e=.returned (.int .i64 (sgn n))/\Below w.heap.size w w':=by
 rcases (show n<0∨n=0∨0<n by omega) with h|h|h
 ·rw [sgn_of_neg h];go_enter Tryz.func147,Tryz.ntmps147
  go_wp2
  go_ret
  refine ⟨rfl, ?_⟩;exact Xw
 ·subst h;rw [sgn_zero];go_enter Tryz.func147,Tryz.ntmps147
  go_wp2
  go_ret
  refine ⟨rfl, ?_⟩;exact Xw
 ·rw [sgn_of_pos h];go_enter Tryz.func147,Tryz.ntmps147
  go_wp2
  go_ret
  refine ⟨rfl, ?_⟩;exact Xw
theorem iSideOf_c (h:Half) (s:XH) (w:World) (hh:Xs h=true) (hs:Xo s=true) :
 Calls Tryz.prog 101 #[YI h,Yu s] w λ e w'=>e=.returned (.int .i64 (sgn (valS h s)))/\Below w.heap.size w w':=by
 have k1:=λ W=>iHalfOk_c h W (hIn (Ju hh));have k2:=λ W=>iSpotOk_c s W (spot_In hs);have k3:=λ W=>iSignOf_c (valS h s) W;obtain ⟨⟨b1,b2⟩,⟨b3,b4⟩,⟨b5,b6⟩⟩:=valS_bd hh hs;rw [hh] at k1;rw [hs] at k2;clear hh hs;change ∀ W,Calls _ _ #[.int .i64 (h.a*s.x+h.b*s.y-h.c*s.d)] W _ at k3
 generalize sgn (valS h s)=v at *;go_enter Tryz.func101,Tryz.ntmps101
 go_wp2_with (fail)
 refine (k1 _).mono ?_;rintro e w3 ⟨rfl,hb_w3⟩;have r_w3:=XA hb_w3;have l_w3_0:w.heap.size<w3.heap.size:=XM hb_w3;have l_w3_1:w.heap.size+1<w3.heap.size:=XM hb_w3;go_wp2_with (fail)
 refine (k2 _).mono ?_;rintro e w4 ⟨rfl,hb_w4⟩;have r_w4:=XA hb_w4;have l_w4_0:w.heap.size<w4.heap.size:=XM hb_w4;have l_w4_1:w.heap.size+1<w4.heap.size:=XM hb_w4;go_wp2_with (fail)
 refine (k3 _).mono ?_;rintro e w5 ⟨rfl,hb_w5⟩;have r_w5:=XA hb_w5;have l_w5_0:w.heap.size<w5.heap.size:=XM hb_w5;have l_w5_1:w.heap.size+1<w5.heap.size:=XM hb_w5;go_wp2
 go_ret
 refine ⟨rfl, ?_⟩;exact Xw
theorem iHolds_c (p:List Half) (a:Kt) (s:XH) (w:World) (hl:p.length<=1000000) (hok:∀ h∈p,Xs h=true) (hs:Xo s=true) (hsl:Sl 3 Xe w a.A p) :
 Calls Tryz.prog 46 #[Zl p a,Yu s] w λ e w'=>e=.returned (.bool (YL p s))/\Below w.heap.size w w':=by
 obtain ⟨A,cap⟩:=a;simp only at hsl;obtain ⟨W,hW⟩:∃ W,W=(w.alloc (.cells #[.slice A p.length cap] 26)).alloc (.cells #[.int .i64 s.x,.int .i64 s.y,.int .i64 s.d] 30):=⟨_,rfl⟩;have HA:Yd W w.heap.size [.slice A p.length cap]:=by rw [hW];exact ZK
 have HB:Yd W (w.heap.size+1) [.int .i64 s.x,.int .i64 s.y,.int .i64 s.d]:=by rw [hW];exact ZK
 have b0:Below w.heap.size w W:=by rw [hW];exact Xw
 have hs0:=hsl.below b0;have hW':=Lib.hid hW;have hok':=Lib.hid hok;clear hW hsl hok;go_enter Tryz.func46,Tryz.ntmps46
 go_upto_region 1 with fail
 rw [<- hW'.out];clear hW';obtain ⟨cHA_0,fHA_0⟩:=HA.2 0 _ rfl;go_wp2
 go_loopw [6,10] (λ _ i wr=>∃ k:Nat,k<=p.length/\i=.int .i64 k/\(p.take k).all (holdsH s)=true/\Below W.heap.size W wr) (λ _ i _=>p.length-(intOf i).toNat)
 case atStart=>exact ⟨0,Nat.zero_le _,rfl,rfl,Below.refl _ _⟩
 case round =>
  obtain ⟨k,hk,rfl,hall,hbw⟩:=hrel;have H1:=HA.below hbw;have H2:=HB.below hbw;have hS:=hs0.below hbw;have bw:=b0.trans (hbw.mono b0.size);by_cases hlt:k<p.length
  ·obtain ⟨b,off,hA,hblt,hc⟩:=hS.at_ hlt;have g0:=hc 0 _ rfl;have g1:=hc 1 _ rfl;have g2:=hc 2 _ rfl;simp only [Nat.add_zero] at g0;subst hA;have c1:=λ W=>iSideOf_c p[k] s W (hok'.out _ (List.getElem_mem hlt)) hs;have hn:=Lib.hid (λ h=>@holds_no p s k hlt h);have hy:=Lib.hid (λ h=>@holds_step p s k hlt hall h);clear hc hall;generalize sgn (valS p[k] s)=sg at *;generalize p[k]=h at *;have H1x:=H1.alloc (.cells #[.int .i64 h.a,.int .i64 h.b,.int .i64 h.c] 136);have H2x:=H2.alloc (.cells #[.int .i64 h.a,.int .i64 h.b,.int .i64 h.c] 136);have bx:=hbw.alloc hbw.size (.cells #[.int .i64 h.a,.int .i64 h.b,.int .i64 h.c] 136);obtain ⟨cH2x_0,fH2x_0⟩:=H2x.2 0 _ rfl;obtain ⟨cH2x_1,fH2x_1⟩:=H2x.2 1 _ rfl;obtain ⟨cH2x_2,fH2x_2⟩:=H2x.2 2 _ rfl;have l2:=H2x.1;have e20:wr.cell? ⟨w.heap.size+1,0,none⟩=some (.int .i64 s.x):=(H2.2 0 _ rfl).1;have e21:wr.cell? ⟨w.heap.size+1,1,none⟩=some (.int .i64 s.y):=(H2.2 1 _ rfl).1;have e22:wr.cell? ⟨w.heap.size+1,2,none⟩=some (.int .i64 s.d):=(H2.2 2 _ rfl).1;have lr:=H2.1;by_cases hp:0<sg
   ·have hv:=Lib.hid (hn.out hp);go_wp2_with (fail)
    refine (c1 _).mono ?_;rintro e w3 ⟨rfl,hb3⟩;go_wp2
    go_ret
    exact ⟨by rw [hv.out];rfl,b0.trans ((Xf bx hb3).mono b0.size)⟩
   ·have hv:=Lib.hid (hy.out hp);go_wp2_with (fail)
    refine (c1 _).mono ?_;rintro e w3 ⟨rfl,hb3⟩;go_wp2
    go_roundw
    case rel=>exact ⟨k+1,by omega,by go_num,hv.out,Xf bx hb3⟩
    case measure=>simp [intOf];omega
  ·obtain rfl:k=p.length:=Oz
   rw [List.take_length] at hall;have hv:=Lib.hid (show YL p s = !decide (p.length=0) by unfold YL;rw [hall,Bool.and_true]);have cv:=λ W=>ZW p ⟨A,cap⟩ W;obtain ⟨cH1_0,fH1_0⟩:=H1.2 0 _ rfl;have l1:=H1.1;generalize decide (p.length=0)=vd at *;clear hall hs0 hS;go_wp2_with (fail)
   refine (cv _).mono ?_;rintro e w3 ⟨rfl,hb3⟩;go_wp2
   go_ret
   exact ⟨by rw [hv.out];rfl,Xf bw hb3⟩
theorem within_no {C:List XH} {q:List Half} {k:Nat} (h:k<C.length) (hb:YL q C[k]=false):C.all (YL q)=false:=by
 rw [List.all_eq_false];exact ⟨_,List.getElem_mem h,by rw [hb];decide⟩
theorem within_step {C:List XH} {q:List Half} {k:Nat} (h:k<C.length) (h1:(C.take k).all (YL q)=true) (hb:YL q C[k]=true):(C.take (k+1)).all (YL q)=true:=by
 rw [List.take_add_one,List.getElem?_eq_getElem h,List.all_append,h1];simp [hb]
theorem iWithin_c (p q:List Half) (a b:Kt) (w:World) (hp:Xc p=true) (hq:Xc q=true) (hsp:Sl 3 Xe w a.A p) (hsq:Sl 3 Xe w b.A q) :
 Calls Tryz.prog 42 #[Zl p a,Zl q b] w λ e w'=>e=.returned (.bool (Zs p q))/\Below w.heap.size w w':=by
 have hdef:=Lib.hid (show Zs p q=(Xj p).all (YL q) from rfl);have hlp:=Y0 hp;have hlq:=Y0 hq;have hcl:(Xj p).length<=40:=by rw [Y6];exact hlp
 have hco:=Lib.hid (corners_ok hp);obtain ⟨W,hW⟩:∃ W,W=(w.alloc (.cells #[.slice a.A p.length a.c] 26)).alloc (.cells #[.slice b.A q.length b.c] 26):=⟨_,rfl⟩;have HA:Yd W w.heap.size [.slice a.A p.length a.c]:=by rw [hW];exact ZK
 have HB:Yd W (w.heap.size+1) [.slice b.A q.length b.c]:=by rw [hW];exact ZK
 have b0:Below w.heap.size w W:=by rw [hW];exact Xw
 have sp:=hsp.below b0;have sq:=hsq.below b0;have hW':=Lib.hid hW;have kc:=iCorners_c p a W hp sp;clear hW hsp hsq;obtain ⟨cHA_0,fHA_0⟩:=HA.2 0 _ rfl;have lA:=HA.1;generalize Xj p=C at *;go_enter Tryz.func42,Tryz.ntmps42
 go_upto_region 1 with fail
 rw [<- hW'.out];clear hW';go_wp2_with (fail)
 refine kc.mono ?_;rintro e w1 ⟨v,rfl,N,hb1⟩;obtain ⟨Ac,cc,rfl,SC⟩:=N.sl Jg;have HB1:=HB.below hb1;have SQ:=sq.below hb1;have b1:=Xf b0 hb1;clear N HA HB sp sq hb1 cHA_0 fHA_0 lA kc b0;go_wp2
 go_loopw [6,10] (λ _ i wr=>∃ k:Nat,k<=C.length/\i=.int .i64 k/\(C.take k).all (YL q)=true/\Below w1.heap.size w1 wr) (λ _ i _=>C.length-(intOf i).toNat)
 case atStart=>exact ⟨0,Nat.zero_le _,rfl,rfl,Below.refl _ _⟩
 case round =>
  obtain ⟨k,hk,rfl,hall,hbw⟩:=hrel;have bw:=b1.trans (hbw.mono b1.size);by_cases hlt:k<C.length
  ·obtain ⟨bb,off,rfl,hblt,hc⟩:=(SC.below hbw).at_ hlt;have g0:=hc 0 _ rfl;have g1:=hc 1 _ rfl;have g2:=hc 2 _ rfl;simp only [Nat.add_zero] at g0;have c1:=λ W h=>iHolds_c q b C[k] W (by omega) (Zp hq) (hco.out _ (List.getElem_mem hlt)) h;have hn:=Lib.hid (λ h=>@within_no C q k hlt h);have hy:=Lib.hid (λ h=>@within_step C q k hlt hall h);clear hc hall;generalize YL q C[k]=hv at *;generalize C[k]=s at *;have H1x:=(HB1.below hbw).alloc (.cells #[.int .i64 s.x,.int .i64 s.y,.int .i64 s.d] 30);have SQx:=(SQ.below hbw).alloc (.cells #[.int .i64 s.x,.int .i64 s.y,.int .i64 s.d] 30);have bx:=hbw.alloc hbw.size (.cells #[.int .i64 s.x,.int .i64 s.y,.int .i64 s.d] 30);have TX:=Yd.new wr #[.int .i64 s.x,.int .i64 s.y,.int .i64 s.d] 30;go_upto_region 4 with fail
   clear g0 g1 g2 hblt;generalize wr.alloc (.cells #[.int .i64 s.x,.int .i64 s.y,.int .i64 s.d] 30)=wx at *;generalize wr.heap.size=gx at *;obtain ⟨cH1x_0,fH1x_0⟩:=H1x.2 0 _ rfl;obtain ⟨cTX_0,fTX_0⟩:=TX.2 0 _ rfl;obtain ⟨cTX_1,fTX_1⟩:=TX.2 1 _ rfl;obtain ⟨cTX_2,fTX_2⟩:=TX.2 2 _ rfl;have l1:=H1x.1;have lx:=TX.1;cases hv
   ·have hv:=Lib.hid (hn.out rfl);go_wp2_with (fail)
    refine (c1 _ SQx).mono ?_;rintro e w3 ⟨rfl,hb3⟩;go_wp2
    go_ret
    exact ⟨by rw [hdef.out,hv.out];rfl,b1.trans ((Xf bx hb3).mono b1.size)⟩
   ·have hv:=Lib.hid (hy.out rfl);go_wp2_with (fail)
    refine (c1 _ SQx).mono ?_;rintro e w3 ⟨rfl,hb3⟩;go_wp2
    go_roundw
    case rel=>exact ⟨k+1,by omega,by go_num,hv.out,Xf bx hb3⟩
    case measure=>simp [intOf];omega
  ·obtain rfl:k=C.length:=Oz
   rw [List.take_length] at hall;have hv:=Lib.hid hall;clear hall;go_wp2
   go_ret
   exact ⟨by rw [hdef.out,hv.out];rfl,bw⟩
theorem getD_el {α:Type} {l:List α} {k:Nat} (h:k<l.length) (d:α):l.getD k d=l[k]:=by rw [List.getD_eq_getElem?_getD,List.getElem?_eq_getElem h,Option.getD_some]
theorem within_next {C:List XH} {q:List Half} {k:Nat} (h:k<C.length) (h1:(C.take k).all (YL q)=true) (hb:YL q (C.getD k Yi)=true):(C.take (k+1)).all (YL q)=true:=by
 rw [getD_el h] at hb;exact within_step h h1 hb
theorem getD_mem {α:Type} {l:List α} {k:Nat} (h:k<l.length) (d:α):l.getD k d∈l:=by rw [getD_el h];exact List.getElem_mem h
end Go.Proofs.YtbekjpkcicjcgaaGreat
