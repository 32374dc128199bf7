/-
 Whether a region contains a point: of the program.
 Conditions: valid half planes, valid points.
-/
import Derived.Test.YtabfdkpdppemaaaGreatGrU
import Derived.Test.YtabfdkpdppemaaaGreatGrXf
import Derived.Lib.SliceRun
import Derived.Deep.RegionHeld3
import Derived.Deep.DeepMust
import Derived.Deep.DeepCutAuto
set_option maxHeartbeats 4000000
set_option maxRecDepth 100000
namespace Go.Proofs.YtabfdkpdppemaaaGreat
open Go.RowKit
def valS (h:Half) (s:XJ):Int:=h.a*s.x+h.b*s.y-h.c*s.d
def holdsH (s:XJ) (h:Half):Bool:=decide (valS h s<=0)
def YU (p:List Half) (s:XJ):Bool:=!decide (p.length=0)&&p.all (holdsH s)
def Yg (p q:List Half):Bool:=(Xr p).all (YU q)
theorem holds_no {p:List Half} {s:XJ} {k:Nat} (h:k<p.length) (hb:0<sgn (valS p[k] s)):YU p s=false:=by
 unfold YU;have:p.all (holdsH s)=false:=by
  rw [List.all_eq_false];refine ⟨p[k],List.getElem_mem h, ?_⟩;unfold holdsH;have:¬ valS p[k] s<=0:=λ h2=>by have:=sgn_le.2 h2;omega
  rw [decide_eq_false this];decide
 rw [this,Bool.and_false]
theorem holds_step {p:List Half} {s:XJ} {k:Nat} (h:k<p.length) (h1:(p.take k).all (holdsH s)=true) (hb:¬ 0<sgn (valS p[k] s)):(p.take (k+1)).all (holdsH s)=true:=by
 rw [List.take_add_one,List.getElem?_eq_getElem h,List.all_append,h1];have:valS p[k] s<=0:=sgn_le.1 (by omega);simp [holdsH,this]
theorem valS_bd {h:Half} {s:XJ} (hh:Xy h=true) (hs:Xt s=true):(-250000000000000000<=h.a*s.x/\h.a*s.x<=250000000000000000)/\(-250000000000000000<=h.b*s.y/\h.b*s.y<=250000000000000000)/\(-500000000000000000<=h.c*s.d/\h.c*s.d<=500000000000000000):=by
 obtain ⟨h1,h2,h3,_⟩:=Z3.1 hs;obtain ⟨a1,a2,a3,_⟩:=Zv.1 hh;have p:=mulB (a:=h.a) (b:=s.x) (A:=50000) (B:=5000000000000) ⟨by omega,by omega⟩ ⟨by omega,by omega⟩;have q:=mulB (a:=h.b) (b:=s.y) (A:=50000) (B:=5000000000000) ⟨by omega,by omega⟩ ⟨by omega,by omega⟩;have r:=mulB (a:=h.c) (b:=s.d) (A:=100000000) (B:=5000000000) ⟨by omega,by omega⟩ ⟨by omega,by omega⟩;exact ⟨⟨by omega,by omega⟩,⟨by omega,by omega⟩,⟨by omega,by omega⟩⟩
theorem spot_In {s:XJ} (hs:Xt s=true):s.In:=by
 obtain ⟨h1,h2,h3,_⟩:=Z3.1 hs;exact ⟨⟨by omega,by omega⟩,⟨by omega,by omega⟩,⟨by omega,by omega⟩⟩
theorem iSignOf_c (n:Int) (w:World) :
 Calls Tryz.prog 243 #[.int .i64 n] w λ e w'=>e=.returned (.int .i64 (sgn n))/\Below w.heap.size w w':=by
 rcases (show n<0∨n=0∨0<n by omega) with h|h|h
 ·rw [sgn_of_neg h];go_enter Tryz.func243,Tryz.ntmps243
  go_wp2
  go_ret
  refine ⟨rfl, ?_⟩;exact XF
 ·subst h;rw [sgn_zero];go_enter Tryz.func243,Tryz.ntmps243
  go_wp2
  go_ret
  refine ⟨rfl, ?_⟩;exact XF
 ·rw [sgn_of_pos h];go_enter Tryz.func243,Tryz.ntmps243
  go_wp2
  go_ret
  refine ⟨rfl, ?_⟩;exact XF
theorem iSideOf_c (h:Half) (s:XJ) (w:World) (hh:Xy h=true) (hs:Xt s=true) :
 Calls Tryz.prog 198 #[Y8 h,YC s] w λ e w'=>e=.returned (.int .i64 (sgn (valS h s)))/\Below w.heap.size w w':=by
 have k1:=λ W=>iHalfOk_c h W (hIn (JR hh));have k2:=λ W=>iSpotOk_c s W (spot_In hs);have k3:=λ W=>iSignOf_c (valS h s) W;obtain ⟨⟨b1,b2⟩,⟨b3,b4⟩,⟨b5,b6⟩⟩:=valS_bd hh hs;rw [hh] at k1;rw [hs] at k2;clear hh hs;change ∀ W,Calls _ _ #[.int .i64 (h.a*s.x+h.b*s.y-h.c*s.d)] W _ at k3
 generalize sgn (valS h s)=v at *;go_enter Tryz.func198,Tryz.ntmps198
 go_wp2_with (fail)
 refine (k1 _).mono ?_;rintro e w3 ⟨rfl,hb_w3⟩;have r_w3:=XI hb_w3;have l_w3_0:w.heap.size<w3.heap.size:=XT hb_w3;have l_w3_1:w.heap.size+1<w3.heap.size:=XT hb_w3;go_wp2_with (fail)
 refine (k2 _).mono ?_;rintro e w4 ⟨rfl,hb_w4⟩;have r_w4:=XI hb_w4;have l_w4_0:w.heap.size<w4.heap.size:=XT hb_w4;have l_w4_1:w.heap.size+1<w4.heap.size:=XT hb_w4;go_wp2_with (fail)
 refine (k3 _).mono ?_;rintro e w5 ⟨rfl,hb_w5⟩;have r_w5:=XI hb_w5;have l_w5_0:w.heap.size<w5.heap.size:=XT hb_w5;have l_w5_1:w.heap.size+1<w5.heap.size:=XT hb_w5;go_wp2
 go_ret
 refine ⟨rfl, ?_⟩;exact XF
theorem iHolds_c (p:List Half) (a:Ks) (s:XJ) (w:World) (hl:p.length<=1000000) (hok:∀ h∈p,Xy h=true) (hs:Xt s=true) (hsl:Sl 3 Xg w a.A p) :
 Calls Tryz.prog 118 #[Zt p a,YC s] w λ e w'=>e=.returned (.bool (YU p s))/\Below w.heap.size w w':=by
 obtain ⟨A,cap⟩:=a;simp only at hsl;obtain ⟨W,hW⟩:∃ W,W=(w.alloc (.cells #[.slice A p.length cap] 26)).alloc (.cells #[.int .i64 s.x,.int .i64 s.y,.int .i64 s.d] 30):=⟨_,rfl⟩;have HA:Yi W w.heap.size [.slice A p.length cap]:=by rw [hW];exact ZC
 have HB:Yi W (w.heap.size+1) [.int .i64 s.x,.int .i64 s.y,.int .i64 s.d]:=by rw [hW];exact ZC
 have b0:Below w.heap.size w W:=by rw [hW];exact XF
 have hs0:=hsl.below b0;have hW':=Lib.hid hW;have hok':=Lib.hid hok;clear hW hsl hok;go_enter Tryz.func118,Tryz.ntmps118
 go_upto_region 1 with fail
 rw [<- hW'.out];clear hW';obtain ⟨cHA_0,fHA_0⟩:=HA.2 0 _ rfl;go_wp2
 go_loopw [6,10] (λ _ i wr=>∃ k:Nat,k<=p.length/\i=.int .i64 k/\(p.take k).all (holdsH s)=true/\Below W.heap.size W wr) (λ _ i _=>p.length-(intOf i).toNat)
 case atStart=>exact ⟨0,Nat.zero_le _,rfl,rfl,Below.refl _ _⟩
 case round =>
  obtain ⟨k,hk,rfl,hall,hbw⟩:=hrel;have H1:=HA.below hbw;have H2:=HB.below hbw;have hS:=hs0.below hbw;have bw:=b0.trans (hbw.mono b0.size);by_cases hlt:k<p.length
  ·obtain ⟨b,off,hA,hblt,hc⟩:=hS.at_ hlt;have g0:=hc 0 _ rfl;have g1:=hc 1 _ rfl;have g2:=hc 2 _ rfl;simp only [Nat.add_zero] at g0;subst hA;have c1:=λ W=>iSideOf_c p[k] s W (hok'.out _ (List.getElem_mem hlt)) hs;have hn:=Lib.hid (λ h=>@holds_no p s k hlt h);have hy:=Lib.hid (λ h=>@holds_step p s k hlt hall h);clear hc hall;generalize sgn (valS p[k] s)=sg at *;generalize p[k]=h at *;have H1x:=H1.alloc (.cells #[.int .i64 h.a,.int .i64 h.b,.int .i64 h.c] 174);have H2x:=H2.alloc (.cells #[.int .i64 h.a,.int .i64 h.b,.int .i64 h.c] 174);have bx:=hbw.alloc hbw.size (.cells #[.int .i64 h.a,.int .i64 h.b,.int .i64 h.c] 174);obtain ⟨cH2x_0,fH2x_0⟩:=H2x.2 0 _ rfl;obtain ⟨cH2x_1,fH2x_1⟩:=H2x.2 1 _ rfl;obtain ⟨cH2x_2,fH2x_2⟩:=H2x.2 2 _ rfl;have l2:=H2x.1;have e20:wr.cell? ⟨w.heap.size+1,0,none⟩=some (.int .i64 s.x):=(H2.2 0 _ rfl).1;have e21:wr.cell? ⟨w.heap.size+1,1,none⟩=some (.int .i64 s.y):=(H2.2 1 _ rfl).1;have e22:wr.cell? ⟨w.heap.size+1,2,none⟩=some (.int .i64 s.d):=(H2.2 2 _ rfl).1;have lr:=H2.1;by_cases hp:0<sg
   ·have hv:=Lib.hid (hn.out hp);go_wp2_with (fail)
    refine (c1 _).mono ?_;rintro e w3 ⟨rfl,hb3⟩;go_wp2
    go_ret
    exact ⟨by rw [hv.out];rfl,b0.trans ((Xh bx hb3).mono b0.size)⟩
   ·have hv:=Lib.hid (hy.out hp);go_wp2_with (fail)
    refine (c1 _).mono ?_;rintro e w3 ⟨rfl,hb3⟩;go_wp2
    go_roundw
    case rel=>exact ⟨k+1,by omega,by go_num,hv.out,Xh bx hb3⟩
    case measure=>simp [intOf];omega
  ·obtain rfl:k=p.length:=by omega
   rw [List.take_length] at hall;have hv:=Lib.hid (show YU p s = !decide (p.length=0) by unfold YU;rw [hall,Bool.and_true]);have cv:=λ W=>Z8 p ⟨A,cap⟩ W;obtain ⟨cH1_0,fH1_0⟩:=H1.2 0 _ rfl;have l1:=H1.1;generalize decide (p.length=0)=vd at *;clear hall hs0 hS;go_wp2_with (fail)
   refine (cv _).mono ?_;rintro e w3 ⟨rfl,hb3⟩;go_wp2
   go_ret
   exact ⟨by rw [hv.out];rfl,Xh bw hb3⟩
theorem within_no {C:List XJ} {q:List Half} {k:Nat} (h:k<C.length) (hb:YU q C[k]=false):C.all (YU q)=false:=by
 rw [List.all_eq_false];exact ⟨_,List.getElem_mem h,by rw [hb];decide⟩
theorem within_step {C:List XJ} {q:List Half} {k:Nat} (h:k<C.length) (h1:(C.take k).all (YU q)=true) (hb:YU q C[k]=true):(C.take (k+1)).all (YU q)=true:=by
 rw [List.take_add_one,List.getElem?_eq_getElem h,List.all_append,h1];simp [hb]
theorem iWithin_c (p q:List Half) (a b:Ks) (w:World) (hp:Xe p=true) (hq:Xe q=true) (hsp:Sl 3 Xg w a.A p) (hsq:Sl 3 Xg w b.A q) :
 Calls Tryz.prog 114 #[Zt p a,Zt q b] w λ e w'=>e=.returned (.bool (Yg p q))/\Below w.heap.size w w':=by
 have hdef:=Lib.hid (show Yg p q=(Xr p).all (YU q) from rfl);have hlp:=Yo hp;have hlq:=Yo hq;have hcl:(Xr p).length<=40:=by rw [Zm];exact hlp
 have hco:=Lib.hid (corners_ok hp);obtain ⟨W,hW⟩:∃ W,W=(w.alloc (.cells #[.slice a.A p.length a.c] 26)).alloc (.cells #[.slice b.A q.length b.c] 26):=⟨_,rfl⟩;have HA:Yi W w.heap.size [.slice a.A p.length a.c]:=by rw [hW];exact ZC
 have HB:Yi W (w.heap.size+1) [.slice b.A q.length b.c]:=by rw [hW];exact ZC
 have b0:Below w.heap.size w W:=by rw [hW];exact XF
 have sp:=hsp.below b0;have sq:=hsq.below b0;have hW':=Lib.hid hW;have kc:=iCorners_c p a W hp sp;clear hW hsp hsq;obtain ⟨cHA_0,fHA_0⟩:=HA.2 0 _ rfl;have lA:=HA.1;generalize Xr p=C at *;go_enter Tryz.func114,Tryz.ntmps114
 go_upto_region 1 with fail
 rw [<- hW'.out];clear hW';go_wp2_with (fail)
 refine kc.mono ?_;rintro e w1 ⟨v,rfl,N,hb1⟩;obtain ⟨Ac,cc,rfl,SC⟩:=N.sl JM;have HB1:=HB.below hb1;have SQ:=sq.below hb1;have b1:=Xh b0 hb1;clear N HA HB sp sq hb1 cHA_0 fHA_0 lA kc b0;go_wp2
 go_loopw [6,10] (λ _ i wr=>∃ k:Nat,k<=C.length/\i=.int .i64 k/\(C.take k).all (YU q)=true/\Below w1.heap.size w1 wr) (λ _ i _=>C.length-(intOf i).toNat)
 case atStart=>exact ⟨0,Nat.zero_le _,rfl,rfl,Below.refl _ _⟩
 case round =>
  obtain ⟨k,hk,rfl,hall,hbw⟩:=hrel;have bw:=b1.trans (hbw.mono b1.size);by_cases hlt:k<C.length
  ·obtain ⟨bb,off,rfl,hblt,hc⟩:=(SC.below hbw).at_ hlt;have g0:=hc 0 _ rfl;have g1:=hc 1 _ rfl;have g2:=hc 2 _ rfl;simp only [Nat.add_zero] at g0;have c1:=λ W h=>iHolds_c q b C[k] W (by omega) (Zo hq) (hco.out _ (List.getElem_mem hlt)) h;have hn:=Lib.hid (λ h=>@within_no C q k hlt h);have hy:=Lib.hid (λ h=>@within_step C q k hlt hall h);clear hc hall;generalize YU q C[k]=hv at *;generalize C[k]=s at *;have H1x:=(HB1.below hbw).alloc (.cells #[.int .i64 s.x,.int .i64 s.y,.int .i64 s.d] 30);have SQx:=(SQ.below hbw).alloc (.cells #[.int .i64 s.x,.int .i64 s.y,.int .i64 s.d] 30);have bx:=hbw.alloc hbw.size (.cells #[.int .i64 s.x,.int .i64 s.y,.int .i64 s.d] 30);have TX:=Yi.new wr #[.int .i64 s.x,.int .i64 s.y,.int .i64 s.d] 30;go_upto_region 4 with fail
   clear g0 g1 g2 hblt;generalize wr.alloc (.cells #[.int .i64 s.x,.int .i64 s.y,.int .i64 s.d] 30)=wx at *;generalize wr.heap.size=gx at *;obtain ⟨cH1x_0,fH1x_0⟩:=H1x.2 0 _ rfl;obtain ⟨cTX_0,fTX_0⟩:=TX.2 0 _ rfl;obtain ⟨cTX_1,fTX_1⟩:=TX.2 1 _ rfl;obtain ⟨cTX_2,fTX_2⟩:=TX.2 2 _ rfl;have l1:=H1x.1;have lx:=TX.1;cases hv
   ·have hv:=Lib.hid (hn.out rfl);go_wp2_with (fail)
    refine (c1 _ SQx).mono ?_;rintro e w3 ⟨rfl,hb3⟩;go_wp2
    go_ret
    exact ⟨by rw [hdef.out,hv.out];rfl,b1.trans ((Xh bx hb3).mono b1.size)⟩
   ·have hv:=Lib.hid (hy.out rfl);go_wp2_with (fail)
    refine (c1 _ SQx).mono ?_;rintro e w3 ⟨rfl,hb3⟩;go_wp2
    go_roundw
    case rel=>exact ⟨k+1,by omega,by go_num,hv.out,Xh bx hb3⟩
    case measure=>simp [intOf];omega
  ·obtain rfl:k=C.length:=by omega
   rw [List.take_length] at hall;have hv:=Lib.hid hall;clear hall;go_wp2
   go_ret
   exact ⟨by rw [hdef.out,hv.out];rfl,bw⟩
theorem getD_el {α:Type} {l:List α} {k:Nat} (h:k<l.length) (d:α):l.getD k d=l[k]:=by rw [List.getD_eq_getElem?_getD,List.getElem?_eq_getElem h,Option.getD_some]
theorem JV {α:Type} {l:List α} {k:Nat} (h:k<l.length) (d:α):l.getD k d∈l:=by rw [getD_el h];exact List.getElem_mem h
theorem Yi.grown {w w':World} {g:Nat} {vs:List Value} {row:Option Nat} (h:Yi w g vs) (hG:w.grownBy w' row) (hne:∀ k,row=some k->g≠k):Yi w' g vs:=by
 have hb:=hG.block g h.1 (λ e=>hne g e.symm rfl);refine ⟨Nat.lt_of_lt_of_le h.1 hG.size,λ j u hu=>?_⟩;have h2:=h.2 j u hu;exact ⟨(World.cell?_of_block (w:=w) hb).trans h2.1,(World.frozen?_of_block (w:=w) hb).trans h2.2⟩
theorem XH.own {α:Type} {T sz:Nat} {enc:α->List Value} {base:Nat} {w:World} {v:Value} {xs:List α} (h:XH T sz enc w base v xs):∀ k,v.ownBlock=some k->base<=k/\k<w.heap.size:=by
 obtain ⟨A,cap,rfl,hr⟩:=h;exact λ k e=>hr.lt k e
theorem run_appS {α:Type} {T sz:Nat} {enc:α->List Value} (Ye:∀ x,(enc x).length=sz) {P:Program} (w:World) (t ty:TypeId)
 (base:Nat) (i:TypeInfo) (z:Value) (bytes:Nat) (ht:P.underlying t=some (.slice T)) (hi:P.info? T=some i) (hz:i.zero=some z)
 (hsize:i.size=sz) (hby:i.bytes=bytes) (hzs:z.cells.size=sz) (hpos:0<sz)
 {v:Value} {xs ys:List α} (hown:XH T sz enc w base v xs)
 (B:Option Addr) (c:Nat) (hys:Sl sz enc w B ys) (hnil:B=none->c=0) (h1:∀ y,∀ u∈enc y,u.oneCell'=true)
 {W0:World} (hb:Below base W0 w) (hbase:base<=w.heap.size) (hn:xs.length+ys.length<=1073741824) (hbytes:bytes<=128) :
 ∃ v' w',(Builtin.append_ #[t,t] ty #[v,.slice B ys.length c]).run P w=.ok v' w'/\XH T sz enc w' base v' (xs++ys)/\Below base W0 w'/\w.grownBy w' v.ownBlock:=by
 obtain ⟨A,cap,rfl,hr⟩:=hown;have hb2:(xs.length+ys.length)*bytes<=1073741824*128:=Nat.mul_le_mul hn hbytes;have hl:(xs++ys).length=xs.length+ys.length:=List.length_append;have hf:(xs++ys).flatMap enc=xs.flatMap enc++ys.flatMap enc:=List.flatMap_append;have go:∀ ad:Addr,B=some ad->(∀ j u,(ys.flatMap enc)[j]? = some u->w.cell? (ad.add j)=some u)->∃ v' w',(Builtin.append_ #[t,t] ty #[.slice A xs.length cap,.slice B ys.length c]).run P w=.ok v' w'/\XH T sz enc w' base v' (xs++ys)/\Below base W0 w'/\w.grownBy w' (Value.slice A xs.length cap).ownBlock:=by
  intro ad hB hc;subst hB;obtain ⟨v',w',hrun,hown',hg,_⟩:=run_append_own (P:=P) w base t ty T i z sz bytes ht hi hz hsize hby hzs hpos _ _ _ hr ad ys.length c (ys.flatMap enc) (Zl Ye ys) hc (λ u hu=>by
   obtain ⟨y,_,hy⟩:=List.mem_flatMap.1 hu;exact h1 y u hy) (by unfold maxLen;omega) (by omega) hbase
  have hbl:=hb.grown hg hbase (λ k e=>(hr.lt k e).1);rw [<- hf] at hown';exact ⟨_,_,hrun,XH.mk' hl.symm hown',hbl,hg⟩
 by_cases h0:ys.length=0
 ·have hy:ys=[]:=List.eq_nil_of_length_eq_zero h0;subst hy;cases B with
  | none =>
   have hc0:=hnil rfl;subst hc0;have hrun:=run_append_owned_none (P:=P) (w:=w) base t ty T i sz ht hi _ _ _ hr;exact ⟨_,_,hrun,XH.mk' (n:=xs.length) (by simp) (by simpa using hr),hb,World.grownBy.refl _ _⟩
  | some ad=>exact go ad rfl (λ j u hu=>by simp at hu)
 ·obtain ⟨b,off,hB,_,hc⟩:=hys (by omega);refine go ⟨b,off,none⟩ hB (λ j u hu=>?_);rw [Addr.add_lit];have hjl:j<ys.length*sz:=by
   rw [<- Zl Ye ys];rcases Nat.lt_or_ge j (ys.flatMap enc).length with h3|h3
   ·exact h3
   ·rw [List.getElem?_eq_none h3] at hu;cases hu
  have hq:j / sz<ys.length:=Nat.div_lt_of_lt_mul (by rw [Nat.mul_comm];exact hjl);have hm:j % sz<sz:=Nat.mod_lt _ hpos;have hjj:j / sz*sz+j % sz=j:=by rw [Nat.mul_comm];exact Nat.div_add_mod j sz
  have hu2:(enc ys[j / sz])[j % sz]? = some ((enc ys[j / sz])[j % sz]'(by rw [Ye];exact hm)):=List.getElem?_eq_getElem _;have h4:=JX Ye ys _ hq _ _ hu2;rw [hjj,hu] at h4;have h5:=hc _ hq _ _ hu2;rw [Nat.add_assoc,hjj,<- h4] at h5;exact h5
theorem step_appO {α:Type} {T sz:Nat} {enc:α->List Value} (Ye:∀ x,(enc x).length=sz) {P:Program} {o:Oper} {a:Act} {w:World} {K:Act->World->Prop} {Q:Exit->Act->World->Prop} (s x:Operand) (t:TypeId)
 (ho:o.op=.call { callee:=.builtin .append,args:=#[s,x],argTypes:=#[t,t] })
 (base:Nat) (i:TypeInfo) (z:Value) (bytes:Nat) (ht:P.underlying t=some (.slice T)) (hi:P.info? T=some i) (hz:i.zero=some z)
 (hsize:i.size=sz) (hby:i.bytes=bytes) (hzs:z.cells.size=sz) (hpos:0<sz)
 {v:Value} {xs ys:List α} (hs:a.eval s=v) (hown:XH T sz enc w base v xs)
 (B:Option Addr) (c:Nat) (hx:a.eval x=.slice B ys.length c) (hys:Sl sz enc w B ys) (hnil:B=none->c=0) (h1:∀ y,∀ u∈enc y,u.oneCell'=true)
 (hbase:base<=w.heap.size) (hn:xs.length+ys.length<=1073741824) (hbytes:bytes<=128)
 (hK:∀ v' w',XH T sz enc w' base v' (xs++ys)->Below base w w'->w.grownBy w' v.ownBlock->K (a.put o.dst v') w'):Oper.wp P o a w K Q:=by
 obtain ⟨v',w',hrun,hN,hB,hG⟩:=run_appS Ye w t o.type base i z bytes ht hi hz hsize hby hzs hpos hown B c hys hnil h1 (Below.refl base w) hbase hn hbytes;unfold Oper.wp;simp [execOp,ho,resolve,invoke,builtin,hs,hx,hrun,Result.andThen];exact hK v' w' hN hB hG
theorem step_app0 {α:Type} {T sz:Nat} {enc:α->List Value} (Ye:∀ x,(enc x).length=sz) {P:Program} {o:Oper} {a:Act} {w:World} {K:Act->World->Prop} {Q:Exit->Act->World->Prop} (s x:Operand) (t:TypeId)
 (ho:o.op=.call { callee:=.builtin .append,args:=#[s,x],argTypes:=#[t,t] })
 (base:Nat) (i:TypeInfo) (z:Value) (bytes:Nat) (ht:P.underlying t=some (.slice T)) (hi:P.info? T=some i) (hz:i.zero=some z)
 (hsize:i.size=sz) (hby:i.bytes=bytes) (hzs:z.cells.size=sz) (hpos:0<sz)
 {p:Addr} {ys:List α} (hs:a.eval s=.slice (some p) 0 0) (hown:XH T sz enc w base (.slice (some p) 0 0) ([]:List α))
 (B:Option Addr) (c:Nat) (hx:a.eval x=.slice B ys.length c) (hys:Sl sz enc w B ys) (hnil:B=none->c=0)
 (hbase:base<=w.heap.size) (hn:ys.length<=1073741824) (hbytes:bytes<=128)
 (hK:∀ v' w',XH T sz enc w' base v' ys->Below w.heap.size w w'->K (a.put o.dst v') w'):Oper.wp P o a w K Q:=by
 have run:∃ v' w',(Builtin.append_ #[t,t] o.type #[.slice (some p) 0 0,.slice B ys.length c]).run P w=.ok v' w'/\XH T sz enc w' base v' ys/\Below w.heap.size w w':=by
  by_cases h0:ys.length=0
  ·have hy:ys=[]:=List.eq_nil_of_length_eq_zero h0;subst hy;refine ⟨_,_, ?_,hown,Below.refl _ _⟩;cases B with
   | none=>have:=hnil rfl;subst this;simp [Builtin.append_,run_underlying ht,sizeOf,typeInfo,hi,Builtin.lenOf,Builtin.firstCells,storeCells]
   | some ad=>simp [Builtin.append_,run_underlying ht,sizeOf,typeInfo,hi,Builtin.lenOf,Builtin.firstCells,storeCells,loadCells,loadCellsFrom]
  ·obtain ⟨b,off,hB,_,hc⟩:=hys (by omega);subst hB;have hb2:ys.length*bytes<=1073741824*128:=Nat.mul_le_mul hn hbytes;obtain ⟨v',w',hrun,hown',hg⟩:=run_append_arg_grows (P:=P) (w:=w) t o.type T i z sz bytes ht hi hz hsize hby hzs hpos p 0 0 [] (by simp) (λ j u hu=>by simp at hu) ⟨b,off,none⟩ ys.length c (ys.flatMap enc) (Zl Ye ys) (λ j u hu=>by
    rw [Addr.add_lit];have hjl:j<ys.length*sz:=by
     rw [<- Zl Ye ys];rcases Nat.lt_or_ge j (ys.flatMap enc).length with h3|h3
     ·exact h3
     ·rw [List.getElem?_eq_none h3] at hu;cases hu
    have hq:j / sz<ys.length:=Nat.div_lt_of_lt_mul (by rw [Nat.mul_comm];exact hjl);have hm:j % sz<sz:=Nat.mod_lt _ hpos;have hjj:j / sz*sz+j % sz=j:=by rw [Nat.mul_comm];exact Nat.div_add_mod j sz
    have hu2:(enc ys[j / sz])[j % sz]? = some ((enc ys[j / sz])[j % sz]'(by rw [Ye];exact hm)):=List.getElem?_eq_getElem _;have h4:=JX Ye ys _ hq _ _ hu2;rw [hjj,hu] at h4;have h5:=hc _ hq _ _ hu2;rw [Nat.add_assoc,hjj,<- h4] at h5;exact h5) (by omega) (by unfold maxLen;omega) (by rw [Nat.zero_add];omega)
   refine ⟨v',w',hrun, ?_,bR.grown hg Xf (λ k e=>by cases e)⟩;rw [Nat.zero_add,List.nil_append] at hown';exact (XH.mk' rfl hown').mono hbase
 obtain ⟨v',w',hrun,hN,hB⟩:=run;unfold Oper.wp;simp [execOp,ho,resolve,invoke,builtin,hs,hx,hrun,Result.andThen];exact hK v' w' hN hB
def J5 (p:List Half) (x y d:Int):Prop:=∀ h∈p,YA h x y d
theorem J0 {a b k:Int} (hk:0<k) (h:a*k<=b*k):a<=b:=Int.le_of_mul_le_mul_right h hk
theorem holdsH_pt {h:Half} {s:XJ}:holdsH s h=true ↔ YA h s.x s.y s.d:=by
 unfold holdsH valS YA;rw [decide_eq_true_eq];omega
theorem holdsB_pt {p:List Half} {s:XJ}:YU p s=true ↔ p≠[]/\J5 p s.x s.y s.d:=by
 unfold YU J5;rw [Bool.and_eq_true,List.all_eq_true];constructor
 ·rintro ⟨h1,h2⟩;exact ⟨by rintro rfl;simp at h1,λ h hh=>holdsH_pt.1 (h2 h hh)⟩
 ·rintro ⟨h1,h2⟩;refine ⟨?_,λ h hh=>holdsH_pt.2 (h2 h hh)⟩;cases p with
  | nil=>exact absurd rfl h1
  | cons a l=>simp
theorem inP_app {p q:List Half} {x y d:Int}:J5 (p++q) x y d ↔ J5 p x y d/\J5 q x y d :=
 ⟨λ h=>⟨λ g hg=>h g (List.mem_append.2 (.inl hg)),λ g hg=>h g (List.mem_append.2 (.inr hg))⟩,λ h g hg=>(List.mem_append.1 hg).elim (h.1 g) (h.2 g)⟩
theorem far_at {xs:List XJ} {a b:Int}:∀ k:Nat,k<=xs.length->k≠0->∃ j,j<k/\(Zd xs a b k).2.1=JB xs a b j/\(Zd xs a b k).2.2=Jo xs j
 | 0,_,h=>absurd rfl h
 | k+1,hk,_=>by
  by_cases hc:(Zd xs a b k).1<0∨0<J3 (JB xs a b k) (Jo xs k) (Zd xs a b k).2.1 (Zd xs a b k).2.2
  ·rw [farAt_yes hc];exact ⟨k,by omega,rfl,rfl⟩
  ·rw [farAt_no hc];have hk0:k≠0:=by
    rintro rfl;apply hc;left;simp [Zd]
   obtain ⟨j,h1,h2,h3⟩:=far_at (xs:=xs) (a:=a) (b:=b) k (by omega) hk0;exact ⟨j,by omega,h2,h3⟩
theorem J2 {p:List Half} (hr:Xe p=true) {s:XJ} (hs:s∈Xr p):J5 p s.x s.y s.d/\Xt s=true:=by
 obtain ⟨i,hi,rfl⟩:=List.getElem_of_mem hs;have hi':i<p.length:=by rw [Zm] at hi;exact hi
 have C:=reg_corner hr hi';rw [corners_at p i hi'];exact ⟨C.ins,C.ok⟩
theorem corners_ne {p:List Half} (hne:p≠[]):∃ s,s∈Xr p:=by
 have:0<(Xr p).length:=by rw [Zm];exact List.length_pos_iff.2 hne
 exact ⟨_,List.getElem_mem this⟩
theorem JG {s:XJ} (h:Xt s=true):1<=s.d:=(Z3.1 h).1.1
theorem sup_at {p:List Half} (hr:Xe p=true) (hne:p≠[]) {a b:Int} (ha : -50000<=a/\a<=50000) (hb : -50000<=b/\b<=50000):∃ s∈Xr p,(Kc p a b).n*s.d=(a*s.x+b*s.y)*(Kc p a b).d:=by
 have B:=supB hr hne ha hb;have hn:=B.n;have hd:=B.d;obtain ⟨ok,k,hk,e1,e2⟩:=ZZ (n:=(J8 p a b).2.1) (d:=(J8 p a b).2.2) ⟨by omega,by omega⟩ ⟨by omega,by omega⟩;change (J8 p a b).2.1=k*(Kc p a b).n at e1
 change (J8 p a b).2.2=k*(Kc p a b).d at e2
 obtain ⟨j,hj,h1,h2⟩:=far_at (xs:=Xr p) (a:=a) (b:=b) (Xr p).length Xf (by rw [Zm];have:=List.length_pos_iff.2 hne;omega);refine ⟨(Xr p).getD j Yx,JV hj Yx, ?_⟩;change (J8 p a b).2.1=a*((Xr p).getD j Yx).x+b*((Xr p).getD j Yx).y at h1
 change (J8 p a b).2.2=((Xr p).getD j Yx).d at h2
 rw [<- h1,<- h2,e1,e2];rw [Int.mul_left_comm,Int.mul_assoc]
theorem cor_span {p:List Half} (hr:Xe p=true) (hne:p≠[]) {a b c:Int} (A : -50000<=a/\a<=50000) (B : -50000<=b/\b<=50000) (hc:∀ s∈Xr p,a*s.x+b*s.y<=c*s.d) {x y d:Int} (hd:0<d) (hp:J5 p x y d):a*x+b*y<=c*d:=by
 have R:=supR hr hne A B;have g:=sup_ge hr hne A B hd hp;obtain ⟨s,hs,e⟩:=sup_at hr hne A B;have sd:=JG (J2 hr hs).2;have h1:=hc s hs;have D:=R.d;have m1:(a*s.x+b*s.y)*(Kc p a b).d<=c*s.d*(Kc p a b).d:=Int.mul_le_mul_of_nonneg_right h1 (by omega);have m2:(Kc p a b).n<=c*(Kc p a b).d:=by
  refine J0 (k:=s.d) (by omega) ?_;rw [e,Int.mul_right_comm c];exact m1
 have m3:(Kc p a b).n*d<=c*(Kc p a b).d*d:=Int.mul_le_mul_of_nonneg_right m2 (by omega);refine J0 (k:=(Kc p a b).d) (by omega) ?_;rw [Int.mul_right_comm c];omega
theorem within_pts {p q:List Half} (hp:Xe p=true) (hne:p≠[]) (hq:Xe q=true) (h:Yg p q=true):q≠[]/\∀ x y d,0<d->J5 p x y d->J5 q x y d:=by
 unfold Yg at h;rw [List.all_eq_true] at h;obtain ⟨s,hs⟩:=corners_ne hne;refine ⟨(holdsB_pt.1 (h s hs)).1,λ x y d hd hz g hg=>?_⟩;obtain ⟨A,B,_⟩:=Zv.1 (Zo hq g hg);exact cor_span hp hne A B (λ t ht=>(holdsB_pt.1 (h t ht)).2 g hg) hd hz
theorem pts_within {p q:List Half} (hp:Xe p=true) (hq:p≠[]->q≠[]) (h:p≠[]->∀ x y d,0<d->J5 p x y d->J5 q x y d):Yg p q=true:=by
 unfold Yg;rw [List.all_eq_true];intro s hs;have hne:p≠[]:=by rintro rfl;simp [Xr] at hs
 obtain ⟨h1,h2⟩:=J2 hp hs;have:=JG h2;exact holdsB_pt.2 ⟨hq hne,h hne _ _ _ (by omega) h1⟩
theorem reg_frame {p:List Half} (hr:Xe p=true) (hne:p≠[]) {x y d:Int} (hd:0<=d) (h:J5 p x y d):J5 YT x y d:=by
 obtain ⟨_,hok,hm⟩:=(reg_iff hr).resolve_left hne;have hne2:XR (Xq p)≠[]:=by rw [hm];exact hne
 exact (inP_app.1 ((meet_holds hok hne2 hd).1 (by rw [hm];exact h))).1
theorem ne_of_inner {hs:List Half} (hok:∀ h∈hs,Xy h=true) {x y d:Int} (hd:0<d) (hst:∀ f∈YT++hs,f.a*x+f.b*y<f.c*d):XR (Xq hs)≠[]:=by
 have gd:=Z5 hok;have c:=Zu (hs:=YT++hs) (λ f hf=>(JR (ZV hok f hf)).n);have hst':∀ f∈Xq hs,0<slk x y d f:=by
  intro f hf;have:=hst f (c.mem f hf);unfold slk;omega
 obtain ⟨e,he,hedge⟩:=edge_exists gd hd hst';have hv:¬ voidB (Xq hs)=true:=λ h=>nvoid_of gd hst' hd ((voidB_iff gd).1 h);rw [meetI_nvoid hv];intro h0;have:e∈(Xq hs).filter (Jm (Xq hs)):=List.mem_filter.2 ⟨he,(edge_iff gd (gd.nz e he)).2 hedge⟩;rw [h0] at this;cases this
theorem halfOf_pts {a b c:Int} {g:Half} (h:Zy a b c=some g) {x y d:Int}:YA g x y d ↔ a*x+b*y<=c*d:=by
 have hok:=halfOf_ok h;unfold Zy at h;split at h
 ·cases h
 ·rename_i h0
  split at h
  ·injection h with h
   obtain ⟨e1,e2,e3⟩:=@gcdAll_dvd a b c;have g0:((Xu [a,b,c]:Nat):Int)≠0:=by
    intro e;exact h0 (.inl (by omega))
   rw [<- h];unfold YA redHalf;simp only;have gp:=Int.natCast_nonneg (Xu [a,b,c]);clear h h0 hok;generalize ((Xu [a,b,c]:Nat):Int)=g at *;obtain ⟨p,rfl⟩:=e1;obtain ⟨q,rfl⟩:=e2;obtain ⟨r,rfl⟩:=e3;rw [Int.mul_tdiv_cancel_left _ g0,Int.mul_tdiv_cancel_left _ g0,Int.mul_tdiv_cancel_left _ g0];have e:g*p*x+g*q*y=g*(p*x+q*y):=by rw [Int.mul_add,Int.mul_assoc,Int.mul_assoc]
   rw [e,Int.mul_assoc];constructor
   ·intro k;exact Int.mul_le_mul_of_nonneg_left k gp
   ·intro k;exact Int.le_of_mul_le_mul_left k (by omega)
  ·cases h
theorem meetR_pts {hs:List Half} (hok:∀ h∈hs,Xy h=true) (hne:Yd (Xq hs)≠[]) {x y d:Int} (hd:0<=d):J5 (Yd (Xq hs)) x y d ↔ J5 YT x y d/\J5 hs x y d:=by
 unfold Yd at hne ⊢;split at hne
 ·rename_i h
  rw [if_pos h,<- inP_app];exact meet_holds hok hne hd
 ·exact absurd rfl hne
theorem movL_mem {f:Half->Option Half} {p:List Half} (ha:ZF f p=true) {g:Half}:g∈KQ f p ↔ ∃ h∈p,f h=some g:=by
 unfold KQ;rw [List.mem_map];unfold ZF at ha;rw [List.all_eq_true] at ha;constructor
 ·rintro ⟨h,hh,rfl⟩;refine ⟨h,hh, ?_⟩;obtain ⟨v,e⟩:=Option.isSome_iff_exists.1 (ha h hh);rw [e];rfl
 ·rintro ⟨h,hh,e⟩;exact ⟨h,hh,by rw [e];rfl⟩
theorem movR_pts {f:Half->Option Half} {p:List Half} (hf:∀ h∈p,∀ g,f h=some g->Xy g=true) (hne:ZS f p≠[]):p≠[]/\ZF f p=true/\∀ {x y d:Int},0<=d->(J5 (ZS f p) x y d ↔ J5 YT x y d/\∀ h∈p,∀ g,f h=some g->YA g x y d):=by
 have hp:p.length≠0:=λ h=>hne (mov_void h).2;have ha:ZF f p=true:=by
  cases e:ZF f p
  ·exfalso;apply hne;unfold ZS;rw [if_pos (.inr e)]
  ·rfl
 obtain ⟨_,e⟩:=mov_all hp ha;rw [e] at hne ⊢;refine ⟨by rintro rfl;exact hp rfl,ha,λ hd=>?_⟩;rw [meetR_pts (movL_ok hf ha) hne hd];refine and_congr_right λ _=>?_;constructor
 ·intro h k hk g hg;exact h g ((movL_mem ha).2 ⟨k,hk,hg⟩)
 ·intro h g hg;obtain ⟨k,hk,e⟩:=(movL_mem ha).1 hg;exact h k hk g e
theorem ero_pts {w:List Half} {h g:Half} (_:Xe w=true) (_:w≠[]) (_:Xy h=true) (e:Kg w h=some g) {x y d:Int}:YA g x y d ↔ (h.a*x+h.b*y)*(Kc w h.a h.b).d<=(h.c*(Kc w h.a h.b).d-(Kc w h.a h.b).n)*d:=by
 unfold Kg at e;rw [halfOf_pts e,Int.add_mul,Int.mul_right_comm h.a,Int.mul_right_comm h.b]
theorem ero_add {w p:List Half} (hw:Xe w=true) (hwn:w≠[]) (hp:Xe p=true) (hne:ZS (Kg w) p≠[]) {x y d u v e:Int} (hd:0<d) (he:0<e) (hz:J5 (ZS (Kg w) p) x y d) (ht:J5 w u v e):J5 p (x*e+u*d) (y*e+v*d) (d*e):=by
 obtain ⟨_,ha,hi⟩:=movR_pts (λ _ _ _ e=>eroH_ok e) hne;have hz2:=((hi (by omega)).1 hz).2;intro h hh;have hk:=Zo hp h hh;obtain ⟨A,B,_⟩:=Zv.1 hk;have R:=supR hw hwn A B;have D:=R.d;have s1:=sup_ge hw hwn A B he ht;unfold ZF at ha;rw [List.all_eq_true] at ha;obtain ⟨g,eg⟩:=Option.isSome_iff_exists.1 (ha h hh);have s2:=(ero_pts hw hwn hk eg).1 (hz2 h hh g eg);generalize (Kc w h.a h.b).d=dd at *;generalize (Kc w h.a h.b).n=nn at *;unfold YA;refine J0 (k:=dd) (by omega) ?_;have m1:=Int.mul_le_mul_of_nonneg_right s2 (show 0<=e by omega);have m2:=Int.mul_le_mul_of_nonneg_right s1 (show 0<=d by omega);have e1:(h.a*(x*e+u*d)+h.b*(y*e+v*d))*dd=(h.a*x+h.b*y)*dd*e+(h.a*u+h.b*v)*dd*d:=by grind
 have e2:h.c*(d*e)*dd=(h.c*dd-nn)*d*e+nn*e*d:=by grind
 omega
end Go.Proofs.YtabfdkpdppemaaaGreat
