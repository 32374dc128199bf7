/-
 ShiftSpot of the program and of the reference: one function of mathematics.
-/
import Derived.Deep.RegionHeld3
import Derived.Test.YtkjimfapbjdafaaGreatGrU
import Derived.Lib.SliceRun
import Derived.Test.YtkjimfapbjdafaaGreatGrXf
import Derived.Deep.DeepMust
import Derived.Deep.DeepCutAuto
import Derived.ProofKit
import Derived.OpenShut
import Derived.ChangeOld
import Derived.Below
set_option maxRecDepth 100000
namespace Go.Proofs.YtkjimfapbjdafaaGreat
open Go.RowKit
def shiftSpot (s:Ya) (dx dy:Int):Option Ya :=
 if Xu s=true/\ZD dx (-2000) 2000=true/\ZD dy (-2000) 2000=true then ZK (s.x+dx*s.d) (s.y+dy*s.d) s.d else none
def sh (s:Ya) (dx dy:Int):Nat->Option Ya
 | 0=>shiftSpot s (-dx) (-dy)
 | 1=>shiftSpot s dx (-dy)
 | 2=>shiftSpot s dx dy
 | _=>shiftSpot s (-dx) dy
theorem getD_el {α:Type} {l:List α} {k:Nat} (h:k<l.length) (d:α):l.getD k d=l[k]:=by rw [List.getD_eq_getElem?_getD,List.getElem?_eq_getElem h,Option.getD_some]
theorem JI {α:Type} {l:List α} {k:Nat} (h:k<l.length) (d:α):l.getD k d∈l:=by rw [getD_el h];exact List.getElem_mem h
theorem XI.mk0 {α:Type} {T sz:Nat} {enc:α->List Value} (w:World):XI T sz enc (w.alloc (.cells #[] T)) w.heap.size (.slice (some ⟨w.heap.size,0,none⟩) 0 0) ([]:List α) :=
 ⟨_,0,rfl,by simp,.inr ⟨w.heap.size,0,#[],rfl,by simp,by have:=heap_alloc_new w (.cells #[] T);simpa using this,Nat.zero_le _,Nat.zero_le _,by simp,by simp⟩⟩
theorem YI.put {w:World} {g:Nat} {vs:List Value} (h:YI w g vs) (j:Nat) (hj:j<vs.length) (u:Value):YI (w.setCell ⟨g,j,none⟩ u) g (vs.set j u):=by
 refine ⟨by simpa [World.setCell] using h.1,λ i v hv=>?_⟩;by_cases e:i=j
 ·subst e;rw [List.getElem?_set_self hj] at hv;cases hv;have h2:=h.2 i _ (List.getElem?_eq_getElem hj);exact ⟨World.cell?_setCell_same' _ _ _ (by rw [h2.1];rfl),(World.frozen?_setCell _ _ _ _).trans h2.2⟩
 ·rw [List.getElem?_set_ne (Ne.symm e)] at hv;have h2:=h.2 i v hv;exact ⟨(World.cell?_setCell_other w _ _ u (λ q=>e (by injection q with _ q2 _;exact q2.symm))).trans h2.1,(World.frozen?_setCell _ _ _ _).trans h2.2⟩
theorem XI.lowC {α:Type} {T sz base:Nat} {enc:α->List Value} {v:Value} {xs:List α} {w:World} (h:XI T sz enc w base v xs) {q:Addr} (hq:q.block<base) (us:List Value):XI T sz enc (w.setCells q.block q.off us) base v xs:=by
 induction us generalizing w q with
 | nil=>exact h
 | cons u r ih=>exact ih (q:=⟨q.block,q.off+1,none⟩) (h.set_ (p:=⟨q.block,q.off,none⟩) hq u) hq
theorem XT.lowC {w:World} {base:Nat} {x:List Half} {a:ZY} (h:XT w base x a) {q:Addr} (hq:q.block<base) (us:List Value):XT (w.setCells q.block q.off us) base x a:=⟨h.halves.lowC hq us⟩
theorem Kr {B:Nat} {a w:World} (h:Below B a w) {g o:Nat} (hg:B<=g) (us:List Value):Below B a (w.setCells g o us):=Z2 hg us o w h
def YM (f:Half->Option Half) (p:List Half):List Half:=p.map λ h=>(f h).getD Xc
def Kc (f:Half->Option Half) (p:List Half):Bool:=p.all λ h=>(f h).isSome
def ZA (f:Half->Option Half) (p:List Half):Bool:=decide (p.length=0)||(Kc f p&&Zl (XH (YM f p)))
def ZZ (f:Half->Option Half) (p:List Half):List Half:=if p.length=0∨Kc f p=false then [] else Yx (XH (YM f p))
theorem mov_void {f:Half->Option Half} {p:List Half} (h:p.length=0):ZA f p=true/\ZZ f p=[]:=by
 unfold ZA ZZ;rw [decide_eq_true h,if_pos (.inl h)];exact ⟨rfl,rfl⟩
theorem mov_none {f:Half->Option Half} {p:List Half} {k:Nat} (h:k<p.length) (hn:f p[k]=none):ZA f p=false/\ZZ f p=[]:=by
 have ha:Kc f p=false:=by
  unfold Kc;rw [List.all_eq_false];exact ⟨p[k],List.getElem_mem h,by rw [hn];decide⟩
 unfold ZA ZZ;rw [ha,if_pos (.inr rfl),decide_eq_false (by omega)];exact ⟨rfl,rfl⟩
theorem mov_all {f:Half->Option Half} {p:List Half} (h:p.length≠0) (ha:Kc f p=true):ZA f p=Zl (XH (YM f p))/\ZZ f p=Yx (XH (YM f p)):=by
 unfold ZA ZZ;rw [ha,decide_eq_false h,if_neg (by intro h2;rcases h2 with h2|h2;exact h h2;cases h2)];exact ⟨rfl,rfl⟩
theorem movL_take {f:Half->Option Half} {p:List Half} {k:Nat} {g:Half} (h:k<p.length) (hg:f p[k]=some g):YM f (p.take (k+1))=YM f (p.take k)++[g]:=by
 unfold YM;rw [Kn p k h,List.map_append];simp [hg]
theorem movAll_take {f:Half->Option Half} {p:List Half} {k:Nat} {g:Half} (h:k<p.length) (h1:Kc f (p.take k)=true) (hg:f p[k]=some g):Kc f (p.take (k+1))=true:=by
 unfold Kc at h1 ⊢;rw [Kn p k h,List.all_append,h1];simp [hg]
theorem movL_ok {f:Half->Option Half} {p:List Half} (hf:∀ h∈p,∀ g,f h=some g->XW g=true) (ha:Kc f p=true):∀ g∈YM f p,XW g=true:=by
 intro g hg;unfold YM at hg;obtain ⟨h,hh,rfl⟩:=List.mem_map.1 hg;unfold Kc at ha;have:=List.all_eq_true.1 ha h hh;cases e:f h with
 | none=>rw [e] at this;cases this
 | some g=>exact hf h hh g e
theorem KP (f:Half->Option Half) (p:List Half):(YM f p).length=p.length:=by unfold YM;rw [List.length_map]
theorem halfOf_ok {a b c:Int} {g:Half} (h:Ke a b c=some g):XW g=true:=by
 unfold Ke at h;split at h
 ·cases h
 split at h
 ·rename_i h2
  cases h;exact h2
 ·cases h
theorem movR_ok {f:Half->Option Half} {p:List Half} (hf:∀ h∈p,∀ g,f h=some g->XW g=true):Xf (ZZ f p)=true:=by
 unfold ZZ;split
 ·rfl
 ·rename_i h
  have ha:Kc f p=true:=by
   cases e:Kc f p
   ·exact absurd (.inr e) h
   ·rfl
  unfold Yx;split
  ·rename_i h2
   unfold Zl at h2;exact regionOk_meet (movL_ok hf ha) (of_decide_eq_true h2)
  ·rfl
theorem eroH_ok {q:List Half} {h g:Half} (e:ZO q h=some g):XW g=true:=halfOf_ok e
structure EroB (h:Half) (r:YA):Prop where
 x : -250000000000000<=h.a*r.d/\h.a*r.d<=250000000000000
 y : -250000000000000<=h.b*r.d/\h.b*r.d<=250000000000000
 c : -500000000000000000<=h.c*r.d/\h.c*r.d<=500000000000000000
 n : -500000000000000000<=r.n/\r.n<=500000000000000000
 d:1<=r.d/\r.d<=5000000000
theorem eroB {h:Half} {q:List Half} (hh:XW h=true) (hq:Xf q=true) (hne:q≠[]):EroB h (KU q h.a h.b):=by
 obtain ⟨a1,a2,a3,_⟩:=Kd.1 hh;have R:=supR hq hne (a:=h.a) (b:=h.b) ⟨by omega,by omega⟩ ⟨by omega,by omega⟩;have d1:=R.d;have p:=JC (a:=h.a) (b:=(KU q h.a h.b).d) (A:=50000) (B:=5000000000) ⟨by omega,by omega⟩ ⟨by omega,by omega⟩;have q2:=JC (a:=h.b) (b:=(KU q h.a h.b).d) (A:=50000) (B:=5000000000) ⟨by omega,by omega⟩ ⟨by omega,by omega⟩;have r:=JC (a:=h.c) (b:=(KU q h.a h.b).d) (A:=100000000) (B:=5000000000) ⟨by omega,by omega⟩ ⟨by omega,by omega⟩;exact ⟨⟨by omega,by omega⟩,⟨by omega,by omega⟩,⟨by omega,by omega⟩,R.n,R.d⟩
theorem YI.grown {w w':World} {g:Nat} {vs:List Value} {row:Option Nat} (h:YI w g vs) (hG:w.grownBy w' row) (hne:∀ k,row=some k->g≠k):YI w' g vs:=by
 have hb:=hG.block g h.1 (λ e=>hne g e.symm rfl);refine ⟨Nat.lt_of_lt_of_le h.1 hG.size,λ j u hu=>?_⟩;have h2:=h.2 j u hu;exact ⟨(World.cell?_of_block (w:=w) hb).trans h2.1,(World.frozen?_of_block (w:=w) hb).trans h2.2⟩
theorem XI.own {α:Type} {T sz:Nat} {enc:α->List Value} {base:Nat} {w:World} {v:Value} {xs:List α} (h:XI T sz enc w base v xs):∀ k,v.ownBlock=some k->base<=k/\k<w.heap.size:=by
 obtain ⟨A,cap,rfl,hr⟩:=h;exact λ k e=>hr.lt k e
theorem run_appS {α:Type} {T sz:Nat} {enc:α->List Value} (YT:∀ x,(enc x).length=sz) {P:Program} (w:World) (t ty:TypeId)
 (base:Nat) (i:TypeInfo) (z:Value) (bytes:Nat) (ht:P.underlying t=some (.slice T)) (hi:P.info? T=some i) (hz:i.zero=some z)
 (hsize:i.size=sz) (hby:i.bytes=bytes) (hzs:z.cells.size=sz) (hpos:0<sz)
 {v:Value} {xs ys:List α} (hown:XI T sz enc w base v xs)
 (B:Option Addr) (c:Nat) (hys:Sl sz enc w B ys) (hnil:B=none->c=0) (h1:∀ y,∀ u∈enc y,u.oneCell'=true)
 {W0:World} (hb:Below base W0 w) (hbase:base<=w.heap.size) (hn:xs.length+ys.length<=1073741824) (hbytes:bytes<=128) :
 ∃ v' w',(Builtin.append_ #[t,t] ty #[v,.slice B ys.length c]).run P w=.ok v' w'/\XI T sz enc w' base v' (xs++ys)/\Below base W0 w'/\w.grownBy w' v.ownBlock:=by
 obtain ⟨A,cap,rfl,hr⟩:=hown;have hb2:(xs.length+ys.length)*bytes<=1073741824*128:=Nat.mul_le_mul hn hbytes;have hl:(xs++ys).length=xs.length+ys.length:=List.length_append;have hf:(xs++ys).flatMap enc=xs.flatMap enc++ys.flatMap enc:=List.flatMap_append;have go:∀ ad:Addr,B=some ad->(∀ j u,(ys.flatMap enc)[j]? = some u->w.cell? (ad.add j)=some u)->∃ v' w',(Builtin.append_ #[t,t] ty #[.slice A xs.length cap,.slice B ys.length c]).run P w=.ok v' w'/\XI T sz enc w' base v' (xs++ys)/\Below base W0 w'/\w.grownBy w' (Value.slice A xs.length cap).ownBlock:=by
  intro ad hB hc;subst hB;obtain ⟨v',w',hrun,hown',hg,_⟩:=run_append_own (P:=P) w base t ty T i z sz bytes ht hi hz hsize hby hzs hpos _ _ _ hr ad ys.length c (ys.flatMap enc) (ZX YT ys) hc (λ u hu=>by
   obtain ⟨y,_,hy⟩:=List.mem_flatMap.1 hu;exact h1 y u hy) (by unfold maxLen;omega) (by omega) hbase
  have hbl:=hb.grown hg hbase (λ k e=>(hr.lt k e).1);rw [<- hf] at hown';exact ⟨_,_,hrun,XI.mk' hl.symm hown',hbl,hg⟩
 by_cases h0:ys.length=0
 ·have hy:ys=[]:=List.eq_nil_of_length_eq_zero h0;subst hy;cases B with
  | none =>
   have hc0:=hnil rfl;subst hc0;have hrun:=run_append_owned_none (P:=P) (w:=w) base t ty T i sz ht hi _ _ _ hr;exact ⟨_,_,hrun,XI.mk' (n:=xs.length) (by simp) (by simpa using hr),hb,World.grownBy.refl _ _⟩
  | some ad=>exact go ad rfl (λ j u hu=>by simp at hu)
 ·obtain ⟨b,off,hB,_,hc⟩:=hys (by omega);refine go ⟨b,off,none⟩ hB (λ j u hu=>?_);rw [Addr.add_lit];have hjl:j<ys.length*sz:=by
   rw [<- ZX YT ys];rcases Nat.lt_or_ge j (ys.flatMap enc).length with h3|h3
   ·exact h3
   ·rw [List.getElem?_eq_none h3] at hu;cases hu
  have hq:j / sz<ys.length:=Nat.div_lt_of_lt_mul (by rw [Nat.mul_comm];exact hjl);have hm:j % sz<sz:=Nat.mod_lt _ hpos;have hjj:j / sz*sz+j % sz=j:=by rw [Nat.mul_comm];exact Nat.div_add_mod j sz
  have hu2:(enc ys[j / sz])[j % sz]? = some ((enc ys[j / sz])[j % sz]'(by rw [YT];exact hm)):=List.getElem?_eq_getElem _;have h4:=flatMap_at YT ys _ hq _ _ hu2;rw [hjj,hu] at h4;have h5:=hc _ hq _ _ hu2;rw [Nat.add_assoc,hjj,<- h4] at h5;exact h5
theorem step_appO {α:Type} {T sz:Nat} {enc:α->List Value} (YT:∀ x,(enc x).length=sz) {P:Program} {o:Oper} {a:Act} {w:World} {K:Act->World->Prop} {Q:Exit->Act->World->Prop} (s x:Operand) (t:TypeId)
 (ho:o.op=.call { callee:=.builtin .append,args:=#[s,x],argTypes:=#[t,t] })
 (base:Nat) (i:TypeInfo) (z:Value) (bytes:Nat) (ht:P.underlying t=some (.slice T)) (hi:P.info? T=some i) (hz:i.zero=some z)
 (hsize:i.size=sz) (hby:i.bytes=bytes) (hzs:z.cells.size=sz) (hpos:0<sz)
 {v:Value} {xs ys:List α} (hs:a.eval s=v) (hown:XI T sz enc w base v xs)
 (B:Option Addr) (c:Nat) (hx:a.eval x=.slice B ys.length c) (hys:Sl sz enc w B ys) (hnil:B=none->c=0) (h1:∀ y,∀ u∈enc y,u.oneCell'=true)
 (hbase:base<=w.heap.size) (hn:xs.length+ys.length<=1073741824) (hbytes:bytes<=128)
 (hK:∀ v' w',XI T sz enc w' base v' (xs++ys)->Below base w w'->w.grownBy w' v.ownBlock->K (a.put o.dst v') w'):Oper.wp P o a w K Q:=by
 obtain ⟨v',w',hrun,hN,hB,hG⟩:=run_appS YT w t o.type base i z bytes ht hi hz hsize hby hzs hpos hown B c hys hnil h1 (Below.refl base w) hbase hn hbytes;unfold Oper.wp;simp [execOp,ho,resolve,invoke,builtin,hs,hx,hrun,Result.andThen];exact hK v' w' hN hB hG
end Go.Proofs.YtkjimfapbjdafaaGreat
namespace Go.Proofs.YtkjimfapbjdafaaGreat
open Go.RowKit Go.ChangeShapes Go.WideShapes Go.ChangeAt Go.Deep
theorem own_:ownKnob Tryz.prog.godebug=none:=by kernel_rfl
theorem Jk:laidOutB Tryz.prog=true:=by kernel_rfl
theorem KS {n:Int} (h:(Lit.int .i64 n).wf=true):Zv n:=by
 simp [Lit.wf,IntKind.min,IntKind.max,IntKind.signed,IntKind.bits] at h;exact ⟨by omega,by omega⟩
def intsC (ns:List Int):List Value:=ns.map (Value.int .i64)
section
variable {H:Type} {enc:TypeId × Value->H} {P:Program} {w:World} {base:Nat} {spare:Nat->Bool} {held:Bool}
def allInts (P:Program) (fs:Array Field):Bool:=fs.toList.all λ f=>match P.underlying f.type with|some (.int .i64)=>true|_=>false
theorem open_ints_cells {fs:Array Field} {fuel:Nat} {t:TypeId} {cs:List Value} {x:DataW H × List MemPlace} (he:P.underlying t=some (.struct fs)) (hone:oneCellFields P fs=true) (hC:P.cellsOf t=fs.size)
 (hint:allInts P fs=true) (h:DataW.trod enc P w base spare held fuel t cs=some x) :
 ∃ ns:List Int,ns.length=fs.size/\(∀ n∈ns,Zv n)/\cs=intsC ns:=by
 obtain ⟨ys,n',_,_,hlen,hyl,hf⟩:=DataW.trod_struct he h;rw [hC] at hlen;have each:∀ j,j<fs.size->∃ n:Int,Zv n/\cs[j]? = some (.int .i64 n):=by
  intro j hj;have hfj:fs[j]? = some fs[j]:=Array.getElem?_eq_getElem hj;obtain ⟨ho,hk⟩:=hone_of hone j _ hfj;have hint':P.underlying fs[j].type=some (.int .i64):=by
   have:=List.all_eq_true.1 hint fs[j] (by simp);split at this
   ·assumption
   ·cases this
  have h1:=hf j _ hfj;rw [ho,hk] at h1;have e1:(cs.drop j).take 1=[cs[j]'(by omega)]:=by
   rw [List.drop_eq_getElem_cons (by omega)];rfl
  rw [e1,List.getElem?_eq_getElem (by omega)] at h1;obtain ⟨n,hn,_,hwf⟩:=DataW.trod_int hint' h1;refine ⟨n,KS hwf, ?_⟩;rw [List.getElem?_eq_getElem (by omega)];simpa using hn
 obtain ⟨f,hf2⟩:=choose_lt each;refine ⟨(List.range fs.size).map f,by simp, ?_, ?_⟩
 ·intro n hn;simp only [List.mem_map,List.mem_range] at hn;obtain ⟨j,hj,rfl⟩:=hn;exact (hf2 j hj).1
 ·apply List.ext_getElem?;intro j;rcases Nat.lt_or_ge j fs.size with hj|hj
  ·rw [(hf2 j hj).2];simp [intsC,List.getElem?_range hj]
  ·rw [List.getElem?_eq_none (by omega),List.getElem?_eq_none (by simp [intsC];omega)]
theorem open_slice_rows {fuel k:Nat} {t e:TypeId} {cs:List Value} {x:DataW H × List MemPlace} (ht:P.underlying t=some (.slice e)) (hk:P.cellsOf e=k)
 (hel:∀ n cs' x',DataW.trod enc P w base spare held n e cs'=some x'->∃ ns:List Int,ns.length=k/\(∀ n∈ns,Zv n)/\cs'=intsC ns)
 (hpos:0<k) (h:DataW.trod enc P w base spare held fuel t cs=some x) :
 ∃ A n cap,cs=[.slice A n cap]/\n<=9223372036854775807/\∃ rows:List (List Int),rows.length=n/\(∀ r∈rows,r.length=k/\∀ n∈r,Zv n)/\Sl k intsC w A rows:=by
 rcases open_slice ht h with ⟨hcs,_⟩|⟨a,len,cap,m,n,D,Pl,hcs,hb,hl,hm,hmm,hx,hi⟩
 ·exact ⟨_,_,_,hcs,by omega,[],rfl,by simp,λ h=>by simp at h⟩
 ·refine ⟨_,_,_,hcs,by unfold maxLen at hm;omega, ?_⟩;have hlm:len<=m:=by rw [hmm];split<;>omega
  have each:∀ i,i<len->∃ ns:List Int,ns.length=k/\(∀ n∈ns,Zv n)/\w.cells? base (a.add (i*k)) k=some (intsC ns):=by
   intro i hil;obtain ⟨cs',h1,h2⟩:=hi i (by omega);obtain ⟨ns,h3,h4,h5⟩:=hel _ _ _ h2;rw [hk] at h1;exact ⟨ns,h3,h4,by rw [h1,h5]⟩
  obtain ⟨f,hf⟩:=choose_lt each;refine ⟨(List.range len).map f,by simp, ?_, ?_⟩
  ·intro r hr;simp only [List.mem_map,List.mem_range] at hr;obtain ⟨i,hil,rfl⟩:=hr;exact ⟨(hf i hil).1,(hf i hil).2.1⟩
  ·intro h0;simp at h0;obtain ⟨b,off,spot⟩:=a;have hspot:spot=none:=by
    obtain ⟨h3,h4,h5⟩:=hf 0 h0;obtain ⟨_,h6,h7⟩:=World.cells?_some h5;have h8:=h7 0 hpos;rw [List.getElem?_eq_getElem (by omega)] at h8;have:=World.cell?_spot h8;simpa [Addr.add] using this
   subst hspot;have hadd:∀ m:Nat,(⟨b,off,none⟩:Addr).add m=⟨b,off+m,none⟩:=by
    intro m;unfold Addr.add;split
    ·subst_vars;rfl
    ·rfl
   have hcell:∀ i,i<len->∀ j u,(intsC (f i))[j]? = some u->w.cell? ⟨b,off+i*k+j,none⟩=some u:=by
    intro i hil j u hu;obtain ⟨h3,h4,h5⟩:=hf i hil;obtain ⟨_,h6,h7⟩:=World.cells?_some h5;have hj:j<k:=by
     rcases Nat.lt_or_ge j k with h|h
     ·exact h
     ·rw [List.getElem?_eq_none (by omega)] at hu;cases hu
    have h8:=h7 j hj;rw [hu,add_add,hadd] at h8;rw [<- h8];congr 2;omega
   refine ⟨b,off,rfl, ?_, ?_⟩
   ·obtain ⟨h3,h4,h5⟩:=hf 0 h0;have hl3:0<(intsC (f 0)).length:=by simp [intsC];omega
    have:=hcell 0 h0 0 _ (List.getElem?_eq_getElem hl3);exact block_lt_of_cell this
   ·intro i hil j u hu;simp only [List.length_map,List.length_range] at hil;simp only [List.getElem_map,List.getElem_range] at hu;exact hcell i hil j u hu
theorem open_intS {fuel:Nat} {t e:TypeId} {cs:List Value} {x:DataW H × List MemPlace} (ht:P.underlying t=some (.slice e)) (he:P.underlying e=some (.int .i64)) (hk:P.cellsOf e=1)
 (h:DataW.trod enc P w base spare held fuel t cs=some x) :
 ∃ A cap,∃ xs:List Int,cs=[.slice A xs.length cap]/\xs.length<=9223372036854775807/\(∀ n∈xs,Zv n)/\Sl 1 Y6 w A xs:=by
 obtain ⟨A,n,cap,hcs,hn,rows,hl,hr,hs⟩:=open_slice_rows (k:=1) ht hk (λ n cs' x' h'=>by
  obtain ⟨m,h1,_,h2⟩:=DataW.trod_int he h';exact ⟨[m],rfl,by simpa using KS h2,by simp [h1,intsC]⟩) (by omega) h
 refine ⟨A,cap,rows.map (λ r=>r.getD 0 0),by simp [hcs,hl],by simp;omega, ?_,hs.map _ ?_⟩
 ·intro x hx;simp only [List.mem_map] at hx;obtain ⟨r,hr',rfl⟩:=hx;match r,hr r hr' with
  | [a],h=>simpa using h.2 a (by simp)
 ·intro r hr';match r,hr r hr' with
  | [a],h=>rfl
end
theorem openHalfS {H:Type} {enc:TypeId × Value->H} {W:World} {base:Nat} {spare:Nat->Bool} {held:Bool} {fuel:Nat} {cs:List Value} {x:DataW H × List MemPlace}
 (h:DataW.trod enc Tryz.prog W base spare held fuel 23 cs=some x) :
 ∃ A cap xs,cs=[.slice A (List.length xs) cap]/\xs.length<=9223372036854775807/\(∀ x∈xs,Half.In x)/\Sl 3 Xk W A xs:=by
 obtain ⟨A,n,cap,hcs,hn,rows,hl,hr,hs⟩:=open_slice_rows (k:=3) Tryz.underlying23 (by kernel_rfl)
  (λ n cs' x' h'=>open_ints_cells Tryz.underlying185 (by kernel_rfl) (by kernel_rfl) (by kernel_rfl) h') (by omega) h
 refine ⟨A,cap,rows.map mkHalf, ?_,by simp;omega, ?_,hs.map mkHalf λ x hx=>mkHalf_C (hr x hx).1⟩
 ·simp [hcs,hl]
 ·intro x hx;simp only [List.mem_map] at hx;obtain ⟨r,hr',rfl⟩:=hx;exact mkHalf_In (hr r hr').1 (hr r hr').2
theorem openRegionC {H:Type} {enc:TypeId × Value->H} {W:World} {base:Nat} {spare:Nat->Bool} {held:Bool} {fuel:Nat} {cs:List Value} {y:DataW H × List MemPlace}
 (h:DataW.trod enc Tryz.prog W base spare held fuel 25 cs=some y) :
 ∃ (x:List Half) (a:ZY),RegionIn x/\cs=[.slice a.A (List.length x) a.c]/\(List.length x<=9223372036854775807)/\ZS W x a:=by
 obtain ⟨xs,n,rfl,_,hl,hxl,hf⟩:=DataW.trod_struct Tryz.underlying25 h;have hl:cs.length=1:=hl.trans (by kernel_rfl);have hxl:xs.length=1:=hxl;match cs,hl with
 | [c0],_ =>
  have t0:DataW.trod enc Tryz.prog W base spare held n 23 [c0]=some (xs[0]'(by omega)):=by
   have q:DataW.trod enc Tryz.prog W base spare held n 23 (List.take (Tryz.prog.cellsOf 23) (List.drop 0 [c0]))=xs[0]?:=hf 0 _ rfl;rw [show Tryz.prog.cellsOf 23=1 from by kernel_rfl,List.getElem?_eq_getElem (by omega)] at q;exact q
  obtain ⟨A0,k0,s0,e0,l0,i0,S0⟩:=openHalfS t0;simp only [List.cons.injEq,and_true] at e0;subst e0;exact ⟨s0,⟨A0,k0⟩,⟨i0⟩,rfl,l0,⟨S0⟩⟩
theorem openRoomC {H:Type} {enc:TypeId × Value->H} {W:World} {base:Nat} {spare:Nat->Bool} {held:Bool} {fuel:Nat} {cs:List Value} {y:DataW H × List MemPlace}
 (h:DataW.trod enc Tryz.prog W base spare held fuel 27 cs=some y) :
 ∃ (x:X3) (a:YO),Zu x/\cs=[.slice a.map.A (List.length x.map) a.map.c,.int .i64 x.div,.int .i64 x.bx,.int .i64 x.by_,.int .i64 x.low,.int .i64 x.high,.slice a.noise.A (List.length x.noise) a.noise.c,.slice a.limits.A (List.length x.limits) a.limits.c]/\(List.length x.map<=9223372036854775807/\List.length x.noise<=9223372036854775807/\List.length x.limits<=9223372036854775807)/\YH W x a:=by
 obtain ⟨xs,n,rfl,_,hl,hxl,hf⟩:=DataW.trod_struct Tryz.underlying27 h;have hl:cs.length=8:=hl.trans (by kernel_rfl);have hxl:xs.length=8:=hxl;match cs,hl with
 | [c0,c1,c2,c3,c4,c5,c6,c7],_ =>
  have t0:DataW.trod enc Tryz.prog W base spare held n 22 [c0]=some (xs[0]'(by omega)):=by
   have q:DataW.trod enc Tryz.prog W base spare held n 22 (List.take (Tryz.prog.cellsOf 22) (List.drop 0 [c0,c1,c2,c3,c4,c5,c6,c7]))=xs[0]?:=hf 0 _ rfl;rw [show Tryz.prog.cellsOf 22=1 from by kernel_rfl,List.getElem?_eq_getElem (by omega)] at q;exact q
  have t1:DataW.trod enc Tryz.prog W base spare held n 3 [c1]=some (xs[1]'(by omega)):=by
   have q:DataW.trod enc Tryz.prog W base spare held n 3 (List.take (Tryz.prog.cellsOf 3) (List.drop 1 [c0,c1,c2,c3,c4,c5,c6,c7]))=xs[1]?:=hf 1 _ rfl;rw [show Tryz.prog.cellsOf 3=1 from by kernel_rfl,List.getElem?_eq_getElem (by omega)] at q;exact q
  have t2:DataW.trod enc Tryz.prog W base spare held n 3 [c2]=some (xs[2]'(by omega)):=by
   have q:DataW.trod enc Tryz.prog W base spare held n 3 (List.take (Tryz.prog.cellsOf 3) (List.drop 2 [c0,c1,c2,c3,c4,c5,c6,c7]))=xs[2]?:=hf 2 _ rfl;rw [show Tryz.prog.cellsOf 3=1 from by kernel_rfl,List.getElem?_eq_getElem (by omega)] at q;exact q
  have t3:DataW.trod enc Tryz.prog W base spare held n 3 [c3]=some (xs[3]'(by omega)):=by
   have q:DataW.trod enc Tryz.prog W base spare held n 3 (List.take (Tryz.prog.cellsOf 3) (List.drop 3 [c0,c1,c2,c3,c4,c5,c6,c7]))=xs[3]?:=hf 3 _ rfl;rw [show Tryz.prog.cellsOf 3=1 from by kernel_rfl,List.getElem?_eq_getElem (by omega)] at q;exact q
  have t4:DataW.trod enc Tryz.prog W base spare held n 3 [c4]=some (xs[4]'(by omega)):=by
   have q:DataW.trod enc Tryz.prog W base spare held n 3 (List.take (Tryz.prog.cellsOf 3) (List.drop 4 [c0,c1,c2,c3,c4,c5,c6,c7]))=xs[4]?:=hf 4 _ rfl;rw [show Tryz.prog.cellsOf 3=1 from by kernel_rfl,List.getElem?_eq_getElem (by omega)] at q;exact q
  have t5:DataW.trod enc Tryz.prog W base spare held n 3 [c5]=some (xs[5]'(by omega)):=by
   have q:DataW.trod enc Tryz.prog W base spare held n 3 (List.take (Tryz.prog.cellsOf 3) (List.drop 5 [c0,c1,c2,c3,c4,c5,c6,c7]))=xs[5]?:=hf 5 _ rfl;rw [show Tryz.prog.cellsOf 3=1 from by kernel_rfl,List.getElem?_eq_getElem (by omega)] at q;exact q
  have t6:DataW.trod enc Tryz.prog W base spare held n 25 [c6]=some (xs[6]'(by omega)):=by
   have q:DataW.trod enc Tryz.prog W base spare held n 25 (List.take (Tryz.prog.cellsOf 25) (List.drop 6 [c0,c1,c2,c3,c4,c5,c6,c7]))=xs[6]?:=hf 6 _ rfl;rw [show Tryz.prog.cellsOf 25=1 from by kernel_rfl,List.getElem?_eq_getElem (by omega)] at q;exact q
  have t7:DataW.trod enc Tryz.prog W base spare held n 25 [c7]=some (xs[7]'(by omega)):=by
   have q:DataW.trod enc Tryz.prog W base spare held n 25 (List.take (Tryz.prog.cellsOf 25) (List.drop 7 [c0,c1,c2,c3,c4,c5,c6,c7]))=xs[7]?:=hf 7 _ rfl;rw [show Tryz.prog.cellsOf 25=1 from by kernel_rfl,List.getElem?_eq_getElem (by omega)] at q;exact q
  obtain ⟨A0,k0,s0,e0,l0,i0,S0⟩:=open_intS Tryz.underlying22 Tryz.underlying3 (by kernel_rfl) t0;simp only [List.cons.injEq,and_true] at e0;subst e0;obtain ⟨a1,e1,_,w1⟩:=DataW.trod_int Tryz.underlying3 t1;simp only [List.cons.injEq,and_true] at e1;subst e1;obtain ⟨a2,e2,_,w2⟩:=DataW.trod_int Tryz.underlying3 t2;simp only [List.cons.injEq,and_true] at e2;subst e2;obtain ⟨a3,e3,_,w3⟩:=DataW.trod_int Tryz.underlying3 t3;simp only [List.cons.injEq,and_true] at e3;subst e3;obtain ⟨a4,e4,_,w4⟩:=DataW.trod_int Tryz.underlying3 t4;simp only [List.cons.injEq,and_true] at e4;subst e4;obtain ⟨a5,e5,_,w5⟩:=DataW.trod_int Tryz.underlying3 t5;simp only [List.cons.injEq,and_true] at e5;subst e5;obtain ⟨x6,a6,i6,e6,l6,S6⟩:=openRegionC t6;simp only [List.cons.injEq,and_true] at e6;subst e6;obtain ⟨x7,a7,i7,e7,l7,S7⟩:=openRegionC t7;simp only [List.cons.injEq,and_true] at e7;subst e7;exact ⟨⟨s0,a1,a2,a3,a4,a5,x6,x7⟩,⟨⟨A0,k0⟩,a6,a7⟩,⟨i0,KS w1,KS w2,KS w3,KS w4,KS w5,i6,i7⟩,rfl,⟨l0,l6,l7⟩,⟨S0,S6,S7⟩⟩
end Go.Proofs.YtkjimfapbjdafaaGreat
