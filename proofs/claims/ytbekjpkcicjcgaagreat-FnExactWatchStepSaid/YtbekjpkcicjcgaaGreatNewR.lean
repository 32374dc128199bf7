/-
 A record that changes the fitted region: of the program and of the reference.
 Conditions: the slices hold at most 2^20 elements.
-/
import Derived.Test.YtbekjpkcicjcgaaGreatGrXf
import Derived.Test.YtbekjpkcicjcgaaGreatCopy
import Derived.Lib.SliceRun
import Derived.Deep.RegionHeld3
import Derived.Deep.DeepMust
import Derived.Deep.DeepCutAuto
namespace Go.Proofs.YtbekjpkcicjcgaaGreat
open Go.RowKit
theorem XV.grown {w w':World} {g:Nat} {vs:List Value} {row:Option Nat} (h:XV w g vs) (hG:w.grownBy w' row) (hne:∀ k,row=some k->g≠k):XV w' g vs:=by
 have hb:=hG.block g h.1 (λ e=>hne g e.symm rfl);refine ⟨Nat.lt_of_lt_of_le h.1 hG.size,λ j u hu=>?_⟩;have h2:=h.2 j u hu;exact ⟨(World.cell?_of_block (w:=w) hb).trans h2.1,(World.frozen?_of_block (w:=w) hb).trans h2.2⟩
theorem XI.own {α:Type} {T sz:Nat} {enc:α->List Value} {base:Nat} {w:World} {v:Value} {xs:List α} (h:XI T sz enc w base v xs):∀ k,v.ownBlock=some k->base<=k/\k<w.heap.size:=by
 obtain ⟨A,cap,rfl,hr⟩:=h;exact λ k e=>hr.lt k e
theorem run_appS {α:Type} {T sz:Nat} {enc:α->List Value} (X5:∀ x,(enc x).length=sz) {P:Program} (w:World) (t ty:TypeId)
 (base:Nat) (i:TypeInfo) (z:Value) (bytes:Nat) (ht:P.underlying t=some (.slice T)) (hi:P.info? T=some i) (hz:i.zero=some z)
 (hsize:i.size=sz) (hby:i.bytes=bytes) (hzs:z.cells.size=sz) (hpos:0<sz)
 {v:Value} {xs ys:List α} (hown:XI T sz enc w base v xs)
 (B:Option Addr) (c:Nat) (hys:Sl sz enc w B ys) (hnil:B=none->c=0) (h1:∀ y,∀ u∈enc y,u.oneCell'=true)
 {W0:World} (hb:Below base W0 w) (hbase:base<=w.heap.size) (hn:xs.length+ys.length<=1073741824) (hbytes:bytes<=128) :
 ∃ v' w',(Builtin.append_ #[t,t] ty #[v,.slice B ys.length c]).run P w=.ok v' w'/\XI T sz enc w' base v' (xs++ys)/\Below base W0 w'/\w.grownBy w' v.ownBlock:=by
 obtain ⟨A,cap,rfl,hr⟩:=hown;have hb2:(xs.length+ys.length)*bytes<=1073741824*128:=Nat.mul_le_mul hn hbytes;have hl:(xs++ys).length=xs.length+ys.length:=List.length_append;have hf:(xs++ys).flatMap enc=xs.flatMap enc++ys.flatMap enc:=List.flatMap_append;have go:∀ ad:Addr,B=some ad->(∀ j u,(ys.flatMap enc)[j]? = some u->w.cell? (ad.add j)=some u)->∃ v' w',(Builtin.append_ #[t,t] ty #[.slice A xs.length cap,.slice B ys.length c]).run P w=.ok v' w'/\XI T sz enc w' base v' (xs++ys)/\Below base W0 w'/\w.grownBy w' (Value.slice A xs.length cap).ownBlock:=by
  intro ad hB hc;subst hB;obtain ⟨v',w',hrun,hown',hg,_⟩:=run_append_own (P:=P) w base t ty T i z sz bytes ht hi hz hsize hby hzs hpos _ _ _ hr ad ys.length c (ys.flatMap enc) (YI X5 ys) hc (λ u hu=>by
   obtain ⟨y,_,hy⟩:=List.mem_flatMap.1 hu;exact h1 y u hy) (by unfold maxLen;omega) Oz hbase
  have hbl:=hb.grown hg hbase (λ k e=>(hr.lt k e).1);rw [<- hf] at hown';exact ⟨_,_,hrun,XI.mk' hl.symm hown',hbl,hg⟩
 by_cases h0:ys.length=0
 ·have hy:ys=[]:=List.eq_nil_of_length_eq_zero h0;subst hy;cases B with
  | none =>
   have hc0:=hnil rfl;subst hc0;have hrun:=run_append_owned_none (P:=P) (w:=w) base t ty T i sz ht hi _ _ _ hr;exact ⟨_,_,hrun,XI.mk' (n:=xs.length) Sz (by simpa using hr),hb,World.grownBy.refl _ _⟩
  | some ad=>exact go ad rfl (λ j u hu=>by simp at hu)
 ·obtain ⟨b,off,hB,_,hc⟩:=hys Oz;refine go ⟨b,off,none⟩ hB (λ j u hu=>?_);rw [Addr.add_lit];have hjl:j<ys.length*sz:=by
   rw [<- YI X5 ys];rcases Nat.lt_or_ge j (ys.flatMap enc).length with h3|h3
   ·exact h3
   ·rw [List.getElem?_eq_none h3] at hu;cases hu
  have hq:j / sz<ys.length:=Nat.div_lt_of_lt_mul (by rw [Nat.mul_comm];exact hjl);have hm:j % sz<sz:=Nat.mod_lt _ hpos;have hjj:j / sz*sz+j % sz=j:=by rw [Nat.mul_comm];exact Nat.div_add_mod j sz
  have hu2:(enc ys[j / sz])[j % sz]? = some ((enc ys[j / sz])[j % sz]'(by rw [X5];exact hm)):=List.getElem?_eq_getElem _;have h4:=Kz X5 ys _ hq _ _ hu2;rw [hjj,hu] at h4;have h5:=hc _ hq _ _ hu2;rw [Nat.add_assoc,hjj,<- h4] at h5;exact h5
theorem Xz.neT {w:World} {g g' T T':Nat} {vs vs':List Value} (h:Xz w g T vs) (h':Xz w g' T' vs') (hne:T≠T'):g≠g':=by
 intro e;subst e;rw [Xz] at h h';rw [h] at h';simp at h';exact hne h'.2
theorem step_appO {α:Type} {T sz:Nat} {enc:α->List Value} (X5:∀ x,(enc x).length=sz) {P:Program} {o:Oper} {a:Act} {w:World} {K:Act->World->Prop} {Q:Exit->Act->World->Prop} (s x:Operand) (t:TypeId)
 (ho:o.op=.call { callee:=.builtin .append,args:=#[s,x],argTypes:=#[t,t] })
 (base:Nat) (i:TypeInfo) (z:Value) (bytes:Nat) (ht:P.underlying t=some (.slice T)) (hi:P.info? T=some i) (hz:i.zero=some z)
 (hsize:i.size=sz) (hby:i.bytes=bytes) (hzs:z.cells.size=sz) (hpos:0<sz)
 {v:Value} {xs ys:List α} (hs:a.eval s=v) (hown:XI T sz enc w base v xs)
 (B:Option Addr) (c:Nat) (hx:a.eval x=.slice B ys.length c) (hys:Sl sz enc w B ys) (hnil:B=none->c=0) (h1:∀ y,∀ u∈enc y,u.oneCell'=true)
 (hbase:base<=w.heap.size) (hn:xs.length+ys.length<=1073741824) (hbytes:bytes<=128)
 (hK:∀ v' w',XI T sz enc w' base v' (xs++ys)->Below base w w'->w.grownBy w' v.ownBlock->K (a.put o.dst v') w'):Oper.wp P o a w K Q:=by
 obtain ⟨v',w',hrun,hN,hB,hG⟩:=run_appS X5 w t o.type base i z bytes ht hi hz hsize hby hzs hpos hown B c hys hnil h1 (Below.refl base w) hbase hn hbytes;unfold Oper.wp;simp [execOp,ho,resolve,invoke,builtin,hs,hx,hrun,Result.andThen];exact hK v' w' hN hB hG
theorem step_app0 {α:Type} {T sz:Nat} {enc:α->List Value} (X5:∀ x,(enc x).length=sz) {P:Program} {o:Oper} {a:Act} {w:World} {K:Act->World->Prop} {Q:Exit->Act->World->Prop} (s x:Operand) (t:TypeId)
 (ho:o.op=.call { callee:=.builtin .append,args:=#[s,x],argTypes:=#[t,t] })
 (base:Nat) (i:TypeInfo) (z:Value) (bytes:Nat) (ht:P.underlying t=some (.slice T)) (hi:P.info? T=some i) (hz:i.zero=some z)
 (hsize:i.size=sz) (hby:i.bytes=bytes) (hzs:z.cells.size=sz) (hpos:0<sz)
 {p:Addr} {ys:List α} (hs:a.eval s=.slice (some p) 0 0) (hown:XI T sz enc w base (.slice (some p) 0 0) ([]:List α))
 (B:Option Addr) (c:Nat) (hx:a.eval x=.slice B ys.length c) (hys:Sl sz enc w B ys) (hnil:B=none->c=0)
 (hbase:base<=w.heap.size) (hn:ys.length<=1073741824) (hbytes:bytes<=128)
 (hK:∀ v' w',XI T sz enc w' base v' ys->Below w.heap.size w w'->K (a.put o.dst v') w'):Oper.wp P o a w K Q:=by
 have run:∃ v' w',(Builtin.append_ #[t,t] o.type #[.slice (some p) 0 0,.slice B ys.length c]).run P w=.ok v' w'/\XI T sz enc w' base v' ys/\Below w.heap.size w w':=by
  by_cases h0:ys.length=0
  ·have hy:ys=[]:=List.eq_nil_of_length_eq_zero h0;subst hy;refine ⟨_,_, ?_,hown,Below.refl _ _⟩;cases B with
   | none=>have:=hnil rfl;subst this;simp [Builtin.append_,run_underlying ht,sizeOf,typeInfo,hi,Builtin.lenOf,Builtin.firstCells,storeCells]
   | some ad=>simp [Builtin.append_,run_underlying ht,sizeOf,typeInfo,hi,Builtin.lenOf,Builtin.firstCells,storeCells,loadCells,loadCellsFrom]
  ·obtain ⟨b,off,hB,_,hc⟩:=hys Oz;subst hB;have hb2:ys.length*bytes<=1073741824*128:=Nat.mul_le_mul hn hbytes;obtain ⟨v',w',hrun,hown',hg⟩:=run_append_arg_grows (P:=P) (w:=w) t o.type T i z sz bytes ht hi hz hsize hby hzs hpos p 0 0 [] Sz (λ j u hu=>by simp at hu) ⟨b,off,none⟩ ys.length c (ys.flatMap enc) (YI X5 ys) (λ j u hu=>by
    rw [Addr.add_lit];have hjl:j<ys.length*sz:=by
     rw [<- YI X5 ys];rcases Nat.lt_or_ge j (ys.flatMap enc).length with h3|h3
     ·exact h3
     ·rw [List.getElem?_eq_none h3] at hu;cases hu
    have hq:j / sz<ys.length:=Nat.div_lt_of_lt_mul (by rw [Nat.mul_comm];exact hjl);have hm:j % sz<sz:=Nat.mod_lt _ hpos;have hjj:j / sz*sz+j % sz=j:=by rw [Nat.mul_comm];exact Nat.div_add_mod j sz
    have hu2:(enc ys[j / sz])[j % sz]? = some ((enc ys[j / sz])[j % sz]'(by rw [X5];exact hm)):=List.getElem?_eq_getElem _;have h4:=Kz X5 ys _ hq _ _ hu2;rw [hjj,hu] at h4;have h5:=hc _ hq _ _ hu2;rw [Nat.add_assoc,hjj,<- h4] at h5;exact h5) Oz (by unfold maxLen;omega) (by rw [Nat.zero_add];omega)
   refine ⟨v',w',hrun, ?_,bR.grown hg XE (λ k e=>by cases e)⟩;rw [Nat.zero_add,List.nil_append] at hown';exact (XI.mk' rfl hown').mono hbase
 obtain ⟨v',w',hrun,hN,hB⟩:=run;unfold Oper.wp;simp [execOp,ho,resolve,invoke,builtin,hs,hx,hrun,Result.andThen];exact hK v' w' hN hB
end Go.Proofs.YtbekjpkcicjcgaaGreat
