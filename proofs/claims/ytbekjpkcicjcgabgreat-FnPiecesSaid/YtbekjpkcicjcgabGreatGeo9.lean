/-
 The meet of a valid region and half planes: its edges are edges of the one or among the others, so it is valid again; the order of the half planes doesn't matter. No program is named here.
 Conditions: none.
-/
import Derived.Deep.RegionHeld3
import Derived.Deep.DeepMust
import Derived.Deep.DeepCutAuto
import Derived.RangeFuncNested
import Derived.RangeFuncBound
import Derived.RangeFuncCalls
import Derived.RangeFuncLeaves
import Derived.Shelf.Abstract
import Derived.Shelf.RegionOpen
import Derived.WalkKit
import Derived.OwnWalkIn
import Derived.TacticsInMore
import Derived.LoopNIn
import Derived.LoopIn
import Derived.Test.YtbekjpkcicjcgabGreatEroM
import Derived.Lib.SliceRun
namespace Go.Proofs.YtbekjpkcicjcgabGreat
open Go.RowKit
theorem nodup_len {α:Type} [DecidableEq α]:∀ {l m:List α},l.Nodup->(∀ x∈l,x∈m)->l.length<=m.length
 | [],_,_,_=>Nat.zero_le _
 | x :: l,m,n,h=>by
  have hx:=h x (List.mem_cons_self ..);have n':=List.nodup_cons.1 n;have:=nodup_len (l:=l) (m:=m.erase x) n'.2 (λ y hy=>(List.mem_erase_of_ne (λ e=>n'.1 (by rw [<- e];exact hy))).2 (h y (List.mem_cons_of_mem _ hy)));rw [List.length_erase_of_mem hx] at this;have:=List.length_pos_of_mem hx;simp only [List.length_cons];omega
theorem frame_edge {l L:List Half} (gd:Zh l) (ok:∀ f∈l,Xq f=true) (hne:Xw l≠[]) (g2:Zh L) (ok2:∀ f∈L,Xq f=true) (hn2:¬ GVoid L) (hcov:∀ f∈l,∃ y∈L,GCov y f) {h:Half} (hh:h∈L) (he:Yv Xp Ya L h) (hfr:∃ y∈l,GCov y h):h∈Xw l:=by
 obtain ⟨g0,hg,k0,hk,_,_,p,q,r,v1,v2⟩:=Jo g2 hn2 hh he;have up:∀ f∈l,∀ a b,0<Xp a b->(∀ k∈L,0<=Ya a b k)->0<=Ya a b f:=by
  intro f hf a b hab hin;obtain ⟨y,hy,cy⟩:=hcov f hf;exact (Je hab).2 (holds_cov (g2.nz y hy) (gd.nz f hf) cy (Int.le_of_lt (ZL (by omega))) ((Je hab).1 (hin y hy)))
 obtain ⟨y,hy,cy⟩:=hfr;have hyh:y.c*XU h=h.c*XU y:=by
  have t:=up y hy h k0 q v1;have n1:=gd.nz y hy;have n2:=g2.nz h hh;obtain ⟨e1,e2⟩:=Jz n1 n2 cy.1;have id:XU h*Ya h k0 y=XU y*Ya h k0 h+Xp h k0*(y.c*XU h-h.c*XU y):=by
   simp only [Ya,Xp];grind
  rw [gom.d0 h k0,Int.mul_zero,Int.zero_add] at id;have t2:=Int.mul_nonneg (Int.le_of_lt (Yz n2)) t;rw [id] at t2;have:=gmn t2 q;have:=cy.2;omega
 have:=half_eq (ok y hy) (ok2 h hh) cy.1 hyh;subst this;exact mem_meetI gd hne hy (JH gom p q r (λ f hf=>up f hf y k0 q v1) (λ f hf=>up f hf g0 y p v2))
theorem frame_cov {l:List Half} (gd:Zh l) {h:Half} (hh:h∈Yj):∃ y∈l,GCov y h:=by
 simp only [Yj,List.mem_cons,List.not_mem_nil,or_false] at hh;rcases hh with rfl|rfl|rfl|rfl
 ·exact gd.e
 ·exact gd.n
 ·exact gd.w
 ·exact gd.s
theorem reg_meetI {p:List Half} (h:Xc p=true) (hne:p≠[]):Xw (Xk p)=p:=by
 rcases reg_iff h with rfl|h
 ·exact absurd rfl hne
 ·exact h.2.2
theorem app_ok {p q:List Half} (hp:∀ h∈p,Xq h=true) (hq:∀ h∈q,Xq h=true):∀ h∈p++q,Xq h=true:=by
 intro h hh;rcases List.mem_append.1 hh with h1|h1
 ·exact hp h h1
 ·exact hq h h1
theorem meet_sub {p q:List Half} (hp:Xc p=true) (hne:p≠[]) (hq:∀ h∈q,Xq h=true):∀ h∈Xw (Xk (p++q)),h∈p++q:=by
 intro h hh;have pok:=Z1 hp;have aok:=app_ok pok hq;have g1:=Zj pok;have g2:=Zj aok;have c1:=YI (hs:=Yj++p) (λ f hf=>(KE (Ze pok f hf)).n);have c2:=YI (hs:=Yj++(p++q)) (λ f hf=>(KE (Ze aok f hf)).n);obtain ⟨hl,he⟩:=Zw g2 hh;have hn2:=JR g2 (List.ne_nil_of_mem hh);rcases List.mem_append.1 (c2.mem h hl) with hfr|hfr
 ·have hm:=frame_edge g1 (meetL_ok pok) (by rw [reg_meetI hp hne];exact hne) g2 (meetL_ok aok) hn2 (λ f hf=>by
   refine c2.cov f ?_;rcases List.mem_append.1 (c1.mem f hf) with h1|h1
   ·exact List.mem_append_left _ h1
   ·exact List.mem_append_right _ (List.mem_append_left _ h1)) hl he (frame_cov g1 hfr)
  rw [reg_meetI hp hne] at hm;exact List.mem_append_left _ hm
 ·exact hfr
theorem meet_len {p q:List Half} (hp:Xc p=true) (hne:p≠[]) (hq:∀ h∈q,Xq h=true):(Xw (Xk (p++q))).length<=p.length+q.length:=by
 have:=nodup_len (J6 (Zj (app_ok (Z1 hp) hq))).nodup (meet_sub hp hne hq);rw [List.length_append] at this;exact this
theorem meet_app_ok {p q:List Half} (hp:Xc p=true) (hne:p≠[]) (hq:∀ h∈q,Xq h=true) (hl:p.length+q.length<=40):Yw (Xk (p++q))=true:=by
 have:=meet_len hp hne hq;unfold Yw;rw [decide_eq_true_iff];omega
end Go.Proofs.YtbekjpkcicjcgabGreat
namespace Go.Proofs.YtbekjpkcicjcgabGreat
open Go.RowKit Go.Shelf
attribute [local go_sem] Oper.semAt_some
structure KpX (D:List Nat) (W W':World):Prop where
 size:W.heap.size<=W'.heap.size
 same:∀ (b:Nat) (o:Obj),b ∉ D->W.heap[b]? = some o->o.isCells=true->W'.heap[b]? = some o
theorem KpX.refl (D:List Nat) (W:World):KpX D W W:=⟨Nat.le_refl _,λ _ _ _ h _=>h⟩
theorem KpX.tr {D:List Nat} {A B C:World} (h:KpX D A B) (k:KpX D B C):KpX D A C:=⟨Nat.le_trans h.size k.size,λ b o hb h1 h2=>k.same b o hb (h.same b o hb h1 h2) h2⟩
theorem KpX.put {D:List Nat} (W:World) (l:Nat) (o o':Obj) (h:W.heap[l]? = some o) (ho:o.isCells=false):KpX D W (W.putObj l o'):=by
 have hg:=grownBy_putObj' W l o';refine ⟨hg.size,λ b u hb h1 h2=>?_⟩;have hne:b≠l:=by rintro rfl;rw [h] at h1;cases h1;rw [ho] at h2;cases h2
 exact (hg.block b (Array.getElem?_eq_some_iff.1 h1).1 (λ e=>hne (Option.some.inj e))).trans h1
theorem KpX.below {D:List Nat} {W W':World} (h:Below W.heap.size W W'):KpX D W W':=⟨h.size,λ b _ _ h1 _=>(h.block b (Array.getElem?_eq_some_iff.1 h1).1).trans h1⟩
theorem KpX.set_ {D:List Nat} (W:World) {b:Nat} (hb:b∈D) (o:Nat) (v:Value):KpX D W (W.setCell ⟨b,o,none⟩ v) :=
 ⟨(KeepsOthers.setCell W _ v).size,λ k u hk h1 _=>(Below.heap_setCell _ _ _ k (λ e=>hk (by first|exact e ▸ hb|exact e.symm ▸ hb))).trans h1⟩
theorem KpX.cell {D:List Nat} {W W':World} (h:KpX D W W') {b o:Nat} (hb:b ∉ D) {u:Value} (hc:W.cell? ⟨b,o,none⟩=some u):W'.cell? ⟨b,o,none⟩=some u:=by
 obtain ⟨x,hx,hxc⟩:=cells_of_cell hc;exact (World.cell?_of_block (w:=W) (w':=W') (a:=⟨b,o,none⟩) ((h.same b x hb hx hxc).trans hx.symm)).trans hc
theorem X0.kept {W W':World} {row:Option Nat} {g:Nat} {vs:List Value} (h:X0 W g vs) (hg:W.grownBy W' row) (hr:∀ r,row=some r->∃ o:Obj,W.heap[r]? = some o/\o.isCells=false):X0 W' g vs :=
 ⟨Nat.lt_of_lt_of_le h.1 hg.size,λ j u hu=>⟨cell_kept (h.2 j u hu).1 hg hr,(frozen_kept (h.2 j u hu).1 hg hr).trans (h.2 j u hu).2⟩⟩
end Go.Proofs.YtbekjpkcicjcgabGreat
namespace Go.Proofs.YtbekjpkcicjcgabGreat
open Go.RowKit
theorem Xv.alloc {w:World} {g T:Nat} {vs:List Value} (h:Xv w g T vs) (o:Obj):Xv (w.alloc o) g T vs:=h.below (Xa bR o)
theorem X0.grown {w w':World} {g:Nat} {vs:List Value} {row:Option Nat} (h:X0 w g vs) (hG:w.grownBy w' row) (hne:∀ k,row=some k->g≠k):X0 w' g vs:=by
 have hb:=hG.block g h.1 (λ e=>hne g e.symm rfl);refine ⟨Nat.lt_of_lt_of_le h.1 hG.size,λ j u hu=>?_⟩;have h2:=h.2 j u hu;exact ⟨(World.cell?_of_block (w:=w) hb).trans h2.1,(World.frozen?_of_block (w:=w) hb).trans h2.2⟩
theorem XI.own {α:Type} {T sz:Nat} {enc:α->List Value} {base:Nat} {w:World} {v:Value} {xs:List α} (h:XI T sz enc w base v xs):∀ k,v.ownBlock=some k->base<=k/\k<w.heap.size:=by
 obtain ⟨A,cap,rfl,hr⟩:=h;exact λ k e=>hr.lt k e
theorem run_appS {α:Type} {T sz:Nat} {enc:α->List Value} (XU:∀ x,(enc x).length=sz) {P:Program} (w:World) (t ty:TypeId)
 (base:Nat) (i:TypeInfo) (z:Value) (bytes:Nat) (ht:P.underlying t=some (.slice T)) (hi:P.info? T=some i) (hz:i.zero=some z)
 (hsize:i.size=sz) (hby:i.bytes=bytes) (hzs:z.cells.size=sz) (hpos:0<sz)
 {v:Value} {xs ys:List α} (hown:XI T sz enc w base v xs)
 (B:Option Addr) (c:Nat) (hys:Sl sz enc w B ys) (hnil:B=none->c=0) (h1:∀ y,∀ u∈enc y,u.oneCell'=true)
 {W0:World} (hb:Below base W0 w) (hbase:base<=w.heap.size) (hn:xs.length+ys.length<=1073741824) (hbytes:bytes<=128) :
 ∃ v' w',(Builtin.append_ #[t,t] ty #[v,.slice B ys.length c]).run P w=.ok v' w'/\XI T sz enc w' base v' (xs++ys)/\Below base W0 w'/\w.grownBy w' v.ownBlock:=by
 obtain ⟨A,cap,rfl,hr⟩:=hown;have hb2:(xs.length+ys.length)*bytes<=1073741824*128:=Nat.mul_le_mul hn hbytes;have hl:(xs++ys).length=xs.length+ys.length:=List.length_append;have hf:(xs++ys).flatMap enc=xs.flatMap enc++ys.flatMap enc:=List.flatMap_append;have go:∀ ad:Addr,B=some ad->(∀ j u,(ys.flatMap enc)[j]? = some u->w.cell? (ad.add j)=some u)->∃ v' w',(Builtin.append_ #[t,t] ty #[.slice A xs.length cap,.slice B ys.length c]).run P w=.ok v' w'/\XI T sz enc w' base v' (xs++ys)/\Below base W0 w'/\w.grownBy w' (Value.slice A xs.length cap).ownBlock:=by
  intro ad hB hc;subst hB;obtain ⟨v',w',hrun,hown',hg,_⟩:=run_append_own (P:=P) w base t ty T i z sz bytes ht hi hz hsize hby hzs hpos _ _ _ hr ad ys.length c (ys.flatMap enc) (YK XU ys) hc (λ u hu=>by
   obtain ⟨y,_,hy⟩:=List.mem_flatMap.1 hu;exact h1 y u hy) (by unfold maxLen;omega) (by omega) hbase
  have hbl:=hb.grown hg hbase (λ k e=>(hr.lt k e).1);rw [<- hf] at hown';exact ⟨_,_,hrun,XI.mk' hl.symm hown',hbl,hg⟩
 by_cases h0:ys.length=0
 ·have hy:ys=[]:=List.eq_nil_of_length_eq_zero h0;subst hy;cases B with
  | none =>
   have hc0:=hnil rfl;subst hc0;have hrun:=run_append_owned_none (P:=P) (w:=w) base t ty T i sz ht hi _ _ _ hr;exact ⟨_,_,hrun,XI.mk' (n:=xs.length) (by simp) (by simpa using hr),hb,World.grownBy.refl _ _⟩
  | some ad=>exact go ad rfl (λ j u hu=>by simp at hu)
 ·obtain ⟨b,off,hB,_,hc⟩:=hys (by omega);refine go ⟨b,off,none⟩ hB (λ j u hu=>?_);rw [Addr.add_lit];have hjl:j<ys.length*sz:=by
   rw [<- YK XU ys];rcases Nat.lt_or_ge j (ys.flatMap enc).length with h3|h3
   ·exact h3
   ·rw [List.getElem?_eq_none h3] at hu;cases hu
  have hq:j / sz<ys.length:=Nat.div_lt_of_lt_mul (by rw [Nat.mul_comm];exact hjl);have hm:j % sz<sz:=Nat.mod_lt _ hpos;have hjj:j / sz*sz+j % sz=j:=by rw [Nat.mul_comm];exact Nat.div_add_mod j sz
  have hu2:(enc ys[j / sz])[j % sz]? = some ((enc ys[j / sz])[j % sz]'(by rw [XU];exact hm)):=List.getElem?_eq_getElem _;have h4:=KN XU ys _ hq _ _ hu2;rw [hjj,hu] at h4;have h5:=hc _ hq _ _ hu2;rw [Nat.add_assoc,hjj,<- h4] at h5;exact h5
theorem step_appO {α:Type} {T sz:Nat} {enc:α->List Value} (XU:∀ x,(enc x).length=sz) {P:Program} {o:Oper} {a:Act} {w:World} {K:Act->World->Prop} {Q:Exit->Act->World->Prop} (s x:Operand) (t:TypeId)
 (ho:o.op=.call { callee:=.builtin .append,args:=#[s,x],argTypes:=#[t,t] })
 (base:Nat) (i:TypeInfo) (z:Value) (bytes:Nat) (ht:P.underlying t=some (.slice T)) (hi:P.info? T=some i) (hz:i.zero=some z)
 (hsize:i.size=sz) (hby:i.bytes=bytes) (hzs:z.cells.size=sz) (hpos:0<sz)
 {v:Value} {xs ys:List α} (hs:a.eval s=v) (hown:XI T sz enc w base v xs)
 (B:Option Addr) (c:Nat) (hx:a.eval x=.slice B ys.length c) (hys:Sl sz enc w B ys) (hnil:B=none->c=0) (h1:∀ y,∀ u∈enc y,u.oneCell'=true)
 (hbase:base<=w.heap.size) (hn:xs.length+ys.length<=1073741824) (hbytes:bytes<=128)
 (hK:∀ v' w',XI T sz enc w' base v' (xs++ys)->Below base w w'->w.grownBy w' v.ownBlock->K (a.put o.dst v') w'):Oper.wp P o a w K Q:=by
 obtain ⟨v',w',hrun,hN,hB,hG⟩:=run_appS XU w t o.type base i z bytes ht hi hz hsize hby hzs hpos hown B c hys hnil h1 (Below.refl base w) hbase hn hbytes;unfold Oper.wp;simp [execOp,ho,resolve,invoke,builtin,hs,hx,hrun,Result.andThen];exact hK v' w' hN hB hG
theorem step_app0 {α:Type} {T sz:Nat} {enc:α->List Value} (XU:∀ x,(enc x).length=sz) {P:Program} {o:Oper} {a:Act} {w:World} {K:Act->World->Prop} {Q:Exit->Act->World->Prop} (s x:Operand) (t:TypeId)
 (ho:o.op=.call { callee:=.builtin .append,args:=#[s,x],argTypes:=#[t,t] })
 (base:Nat) (i:TypeInfo) (z:Value) (bytes:Nat) (ht:P.underlying t=some (.slice T)) (hi:P.info? T=some i) (hz:i.zero=some z)
 (hsize:i.size=sz) (hby:i.bytes=bytes) (hzs:z.cells.size=sz) (hpos:0<sz)
 {p:Addr} {ys:List α} (hs:a.eval s=.slice (some p) 0 0) (hown:XI T sz enc w base (.slice (some p) 0 0) ([]:List α))
 (B:Option Addr) (c:Nat) (hx:a.eval x=.slice B ys.length c) (hys:Sl sz enc w B ys) (hnil:B=none->c=0)
 (hbase:base<=w.heap.size) (hn:ys.length<=1073741824) (hbytes:bytes<=128)
 (hK:∀ v' w',XI T sz enc w' base v' ys->Below w.heap.size w w'->K (a.put o.dst v') w'):Oper.wp P o a w K Q:=by
 have run:∃ v' w',(Builtin.append_ #[t,t] o.type #[.slice (some p) 0 0,.slice B ys.length c]).run P w=.ok v' w'/\XI T sz enc w' base v' ys/\Below w.heap.size w w':=by
  by_cases h0:ys.length=0
  ·have hy:ys=[]:=List.eq_nil_of_length_eq_zero h0;subst hy;refine ⟨_,_, ?_,hown,Below.refl _ _⟩;cases B with
   | none=>have:=hnil rfl;subst this;simp [Builtin.append_,run_underlying ht,sizeOf,typeInfo,hi,Builtin.lenOf,Builtin.firstCells,storeCells]
   | some ad=>simp [Builtin.append_,run_underlying ht,sizeOf,typeInfo,hi,Builtin.lenOf,Builtin.firstCells,storeCells,loadCells,loadCellsFrom]
  ·obtain ⟨b,off,hB,_,hc⟩:=hys (by omega);subst hB;have hb2:ys.length*bytes<=1073741824*128:=Nat.mul_le_mul hn hbytes;obtain ⟨v',w',hrun,hown',hg⟩:=run_append_arg_grows (P:=P) (w:=w) t o.type T i z sz bytes ht hi hz hsize hby hzs hpos p 0 0 [] (by simp) (λ j u hu=>by simp at hu) ⟨b,off,none⟩ ys.length c (ys.flatMap enc) (YK XU ys) (λ j u hu=>by
    rw [Addr.add_lit];have hjl:j<ys.length*sz:=by
     rw [<- YK XU ys];rcases Nat.lt_or_ge j (ys.flatMap enc).length with h3|h3
     ·exact h3
     ·rw [List.getElem?_eq_none h3] at hu;cases hu
    have hq:j / sz<ys.length:=Nat.div_lt_of_lt_mul (by rw [Nat.mul_comm];exact hjl);have hm:j % sz<sz:=Nat.mod_lt _ hpos;have hjj:j / sz*sz+j % sz=j:=by rw [Nat.mul_comm];exact Nat.div_add_mod j sz
    have hu2:(enc ys[j / sz])[j % sz]? = some ((enc ys[j / sz])[j % sz]'(by rw [XU];exact hm)):=List.getElem?_eq_getElem _;have h4:=KN XU ys _ hq _ _ hu2;rw [hjj,hu] at h4;have h5:=hc _ hq _ _ hu2;rw [Nat.add_assoc,hjj,<- h4] at h5;exact h5) (by omega) (by unfold maxLen;omega) (by rw [Nat.zero_add];omega)
   refine ⟨v',w',hrun, ?_,bR.grown hg Xs (λ k e=>by cases e)⟩;rw [Nat.zero_add,List.nil_append] at hown';exact (XI.mk' rfl hown').mono hbase
 obtain ⟨v',w',hrun,hN,hB⟩:=run;unfold Oper.wp;simp [execOp,ho,resolve,invoke,builtin,hs,hx,hrun,Result.andThen];exact hK v' w' hN hB
end Go.Proofs.YtbekjpkcicjcgabGreat
