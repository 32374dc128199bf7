/-
 One rule for regions, in the text's order or in an order that is drawn: one obligation for each operation.
 Conditions: none.
-/
import Derived.Test.YtbekjpkcicjcgaaGreatGrX
namespace Go.Proofs.YtbekjpkcicjcgaaGreat
open Go.RowKit
structure Kp (M:List Nat) (w w':World):Prop where
 base:Below 0 w w'
 block:∀ g,g<w.heap.size->g ∉ M->w'.heap[g]? = w.heap[g]?
theorem Kp.refl (M:List Nat) (w:World):Kp M w w:=⟨Below.refl _ _,λ _ _ _=>rfl⟩
theorem Kp.drew {M:List Nat} {a w:World} (h:Kp M a w):Kp M a w.drew:=⟨h.base.drew,h.block⟩
theorem Kp.size {M:List Nat} {a w:World} (h:Kp M a w):a.heap.size<=w.heap.size:=h.base.size
theorem Kp.call {M:List Nat} {a w w':World} (h:Kp M a w) (hb:Below w.heap.size w w'):Kp M a w' :=
 ⟨h.base.trans (hb.mono (Nat.zero_le _)),λ g hg hm=>(hb.block g (Nat.lt_of_lt_of_le hg h.size)).trans (h.block g hg hm)⟩
theorem Kp.alloc {M:List Nat} {a w:World} (h:Kp M a w) (o:Obj):Kp M a (w.alloc o):=h.call (Xc bR o)
theorem Kp.drewN {M:List Nat} {a w:World} (h:Kp M a w) (n:Nat):Kp M a (w.drewN n):=h.call (YQ bR n)
theorem Kp.store {M:List Nat} {a w:World} (h:Kp M a w) {g:Nat} (hg:a.heap.size<=g∨g∈M) (us:List Value) (o:Nat):Kp M a (w.setCells g o us):=by
 refine ⟨Zy (Nat.zero_le _) us o w h.base,λ k hk hm=>?_⟩;have hne:g≠k:=by
  intro e;subst e;rcases hg with hg|hg
  ·omega
  ·exact hm hg
 have key:∀ (us:List Value) (o:Nat) (w:World),(w.setCells g o us).heap[k]? = w.heap[k]?:=by
  intro us;induction us with
  | nil=>intro o w;rfl
  | cons u r ih =>
   intro o w;exact (ih (o+1) (w.setCell ⟨g,o,none⟩ u)).trans (heap_setCell_other w ⟨g,o,none⟩ k u (λ e=>hne (by first|exact e|exact e.symm)))
 exact (key us o w).trans (h.block k hk hm)
theorem Kp.below {M:List Nat} {a w w':World} (h:Kp M w w') {B:Nat} (hb:Below B a w) (hB:B<=w.heap.size) (hM:∀ m∈M,B<=m):Below B a w' :=
 hb.trans ⟨h.base.os,h.base.tape,h.base.output,h.base.size,λ k hk=>h.block k (Nat.lt_of_lt_of_le hk hB) (λ hm=>by have:=hM k hm;omega)⟩
theorem Kp.below0 {a w w':World} (h:Kp [] w w') (hb:Below a.heap.size a w):Below a.heap.size a w':=h.below hb hb.size (λ m hm=>by cases hm)
theorem Kp.toBelow {w w':World} (h:Kp [] w w'):Below w.heap.size w w':=h.below0 bR
theorem Xz.kp {M:List Nat} {w w':World} {g T:Nat} {vs:List Value} (h:Xz w g T vs) (k:Kp M w w') (hg:g ∉ M):Xz w' g T vs:=(k.block g (YD h) hg).trans h
theorem Xz.cell {w:World} {g T:Nat} {vs:List Value} (h:Xz w g T vs) (j:Nat):w.cell? ⟨g,j,none⟩=vs[j]?:=by
 rw [cell_of_row w g j vs.toArray T (0,0) h];simp
theorem Xz.frz {w:World} {g T:Nat} {vs:List Value} (h:Xz w g T vs) (j:Nat):w.frozen? ⟨g,j,none⟩=false:=frozen_of_row w g j vs.toArray T h
theorem Xz.bel {w w':World} {g T:Nat} {vs:List Value} (h:Xz w g T vs) (hb:Below w.heap.size w w'):Xz w' g T vs:=(hb.block g (YD h)).trans h
theorem Xz.lt {w:World} {g T:Nat} {vs:List Value} (h:Xz w g T vs):g<w.heap.size:=YD h
theorem Xz.ne {w:World} {g g' T T':Nat} {vs vs':List Value} (h:Xz w g T vs) (h':Xz w g' T' vs') (hT:T≠T'):g'≠g:=by
 intro e;subst e;have:=h.symm.trans h';injection this with q
 injection q with _ q _
 exact hT q
theorem XI.kp {α:Type} {T sz base hi n c:Nat} {enc:α->List Value} {M:List Nat} {w w':World} {A:Option Addr} {xs:List α} (h:XI T sz enc w base (.slice A n c) xs) (k:Kp M w w') (hb:∀ p,A=some p->p.block<hi) (hi':hi<=w.heap.size) (hM:∀ m∈M,m<base∨hi<=m):XI T sz enc w' base (.slice A n c) xs:=by
 obtain ⟨A',cap,e,h1,h2⟩:=h;refine ⟨A',cap,e,h1, ?_⟩;rcases h2 with h2|⟨g,cap',cur,hv,hg,hh,r⟩
 ·exact .inl h2
 ·have hA:A=some ⟨g,0,none⟩:=by injection hv
  have h5:=hb _ hA;refine .inr ⟨g,cap',cur,hv,hg,(k.block g (by simp only at h5;omega) (λ hm=>?_)).trans hh,r⟩;have:=hM g hm;simp only at h5;omega
theorem XS.g {a0 a:Act} {D:List Nat} (h:XS a0 a D) {k:Nat} (hk:D.contains k=false) {v:Value} (e:a0.tmps[k]?.getD undef=v):a.tmps[k]?.getD undef=v:=by
 rw [<- e];exact h.get (λ hm=>by rw [List.contains_iff_mem.2 hm] at hk;cases hk)
theorem ev {a:Act} {k:Nat} {v:Value} (h:a.tmps[k]?.getD undef=v):a.eval (.tmp k)=v:=by
 simpa only [Act.eval,Array.getD_eq_getD_getElem?] using h
theorem YN {P:Program} {f:FuncId} {fn:Func} {c:Code} {args:Array Value} {w:World} {R:Ending->World->Prop} (hf:P.funcs[f]? = some fn) (hb:fn.body=some c) {n:Nat} (hn:fn.ntmps=n) (hle:args.size<=n)
 (h:∀ a:Act,a.tmps.size=n->a.defers=[]->(∀ (k:Nat) (v:Value),args[k]? = some v->a.tmps[k]?.getD undef=v)->c.wp P (bodyPost P fn R) a w):Calls P f args w R:=by
 refine calls_of_wp hf hb (h _ ?_ rfl ?_)
 ·simp only [Array.size_append,Array.size_replicate,hn];omega
 ·intro k v hk;have hlt:k<args.size:=by
   rcases Nat.lt_or_ge k args.size with h|h
   ·exact h
   ·rw [Array.getElem?_eq_none h] at hk;cases hk
  simp only;rw [Array.getElem?_append_left hlt,hk];rfl
theorem wrp {x:Int} (h : -9223372036854775808<=x/\x<=9223372036854775807):IntKind.i64.wrap x=x:=IntWalk.i64_in x h
def ZJ:Option (Option Value)->Value->Prop
 | some (some u),v=>v=u
 | _,_=>True
inductive Each (F:Oper->Nat->Prop):List Oper->List Nat->Prop
 | nil:Each F [] []
 | cons {o:Oper} {i:Nat} {l:List Oper} {is:List Nat}:F o i->Each F l is->Each F (o :: l) (i :: is)
theorem Each.get {F:Oper->Nat->Prop}:∀ {l:List Oper} {is:List Nat},Each F l is->∀ (k:Nat) (o:Oper) (i:Nat),l[k]? = some o->is[k]? = some i->F o i
 | _,_,.nil,k,o,i,h,_=>by simp at h
 | _,_,.cons hf hr,0,o,i,h,h'=>by
  simp only [List.getElem?_cons_zero,Option.some.injEq] at h h';subst h h';exact hf
 | _,_,.cons hf hr,k+1,o,i,h,h'=>Each.get hr k o i (by simpa using h) (by simpa using h')
def ZV (L:Nat->Bool) (i:Nat):Nat->Bool:=λ j=>decide (j=i)||L j
def rchk (l:List Oper) (draw:Bool) (ss:List Nat) (vb:List Bool) (dl:List (List Nat)) (D is:List Nat):Bool :=
 l.length == ss.length&&l.length == vb.length&&l.length == dl.length&&is == List.range l.length&&l.filterMap (·.dst) == D&&decide D.Nodup &&
 ((List.range l.length).all λ i=>match l[i]? with
  | some o =>
   (match o.dst with|some s=>ss[i]? == some s|none=>vb[i]? == some false) &&
   (dl.getD i []).all λ j=>decide (j<i)&&(!draw||o.after.any λ e=>Region.binds .any e&&(e.on == j||(dl.getD e.on []).contains j))
  | none=>true) &&
 orderB l
structure RegJ (a0:Act) (w0:World) (D M ss:List Nat) (vs:List (Option Value)) (X:(Nat->Bool)->Act->World->Prop) (L:Nat->Bool) (a:Act) (w:World):Prop where
 fr:XS a0 a D
 kp:Kp M w0 w
 vs:∀ j v,vs[j]? = some (some v)->L j=true->a.tmps[ss.getD j 0]?.getD undef=v
 xs:X L a w
theorem fm_inj {α β:Type} (f:α->Option β):∀ (l:List α),(l.filterMap f).Nodup->∀ (i j:Nat) (x y:α) (s:β),l[i]? = some x->l[j]? = some y->f x=some s->f y=some s->i=j
 | [],_,i,j,x,y,s,hi,_,_,_=>by simp at hi
 | z :: r,hn,i,j,x,y,s,hi,hj,hx,hy=>by
  have mem:∀ (k:Nat) (u:α),r[k]? = some u->f u=some s->s∈r.filterMap f:=λ k u hu hf=>List.mem_filterMap.2 ⟨u,List.mem_of_getElem? hu,hf⟩;have hr:(r.filterMap f).Nodup:=by
   rw [List.filterMap_cons] at hn;split at hn
   ·exact hn
   ·exact (List.nodup_cons.1 hn).2
  have top:f z=some s->s ∉ r.filterMap f:=by
   intro U;rw [List.filterMap_cons,U] at hn;exact (List.nodup_cons.1 hn).1
  match i,j with
  | 0,0=>rfl
  | 0,j+1 =>
   simp only [List.getElem?_cons_zero,Option.some.injEq] at hi;subst hi;exact absurd (mem j y (by simpa using hj) hy) (top hx)
  | i+1,0 =>
   simp only [List.getElem?_cons_zero,Option.some.injEq] at hj;subst hj;exact absurd (mem i x (by simpa using hi) hx) (top hy)
  | i+1,j+1=>rw [fm_inj f r hr i j x y s (by simpa using hi) (by simpa using hj) hx hy]
structure Rchk (l:List Oper) (draw:Bool) (ss:List Nat) (vb:List Bool) (dl:List (List Nat)) (D is:List Nat):Prop where
 is_:is=List.range l.length
 D_:l.filterMap (·.dst)=D
 nd:D.Nodup
 dst:∀ (i:Nat) (o:Oper),l[i]? = some o->∀ s,o.dst=some s->ss.getD i 0=s
 dst0:∀ (i:Nat) (o:Oper),l[i]? = some o->o.dst=none->vb[i]? = some false
 dep:∀ (i:Nat) (o:Oper),l[i]? = some o->∀ j,(dl.getD i []).contains j=true->j<i/\(draw=true->∃ e∈o.after,Region.binds .any e=true/\(e.on=j∨(dl.getD e.on []).contains j=true))
 ord:orderB l=true
 len:dl.length=l.length/\vb.length=l.length
theorem rchk_out {l:List Oper} {draw:Bool} {ss:List Nat} {vb:List Bool} {dl:List (List Nat)} {D is:List Nat} (h:rchk l draw ss vb dl D is=true):Rchk l draw ss vb dl D is:=by
 unfold rchk at h;simp only [Bool.and_eq_true,beq_iff_eq,decide_eq_true_eq] at h;obtain ⟨⟨⟨⟨⟨⟨⟨h1,h2⟩,h3⟩,h4⟩,h5⟩,h6⟩,h7⟩,h8⟩:=h;have key:∀ (i:Nat) (o:Oper),l[i]? = some o->(match o.dst with|some s=>ss[i]? == some s|none=>vb[i]? == some false)=true/\(dl.getD i []).all (λ j=>decide (j<i)&&(!draw||o.after.any λ e=>Region.binds .any e&&(e.on == j||(dl.getD e.on []).contains j)))=true:=by
  intro i o ho;have hi:i<l.length:=by
   rcases Nat.lt_or_ge i l.length with h|h
   ·exact h
   ·rw [List.getElem?_eq_none h] at ho;cases ho
  have:=List.all_eq_true.1 h7 i (List.mem_range.2 hi);rw [ho] at this;simpa only [Bool.and_eq_true] using this
 refine ⟨h4,h5,h6, ?_, ?_, ?_,h8,h3.symm,h2.symm⟩
 ·intro i o ho s hs;have:=(key i o ho).1;rw [hs] at this;simp only [beq_iff_eq] at this;rw [List.getD_eq_getElem?_getD,this];rfl
 ·intro i o ho hs;have:=(key i o ho).1;rw [hs] at this;simpa only [beq_iff_eq] using this
 ·intro i o ho j hj;have:=List.all_eq_true.1 (key i o ho).2 j (List.contains_iff_mem.1 hj);simp only [Bool.and_eq_true,decide_eq_true_eq,Bool.or_eq_true,Bool.not_eq_true'] at this;refine ⟨this.1,λ hd=>?_⟩;rcases this.2 with h|h
  ·rw [hd] at h;cases h
  ·obtain ⟨e,he,h9⟩:=Array.any_eq_true'.1 h;simp only [Bool.and_eq_true,Bool.or_eq_true,beq_iff_eq] at h9;exact ⟨e,he,h9.1,h9.2⟩
theorem RegJ.step {a0:Act} {w0:World} {l:List Oper} {draw:Bool} {D M ss is:List Nat} {dl:List (List Nat)} {vs:List (Option Value)} {X:(Nat->Bool)->Act->World->Prop} {L:Nat->Bool} {a:Act} {w w':World} {i:Nat} {o:Oper} {v:Value}
 (R:Rchk l draw ss (vs.map Option.isSome) dl D is) (ho:l[i]? = some o) (h:RegJ a0 w0 D M ss vs X L a w) (X5:∀ s,o.dst=some s->s<a.tmps.size∨ZJ vs[i]? undef) (hk:Kp M w0 w') (hv:ZJ vs[i]? v) (hx:X (ZV L i) (a.put o.dst v) w'):RegJ a0 w0 D M ss vs X (ZV L i) (a.put o.dst v) w':=by
 have hin:∀ s,o.dst=some s->s∈D:=by
  intro s hs;rw [<- R.D_];exact List.mem_filterMap.2 ⟨o,List.mem_of_getElem? ho,hs⟩
 refine ⟨?_,hk, ?_,hx⟩
 ·cases hd:o.dst with
  | none=>exact h.fr
  | some s=>exact h.fr.put (hin s hd) v
 ·intro j u hu hl;have hjb:(vs.map Option.isSome)[j]? = some true:=by rw [List.getElem?_map,hu];rfl
  have hjl:j<l.length:=by
   have:=List.getElem?_eq_some_iff.1 hjb;obtain ⟨q,_⟩:=this;rw [R.len.2] at q;exact q
  obtain ⟨oj,hoj⟩:∃ oj,l[j]? = some oj:=⟨l[j],List.getElem?_eq_getElem hjl⟩;obtain ⟨sj,hsj⟩:∃ s,oj.dst=some s:=by
   cases hd:oj.dst with
   | none =>
    have:=R.dst0 j oj hoj hd;rw [hjb] at this;cases this
   | some s=>exact ⟨s,rfl⟩
  have hss:=R.dst j oj hoj sj hsj;by_cases e:j=i
  ·subst e;have:oj=o:=by rw [hoj] at ho;exact Option.some.inj ho
   subst this;rw [hu] at hv;have hv:v=u:=hv;subst hv;rw [hss,hsj];rcases X5 sj hsj with h5|h5
   ·exact Xw h5 _
   ·rw [hu] at h5;have h5:undef=v:=h5;rcases Nat.lt_or_ge sj a.tmps.size with h6|h6
    ·exact Xw h6 _
    ·simp only [Act.put];rw [Array.getElem?_eq_none (by simpa using h6)];exact h5
  ·have hl2:L j=true:=by simpa [ZV,e] using hl
   have h3:=h.vs j u hu hl2;rw [hss] at h3 ⊢;cases hd:o.dst with
   | none=>exact h3
   | some s =>
    refine (put_get_ne (λ q=>e ?_) v).trans h3;subst q;exact fm_inj (·.dst) l (by rw [R.D_];exact R.nd) j i oj o s hoj ho hsj hd
theorem wnt {P:Program} {o:Oper} {y:Nat->Option Bool} {a:Act} {w:World} {N:Act->World->Prop} {Q:Exit->Act->World->Prop} {R:Prop} (hg:o.guard=none) (h:o.wp P a w N Q):if Region.wanted o y=true then o.wp P a w N Q else R:=by
 rw [if_pos (by unfold Region.wanted;rw [hg])];exact h
theorem Kc {P:Program} {o oj:Oper} {ops:Array Oper} {a:Act} {w:World} {N:Act->World->Prop} {Q:Exit->Act->World->Prop} {R:Prop} {j s:Nat} {b:Bool} (hg:o.guard=some (j,b)) (hj:ops[j]? = some oj) (hd:oj.dst=some s) (hv:a.tmps[s]?.getD undef=.bool b) (h:o.wp P a w N Q):if Region.wanted o (yielded ops a.tmps)=true then o.wp P a w N Q else R:=by
 rw [if_pos (wanted_of hg hj hd hv)];exact h
theorem wnt_n {o oj:Oper} {ops:Array Oper} {a:Act} {R S:Prop} {j s:Nat} {b c:Bool} (hg:o.guard=some (j,b)) (hj:ops[j]? = some oj) (hd:oj.dst=some s) (hv:a.tmps[s]?.getD undef=.bool c) (hne:c≠b) (h:S):if Region.wanted o (yielded ops a.tmps)=true then R else S:=by
 rw [if_neg (unwanted_of hg hj hd hv hne)];exact h
def Yg (W:World) (a:Act) (w:World) (s T:Nat) (z:List Value) (b:Bool) (C:World->List Value->Prop):Prop :=
 ∃ g,a.tmps[s]?.getD undef=.pointer (some ⟨g,0,none⟩)/\W.heap.size<=g/\(b=false->Xz w g T z)/\(b=true->∃ vs,Xz w g T vs/\C w vs)
def X6 (w:World) (g T:Nat) (z:List Value) (b:Bool) (C:World->List Value->Prop):Prop:=(b=false->Xz w g T z)/\(b=true->∃ vs,Xz w g T vs/\C w vs)
section
variable {W w w':World} {a:Act} {s T g g':Nat} {z:List Value} {b:Bool} {C:World->List Value->Prop} {k:Option Nat} {v:Value}
theorem Xg (h:k≠some s) (v:Value):(a.put k v).tmps[s]?.getD undef=a.tmps[s]?.getD undef:=by
 cases k with
 | none=>rfl
 | some k=>exact put_get_ne (λ e=>h (by rw [e])) v
theorem Yg.bel (h:Yg W a w s T z b C) (hb:Below w.heap.size w w') (hC:∀ vs,C w vs->C w' vs):Yg W a w' s T z b C:=by
 obtain ⟨g,e,hg,y,n⟩:=h;exact ⟨g,e,hg,λ h=>(y h).bel hb,λ h=>by obtain ⟨vs,h1,h2⟩:=n h;exact ⟨vs,h1.bel hb,hC vs h2⟩⟩
theorem Yg.put (h:Yg W a w s T z b C) (hk:k≠some s) (v:Value):Yg W (a.put k v) w s T z b C:=by
 obtain ⟨g,e,r⟩:=h;exact ⟨g,(Xg hk v).trans e,r⟩
theorem Yg.lt (h:Yg W a w s T z b C):∃ g,a.tmps[s]?.getD undef=.pointer (some ⟨g,0,none⟩)/\W.heap.size<=g/\g<w.heap.size:=by
 obtain ⟨g,e,hg,y,n⟩:=h;refine ⟨g,e,hg, ?_⟩;cases b
 ·exact (y rfl).lt
 ·obtain ⟨vs,h1,_⟩:=n rfl;exact h1.lt
theorem Yg.oth (h:Yg W a w s T z b C) (hne:a.tmps[s]?.getD undef≠.pointer (some ⟨g',0,none⟩)) (us:List Value) (o:Nat) (hC:∀ vs,C w vs->C (w.setCells g' o us) vs):Yg W a (w.setCells g' o us) s T z b C:=by
 obtain ⟨g,e,hg,y,n⟩:=h;have hq:g'≠g:=λ q=>hne (by rw [e,q]);exact ⟨g,e,hg,λ h=>(y h).other hq us o,λ h=>by obtain ⟨vs,h1,h2⟩:=n h;exact ⟨vs,h1.other hq us o,hC vs h2⟩⟩
theorem Yg.old (h:Yg W a w s T z b C) (hg':g'<W.heap.size) (us:List Value) (o:Nat) (hC:∀ vs,C w vs->C (w.setCells g' o us) vs):Yg W a (w.setCells g' o us) s T z b C:=by
 obtain ⟨g,e,hg,r⟩:=h;refine Yg.oth ⟨g,e,hg,r⟩ (λ q=>?_) us o hC;rw [e] at q;injection q with q;injection q with q;injection q with q
 omega
theorem Yg.new (h:s<a.tmps.size) (hs:W.heap.size<=w.heap.size) (cs:List Value):Yg W (a.put (some s) (.pointer (some ⟨w.heap.size,0,none⟩))) (w.alloc (.cells cs.toArray T)) s T cs false C :=
 ⟨w.heap.size,Xw h _,hs,λ _=>Xz.new w cs T,λ h=>by cases h⟩
theorem X6.bel (h:X6 w g T z b C) (hb:Below w.heap.size w w') (hC:∀ vs,C w vs->C w' vs):X6 w' g T z b C :=
 ⟨λ q=>(h.1 q).bel hb,λ q=>by obtain ⟨vs,h1,h2⟩:=h.2 q;exact ⟨vs,h1.bel hb,hC vs h2⟩⟩
theorem X6.oth (h:X6 w g T z b C) (hne:g'≠g) (us:List Value) (o:Nat) (hC:∀ vs,C w vs->C (w.setCells g' o us) vs):X6 (w.setCells g' o us) g T z b C :=
 ⟨λ q=>(h.1 q).other hne us o,λ q=>by obtain ⟨vs,h1,h2⟩:=h.2 q;exact ⟨vs,h1.other hne us o,hC vs h2⟩⟩
theorem X6.set (h:Xz w g T z) {us:List Value} (hl:us.length=z.length) (hC:C (w.setCells g 0 us) us):X6 (w.setCells g 0 us) g T z true C :=
 ⟨(λ q=>by cases q),λ _=>⟨us,h.store hl,hC⟩⟩
theorem Yg.set (e:a.tmps[s]?.getD undef=.pointer (some ⟨g,0,none⟩)) (hg:W.heap.size<=g) (h:Xz w g T z) {us:List Value} (hl:us.length=z.length) (hC:C (w.setCells g 0 us) us):Yg W a (w.setCells g 0 us) s T z true C :=
 ⟨g,e,hg,(λ q=>by cases q),λ _=>⟨us,h.store hl,hC⟩⟩
theorem ptr_ne (h:g≠g'):Value.pointer (some ⟨g,0,none⟩)≠.pointer (some ⟨g',0,none⟩):=by
 intro q;injection q with q;injection q with q;injection q with q;exact h q
theorem Kp.cell {M:List Nat} (h:Kp M w w') {b:Nat} (hb:b<w.heap.size) (hm:b ∉ M) (o:Nat):w'.cell? ⟨b,o,none⟩=w.cell? ⟨b,o,none⟩:=by
 have:=h.block b hb hm;simp only [World.cell?,this]
end
def Obl (P:Program) (a0:Act) (w0:World) (l:List Oper) (D M ss:List Nat) (dl:List (List Nat)) (vs:List (Option Value)) (X:(Nat->Bool)->Act->World->Prop) (o:Oper) (i:Nat):Prop :=
 ∀ (L:Nat->Bool) (a:Act) (w:World),L i=false->(∀ j,(dl.getD i []).contains j=true->L j=true)->(∀ j,(dl.getD j []).contains i=true->L j=false)->XS a0 a D->Kp M w0 w ->
  (∀ j v,vs[j]? = some (some v)->L j=true->a.tmps[ss.getD j 0]?.getD undef=v)->X L a w ->
  ∀ (N:Act->World->Prop) (Q:Exit->Act->World->Prop),(∀ v w',Kp M w0 w'->ZJ vs[i]? v->X (ZV L i) (a.put o.dst v) w'->N (a.put o.dst v) w') ->
   if Region.wanted o (yielded l.toArray a.tmps)=true then o.wp P a w N Q else N (a.put o.dst undef) w
theorem wp_regJ {P:Program} {id:Nat} {Q:Exit->Act->World->Prop} {a:Act} {w:World} {l:List Oper} {draw:Bool} (hm:P.follows .mixedOrders=true)
 (ss:List Nat) (vs:List (Option Value)) (dl:List (List Nat)) (D is M:List Nat) (X:(Nat->Bool)->Act->World->Prop)
 (hc:rchk l draw ss (vs.map Option.isSome) dl D is=true) (hD:∀ s∈D,s<a.tmps.size) (h0:∀ w1,Kp [] w w1->X (λ _=>false) a w1)
 (hs:Each (Obl P a w l D M ss dl vs X) l is)
 (he:∀ (L:Nat->Bool) (a':Act) (w':World),(∀ j,j<l.length->L j=true)->XS a a' D->Kp M w w'->(∀ j v,vs[j]? = some (some v)->a'.tmps[ss.getD j 0]?.getD undef=v)->X L a' w'->Q .normal a' w') :
 (Code.region id l.toArray draw).wp P Q a w:=by
 have R:=rchk_out hc;have hlt:∀ (i:Nat) (o:Oper),l[i]? = some o->i<l.length:=by
  intro i o ho;rcases Nat.lt_or_ge i l.length with h|h
  ·exact h
  ·rw [List.getElem?_eq_none h] at ho;cases ho
 have obl:∀ (i:Nat) (o:Oper),l[i]? = some o->Obl P a w l D M ss dl vs X o i:=by
  intro i o ho;exact hs.get i o i ho (by rw [R.is_,List.getElem?_range (hlt i o ho)])
 have fin:∀ (L:Nat->Bool) (a':Act) (w':World),(∀ j,j<l.length->L j=true)->RegJ a w D M ss vs X L a' w'->Q .normal a' w':=by
  intro L a' w' V h;refine he L a' w' V h.fr h.kp (λ j v hv=>h.vs j v hv ?_) h.xs;refine V j ?_;have:j<vs.length:=by
   rcases Nat.lt_or_ge j vs.length with h|h
   ·exact h
   ·rw [List.getElem?_eq_none h] at hv;cases hv
  have h2:=R.len.2;rw [List.length_map] at h2;omega
 have X5:∀ (i:Nat) (o:Oper) (a':Act),l[i]? = some o->XS a a' D->∀ s,o.dst=some s->s<a'.tmps.size∨ZJ vs[i]? undef:=by
  intro i o a' ho hF s hs;refine .inl ?_;rw [hF.size];refine hD s ?_;rw [<- R.D_];exact List.mem_filterMap.2 ⟨o,List.mem_of_getElem? ho,hs⟩
 cases draw with
 | true =>
  refine wp_region_I hm R.ord (λ L a' w'=>RegJ a w D M ss vs X L a' w'/\∀ i,i<l.length->L i=true->∀ j,(dl.getD i []).contains j=true->L j=true) ?_ ?_ ?_
  ·exact ⟨⟨XS.refl _ _,(Kp.refl _ _).drew,(λ j v _ h=>by cases h),h0 _ (Kp.refl _ _).drew⟩,λ i _ h=>by cases h⟩
  ·intro L a' w' i o ho hLi hd hI;obtain ⟨hJ,hcl⟩:=hI;have hdep:∀ j,(dl.getD i []).contains j=true->L j=true:=by
    intro j hj;obtain ⟨e,he1,he2,he3⟩:=(R.dep i o ho j hj).2 rfl;have h1:=hd e he1 he2;rcases he3 with rfl|h3
    ·exact h1
    ·refine hcl e.on ?_ h1 j h3;rcases Nat.lt_or_ge e.on l.length with h|h
     ·exact h
     ·rw [List.getD_eq_getElem?_getD,List.getElem?_eq_none (by rw [R.len.1];exact h)] at h3;simp at h3
   have haft:∀ j,(dl.getD j []).contains i=true->L j=false:=by
    intro j hj;cases hl:L j
    ·rfl
    ·exfalso;have hjl:j<l.length:=by
      rcases Nat.lt_or_ge j l.length with h|h
      ·exact h
      ·rw [List.getD_eq_getElem?_getD,List.getElem?_eq_none (by rw [R.len.1];exact h)] at hj;simp at hj
     have:=hcl j hjl hl i hj;rw [hLi] at this;cases this
   have hcl2:∀ i',i'<l.length->ZV L i i'=true->∀ j,(dl.getD i' []).contains j=true->ZV L i j=true:=by
    intro i' hi' h j hj;have:L j=true:=by
     by_cases e:i'=i
     ·subst e;exact hdep j hj
     ·exact hcl i' hi' (by simpa [ZV,e] using h) j hj
    simp [ZV,this]
   exact obl i o ho L a' w' hLi hdep haft hJ.fr hJ.kp hJ.vs hJ.xs _ Q (λ v w'' hk hv hx=>⟨hJ.step R ho (X5 i o a' ho hJ.fr) hk hv hx,hcl2⟩)
  ·intro L a' w' V hI;exact fin L a' w' V hI.1
 | false =>
  refine wp_region_lit ?_;have go:∀ (n k:Nat) (a':Act) (w':World),k+n=l.length->RegJ a w D M ss vs X (λ j=>decide (j<k)) a' w'->wpList P l.toArray Q (l.drop k) a' w':=by
   intro n;induction n with
   | zero =>
    intro k a' w' hk hJ;rw [List.drop_eq_nil_of_le Oz];refine wpList_nil (fin _ a' w' (λ j hj=>?_) hJ);have hk2:j<k:=Oz
    simp only [decide_eq_true_eq];exact hk2
   | succ n ih =>
    intro k a' w' hk hJ;have hkl:k<l.length:=Oz
    rw [List.drop_eq_getElem_cons hkl];have ho:l[k]? = some l[k]:=List.getElem?_eq_getElem hkl;have he1:ZV (λ j=>decide (j<k)) k=λ j=>decide (j<k+1):=by
     funext j
     simp only [ZV];rw [<- Bool.decide_or];refine decide_eq_decide.2 ?_;omega
    refine wpList_step (λ K hK=>?_);refine obl k _ ho (λ j=>decide (j<k)) a' w' Sz (λ j hj=>by simpa using (R.dep k _ ho j hj).1) (λ j hj=>?_) hJ.fr hJ.kp hJ.vs hJ.xs K Q (λ v w'' hk2 hv hx=>hK _ _ (ih (k+1) _ _ Oz ?_))
    ·have hjl:j<l.length:=by
      rcases Nat.lt_or_ge j l.length with h|h
      ·exact h
      ·rw [List.getD_eq_getElem?_getD,List.getElem?_eq_none (by rw [R.len.1];exact h)] at hj;simp at hj
     have:=(R.dep j _ (List.getElem?_eq_getElem hjl) k hj).1;simp only [decide_eq_false_iff_not];omega
    ·rw [<- he1];exact hJ.step R ho (X5 k _ a' ho hJ.fr) hk2 hv hx
  have U:(λ j:Nat=>decide (j<0))=λ _=>false:=by funext j;simp
  have:=go l.length 0 a w Oz ⟨XS.refl _ _,Kp.refl _ _,(λ j v _ h=>by simp at h),by rw [U];exact h0 _ (Kp.refl _ _)⟩;simpa using this
section
variable {P:Program} {o:Oper} {a:Act} {w:World} {N:Act->World->Prop} {Q:Exit->Act->World->Prop}
theorem opv {v:Value} {w':World} (h:(execOp a.eval o).run P w=.ok (.value v) w') (hn:N (a.put o.dst v) w'):o.wp P a w N Q:=by
 unfold Oper.wp;rw [h];exact hn
theorem XR {x:Operand} {v:Value} (h:o.op=.move x) (e:a.eval x=v) (hn:N (a.put o.dst v) w):o.wp P a w N Q :=
 opv (by unfold execOp;rw [h];simp only;rw [e];rfl) hn
theorem Y5 {x:Operand} {v:Value} (h:o.op=.assign x) (e:a.eval x=v) (hn:N (a.put o.dst v) w):o.wp P a w N Q :=
 opv (by unfold execOp;rw [h];simp only;rw [e];rfl) hn
theorem Zp {c x y:Operand} {b:Bool} {v:Value} (h:o.op=.pick c x y) (ec:a.eval c=.bool b) (et:b=true->a.eval x=v) (ef:b=false->a.eval y=v) (hn:N (a.put o.dst v) w):o.wp P a w N Q:=by
 refine opv (w':=w) ?_ hn;unfold execOp;rw [h];simp only;rw [ec];cases b
 ·rw [<- ef rfl];rfl
 ·rw [<- et rfl];rfl
theorem XP {t:Operand} {k:Nat} {vs:Array Value} {v:Value} (h:o.op=.extract t k) (e:a.eval t=.tuple vs) (hv:vs[k]? = some v) (hn:N (a.put o.dst v) w):o.wp P a w N Q :=
 opv (by unfold execOp;rw [h];simp only;rw [e];simp only [Instr.extract,hv];rfl) hn
theorem KL {T:TypeId} {x:Operand} {b:Bool} (h:o.op=.unOp .not T x) (e:a.eval x=.bool b) (hn:N (a.put o.dst (.bool (!b))) w):o.wp P a w N Q :=
 opv (by unfold execOp;rw [h];simp only;rw [e];rfl) hn
theorem Yl {op:BinOp} {T T':TypeId} {x y:Operand} {m n:Int} {v:Value} (h:o.op=.binOp op T x y T') (ex:a.eval x=.int .i64 m) (ey:a.eval y=.int .i64 n) (hg:eqGuard op T x y (.int .i64 m) (.int .i64 n)=pure ()) (hv:binOp op T (.int .i64 m) (.int .i64 n)=pure v) (hn:N (a.put o.dst v) w):o.wp P a w N Q :=
 opv (by unfold execOp;rw [h];simp only;rw [ex,ey,hg,hv];rfl) hn
theorem Z2 {T T':TypeId} {x y:Operand} {m n:Int} (h:o.op=.binOp .add T x y T') (ex:a.eval x=.int .i64 m) (ey:a.eval y=.int .i64 n) (hw : -9223372036854775808<=m+n/\m+n<=9223372036854775807) (hn:N (a.put o.dst (.int .i64 (m+n))) w):o.wp P a w N Q:=by
 refine Yl (v:=.int .i64 (m+n)) h ex ey rfl ?_ hn;show pure (Value.int .i64 (IntKind.i64.wrap (m+n)))=_;rw [wrp hw]
theorem wp_sub {T T':TypeId} {x y:Operand} {m n:Int} (h:o.op=.binOp .sub T x y T') (ex:a.eval x=.int .i64 m) (ey:a.eval y=.int .i64 n) (hw : -9223372036854775808<=m-n/\m-n<=9223372036854775807) (hn:N (a.put o.dst (.int .i64 (m-n))) w):o.wp P a w N Q:=by
 refine Yl (v:=.int .i64 (m-n)) h ex ey rfl ?_ hn;show pure (Value.int .i64 (IntKind.i64.wrap (m-n)))=_;rw [wrp hw]
theorem YV {T T':TypeId} {x y:Operand} {m n:Int} (h:o.op=.binOp .mul T x y T') (ex:a.eval x=.int .i64 m) (ey:a.eval y=.int .i64 n) (hw : -9223372036854775808<=m*n/\m*n<=9223372036854775807) (hn:N (a.put o.dst (.int .i64 (m*n))) w):o.wp P a w N Q:=by
 refine Yl (v:=.int .i64 (m*n)) h ex ey rfl ?_ hn;show pure (Value.int .i64 (IntKind.i64.wrap (m*n)))=_;rw [wrp hw]
theorem Ja {T:TypeId} {x:Operand} {m:Int} (h:o.op=.unOp .neg T x) (ex:a.eval x=.int .i64 m) (hw : -9223372036854775808<=-m/\-m<=9223372036854775807) (hn:N (a.put o.dst (.int .i64 (-m))) w):o.wp P a w N Q :=
 opv (by
  unfold execOp;rw [h];simp only;rw [ex];have e:Op.unary .neg (.int .i64 m)=pure (.int .i64 (IntKind.i64.wrap (0-m))):=rfl;rw [e,Int.zero_sub,wrp hw];rfl) hn
end
abbrev Jv (x:XU) (a:Yn):List Value:=[.slice a.map.A (List.length x.map) a.map.c,.int .i64 x.div,.int .i64 x.bx,.int .i64 x.by_,.int .i64 x.low,.int .i64 x.high,.slice a.noise.A (List.length x.noise) a.noise.c,.slice a.limits.A (List.length x.limits) a.limits.c]
abbrev XJ (x:ZE) (a:ZF):List Value:=[.slice a.room.map.A (List.length x.room.map) a.room.map.c,.int .i64 x.room.div,.int .i64 x.room.bx,.int .i64 x.room.by_,.int .i64 x.room.low,.int .i64 x.room.high,.slice a.room.noise.A (List.length x.room.noise) a.room.noise.c,.slice a.room.limits.A (List.length x.room.limits) a.room.limits.c,.slice a.reg.A (List.length x.reg) a.reg.c,.slice a.log.A (List.length x.log) a.log.c]
theorem Xu {α:Type} {x:Bool} {u v:α} (h:x=true):(bif x then u else v)=u:=by rw [h];rfl
theorem Xq {α:Type} {x:Bool} {u v:α} (h:x=false):(bif x then u else v)=v:=by rw [h];rfl
theorem vor_t {x y:Bool} (h:x=true):Value.bool true=.bool (x||y):=by rw [h];rfl
theorem vor_f {x y:Bool} (h:x=false):Value.bool y=.bool (x||y):=by rw [h];rfl
theorem Jm {x y:Bool} (h:x=false):Value.bool false=.bool (x&&y):=by rw [h];rfl
theorem Jl {x y:Bool} (h:x=true):Value.bool y=.bool (x&&y):=by rw [h];rfl
theorem vb {x b:Bool} {v:Value} (e:v=.bool x) (h:x=b):v=.bool b:=by rw [e,h]
theorem Yg.othT {W w:World} {a:Act} {s T T' g':Nat} {z vs':List Value} {b:Bool} {C:World->List Value->Prop} (h:Yg W a w s T z b C) (hg:Xz w g' T' vs') (hT:T≠T') (us:List Value) (o:Nat) (hC:∀ vs,C w vs->C (w.setCells g' o us) vs):Yg W a (w.setCells g' o us) s T z b C:=by
 obtain ⟨g,e,hg2,y,n⟩:=h;have hq:g'≠g:=by
  cases b
  ·exact (y rfl).ne hg hT
  ·obtain ⟨vs,h1,_⟩:=n rfl;exact h1.ne hg hT
 exact ⟨g,e,hg2,λ h=>(y h).other hq us o,λ h=>by obtain ⟨vs,h1,h2⟩:=n h;exact ⟨vs,h1.other hq us o,hC vs h2⟩⟩
def echk (l:List Oper) (ss cs:List Nat) (ob:List Bool) (D is:List Nat):Bool :=
 is == List.range l.length&&l.map (·.dst) == ss.map some&&ss == D&&decide D.Nodup&&(l.all λ o=>o.guard.isNone)&&ob.length == l.length&&cs == (List.range l.length).map λ i=>(ob.take i).countP id
structure EntJ (a0:Act) (w0:World) (D ss:List Nat) (vs:List Value) (os:List (Option Obj)) (k:Nat) (a:Act) (w:World):Prop where
 fr:XS a0 a D
 vs:∀ i,i<k->a.tmps[ss.getD i 0]?.getD undef=vs.getD i undef
 bel:Below w0.heap.size w0 w
 size:w.heap.size=w0.heap.size+((os.take k).filterMap id).length
 obj:∀ (j:Nat) (x:Obj),((os.take k).filterMap id)[j]? = some x->w.heap[w0.heap.size+j]? = some x
theorem cnt_fm:∀ (l:List (Option Obj)),(l.map Option.isSome).countP id=(l.filterMap id).length
 | []=>rfl
 | none :: r=>by simp [cnt_fm r]
 | some x :: r=>by simp [cnt_fm r]
theorem Yt {P:Program} {id_:Nat} {Q:Exit->Act->World->Prop} {a:Act} {w:World} {l:List Oper} (ss:List Nat) (vs:List Value) (os:List (Option Obj)) (cs D is:List Nat)
 (hc:echk l ss cs (os.map Option.isSome) D is=true) (hD:∀ s∈D,s<a.tmps.size)
 (hs:Each (λ o i=>∀ (a':Act) (w':World),XS a a' D->w'.heap.size=w.heap.size+cs.getD i 0->∀ (N:Act->World->Prop) (Q:Exit->Act->World->Prop),N (a'.put o.dst (vs.getD i undef)) (match os.getD i none with|some x=>w'.alloc x|none=>w')->o.wp P a' w' N Q) l is)
 (he:∀ (a':Act) (w':World),XS a a' D->(∀ i,i<l.length->a'.tmps[ss.getD i 0]?.getD undef=vs.getD i undef)->Below w.heap.size w w'->(∀ (j:Nat) (x:Obj),(os.filterMap id)[j]? = some x->w'.heap[w.heap.size+j]? = some x)->Q .normal a' w') :
 (Code.region id_ l.toArray false).wp P Q a w:=by
 unfold echk at hc;simp only [Bool.and_eq_true,beq_iff_eq,decide_eq_true_eq] at hc;obtain ⟨⟨⟨⟨⟨⟨h1,h2⟩,h3⟩,h4⟩,h5⟩,h6⟩,h7⟩:=hc;have hlen:ss.length=l.length:=by have:=congrArg List.length h2;simpa using this.symm
 have hol:os.length=l.length:=by simpa using h6
 refine wp_region_lit ?_;have go:∀ (n k:Nat) (a':Act) (w':World),k+n=l.length->EntJ a w D ss vs os k a' w'->wpList P l.toArray Q (l.drop k) a' w':=by
  intro n;induction n with
  | zero =>
   intro k a' w' hk hJ;rw [List.drop_eq_nil_of_le Oz];have e:os.take k=os:=List.take_of_length_le Oz;refine wpList_nil (he a' w' hJ.fr (λ i hi=>hJ.vs i Oz) hJ.bel (λ j x hx=>hJ.obj j x (by rw [e];exact hx)))
  | succ n ih =>
   intro k a' w' hk hJ;have hkl:k<l.length:=Oz
   rw [List.drop_eq_getElem_cons hkl];have ho:l[k]? = some l[k]:=List.getElem?_eq_getElem hkl;have hdst:l[k].dst=some (ss.getD k 0):=by
    have e:=congrArg (λ m=>m[k]?) h2;simp only [List.getElem?_map,ho,Option.map_some] at e;rw [List.getElem?_eq_getElem (show k<ss.length by omega)] at e;rw [List.getD_eq_getElem?_getD,List.getElem?_eq_getElem (show k<ss.length by omega)];simpa using e
   have hguard:l[k].guard=none:=by
    have:=List.all_eq_true.1 h5 _ (List.getElem_mem hkl);simpa using this
   have hcs:cs.getD k 0=((os.take k).filterMap id).length:=by
    rw [h7,List.getD_eq_getElem?_getD,List.getElem?_map,List.getElem?_range hkl];simp only [Option.map_some,Option.getD_some];rw [<- List.map_take,cnt_fm]
   have hmem:ss.getD k 0∈D:=by
    rw [<- h3,List.getD_eq_getElem?_getD,List.getElem?_eq_getElem (show k<ss.length by omega)];exact List.getElem_mem _
   refine wpList_step (λ K hK=>wnt hguard ?_);refine hs.get k _ k ho (by rw [h1,List.getElem?_range hkl]) a' w' hJ.fr (by rw [hJ.size,hcs]) K Q (hK _ _ (ih (k+1) _ _ Oz ?_));have htk:os.take (k+1)=os.take k++[os.getD k none]:=by
    rw [List.getD_eq_getElem?_getD,List.getElem?_eq_getElem (show k<os.length by omega)];exact Zj os k Oz
   refine ⟨?_, ?_, ?_, ?_, ?_⟩
   ·rw [hdst];exact hJ.fr.put hmem _
   ·intro i hi;rw [hdst];by_cases e:i=k
    ·subst e;exact Xw (by rw [hJ.fr.size];exact hD _ hmem) _
    ·refine (put_get_ne (λ q=>e ?_) _).trans (hJ.vs i Oz);have hnd:ss.Nodup:=by rw [h3];exact h4
     have hi':i<ss.length:=Oz
     have hk':k<ss.length:=Oz
     simp only [List.getD_eq_getElem?_getD,List.getElem?_eq_getElem hi',List.getElem?_eq_getElem hk',Option.getD_some] at q;exact absurd q.symm (List.pairwise_iff_getElem.1 hnd i k hi' hk' Oz)
   ·cases os.getD k none with
    | none=>exact hJ.bel
    | some x=>exact Xc hJ.bel x
   ·rw [htk,List.filterMap_append,List.length_append];cases os.getD k none with
    | none=>simpa using hJ.size
    | some x=>simp [hJ.size];omega
   ·intro j x hx;rw [htk,List.filterMap_append] at hx;cases hq:os.getD k none with
    | none =>
     rw [hq] at hx;exact hJ.obj j x (by simpa using hx)
    | some y =>
     rw [hq] at hx;simp only [List.filterMap_cons,List.filterMap_nil,id_eq] at hx;rcases Nat.lt_or_ge j ((os.take k).filterMap id).length with hj|hj
     ·rw [List.getElem?_append_left hj] at hx;have h8:=hJ.obj j x hx;exact ((Xc bR y).block _ (YD h8)).trans h8
     ·rw [List.getElem?_append_right hj] at hx;have hj2:j=((os.take k).filterMap id).length:=by
       rcases Nat.lt_or_ge (j-((os.take k).filterMap id).length) 1 with h9|h9
       ·omega
       ·rw [List.getElem?_eq_none (by simpa using h9)] at hx;cases hx
      rw [hj2] at hx;simp only [Nat.sub_self,List.getElem?_cons_zero,Option.some.injEq] at hx;subst hx;rw [hj2,<- hJ.size];exact heap_alloc_new w' y
 have:=go l.length 0 a w Oz ⟨XS.refl _ _,λ i hi=>absurd hi (Nat.not_lt_zero _),Below.refl _ _,Sz,λ j x hx=>by simp at hx⟩;simpa using this
section
variable {K:Act->World->Prop} {Q:Exit->Act->World->Prop} {a:Act} {w:World} {i k:Nat}
theorem Xk (h:K a w):Exit.then K Q .normal a w:=h
theorem Y6 (h:Q .ret a w):Exit.then K Q .ret a w:=h
theorem th_e (h:Q (.exit i) a w):Exit.then K Q (.exit i) a w:=h
theorem J8 (h:Q .normal a w):Exit.inBlock k Q .normal a w:=h
theorem Jj (h:Q .ret a w):Exit.inBlock k Q .ret a w:=h
theorem ib_x (h:Q .normal a w):Exit.inBlock i Q (.exit i) a w:=by simp only [Exit.inBlock,if_true];exact h
end
theorem XI.cap {α:Type} {T sz base n c:Nat} {enc:α->List Value} {w:World} {A:Option Addr} {xs:List α} (h:XI T sz enc w base (.slice A n c) xs) (h0:0<xs.length):xs.length<=c:=by
 obtain ⟨A',c',e,h1,h2⟩:=h;injection e with _ _ e3
 rcases h2 with ⟨_,h2⟩|⟨g,cap',cur,hv,hg,hh,r,_⟩
 ·omega
 ·injection hv with _ _ hc
  omega
structure ElS {α:Type} (w:World) (b off sz:Nat) (enc:α->List Value) (xs:List α):Prop where
 lt:b<w.heap.size
 cell:∀ (i:Nat) (h:i<xs.length) (j:Nat) (u:Value),(enc xs[i])[j]? = some u->w.cell? ⟨b,off+i*sz+j,none⟩=some u
theorem ElS.open_ {α:Type} {sz:Nat} {enc:α->List Value} {w:World} {A:Option Addr} {xs:List α} (h:Sl sz enc w A xs) (hn:0<xs.length):∃ b off,A=some ⟨b,off,none⟩/\ElS w b off sz enc xs:=by
 obtain ⟨b,off,hA,hb,hc⟩:=h hn;exact ⟨b,off,hA,hb,hc⟩
theorem ElS.kp {α:Type} {sz b off:Nat} {enc:α->List Value} {M:List Nat} {w w':World} {xs:List α} (h:ElS w b off sz enc xs) (k:Kp M w w') (hb:b ∉ M):ElS w' b off sz enc xs :=
 ⟨Nat.lt_of_lt_of_le h.lt k.size,λ i hi j u hu=>(k.cell h.lt hb _).trans (h.cell i hi j u hu)⟩
theorem ElS.bel {α:Type} {sz b off:Nat} {enc:α->List Value} {w w':World} {xs:List α} (h:ElS w b off sz enc xs) (k:Below w.heap.size w w'):ElS w' b off sz enc xs:=h.kp ((Kp.refl [] w).call k) Sz
theorem ElS.at_ {α:Type} {sz b off:Nat} {enc:α->List Value} {w:World} {xs:List α} (h:ElS w b off sz enc xs) (d:α) {i:Nat} (hi:i<xs.length) (j:Nat) {p:Nat} (hp:p=off+i*sz+j) {u:Value} (hu:(enc (xs.getD i d))[j]? = some u):w.cell? ⟨b,p,none⟩=some u:=by
 subst hp;refine h.cell i hi j u ?_;rw [List.getD_eq_getElem?_getD,List.getElem?_eq_getElem hi] at hu;exact hu
theorem KU {x y:Bool} (h:(x||y)=false):x=false:=by cases x<;>simp_all
theorem J6 {x y:Bool} (h:(x||y)=false):y=false:=by cases x<;>simp_all
theorem Jr {x y:Bool} (h:(x&&y)=true):x=true:=by cases x<;>simp_all
theorem and_t2 {x y:Bool} (h:(x&&y)=true):y=true:=by cases x<;>simp_all
theorem Yu {x:Bool} (h:(!x)=false):x=true:=by cases x<;>simp_all
theorem Jw {x:Bool} (h:(!x)=true):x=false:=by cases x<;>simp_all
theorem KZ {p:Prop} [Decidable p] (h:decide p=true):p:=of_decide_eq_true h
theorem YT {p:Prop} [Decidable p] (h:decide p=false):¬ p:=of_decide_eq_false h
theorem beq_t {x y:Int} (h:(x == y)=true):x=y:=by simpa using h
theorem beq_f {x y:Int} (h:(x == y)=false):¬ x=y:=by simpa using h
theorem ec {F:Oper->Nat->Prop} {o:Oper} {i:Nat} {l:List Oper} {is:List Nat} (h:F o i) (t:Each F l is):Each F (o :: l) (i :: is):=.cons h t
theorem Kr {P:Program} {o oj:Oper} {ops:Array Oper} {a:Act} {w:World} {N:Act->World->Prop} {Q:Exit->Act->World->Prop} {R:Prop} {j s:Nat} {x:Bool} (hg:o.guard=some (j,false)) (hj:ops[j]? = some oj) (hd:oj.dst=some s) (hv:a.tmps[s]?.getD undef=.bool x) (hs:x=true->R) (h:x=false->o.wp P a w N Q):if Region.wanted o (yielded ops a.tmps)=true then o.wp P a w N Q else R:=by
 cases x
 ·exact Kc hg hj hd hv (h rfl)
 ·exact wnt_n hg hj hd hv Dz (hs rfl)
theorem wgt {P:Program} {o oj:Oper} {ops:Array Oper} {a:Act} {w:World} {N:Act->World->Prop} {Q:Exit->Act->World->Prop} {R:Prop} {j s:Nat} {x:Bool} (hg:o.guard=some (j,true)) (hj:ops[j]? = some oj) (hd:oj.dst=some s) (hv:a.tmps[s]?.getD undef=.bool x) (hs:x=false->R) (h:x=true->o.wp P a w N Q):if Region.wanted o (yielded ops a.tmps)=true then o.wp P a w N Q else R:=by
 cases x
 ·exact wnt_n hg hj hd hv Dz (hs rfl)
 ·exact Kc hg hj hd hv (h rfl)
theorem wp_quo {P:Program} {o:Oper} {a:Act} {w:World} {N:Act->World->Prop} {Q:Exit->Act->World->Prop} {T T':TypeId} {x y:Operand} {m n:Int} (h:o.op=.binOp .quo T x y T') (ex:a.eval x=.int .i64 m) (ey:a.eval y=.int .i64 n) (h0:n≠0) (hw : -9223372036854775808<=m.tdiv n/\m.tdiv n<=9223372036854775807) (hn:N (a.put o.dst (.int .i64 (m.tdiv n))) w):o.wp P a w N Q:=by
 refine Yl (v:=.int .i64 (m.tdiv n)) h ex ey rfl ?_ hn;show Op.intDiv .quo .i64 m n=_;simp [Op.intDiv,h0,wrp hw]
theorem wnt_u {o oj:Oper} {ops:Array Oper} {a:Act} {R S:Prop} {j s:Nat} {b:Bool} (hg:o.guard=some (j,b)) (hj:ops[j]? = some oj) (hd:oj.dst=some s) (hv:a.tmps[s]?.getD undef=undef) (h:S):if Region.wanted o (yielded ops a.tmps)=true then R else S:=by
 rw [if_neg]
 ·exact h
 ·unfold Region.wanted;rw [hg];simp only [yielded,hj,Option.bind_some,hd];cases e:a.tmps[s]? with
  | none=>simp
  | some v =>
   rw [e] at hv;simp only [Option.getD_some] at hv;rw [hv];simp [undef]
theorem gS (a:Act) (k:Nat) {v:Value} (h:a.tmps[k]?.getD undef=v):a.tmps[k]?.getD undef=v:=h
theorem XS.G {a0 a:Act} {D:List Nat} (h:XS a0 a D) {k:Nat} {v:Value} (e:a0.tmps[k]?.getD undef=v) (hk:D.contains k=false:=by rfl):a.tmps[k]?.getD undef=v:=h.g hk e
theorem XS.G2 {a0 a:Act} {D:List Nat} (h:XS a0 a D) {k l:Nat} {v u:Value} (e:a0.tmps[k]?.getD undef=v) (f:a0.tmps[l]?.getD undef=u) (t0:D.contains k=false:=by rfl) (t1:D.contains l=false:=by rfl):a.tmps[k]?.getD undef=v/\a.tmps[l]?.getD undef=u:=⟨h.g t0 e,h.g t1 f⟩
theorem XS.G3 {a0 a:Act} {D:List Nat} (h:XS a0 a D) {k l m:Nat} {v u x:Value} (e:a0.tmps[k]?.getD undef=v) (f:a0.tmps[l]?.getD undef=u) (g:a0.tmps[m]?.getD undef=x) (t0:D.contains k=false:=by rfl) (t1:D.contains l=false:=by rfl) (t2:D.contains m=false:=by rfl):a.tmps[k]?.getD undef=v/\a.tmps[l]?.getD undef=u/\a.tmps[m]?.getD undef=x:=⟨h.g t0 e,h.g t1 f,h.g t2 g⟩
theorem XS.G4 {a0 a:Act} {D:List Nat} (h:XS a0 a D) {k l m n:Nat} {v u x y:Value} (e:a0.tmps[k]?.getD undef=v) (f:a0.tmps[l]?.getD undef=u) (g:a0.tmps[m]?.getD undef=x) (h1:a0.tmps[n]?.getD undef=y) (t0:D.contains k=false:=by rfl) (t1:D.contains l=false:=by rfl) (t2:D.contains m=false:=by rfl) (t3:D.contains n=false:=by rfl):a.tmps[k]?.getD undef=v/\a.tmps[l]?.getD undef=u/\a.tmps[m]?.getD undef=x/\a.tmps[n]?.getD undef=y:=⟨h.g t0 e,h.g t1 f,h.g t2 g,h.g t3 h1⟩
theorem XS.G5 {a0 a:Act} {D:List Nat} (h:XS a0 a D) {k l m n i:Nat} {v u x y z:Value} (e:a0.tmps[k]?.getD undef=v) (f:a0.tmps[l]?.getD undef=u) (g:a0.tmps[m]?.getD undef=x) (h1:a0.tmps[n]?.getD undef=y) (h2:a0.tmps[i]?.getD undef=z) (t0:D.contains k=false:=by rfl) (t1:D.contains l=false:=by rfl) (t2:D.contains m=false:=by rfl) (t3:D.contains n=false:=by rfl) (t4:D.contains i=false:=by rfl):a.tmps[k]?.getD undef=v/\a.tmps[l]?.getD undef=u/\a.tmps[m]?.getD undef=x/\a.tmps[n]?.getD undef=y/\a.tmps[i]?.getD undef=z:=⟨h.g t0 e,h.g t1 f,h.g t2 g,h.g t3 h1,h.g t4 h2⟩
theorem XS.G6 {a0 a:Act} {D:List Nat} (h:XS a0 a D) {k l m n i j:Nat} {v u x y z p:Value} (e:a0.tmps[k]?.getD undef=v) (f:a0.tmps[l]?.getD undef=u) (g:a0.tmps[m]?.getD undef=x) (h1:a0.tmps[n]?.getD undef=y) (h2:a0.tmps[i]?.getD undef=z) (h3:a0.tmps[j]?.getD undef=p) (t0:D.contains k=false:=by rfl) (t1:D.contains l=false:=by rfl) (t2:D.contains m=false:=by rfl) (t3:D.contains n=false:=by rfl) (t4:D.contains i=false:=by rfl) (t5:D.contains j=false:=by rfl):a.tmps[k]?.getD undef=v/\a.tmps[l]?.getD undef=u/\a.tmps[m]?.getD undef=x/\a.tmps[n]?.getD undef=y/\a.tmps[i]?.getD undef=z/\a.tmps[j]?.getD undef=p:=⟨h.g t0 e,h.g t1 f,h.g t2 g,h.g t3 h1,h.g t4 h2,h.g t5 h3⟩
theorem XS.G7 {a0 a:Act} {D:List Nat} (h:XS a0 a D) {k l m n i j c:Nat} {v u x y z p q:Value} (e:a0.tmps[k]?.getD undef=v) (f:a0.tmps[l]?.getD undef=u) (g:a0.tmps[m]?.getD undef=x) (h1:a0.tmps[n]?.getD undef=y) (h2:a0.tmps[i]?.getD undef=z) (h3:a0.tmps[j]?.getD undef=p) (h4:a0.tmps[c]?.getD undef=q) (t0:D.contains k=false:=by rfl) (t1:D.contains l=false:=by rfl) (t2:D.contains m=false:=by rfl) (t3:D.contains n=false:=by rfl) (t4:D.contains i=false:=by rfl) (t5:D.contains j=false:=by rfl) (t6:D.contains c=false:=by rfl):a.tmps[k]?.getD undef=v/\a.tmps[l]?.getD undef=u/\a.tmps[m]?.getD undef=x/\a.tmps[n]?.getD undef=y/\a.tmps[i]?.getD undef=z/\a.tmps[j]?.getD undef=p/\a.tmps[c]?.getD undef=q:=⟨h.g t0 e,h.g t1 f,h.g t2 g,h.g t3 h1,h.g t4 h2,h.g t5 h3,h.g t6 h4⟩
theorem XS.G8 {a0 a:Act} {D:List Nat} (h:XS a0 a D) {k l m n i j c d:Nat} {v u x y z p q r:Value} (e:a0.tmps[k]?.getD undef=v) (f:a0.tmps[l]?.getD undef=u) (g:a0.tmps[m]?.getD undef=x) (h1:a0.tmps[n]?.getD undef=y) (h2:a0.tmps[i]?.getD undef=z) (h3:a0.tmps[j]?.getD undef=p) (h4:a0.tmps[c]?.getD undef=q) (h5:a0.tmps[d]?.getD undef=r) (t0:D.contains k=false:=by rfl) (t1:D.contains l=false:=by rfl) (t2:D.contains m=false:=by rfl) (t3:D.contains n=false:=by rfl) (t4:D.contains i=false:=by rfl) (t5:D.contains j=false:=by rfl) (t6:D.contains c=false:=by rfl) (t7:D.contains d=false:=by rfl):a.tmps[k]?.getD undef=v/\a.tmps[l]?.getD undef=u/\a.tmps[m]?.getD undef=x/\a.tmps[n]?.getD undef=y/\a.tmps[i]?.getD undef=z/\a.tmps[j]?.getD undef=p/\a.tmps[c]?.getD undef=q/\a.tmps[d]?.getD undef=r:=⟨h.g t0 e,h.g t1 f,h.g t2 g,h.g t3 h1,h.g t4 h2,h.g t5 h3,h.g t6 h4,h.g t7 h5⟩
theorem XS.Z {a0 a:Act} {D:List Nat} {n:Nat} (h:XS a0 a D) (e:a0.tmps.size=n):a.tmps.size=n:=h.size.trans e
theorem XS.E {a0 a:Act} {D:List Nat} (h:XS a0 a D) (e:a0.defers=[]):a.defers=[]:=h.defers.trans e
theorem Xz.k0 {w w':World} {g T:Nat} {vs:List Value} (h:Xz w g T vs) (k:Kp [] w w'):Xz w' g T vs:=h.kp k Sz
def Xf (S:List Nat) (F:(Nat->Bool)->Act->World->Prop):Prop:=∀ (L:Nat->Bool) (aa:Act) (Y w':World) (kk:Option Nat) (vv:Value),(∀ s∈S,kk≠some s)->Below Y.heap.size Y w'->F L aa Y->F L (aa.put kk vv) w'
theorem Xf.b {S:List Nat} {F:(Nat->Bool)->Act->World->Prop} (h:Xf S F) {L:Nat->Bool} {a:Act} {w w':World} {k:Nat} {v:Value} (hk:S.contains k=false) (hb:Below w.heap.size w w') (O:F L a w):F L (a.put (some k) v) w' :=
 h L a w w' (some k) v (λ s hs e=>by injection e with e;subst e;rw [List.contains_iff_mem.2 hs] at hk;cases hk) hb O
theorem Xf.q {S:List Nat} {F:(Nat->Bool)->Act->World->Prop} (h:Xf S F) {L:Nat->Bool} {a:Act} {w:World} {k:Nat} {v:Value} (hk:S.contains k=false) (O:F L a w):F L (a.put (some k) v) w:=h.b hk bR O
theorem Xf.a {S T:List Nat} {F G:(Nat->Bool)->Act->World->Prop} (h:Xf S F) (g:Xf T G):Xf (S++T) (λ L a w=>F L a w/\G L a w) :=
 λ L a w w' k v hk hb O=>⟨h L a w w' k v (λ s hs=>hk s (List.mem_append_left _ hs)) hb O.1,g L a w w' k v (λ s hs=>hk s (List.mem_append_right _ hs)) hb O.2⟩
theorem Xf.e (k i:Nat) (φ:World->Value->Prop) (h:∀ {w w':World},Below w.heap.size w w'->∀ v,φ w v->φ w' v):Xf [k] (λ L a w=>L i=true->φ w (a.tmps[k]?.getD undef)) :=
 λ _ _ _ _ _ v hk hb O hi=>by rw [Xg (hk k Sz) v];exact h hb _ (O hi)
theorem Xf.u (k i u:Nat) (φ:World->Value->Prop) (h:∀ {w w':World},Below w.heap.size w w'->∀ v,φ w v->φ w' v):Xf [k] (λ L a w=>L i=true->L u=false->φ w (a.tmps[k]?.getD undef)) :=
 λ _ _ _ _ _ v hk hb O hi hu=>by rw [Xg (hk k Sz) v];exact h hb _ (O hi hu)
theorem Xf.x (k i j:Nat) (W:World) (T:Nat) (z:List Value) (C:World->List Value->Prop) (h:∀ {w w':World},Below w.heap.size w w'->∀ vs,C w vs->C w' vs):Xf [k] (λ L a w=>L i=true->Yg W a w k T z (L j) C) :=
 λ _ _ _ _ _ v hk hb O hi=>((O hi).bel hb (h hb)).put (hk k Sz) v
theorem Xf.y (k i:Nat) (W:World) (T:Nat) (z:List Value):Xf [k] (λ L a w=>L i=true->Yg W a w k T z false (λ _ _=>True)) :=
 λ _ _ _ _ _ v hk hb O hi=>((O hi).bel hb (λ _ h=>h)).put (hk k Sz) v
theorem XS.s {a0 a:Act} {D:List Nat} (h:XS a0 a D) {n:Nat} (U:a0.tmps.size=n) {k:Nat} {v:Value} (hk:k<n:=by decide):(a.put (some k) v).tmps[k]?.getD undef=v:=Xw (h.lt (by rw [U];exact hk)) v
def Yc (n:Nat):List (List Nat):=(List.range n).map List.range
structure OX (a0:Act) (w0:World) (D M ss:List Nat) (dl:List (List Nat)) (vs:List (Option Value)) (X:(Nat->Bool)->Act->World->Prop) (i:Nat) (I:Nat->Bool) (a:Act) (w:World):Prop where
 n:I i=false
 r:∀ j,(dl.getD i []).contains j=true->I j=true
 t:∀ j,(dl.getD j []).contains i=true->I j=false
 f:XS a0 a D
 k:Kp M w0 w
 v:∀ j u,vs[j]? = some (some u)->I j=true->a.tmps[ss.getD j 0]?.getD undef=u
 x:X I a w
theorem OX.d {a0:Act} {w0:World} {D M ss:List Nat} {dl:List (List Nat)} {vs:List (Option Value)} {X:(Nat->Bool)->Act->World->Prop} {i:Nat} {I:Nat->Bool} {a:Act} {w:World} (h:OX a0 w0 D M ss dl vs X i I a w) (j:Nat) {v:Value} (hv:vs[j]? = some (some v)) (hc:(dl.getD i []).contains j=true):a.tmps[ss.getD j 0]?.getD undef=v:=h.v j v hv (h.r j hc)
theorem en {P:Program} {a0:Act} {w0:World} {l0:List Oper} {D M ss:List Nat} {dl:List (List Nat)} {vs:List (Option Value)} {X:(Nat->Bool)->Act->World->Prop} {o:Oper} {i:Nat} {l:List Oper} {is:List Nat} (hg:o.guard=none)
 (h:∀ (I:Nat->Bool) (a:Act) (w:World),OX a0 w0 D M ss dl vs X i I a w->∀ (N:Act->World->Prop) (Q:Exit->Act->World->Prop),(∀ v w',Kp M w0 w'->ZJ vs[i]? v->X (ZV I i) (a.put o.dst v) w'->N (a.put o.dst v) w')->o.wp P a w N Q)
 (r:Each (Obl P a0 w0 l0 D M ss dl vs X) l is):Each (Obl P a0 w0 l0 D M ss dl vs X) (o :: l) (i :: is) :=
 .cons (λ I a w h1 h2 h3 h4 h5 h6 h7 N Q J=>wnt hg (h I a w ⟨h1,h2,h3,h4,h5,h6,h7⟩ N Q J)) r
abbrev OB (P:Program) (a0:Act) (w0:World) (D M ss:List Nat) (dl:List (List Nat)) (vs:List (Option Value)) (X:(Nat->Bool)->Act->World->Prop) (o:Oper) (i:Nat):Prop :=
 ∀ (I:Nat->Bool) (a:Act) (w:World),OX a0 w0 D M ss dl vs X i I a w->∀ (N:Act->World->Prop) (Q:Exit->Act->World->Prop),(∀ v w',Kp M w0 w'->ZJ vs[i]? v->X (ZV I i) (a.put o.dst v) w'->N (a.put o.dst v) w')->o.wp P a w N Q
theorem e2 {P:Program} {a0:Act} {w0:World} {l0:List Oper} {D M ss:List Nat} {dl:List (List Nat)} {vs:List (Option Value)} {X:(Nat->Bool)->Act->World->Prop} {o1 o2:Oper} {i1 i2:Nat} {l:List Oper} {is:List Nat} (h1:OB P a0 w0 D M ss dl vs X o1 i1) (h2:OB P a0 w0 D M ss dl vs X o2 i2) (r:Each (Obl P a0 w0 l0 D M ss dl vs X) l is) (g1:o1.guard=none:=by rfl) (g2:o2.guard=none:=by rfl):Each (Obl P a0 w0 l0 D M ss dl vs X) (o1 :: o2 :: l) (i1 :: i2 :: is):=en g1 h1 (en g2 h2 r)
theorem e4 {P:Program} {a0:Act} {w0:World} {l0:List Oper} {D M ss:List Nat} {dl:List (List Nat)} {vs:List (Option Value)} {X:(Nat->Bool)->Act->World->Prop} {o1 o2 o3 o4:Oper} {i1 i2 i3 i4:Nat} {l:List Oper} {is:List Nat} (h1:OB P a0 w0 D M ss dl vs X o1 i1) (h2:OB P a0 w0 D M ss dl vs X o2 i2) (h3:OB P a0 w0 D M ss dl vs X o3 i3) (h4:OB P a0 w0 D M ss dl vs X o4 i4) (r:Each (Obl P a0 w0 l0 D M ss dl vs X) l is) (g1:o1.guard=none:=by rfl) (g2:o2.guard=none:=by rfl) (g3:o3.guard=none:=by rfl) (g4:o4.guard=none:=by rfl):Each (Obl P a0 w0 l0 D M ss dl vs X) (o1 :: o2 :: o3 :: o4 :: l) (i1 :: i2 :: i3 :: i4 :: is):=e2 h1 h2 (e2 h3 h4 r g3 g4) g1 g2
theorem eg {P:Program} {a0:Act} {w0:World} {l0:List Oper} {D M ss:List Nat} {dl:List (List Nat)} {vs:List (Option Value)} {X:(Nat->Bool)->Act->World->Prop} {o:Oper} {i:Nat} {l:List Oper} {is:List Nat}
 (h:∀ (I:Nat->Bool) (a:Act) (w:World),OX a0 w0 D M ss dl vs X i I a w->∀ (N:Act->World->Prop) (Q:Exit->Act->World->Prop),(∀ v w',Kp M w0 w'->ZJ vs[i]? v->X (ZV I i) (a.put o.dst v) w'->N (a.put o.dst v) w')->if Region.wanted o (yielded l0.toArray a.tmps)=true then o.wp P a w N Q else N (a.put o.dst undef) w)
 (r:Each (Obl P a0 w0 l0 D M ss dl vs X) l is):Each (Obl P a0 w0 l0 D M ss dl vs X) (o :: l) (i :: is) :=
 .cons (λ I a w h1 h2 h3 h4 h5 h6 h7 N Q J=>h I a w ⟨h1,h2,h3,h4,h5,h6,h7⟩ N Q J) r
theorem Z1 {P:Program} {a0:Act} {w0:World} {D M ss:List Nat} {dl:List (List Nat)} {vs:List (Option Value)} {o:Oper} {i:Nat} {k:Nat} {v:Value} (s:a0.tmps[k]?.getD undef=v) (h:o.op=.move (.tmp k)) (hk:D.contains k=false) (hv:ZJ vs[i]? v) :
 ∀ (I:Nat->Bool) (a:Act) (w:World),OX a0 w0 D M ss dl vs (λ _ _ _=>True) i I a w->∀ (N:Act->World->Prop) (Q:Exit->Act->World->Prop),(∀ v w',Kp M w0 w'->ZJ vs[i]? v->True->N (a.put o.dst v) w')->o.wp P a w N Q :=
 λ _ _ _ H _ _ J=>XR h (ev (H.f.g hk s)) (J _ _ H.k hv trivial)
theorem ZK {P:Program} {a0:Act} {w0:World} {D M ss:List Nat} {dl:List (List Nat)} {vs:List (Option Value)} {X:(Nat->Bool)->Act->World->Prop} {o:Oper} {i:Nat} {k:Nat} {v:Value} (s:a0.tmps[k]?.getD undef=v) (h:o.op=.move (.tmp k)) (hk:D.contains k=false) (hv:ZJ vs[i]? v) (hx:∀ L a w v,X L a w->X (ZV L i) (a.put o.dst v) w) :
 ∀ (I:Nat->Bool) (a:Act) (w:World),OX a0 w0 D M ss dl vs X i I a w->∀ (N:Act->World->Prop) (Q:Exit->Act->World->Prop),(∀ v w',Kp M w0 w'->ZJ vs[i]? v->X (ZV I i) (a.put o.dst v) w'->N (a.put o.dst v) w')->o.wp P a w N Q :=
 λ _ _ _ H _ _ J=>XR h (ev (H.f.g hk s)) (J _ _ H.k hv (hx _ _ _ _ H.x))
theorem Ks {P:Program} {a0:Act} {w0:World} {D M ss:List Nat} {dl:List (List Nat)} {vs:List (Option Value)} {o:Oper} {i:Nat} (j:Nat) {v:Value} (h:o.op=.move (.tmp (ss.getD j 0))) (hj:vs[j]? = some (some v)) (hc:(dl.getD i []).contains j=true) (hv:ZJ vs[i]? v) :
 ∀ (I:Nat->Bool) (a:Act) (w:World),OX a0 w0 D M ss dl vs (λ _ _ _=>True) i I a w->∀ (N:Act->World->Prop) (Q:Exit->Act->World->Prop),(∀ v w',Kp M w0 w'->ZJ vs[i]? v->True->N (a.put o.dst v) w')->o.wp P a w N Q :=
 λ _ _ _ H _ _ J=>XR h (ev (H.d j hj hc)) (J _ _ H.k hv trivial)
theorem oMDX {P:Program} {a0:Act} {w0:World} {D M ss:List Nat} {dl:List (List Nat)} {vs:List (Option Value)} {X:(Nat->Bool)->Act->World->Prop} {o:Oper} {i:Nat} (j:Nat) {v:Value} (h:o.op=.move (.tmp (ss.getD j 0))) (hj:vs[j]? = some (some v)) (hc:(dl.getD i []).contains j=true) (hv:ZJ vs[i]? v) (hx:∀ L a w v,X L a w->X (ZV L i) (a.put o.dst v) w) :
 ∀ (I:Nat->Bool) (a:Act) (w:World),OX a0 w0 D M ss dl vs X i I a w->∀ (N:Act->World->Prop) (Q:Exit->Act->World->Prop),(∀ v w',Kp M w0 w'->ZJ vs[i]? v->X (ZV I i) (a.put o.dst v) w'->N (a.put o.dst v) w')->o.wp P a w N Q :=
 λ _ _ _ H _ _ J=>XR h (ev (H.d j hj hc)) (J _ _ H.k hv (hx _ _ _ _ H.x))
theorem oMCT {P:Program} {a0:Act} {w0:World} {D M ss:List Nat} {dl:List (List Nat)} {vs:List (Option Value)} {o:Oper} {i:Nat} {v:Value} (h:o.op=.move (.const v)) (hv:ZJ vs[i]? v) :
 ∀ (I:Nat->Bool) (a:Act) (w:World),OX a0 w0 D M ss dl vs (λ _ _ _=>True) i I a w->∀ (N:Act->World->Prop) (Q:Exit->Act->World->Prop),(∀ v w',Kp M w0 w'->ZJ vs[i]? v->True->N (a.put o.dst v) w')->o.wp P a w N Q :=
 λ _ _ _ H _ _ J=>XR h (rfl) (J _ _ H.k hv trivial)
theorem oMCX {P:Program} {a0:Act} {w0:World} {D M ss:List Nat} {dl:List (List Nat)} {vs:List (Option Value)} {X:(Nat->Bool)->Act->World->Prop} {o:Oper} {i:Nat} {v:Value} (h:o.op=.move (.const v)) (hv:ZJ vs[i]? v) (hx:∀ L a w v,X L a w->X (ZV L i) (a.put o.dst v) w) :
 ∀ (I:Nat->Bool) (a:Act) (w:World),OX a0 w0 D M ss dl vs X i I a w->∀ (N:Act->World->Prop) (Q:Exit->Act->World->Prop),(∀ v w',Kp M w0 w'->ZJ vs[i]? v->X (ZV I i) (a.put o.dst v) w'->N (a.put o.dst v) w')->o.wp P a w N Q :=
 λ _ _ _ H _ _ J=>XR h (rfl) (J _ _ H.k hv (hx _ _ _ _ H.x))
theorem KE {P:Program} {a0:Act} {w0:World} {D M ss:List Nat} {dl:List (List Nat)} {vs:List (Option Value)} {o:Oper} {i:Nat} (j:Nat) {v:Value} (h:o.op=.assign (.tmp (ss.getD j 0))) (hj:vs[j]? = some (some v)) (hc:(dl.getD i []).contains j=true) (hv:ZJ vs[i]? v) :
 ∀ (I:Nat->Bool) (a:Act) (w:World),OX a0 w0 D M ss dl vs (λ _ _ _=>True) i I a w->∀ (N:Act->World->Prop) (Q:Exit->Act->World->Prop),(∀ v w',Kp M w0 w'->ZJ vs[i]? v->True->N (a.put o.dst v) w')->o.wp P a w N Q :=
 λ _ _ _ H _ _ J=>Y5 h (ev (H.d j hj hc)) (J _ _ H.k hv trivial)
theorem KW {P:Program} {a0:Act} {w0:World} {D M ss:List Nat} {dl:List (List Nat)} {vs:List (Option Value)} {X:(Nat->Bool)->Act->World->Prop} {o:Oper} {i:Nat} (j:Nat) {v:Value} (h:o.op=.assign (.tmp (ss.getD j 0))) (hj:vs[j]? = some (some v)) (hc:(dl.getD i []).contains j=true) (hv:ZJ vs[i]? v) (hx:∀ L a w v,X L a w->X (ZV L i) (a.put o.dst v) w) :
 ∀ (I:Nat->Bool) (a:Act) (w:World),OX a0 w0 D M ss dl vs X i I a w->∀ (N:Act->World->Prop) (Q:Exit->Act->World->Prop),(∀ v w',Kp M w0 w'->ZJ vs[i]? v->X (ZV I i) (a.put o.dst v) w'->N (a.put o.dst v) w')->o.wp P a w N Q :=
 λ _ _ _ H _ _ J=>Y5 h (ev (H.d j hj hc)) (J _ _ H.k hv (hx _ _ _ _ H.x))
theorem JB {P:Program} {a0:Act} {w0:World} {D M ss:List Nat} {dl:List (List Nat)} {vs:List (Option Value)} {o:Oper} {i:Nat} {v:Value} (h:o.op=.assign (.const v)) (hv:ZJ vs[i]? v) :
 ∀ (I:Nat->Bool) (a:Act) (w:World),OX a0 w0 D M ss dl vs (λ _ _ _=>True) i I a w->∀ (N:Act->World->Prop) (Q:Exit->Act->World->Prop),(∀ v w',Kp M w0 w'->ZJ vs[i]? v->True->N (a.put o.dst v) w')->o.wp P a w N Q :=
 λ _ _ _ H _ _ J=>Y5 h (rfl) (J _ _ H.k hv trivial)
theorem KQ {P:Program} {a0:Act} {w0:World} {D M ss:List Nat} {dl:List (List Nat)} {vs:List (Option Value)} {X:(Nat->Bool)->Act->World->Prop} {o:Oper} {i:Nat} {v:Value} (h:o.op=.assign (.const v)) (hv:ZJ vs[i]? v) (hx:∀ L a w v,X L a w->X (ZV L i) (a.put o.dst v) w) :
 ∀ (I:Nat->Bool) (a:Act) (w:World),OX a0 w0 D M ss dl vs X i I a w->∀ (N:Act->World->Prop) (Q:Exit->Act->World->Prop),(∀ v w',Kp M w0 w'->ZJ vs[i]? v->X (ZV I i) (a.put o.dst v) w'->N (a.put o.dst v) w')->o.wp P a w N Q :=
 λ _ _ _ H _ _ J=>Y5 h (rfl) (J _ _ H.k hv (hx _ _ _ _ H.x))
theorem Jc {P:Program} {a0:Act} {w0:World} {D M ss:List Nat} {dl:List (List Nat)} {vs:List (Option Value)} {o:Oper} {i:Nat} (j:Nat) {b:Bool} {T:TypeId} (h:o.op=.unOp .not T (.tmp (ss.getD j 0))) (hj:vs[j]? = some (some (.bool b))) (hc:(dl.getD i []).contains j=true) (hv:ZJ vs[i]? (.bool (!b))) :
 ∀ (I:Nat->Bool) (a:Act) (w:World),OX a0 w0 D M ss dl vs (λ _ _ _=>True) i I a w->∀ (N:Act->World->Prop) (Q:Exit->Act->World->Prop),(∀ v w',Kp M w0 w'->ZJ vs[i]? v->True->N (a.put o.dst v) w')->o.wp P a w N Q :=
 λ _ _ _ H _ _ J=>KL h (ev (H.d j hj hc)) (J _ _ H.k hv trivial)
theorem oNDX {P:Program} {a0:Act} {w0:World} {D M ss:List Nat} {dl:List (List Nat)} {vs:List (Option Value)} {X:(Nat->Bool)->Act->World->Prop} {o:Oper} {i:Nat} (j:Nat) {b:Bool} {T:TypeId} (h:o.op=.unOp .not T (.tmp (ss.getD j 0))) (hj:vs[j]? = some (some (.bool b))) (hc:(dl.getD i []).contains j=true) (hv:ZJ vs[i]? (.bool (!b))) (hx:∀ L a w v,X L a w->X (ZV L i) (a.put o.dst v) w) :
 ∀ (I:Nat->Bool) (a:Act) (w:World),OX a0 w0 D M ss dl vs X i I a w->∀ (N:Act->World->Prop) (Q:Exit->Act->World->Prop),(∀ v w',Kp M w0 w'->ZJ vs[i]? v->X (ZV I i) (a.put o.dst v) w'->N (a.put o.dst v) w')->o.wp P a w N Q :=
 λ _ _ _ H _ _ J=>KL h (ev (H.d j hj hc)) (J _ _ H.k hv (hx _ _ _ _ H.x))
theorem oEDT {P:Program} {a0:Act} {w0:World} {D M ss:List Nat} {dl:List (List Nat)} {vs:List (Option Value)} {o:Oper} {i:Nat} (j:Nat) {k:Nat} {us:Array Value} {v:Value} (h:o.op=.extract (.tmp (ss.getD j 0)) k) (hj:vs[j]? = some (some (.tuple us))) (hc:(dl.getD i []).contains j=true) (hu:us[k]? = some v) (hv:ZJ vs[i]? v) :
 ∀ (I:Nat->Bool) (a:Act) (w:World),OX a0 w0 D M ss dl vs (λ _ _ _=>True) i I a w->∀ (N:Act->World->Prop) (Q:Exit->Act->World->Prop),(∀ v w',Kp M w0 w'->ZJ vs[i]? v->True->N (a.put o.dst v) w')->o.wp P a w N Q :=
 λ _ _ _ H _ _ J=>XP h (ev (H.d j hj hc)) hu (J _ _ H.k hv trivial)
theorem Jt {P:Program} {a0:Act} {w0:World} {D M ss:List Nat} {dl:List (List Nat)} {vs:List (Option Value)} {X:(Nat->Bool)->Act->World->Prop} {o:Oper} {i:Nat} (j:Nat) {k:Nat} {us:Array Value} {v:Value} (h:o.op=.extract (.tmp (ss.getD j 0)) k) (hj:vs[j]? = some (some (.tuple us))) (hc:(dl.getD i []).contains j=true) (hu:us[k]? = some v) (hv:ZJ vs[i]? v) (hx:∀ L a w v,X L a w->X (ZV L i) (a.put o.dst v) w) :
 ∀ (I:Nat->Bool) (a:Act) (w:World),OX a0 w0 D M ss dl vs X i I a w->∀ (N:Act->World->Prop) (Q:Exit->Act->World->Prop),(∀ v w',Kp M w0 w'->ZJ vs[i]? v->X (ZV I i) (a.put o.dst v) w'->N (a.put o.dst v) w')->o.wp P a w N Q :=
 λ _ _ _ H _ _ J=>XP h (ev (H.d j hj hc)) hu (J _ _ H.k hv (hx _ _ _ _ H.x))
theorem oPOT {P:Program} {a0:Act} {w0:World} {D M ss:List Nat} {dl:List (List Nat)} {vs:List (Option Value)} {o:Oper} {i:Nat} (j k:Nat) {x y:Bool} {u:Value} (h:o.op=.pick (.tmp (ss.getD j 0)) (.const (.bool true)) (.tmp (ss.getD k 0))) (hj:vs[j]? = some (some (.bool x))) (hc:(dl.getD i []).contains j=true) (hk:vs[k]? = some (some (bif x then u else .bool y))) (hd:(dl.getD i []).contains k=true) (hv:ZJ vs[i]? (.bool (x||y))) :
 ∀ (I:Nat->Bool) (a:Act) (w:World),OX a0 w0 D M ss dl vs (λ _ _ _=>True) i I a w->∀ (N:Act->World->Prop) (Q:Exit->Act->World->Prop),(∀ v w',Kp M w0 w'->ZJ vs[i]? v->True->N (a.put o.dst v) w')->o.wp P a w N Q :=
 λ _ _ _ H _ _ J=>Zp h (ev (H.d j hj hc)) (λ h=>vor_t h) (λ h=>(ev ((H.d k hk hd).trans (Xq h))).trans (vor_f h)) (J _ _ H.k hv trivial)
theorem hDz {a:Act} {n:Nat} {D:List Nat} (U:a.tmps.size=n) (h:(D.all λ s=>decide (s<n))=true):∀ s∈D,s<a.tmps.size:=λ s hs=>by rw [U];exact of_decide_eq_true (List.all_eq_true.1 h s hs)
theorem Xj {P:Program} {id:Nat} {Q:Exit->Act->World->Prop} {a:Act} {w:World} {l:List Oper} {draw:Bool}
 (ss:List Nat) (vs:List (Option Value)) (dl:List (List Nat)) (D M:List Nat) (X:(Nat->Bool)->Act->World->Prop) (h0:∀ w1,Kp [] w w1->X (λ _=>false) a w1)
 (hs:Each (Obl P a w l D M ss dl vs X) l (List.range l.length))
 (he:∀ (L:Nat->Bool) (a':Act) (w':World),(∀ j,j<l.length->L j=true)->XS a a' D->Kp M w w'->(∀ j v,vs[j]? = some (some v)->a'.tmps[ss.getD j 0]?.getD undef=v)->X L a' w'->Q .normal a' w')
 (hm:P.follows .mixedOrders=true:=by kernel_rfl) (hc:rchk l draw ss (vs.map Option.isSome) dl D (List.range l.length)=true:=by kernel_rfl) (hD:∀ s∈D,s<a.tmps.size:=by exact hDz Az Dz) :
 (Code.region id l.toArray draw).wp P Q a w:=wp_regJ hm ss vs dl D _ M X hc hD h0 hs he
theorem Xr {S:List Nat} {X:(Nat->Bool)->Act->World->Prop} (_:Xf S X) {P:Program} {id:Nat} {Q:Exit->Act->World->Prop} {a:Act} {w:World} {l:List Oper} {draw:Bool}
 (ss:List Nat) (vs:List (Option Value)) (dl:List (List Nat)) (D M:List Nat) (h0:∀ w1,Kp [] w w1->X (λ _=>false) a w1)
 (hs:Each (Obl P a w l D M ss dl vs X) l (List.range l.length))
 (he:∀ (L:Nat->Bool) (a':Act) (w':World),(∀ j,j<l.length->L j=true)->XS a a' D->Kp M w w'->(∀ j v,vs[j]? = some (some v)->a'.tmps[ss.getD j 0]?.getD undef=v)->X L a' w'->Q .normal a' w')
 (hm:P.follows .mixedOrders=true:=by kernel_rfl) (hc:rchk l draw ss (vs.map Option.isSome) dl D (List.range l.length)=true:=by kernel_rfl) (hD:∀ s∈D,s<a.tmps.size:=by exact hDz Az Dz) :
 (Code.region id l.toArray draw).wp P Q a w:=Xj ss vs dl D M X h0 hs he hm hc hD
end Go.Proofs.YtbekjpkcicjcgaaGreat
