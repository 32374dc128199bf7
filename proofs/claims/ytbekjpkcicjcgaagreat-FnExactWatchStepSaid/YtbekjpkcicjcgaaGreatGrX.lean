/-
 Regions that draw their order, read, and call what makes memory of its own alone: one walk, in the text's order.
 Conditions: none.
-/
import Derived.Test.YtbekjpkcicjcgaaGreatGrA
import Derived.Deep.QuietTactic
import Derived.BigQuiet
import Derived.Deep.DrawnRows
namespace Go.Proofs.YtbekjpkcicjcgaaGreat
open Go.RowKit
open Classical in
noncomputable def Wx (w t:World):World:=if Below w.heap.size w t then t else w
theorem Wx.below (w t:World):Below w.heap.size w (Wx w t):=by
 unfold Wx;split
 ·assumption
 ·exact Below.refl _ _
theorem Wx.of {w t:World} (h:Below w.heap.size w t):t=Wx w t:=by unfold Wx;rw [if_pos h]
theorem Wx.cell (w:World) {b:Nat} (h:b<w.heap.size):∀ (t:World) (o:Nat),(Wx w t).cell? ⟨b,o,none⟩=w.cell? ⟨b,o,none⟩ :=
 λ t o=>(Wx.below w t).cell (p:=⟨b,o,none⟩) h
theorem Wx.out {w w':World} (h:∃ t,w'=Wx w t):Below w.heap.size w w':=by
 obtain ⟨t,rfl⟩:=h;exact Wx.below _ _
theorem ZY {P:Program} {f:FuncId} {args:Array Value} {w t:World} {v:Value}
 (h:Calls P f args (Wx w t) λ e w'=>e=.returned v/\Below (Wx w t).heap.size (Wx w t) w'):Calls P f args (Wx w t) λ e w''=>e=.returned v/\∃ t',w''=Wx w t' :=
 h.mono λ _ w' ⟨he,hb⟩=>⟨he,w',Wx.of (Xe (Wx.below w t) hb)⟩
theorem YM {P:Program} {f:FuncId} {args:Array Value} {w t:World} {v:Value}
 (h:Calls P f args (Wx w t) λ e w'=>e=.returned v/\Wx w t=w'):Calls P f args (Wx w t) λ e w''=>e=.returned v/\∃ t',w''=Wx w t' :=
 h.mono λ _ _ ⟨he,hb⟩=>⟨he,t,hb.symm⟩
theorem JK {P:Program} {id:Nat} {Q:Exit->Act->World->Prop} {a:Act} {w:World} {l:List Oper} (hm:P.follows .mixedOrders=true) (B:Region.lexB .any l.toArray=true)
 (h:wpQuiet P l.toArray (λ w'=>∃ t,w'=Wx w t) (λ a'=>∀ w',(∃ t,w'=Wx w t)->Q .normal a' w') l a):(Code.region id l.toArray true).wp P Q a w :=
 wp_region_quiet (C:=λ w'=>∃ t,w'=Wx w t) hm B ⟨_,Wx.of ((Below.refl w.heap.size w).drew)⟩ (by simpa using h)
def unl (L:Nat->Bool):Nat->Nat
 | 0=>0
 | n+1=>unl L n+(if L n=true then 0 else 1)
theorem unl_congr {L M:Nat->Bool}:∀ n:Nat,(∀ j,j<n->L j=M j)->unl L n=unl M n
 | 0,_=>rfl
 | n+1,h=>by simp only [unl,unl_congr n (λ j hj=>h j Oz),h n Oz]
theorem unl_step {L:Nat->Bool} {i:Nat} (hi:L i=false):∀ n:Nat,i<n->unl (λ j=>decide (j=i)||L j) n+1=unl L n
 | 0,h=>by omega
 | n+1,h=>by
  by_cases e:i=n
  ·subst e;have:=unl_congr (L:=λ j=>decide (j=i)||L j) (M:=L) i (λ j hj=>by simp [show j≠i by omega]);simp only [unl,this,hi];simp
  ·have:=unl_step hi n Oz;simp only [unl];have h3:(if (decide (n=i)||L n)=true then 0 else 1:Nat)=if L n=true then 0 else 1:=by simp [show n≠i by omega]
   rw [h3];omega
theorem unl_zero {L:Nat->Bool}:∀ n:Nat,unl L n=0->∀ j,j<n->L j=true
 | 0,_,j,h=>by omega
 | n+1,h,j,hj=>by
  simp only [unl] at h;by_cases e:L n=true
  ·rcases Nat.lt_or_ge j n with h1|h1
   ·exact unl_zero n Oz j h1
   ·have:j=n:=Oz
    rw [this];exact e
  ·rw [if_neg e] at h;omega
theorem unl_pos {L:Nat->Bool}:∀ n:Nat,(∃ j,j<n/\L j=false)->∃ j,j<n/\L j=false/\∀ k,k<j->L k=true
 | 0,⟨j,h,_⟩=>by omega
 | n+1,⟨j,h,hl⟩=>by
  by_cases e:∃ j,j<n/\L j=false
  ·obtain ⟨k,h1,h2,h3⟩:=unl_pos n e;exact ⟨k,Oz,h2,h3⟩
  ·refine ⟨j,h,hl,λ k hk=>?_⟩;cases hk2:L k
   ·exact absurd ⟨k,Oz,hk2⟩ e
   ·rfl
def orderB (l:List Oper):Bool:=(List.range l.length).all λ i=>match l[i]? with|some o=>o.after.all λ e=>!Region.binds .any e||decide (e.on<i)|none=>true
theorem getD_set_fun {listed:Array Bool} {i:Nat} (hi:i<listed.size):(λ j=>(listed.setIfInBounds i true).getD j false)=λ j=>decide (j=i)||listed.getD j false:=by
 funext j
 by_cases e:j=i
 ·subst e;simp [Array.getD_eq_getD_getElem?,hi]
 ·simp [Array.getD_eq_getD_getElem?,e,Array.getElem?_setIfInBounds_ne (Ne.symm e)]
theorem rep_false (m j:Nat):(Array.replicate m false).getD j false=false:=by
 rcases Nat.lt_or_ge j m with h|h<;>simp [h]
theorem wp_region_I {P:Program} {id:Nat} {Q:Exit->Act->World->Prop} {a:Act} {w:World} {l:List Oper} (hm:P.follows .mixedOrders=true) (B:orderB l=true)
 (I:(Nat->Bool)->Act->World->Prop) (h0:I (λ _=>false) a w.drew)
 (hs:∀ (L:Nat->Bool) (a:Act) (w:World) (i:Nat) (o:Oper),l[i]? = some o->L i=false->(∀ e∈o.after,Region.binds .any e=true->L e.on=true)->I L a w ->
  if Region.wanted o (yielded l.toArray a.tmps) then o.wp P a w (λ a' w'=>I (λ j=>decide (j=i)||L j) a' w') Q else I (λ j=>decide (j=i)||L j) (a.put o.dst undef) w)
 (he:∀ (L:Nat->Bool) (a:Act) (w:World),(∀ j,j<l.length->L j=true)->I L a w->Q .normal a w):(Code.region id l.toArray true).wp P Q a w:=by
 have fin:∀ (listed:Array Bool) (a:Act) (w:World),listed.size=l.length->Region.ready .any l.toArray listed=[]->I (λ j=>listed.getD j false) a w->Q .normal a w:=by
  intro listed a w X5 hr hI;refine he _ a w (λ j hj=>?_) hI;cases hl:listed.getD j false
  ·exfalso;obtain ⟨k,hk,hk0,hk1⟩:=unl_pos (L:=λ j=>listed.getD j false) l.length ⟨j,hj,hl⟩;have hmem:k∈Region.ready .any l.toArray listed:=by
    refine mem_ready.2 ⟨?_,l[k],by simp [hk],λ e he hb=>?_⟩
    ·have hk0':listed.getD k false=false:=hk0;rw [Array.getD_eq_getD_getElem?,Array.getElem?_eq_getElem Oz] at hk0' ⊢;simpa using hk0'
    ·have h1:=List.all_eq_true.1 B k (List.mem_range.2 hk);rw [List.getElem?_eq_getElem hk] at h1;have h2:=(Array.all_eq_true_iff_forall_mem.1 h1) e he;rw [hb] at h2;simp only [Bool.not_true,Bool.false_or,decide_eq_true_eq] at h2;exact hk1 _ h2
   rw [hr] at hmem;cases hmem
  ·rfl
 have go:∀ (f:Nat) (listed:Array Bool) (a:Act) (w:World),listed.size=l.length->unl (λ j=>listed.getD j false) l.length=f->I (λ j=>listed.getD j false) a w->wpAny P .any l.toArray Q f listed a w:=by
  intro f;induction f with
  | zero =>
   intro listed a w X5 hu hI;have hr:Region.ready .any l.toArray listed=[]:=by
    rcases h:Region.ready .any l.toArray listed with _|⟨k,r⟩
    ·rfl
    ·exfalso;have hk:k∈Region.ready .any l.toArray listed:=by rw [h];exact List.mem_cons_self
     obtain ⟨h1,o,ho,_⟩:=mem_ready.1 hk;have hkl:k<l.length:=by
      have:=(Array.getElem?_eq_some_iff.1 ho).1;simpa using this
     have h2:listed.getD k false=true:=unl_zero l.length hu k hkl;rw [Array.getD_eq_getD_getElem?,Array.getElem?_eq_getElem Oz] at h1 h2;simp only [Option.getD_some] at h1 h2;rw [h1] at h2;cases h2
   exact ⟨hr,fin listed a w X5 hr hI⟩
  | succ f ih =>
   intro listed a w X5 hu hI;refine ⟨λ hr=>fin listed a w X5 hr hI,λ i hi=>?_⟩;obtain ⟨h1,o,ho,hd⟩:=mem_ready.1 hi;have hil:i<l.length:=by
    have:=(Array.getElem?_eq_some_iff.1 ho).1;simpa using this
   have ho':l[i]? = some o:=by simpa using ho
   have hLi:listed.getD i false=false:=by
    rw [Array.getD_eq_getD_getElem?,Array.getElem?_eq_getElem Oz] at h1 ⊢;simpa using h1
   have hstep:=hs (λ j=>listed.getD j false) a w i o ho' hLi hd hI;have hset:=getD_set_fun (listed:=listed) (i:=i) Oz;have hcnt:unl (λ j=>(listed.setIfInBounds i true).getD j false) l.length=f:=by
    rw [hset];have:=unl_step (L:=λ j=>listed.getD j false) hLi l.length hil;omega
   have next:∀ a' w',I (λ j=>decide (j=i)||listed.getD j false) a' w'->wpAny P .any l.toArray Q f (listed.setIfInBounds i true) a' w':=by
    intro a' w' h;rw [<- hset] at h;exact ih (listed.setIfInBounds i true) a' w' (by simpa using X5) hcnt h
   unfold wpOp;rw [ho];simp only;split
   ·rename_i hw
    rw [if_pos hw] at hstep;exact .inl (Oper.wp_mono next hstep)
   ·rename_i hw
    rw [if_neg hw] at hstep;exact next _ _ hstep
 refine wp_region_any hm (go _ _ a _ Sz ?_ ?_)
 ·have hall:∀ n:Nat,unl (λ j=>(Array.replicate l.toArray.size false).getD j false) n=n:=by
   intro n;induction n with
   | zero=>rfl
   | succ n ih =>
    simp only [unl,ih];have h3:¬ ((λ j=>(Array.replicate l.toArray.size false).getD j false) n=true):=by
     show ¬ ((Array.replicate l.toArray.size false).getD n false=true);rw [rep_false];decide
    rw [if_neg h3]
  simpa using hall l.length
 ·have:(λ j=>(Array.replicate l.toArray.size false).getD j false)=λ _=>false:=by
   funext j
   exact rep_false _ _
  rw [this];exact h0
theorem wp_region_I0 {P:Program} {id:Nat} {Q:Exit->Act->World->Prop} {a:Act} {w:World} {l:List Oper} (hm:P.follows .mixedOrders=true) (B:orderB l=true)
 (I:Act->(Nat->Bool)->Act->World->Prop) (h0:I a (λ _=>false) a w.drew)
 (hs:∀ (L:Nat->Bool) (a':Act) (w:World) (i:Nat) (o:Oper),l[i]? = some o->L i=false->(∀ e∈o.after,Region.binds .any e=true->L e.on=true)->I a L a' w ->
  if Region.wanted o (yielded l.toArray a'.tmps) then o.wp P a' w (λ a'' w'=>I a (λ j=>decide (j=i)||L j) a'' w') Q else I a (λ j=>decide (j=i)||L j) (a'.put o.dst undef) w)
 (he:∀ (L:Nat->Bool) (a':Act) (w:World),(∀ j,j<l.length->L j=true)->I a L a' w->Q .normal a' w):(Code.region id l.toArray true).wp P Q a w :=
 wp_region_I hm B (I a) h0 hs he
structure XS (a0 a:Act) (D:List Nat):Prop where
 size:a.tmps.size=a0.tmps.size
 defers:a.defers=a0.defers
 same:∀ k,k ∉ D->a.tmps[k]? = a0.tmps[k]?
theorem XS.refl (a:Act) (D:List Nat):XS a a D:=⟨rfl,rfl,λ _ _=>rfl⟩
theorem XS.put {a0 a:Act} {D:List Nat} (h:XS a0 a D) {k:Nat} (hk:k∈D) (v:Value):XS a0 (a.put (some k) v) D:=by
 refine ⟨?_, ?_,λ j hj=>?_⟩
 ·simpa [Act.put] using h.size
 ·simpa [Act.put] using h.defers
 ·have:k≠j:=λ e=>hj (e ▸ hk);have h2:=h.same j hj;simpa [Act.put,Array.getElem?_setIfInBounds_ne this] using h2
theorem XS.none {a0 a:Act} {D:List Nat} (h:XS a0 a D) (v:Value):XS a0 (a.put none v) D:=h
theorem XS.eval {a0 a:Act} {D:List Nat} (h:XS a0 a D) {k:Nat} (hk:k ∉ D):a.eval (.tmp k)=a0.eval (.tmp k):=by
 have:=h.same k hk;simp only [Act.eval,Array.getD_eq_getD_getElem?,this]
theorem XS.out {a0 a:Act} {D:List Nat} (h:XS a0 a D) (_:∀ k∈D,k<a0.tmps.size):a=D.foldl (λ b k=>b.put (some k) (a.eval (.tmp k))) a0:=by
 have key:∀ (E:List Nat) (b:Act),b.tmps.size=a.tmps.size->b.defers=a.defers->(∀ k,k ∉ E->b.tmps[k]? = a.tmps[k]?)->E.foldl (λ b k=>b.put (some k) (a.eval (.tmp k))) b=a:=by
  intro E;induction E with
  | nil =>
   intro b h1 h2 h3;have:b.tmps=a.tmps:=Array.ext_getElem? (λ i=>h3 i Sz);cases a;cases b;simp only at this h2;subst this h2;rfl
  | cons k E ih =>
   intro b h1 h2 h3;refine ih _ (by simpa [Act.put] using h1) (by simpa [Act.put] using h2) (λ j hj=>?_);by_cases e:k=j
   ·subst e;rcases Nat.lt_or_ge k b.tmps.size with hlt|hge
    ·have hlt2:k<a.tmps.size:=Oz
     simp [Act.put,Act.eval,Array.getD_eq_getD_getElem?,hlt,hlt2]
    ·have hge2:a.tmps.size<=k:=Oz
     simp [Act.put,hge,hge2]
   ·have:=h3 j (by simp only [List.mem_cons,not_or];exact ⟨λ q=>e q.symm,hj⟩);simpa [Act.put,Array.getElem?_setIfInBounds_ne e] using this
 exact (key D a0 h.size.symm h.defers.symm (λ k hk=>(h.same k hk).symm)).symm
theorem put_get_ne {a:Act} {j k:Nat} (h:k≠j) (v:Value):(a.put (some k) v).tmps[j]?.getD undef=a.tmps[j]?.getD undef:=by
 simp [Act.put,Array.getElem?_setIfInBounds_ne h]
theorem Xw {a:Act} {k:Nat} (h:k<a.tmps.size) (v:Value):(a.put (some k) v).tmps[k]?.getD undef=v:=by
 simp [Act.put,h]
theorem XS.get {a0 a:Act} {D:List Nat} (h:XS a0 a D) {k:Nat} (hk:k ∉ D):a.tmps[k]?.getD undef=a0.tmps[k]?.getD undef:=by rw [h.same k hk]
theorem XS.lt {a0 a:Act} {D:List Nat} (h:XS a0 a D) {k:Nat} (hk:k<a0.tmps.size):k<a.tmps.size:=by rw [h.size];exact hk
theorem XS.outG {a0 a:Act} {D:List Nat} (h:XS a0 a D) (hD:∀ k∈D,k<a0.tmps.size):a=D.foldl (λ b k=>b.put (some k) (a.tmps[k]?.getD undef)) a0:=by
 have:=h.out hD;simpa only [Act.eval,Array.getD_eq_getD_getElem?] using this
def Xz (w:World) (g T:Nat) (vs:List Value):Prop:=w.heap[g]? = some (.cells vs.toArray T (0,0))
theorem Xz.has {w:World} {g T:Nat} {vs:List Value} (h:Xz w g T vs):XV w g vs :=
 ⟨YD h,λ j v hv=>⟨by rw [cell_of_row w g j vs.toArray T (0,0) h];simpa using hv,frozen_of_row w g j vs.toArray T h⟩⟩
theorem Xz.below {w w':World} {g T:Nat} {vs:List Value} (h:Xz w g T vs) (hb:Below w.heap.size w w'):Xz w' g T vs:=(hb.block g (YD h)).trans h
theorem Xz.new (w:World) (vs:List Value) (T:Nat):Xz (w.alloc (.cells vs.toArray T)) w.heap.size T vs:=heap_alloc_new w _
theorem Xz.set_ {w:World} {g T:Nat} {vs:List Value} (h:Xz w g T vs) (j:Nat) (u:Value):Xz (w.setCell ⟨g,j,none⟩ u) g T (vs.set j u):=by
 have:=heap_setCell_same w g j vs.toArray T u h;unfold Xz;rw [this];simp
theorem Xz.cells {g T:Nat}:∀ (us vs pre:List Value) (w:World),us.length=vs.length->Xz w g T (pre++vs)->Xz (w.setCells g pre.length us) g T (pre++us)
 | [],vs,pre,w,h,hh=>by
  have:vs=[]:=List.eq_nil_of_length_eq_zero h.symm;subst this;exact hh
 | u :: us,[],pre,w,h,_=>by simp at h
 | u :: us,v :: vs,pre,w,h,hh=>by
  have h1:=hh.set_ pre.length u;have e:(pre++v :: vs).set pre.length u=(pre++[u])++vs:=Sz
  rw [e] at h1;have h2:=Xz.cells us vs (pre++[u]) _ (by simpa using h) h1;simpa [World.setCells] using h2
theorem Xz.store {g T:Nat} {us vs:List Value} {w:World} (h:Xz w g T vs) (hl:us.length=vs.length):Xz (w.setCells g 0 us) g T us:=by
 have:=Xz.cells us vs [] w hl (by simpa using h);simpa using this
theorem Xz.other {g g' T:Nat} {vs:List Value} {w:World} (h:Xz w g T vs) (hne:g'≠g) (us:List Value):∀ o:Nat,Xz (w.setCells g' o us) g T vs:=by
 induction us generalizing w with
 | nil=>intro o;exact h
 | cons u r ih =>
  intro o;exact ih (w:=w.setCell ⟨g',o,none⟩ u) ((heap_setCell_other w ⟨g',o,none⟩ g u (λ e=>hne (by first|exact e|exact e.symm))).trans h) (o+1)
theorem XI.typ {α:Type} {T sz base n c g T':Nat} {enc:α->List Value} {w:World} {A:Option Addr} {xs:List α} {vs:List Value} (h:XI T sz enc w base (Sv A n c) xs) (hg:Xz w g T' vs) (hne:T≠T'):∀ p,A=some p->p.block≠g:=by
 intro p hp e;obtain ⟨A',c',e1,h1,h2⟩:=h;injection e1 with e1 _ _
 subst e1;rcases h2 with ⟨h2,_⟩|⟨g',cap',cur,hv,_,hh,_⟩
 ·rw [hp] at h2;cases h2
 ·rw [hp] at hv;injection hv with hv _ _
  injection hv with hv
  subst hv;simp only at e;subst e;unfold Xz at hg;rw [hh] at hg;injection hg with hg
  injection hg with _ q _
  exact hne q
theorem XI.otherC {α:Type} {T sz base n c g:Nat} {enc:α->List Value} {w:World} {A:Option Addr} {xs:List α} (h:XI T sz enc w base (Sv A n c) xs) (hp:∀ p,A=some p->p.block≠g) (us:List Value):∀ o:Nat,XI T sz enc (w.setCells g o us) base (Sv A n c) xs:=by
 intro o;obtain ⟨A',c',e,h1,h2⟩:=h;refine ⟨A',c',e,h1, ?_⟩;rcases h2 with h2|⟨g',cap',cur,hv,hg,hh,r⟩
 ·exact .inl h2
 ·refine .inr ⟨g',cap',cur,hv,hg, ?_,r⟩;injection hv with hv _ _
  have hne:g≠g':=λ q=>hp ⟨g',0,none⟩ hv q.symm;have:=Xz.other (g:=g') (g':=g) (T:=T) (vs:=cur.toList) (w:=w) (by simpa [Xz] using hh) hne us o;simpa [Xz] using this
theorem Zq {L:Nat->Bool} {a:Act} {i j k s:Nat} {v u:Value} (h:L j=true->a.tmps[s]?.getD undef=v) (ne:k≠s) (hj:decide (j=i)=false):(decide (j=i)||L j)=true->(a.put (some k) u).tmps[s]?.getD undef=v :=
 λ hl=>(put_get_ne ne u).trans (h (by rw [hj] at hl;exact hl))
theorem kpK {L:Nat->Bool} {i j:Nat} {p:Prop} (h:L j=true->p) (hj:decide (j=i)=false):(decide (j=i)||L j)=true->p :=
 λ hl=>h (by rw [hj] at hl;exact hl)
theorem knK {L:Nat->Bool} {i j:Nat} {p:Prop} (h:L j=false->p) (hj:decide (j=i)=false):(decide (j=i)||L j)=false->p :=
 λ hl=>h (by rw [hj] at hl;exact hl)
theorem Kn {L:Nat->Bool} {i a b:Nat} (h:L a=true->L b=true) (ha:decide (a=i)=false):(decide (a=i)||L a)=true->(decide (b=i)||L b)=true :=
 λ hl=>by rw [ha] at hl;rw [h hl,Bool.or_true]
theorem wanted_of {o oj:Oper} {ops:Array Oper} {tmps:Array Value} {j s:Nat} {b:Bool} (hg:o.guard=some (j,b)) (hj:ops[j]? = some oj) (hd:oj.dst=some s) (hv:tmps[s]?.getD undef=Bv b):Region.wanted o (yielded ops tmps)=true:=by
 unfold Region.wanted;rw [hg];cases h:tmps[s]? with
 | none=>rw [h] at hv;cases hv
 | some v =>
  rw [h] at hv;simp only [Option.getD_some] at hv;subst hv;simp [yielded,hj,hd,h]
theorem unwanted_of {o oj:Oper} {ops:Array Oper} {tmps:Array Value} {j s:Nat} {b c:Bool} (hg:o.guard=some (j,b)) (hj:ops[j]? = some oj) (hd:oj.dst=some s) (hv:tmps[s]?.getD undef=Bv c) (hne:c≠b):¬ Region.wanted o (yielded ops tmps)=true:=by
 unfold Region.wanted;rw [hg];cases h:tmps[s]? with
 | none=>rw [h] at hv;cases hv
 | some v =>
  rw [h] at hv;simp only [Option.getD_some] at hv;subst hv;simp [yielded,hj,hd,h,hne]
end Go.Proofs.YtbekjpkcicjcgaaGreat
