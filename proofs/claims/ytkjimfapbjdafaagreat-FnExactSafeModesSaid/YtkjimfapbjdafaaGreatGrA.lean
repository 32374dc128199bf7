/-
 Words on memory that the contracts of this claim use: a slice that reads as a list of structs, a slice of the call's own.
 Conditions: none.
-/
import Derived.Test.YtkjimfapbjdafaaGreatRows
import Derived.WalkKit
import Derived.WalkSpells
import Derived.WalkLawsBesides
import Derived.Deep.Draws
import Derived.Lib.Hide
import Derived.Deep.Slices
import Derived.Deep.Fields
import Derived.ChangeSame
import Derived.ArgAppend
section
namespace Go.Proofs.YtkjimfapbjdafaaGreat
open Go.RowKit
theorem bR {n : Nat} {w : World} : Below n w w := Below.refl n w
theorem Xw {n : Nat} : n ≤ n := Nat.le_refl n
/-- The slice's address A leads to cells that read as the encodings of xs, each of sz cells. -/
def Sl {α:Type} (sz:Nat) (enc:α→List Value) (w:World) (A:Option Addr) (xs:List α):Prop :=
 0<xs.length→∃ b off,A=some ⟨b,off,none⟩∧b<w.heap.size ∧
  ∀ i (h:i<xs.length) j u,(enc xs[i])[j]? = some u→w.cell? ⟨b,off+i*sz+j,none⟩=some u
section
variable {α:Type} {sz:Nat} {enc:α→List Value} {w w':World} {A:Option Addr} {xs:List α}
theorem Sl.keep (h:Sl sz enc w A xs) {B:Nat} (hs:w.heap.size≤w'.heap.size) (hA:∀ b off,A=some ⟨b,off,none⟩→b<B) (hk:∀ p:Addr,p.block<B→w'.cell? p=w.cell? p):Sl sz enc w' A xs:=by
 intro hn
 obtain ⟨b,off,rfl,hlt,hc⟩:=h hn
 exact ⟨b,off,rfl,Nat.lt_of_lt_of_le hlt hs,fun i hi j u hu=>(hk ⟨b,off+i*sz+j,none⟩ (hA _ _ rfl)).trans (hc i hi j u hu)⟩
theorem Sl.below (h:Sl sz enc w A xs) (hb:Below w.heap.size w w'):Sl sz enc w' A xs:=by
 intro hn
 obtain ⟨b,off,rfl,hlt,hc⟩:=h hn
 exact ⟨b,off,rfl,Nat.lt_of_lt_of_le hlt hb.size,fun i hi j u hu=>(hb.cell (p:=⟨b,off+i*sz+j,none⟩) hlt).trans (hc i hi j u hu)⟩
theorem Sl.alloc (h:Sl sz enc w A xs) (o:Obj):Sl sz enc (w.alloc o) A xs:=h.below (bR.alloc Xw o)
theorem Sl.drew (h:Sl sz enc w A xs):Sl sz enc w.drew A xs:=h
theorem Sl.drewN (h:Sl sz enc w A xs) (n:Nat):Sl sz enc (w.drewN n) A xs:=h
/-- The cells of element k, for a round of a loop. -/
theorem Sl.at_ (h:Sl sz enc w A xs) {k:Nat} (hk:k<xs.length) :
 ∃ b off,A=some ⟨b,off,none⟩∧b<w.heap.size∧∀ j u,(enc xs[k])[j]? = some u→w.cell? ⟨b,off+k*sz+j,none⟩=some u:=by
 obtain ⟨b,off,hA,hb,hc⟩:=h (by omega)
 exact ⟨b,off,hA,hb,fun j u hu=>hc k hk j u hu⟩
end
theorem YR {α:Type} {sz:Nat} {enc:α→List Value} (XT:∀ x,(enc x).length=sz):∀ xs:List α,(xs.flatMap enc).length=xs.length*sz
 | []=>by simp
 | x :: r=>by simp only [List.flatMap_cons,List.length_append,XT,YR XT r,List.length_cons,Nat.succ_mul];omega
theorem Kk {α:Type} {sz:Nat} {enc:α→List Value} (XT:∀ x,(enc x).length=sz):∀ (xs:List α) (i:Nat) (h:i<xs.length) (j:Nat) (u:Value),(enc xs[i])[j]? = some u→(xs.flatMap enc)[i*sz+j]? = some u
 | x :: r,0,_,j,u,hu=>by
  have hj:j<(enc x).length:=by
   rcases Nat.lt_or_ge j (enc x).length with h|h
   ·exact h
   ·simp only [List.getElem_cons_zero] at hu;rw [List.getElem?_eq_none h] at hu;cases hu
  simp only [List.getElem_cons_zero] at hu
  simp only [Nat.zero_mul,Nat.zero_add,List.flatMap_cons]
  rw [List.getElem?_append_left hj];exact hu
 | x :: r,i+1,h,j,u,hu=>by
  have hu':(enc (r[i]'(by simpa using h)))[j]? = some u:=by simpa using hu
  have:=Kk XT r i (by simpa using h) j u hu'
  simp only [List.flatMap_cons,Nat.succ_mul]
  rw [List.getElem?_append_right (by rw [XT];omega),XT]
  rw [← this];congr 1;omega
/-- A slice that the call made: it owns its cells, which are the encodings of xs. -/
def XK {α:Type} (T sz:Nat) (enc:α→List Value) (w:World) (base:Nat) (v:Value) (xs:List α):Prop :=
 ∃ A cap,v=.slice A xs.length cap∧w.ownsRow base T sz v xs.length (xs.flatMap enc)
section
variable {α:Type} {T sz:Nat} {enc:α→List Value} {w w':World} {v:Value} {xs:List α} {base:Nat}
theorem XK.below {B:Nat} (h:XK T sz enc w base v xs) (hb:Below B w w') (hB:w.heap.size≤B):XK T sz enc w' base v xs:=by
 obtain ⟨A,cap,rfl,h1,h2⟩:=h
 refine ⟨A,cap,rfl,h1, ?_⟩
 rcases h2 with h2|⟨g,cap',cur,hv,hg,hh,r⟩
 ·exact .inl h2
 ·have hlt:g<w.heap.size:=by
   rcases Nat.lt_or_ge g w.heap.size with hlt|hge
   ·exact hlt
   ·rw [Array.getElem?_eq_none hge] at hh;cases hh
  exact .inr ⟨g,cap',cur,hv,hg,(hb.block g (by omega)).trans hh,r⟩
theorem XK.alloc (h:XK T sz enc w base v xs) (o:Obj):XK T sz enc (w.alloc o) base v xs:=h.below (bR.alloc Xw o) Xw
theorem XK.mono (h:XK T sz enc w base v xs) {base':Nat} (hb:base'≤base):XK T sz enc w base' v xs:=by
 obtain ⟨A,cap,rfl,h1,h2⟩:=h
 refine ⟨A,cap,rfl,h1, ?_⟩
 rcases h2 with h2|⟨g,cap',cur,hv,hg,r⟩
 ·exact .inl h2
 ·exact .inr ⟨g,cap',cur,hv,by omega,r⟩
theorem XK.sl (h:XK T sz enc w base v xs) (XT:∀ x,(enc x).length=sz):∃ A cap,v=.slice A xs.length cap∧Sl sz enc w A xs:=by
 obtain ⟨A,cap,rfl,h1,h2⟩:=h
 refine ⟨A,cap,rfl,fun hn=>?_⟩
 rcases h2 with ⟨h2,h0⟩|⟨g,cap',cur,hv,hg,hh,hcap,hmax,hsize,htake⟩
 ·omega
 ·injection hv with hA _ _
  subst hA
  have hlt:g<w.heap.size:=by
   rcases Nat.lt_or_ge g w.heap.size with hlt|hge
   ·exact hlt
   ·rw [Array.getElem?_eq_none hge] at hh;cases hh
  refine ⟨g,0,rfl,hlt,fun i hi j u hu=>?_⟩
  have hc:w.cell? ⟨g,0+i*sz+j,none⟩=cur[0+i*sz+j]?:=cell_of_row w g _ cur T (0,0) hh
  rw [hc]
  have hj:j<sz:=by
   rcases Nat.lt_or_ge j (enc xs[i]).length with h|h
   ·rw [XT] at h;exact h
   ·rw [List.getElem?_eq_none h] at hu;cases hu
  have hf:=Kk XT xs i hi j u hu
  rw [← htake] at hf
  have hlt2:i*sz+j<xs.length*sz:=by
   have:(i+1)*sz≤xs.length*sz:=Nat.mul_le_mul_right _ hi
   rw [Nat.succ_mul] at this;omega
  rw [List.getElem?_take_of_lt hlt2] at hf
  rw [Nat.zero_add];simpa using hf
end
/-- 'Below' in the form that the walk's rules take. -/
theorem bcell {W w1:World} {B:Nat} (hb:Below B W w1):(∀ b o,b<B→w1.cell? ⟨b,o,none⟩=W.cell? ⟨b,o,none⟩)∧(∀ b o,b<B→w1.frozen? ⟨b,o,none⟩=W.frozen? ⟨b,o,none⟩) :=
 ⟨fun b o h=>hb.cell (p:=⟨b,o,none⟩) h,fun b o h=>hb.frozen (p:=⟨b,o,none⟩) h⟩
theorem Yy {B:Nat} {a w:World} (h:Below B a w) (n:Nat):Below B a (w.drewN n):=⟨h.os,h.tape,h.output,h.size,h.block⟩
theorem Xf {a w:World} (h:Below a.heap.size a w) (o:Obj):Below a.heap.size a (w.alloc o):=h.alloc h.size o
theorem Xb {a w w':World} (h:Below a.heap.size a w) (h':Below w.heap.size w w'):Below a.heap.size a w':=h.trans (h'.mono h.size)
theorem Yg {a w:World} (h:Below a.heap.size a w) {p:Addr} (hp:a.heap.size≤p.block) (u:Value):Below a.heap.size a (w.setCell p u):=h.setCell hp u
theorem Yc {k:IntKind} {a b:Int} (h:a=b):Ending.returned (.int k a)=.returned (.int k b):=by rw [h]
theorem Xc {a b:Bool} (h:a=b):Ending.returned (.bool a)=.returned (.bool b):=by rw [h]
/-- A block's cells after the stores of a loop: the cells at the first elements are those of xs. -/
theorem list_of_cells {α:Type} {sz:Nat} {enc:α→List Value} (XT:∀ x,(enc x).length=sz) (xs:List α) (cs:Array Value) (hs:xs.length*sz≤cs.size)
 (h:∀ i (hi:i<xs.length) j u,(enc xs[i])[j]? = some u→cs[i*sz+j]? = some u):cs.toList.take (xs.length*sz)=xs.flatMap enc:=by
 apply List.ext_getElem?
 intro m
 rcases Nat.lt_or_ge m (xs.length*sz) with hm|hm
 ·have hz:0<sz:=by
   rcases Nat.eq_zero_or_pos sz with h0|h0
   ·subst h0;simp at hm
   ·exact h0
  have hi:m / sz<xs.length:=Nat.div_lt_of_lt_mul (by rw [Nat.mul_comm];exact hm)
  have hj:m % sz<sz:=Nat.mod_lt _ hz
  have hmm:m / sz*sz+m % sz=m:=by rw [Nat.mul_comm];exact Nat.div_add_mod m sz
  have hl:m % sz<(enc xs[m / sz]).length:=by rw [XT];exact hj
  have hu:(enc xs[m / sz])[m % sz]? = some ((enc xs[m / sz])[m % sz]):=List.getElem?_eq_getElem hl
  have h1:=h _ hi _ _ hu
  have h2:=Kk XT xs _ hi _ _ hu
  rw [hmm] at h1 h2
  rw [h2,List.getElem?_take_of_lt hm];simpa using h1
 ·rw [List.getElem?_eq_none (Nat.le_trans (List.length_take_le _ _) hm),List.getElem?_eq_none (by rw [YR XT];exact hm)]
/-- A block g of N cells that is being filled: its cells hold the encodings of the first k of xs. -/
def YN {α:Type} (T sz:Nat) (enc:α→List Value) (w:World) (g N:Nat) (xs:List α) (k:Nat):Prop :=
 ∃ cs:Array Value,w.heap[g]? = some (.cells cs T (0,0))∧cs.size=N∧xs.length*sz≤N∧∀ i (hi:i<xs.length),i<k→∀ j u,(enc xs[i])[j]? = some u→cs[i*sz+j]? = some u
section
variable {α:Type} {T sz:Nat} {enc:α→List Value} {w w':World} {g N k:Nat} {xs:List α}
theorem YN.start {cs:Array Value} (h:cs.size=N) (hN:xs.length*sz≤N):YN T sz enc (w.alloc (.cells cs T)) w.heap.size N xs 0 :=
 ⟨cs,heap_alloc_new w _,h,hN,fun _ _ h0=>absurd h0 (Nat.not_lt_zero _)⟩
theorem Xo {o:Obj} (h:w.heap[g]? = some o):g<w.heap.size:=by
 rcases Nat.lt_or_ge g w.heap.size with hlt|hge
 ·exact hlt
 ·rw [Array.getElem?_eq_none hge] at h;cases h
theorem YN.lt (h:YN T sz enc w g N xs k):g<w.heap.size:=by
 obtain ⟨cs,hg,_⟩:=h
 exact Xo hg
theorem YN.room (h:YN T sz enc w g N xs k):xs.length*sz≤N:=by
 obtain ⟨cs,_,_,h,_⟩:=h
 exact h
theorem YN.below (h:YN T sz enc w g N xs k) (hb:Below w.heap.size w w'):YN T sz enc w' g N xs k:=by
 have hlt:=h.lt
 obtain ⟨cs,hg,r⟩:=h
 exact ⟨cs,(hb.block g hlt).trans hg,r⟩
theorem YN.cell (h:YN T sz enc w g N xs k) {m:Nat} (hm:m<N):∃ u,w.cell? ⟨g,m,none⟩=some u:=by
 obtain ⟨cs,hg,hs,_⟩:=h
 exact ⟨cs[m]'(by omega),by rw [cell_of_row w g m cs T (0,0) hg];exact Array.getElem?_eq_getElem (by omega)⟩
theorem YN.frozen (h:YN T sz enc w g N xs k) (m:Nat):w.frozen? ⟨g,m,none⟩=false:=by
 obtain ⟨cs,hg,_⟩:=h
 exact frozen_of_row w g m cs T hg
end
theorem Jm {T g:Nat}:∀ (vs:List Value) (o:Nat) (w:World) (cs:Array Value),w.heap[g]? = some (.cells cs T (0,0))→o+vs.length≤cs.size →
 ∃ cs',(w.setCells g o vs).heap[g]? = some (.cells cs' T (0,0))∧cs'.size=cs.size∧(∀ j u,vs[j]? = some u→cs'[o+j]? = some u)∧(∀ m,m<o∨o+vs.length≤m→cs'[m]? = cs[m]?)
 | [],o,w,cs,hg,_=>⟨cs,hg,rfl,fun j u h=>by simp at h,fun m _=>rfl⟩
 | v :: r,o,w,cs,hg,hle=>by
  simp only [List.length_cons] at hle
  obtain ⟨cs',h1,h2,h3,h4⟩:=Jm r (o+1) (w.setCell ⟨g,o,none⟩ v) (cs.setIfInBounds o v) (heap_setCell_same w g o cs T v hg) (by simp;omega)
  refine ⟨cs',h1,by simpa using h2,fun j u hu=>?_,fun m hm=>?_⟩
  ·cases j with
   | zero =>
    have:=h4 o (by omega)
    simp only [List.getElem?_cons_zero,Option.some.injEq] at hu
    subst hu
    rw [Nat.add_zero,this,Array.getElem?_setIfInBounds_self_of_lt (by omega)]
   | succ j =>
    have:=h3 j u (by simpa using hu)
    rw [show o+(j+1)=o+1+j from by omega]
    exact this
  ·simp only [List.length_cons] at hm
   rw [h4 m (by omega),Array.getElem?_setIfInBounds_ne (by omega)]
theorem YN.stored {α:Type} {T sz:Nat} {enc:α→List Value} (XT:∀ x,(enc x).length=sz) {w:World} {g N k:Nat} {xs:List α} (h:YN T sz enc w g N xs k) (hk:k<xs.length) {vs:List Value} (hv:enc xs[k]=vs) :
 YN T sz enc (w.setCells g (k*sz) vs) g N xs (k+1):=by
 obtain ⟨cs,hg,hs,hN,hc⟩:=h
 have hl:vs.length=sz:=by rw [← hv,XT]
 have hm:(k+1)*sz≤xs.length*sz:=Nat.mul_le_mul_right _ hk
 rw [Nat.succ_mul] at hm
 obtain ⟨cs',h1,h2,h3,h4⟩:=Jm vs (k*sz) w cs hg (by omega)
 refine ⟨cs',h1,h2.trans hs,hN,fun i hi hik j u hu=>?_⟩
 have hj:j<sz:=by
  rcases Nat.lt_or_ge j (enc xs[i]).length with h|h
  ·rw [XT] at h;exact h
  ·rw [List.getElem?_eq_none h] at hu;cases hu
 rcases Nat.lt_or_eq_of_le (Nat.le_of_lt_succ hik) with hlt|rfl
 ·have:(i+1)*sz≤k*sz:=Nat.mul_le_mul_right _ hlt
  rw [Nat.succ_mul] at this
  rw [h4 _ (by omega)]
  exact hc i hi hlt j u hu
 ·exact h3 j u (by rw [← hv];exact hu)
theorem X1 {B:Nat} {a:World} {g:Nat} (hg:B≤g):∀ (vs:List Value) (o:Nat) (w:World),Below B a w→Below B a (w.setCells g o vs)
 | [],_,_,h=>h
 | v :: r,o,_,h=>X1 hg r (o+1) _ (h.setCell hg v)
theorem Jn {a:World} {g:Nat} (hg:a.heap.size≤g) (vs:List Value) (o:Nat) (w:World) (h:Below a.heap.size a w):Below a.heap.size a (w.setCells g o vs):=X1 hg vs o w h
theorem YN.newCap {α:Type} {T sz:Nat} {enc:α→List Value} (XT:∀ x,(enc x).length=sz) {w:World} {g base cap:Nat} {xs:List α} (h:YN T sz enc w g (cap*sz) xs xs.length) (hb:base≤g) (hle:xs.length≤cap) (hm:cap≤maxLen) :
 XK T sz enc w base (.slice (some ⟨g,0,none⟩) xs.length cap) xs:=by
 obtain ⟨cs,hg,hs,hN,hc⟩:=h
 exact ⟨_,_,rfl,YR XT xs,.inr ⟨g,cap,cs,rfl,hb,hg,hle,hm,hs,list_of_cells XT xs cs (by omega) (fun i hi j u hu=>hc i hi hi j u hu)⟩⟩
theorem YN.new {α:Type} {T sz:Nat} {enc:α→List Value} (XT:∀ x,(enc x).length=sz) {w:World} {g base:Nat} {xs:List α} (h:YN T sz enc w g (xs.length*sz) xs xs.length) (hb:base≤g) (hm:xs.length≤maxLen) :
 XK T sz enc w base (.slice (some ⟨g,0,none⟩) xs.length xs.length) xs:=h.newCap XT hb Xw hm
/-- A slice of the call's own, to be written over by ys. -/
theorem own_filled {α:Type} {T sz:Nat} {enc:α→List Value} (XT:∀ x,(enc x).length=sz) {w:World} {base cap:Nat} {A:Option Addr} {xs:List α} (h:w.ownsRow base T sz (.slice A xs.length cap) xs.length (xs.flatMap enc))
 (ys:List α) (hl:ys.length=xs.length) (h0:0<xs.length) :
 ∃ g,A=some ⟨g,0,none⟩∧base≤g∧YN T sz enc w g (cap*sz) ys 0∧∀ w',YN T sz enc w' g (cap*sz) ys xs.length→XK T sz enc w' base (.slice (some ⟨g,0,none⟩) xs.length cap) ys:=by
 obtain ⟨h1,h2⟩:=h
 rcases h2 with ⟨_,h2⟩|⟨g,cap',cur,hv,hg,hh,hcap,hmax,hsize,htake⟩
 ·omega
 ·injection hv with hA _ hc
  subst hc
  refine ⟨g,hA,hg,⟨cur,hh,hsize, ?_,fun _ _ h0=>absurd h0 (Nat.not_lt_zero _)⟩,fun w' hf=>?_⟩
  ·rw [hl];exact Nat.mul_le_mul_right _ hcap
  ·rw [← hl] at hf hcap ⊢
   exact hf.newCap XT hg hcap hmax
theorem Sl.map {α β:Type} {sz:Nat} {enc:α→List Value} {enc':β→List Value} {w:World} {A:Option Addr} {xs:List α} (f:α→β) (h:Sl sz enc w A xs) (hf:∀ x∈xs,enc' (f x)=enc x):Sl sz enc' w A (xs.map f):=by
 intro h0
 simp at h0
 obtain ⟨b,off,hA,hb,hc⟩:=h (by omega)
 refine ⟨b,off,hA,hb,fun i hi j u hu=>?_⟩
 simp only [List.length_map] at hi
 simp only [List.getElem_map] at hu
 rw [hf _ (List.getElem_mem hi)] at hu
 exact hc i hi j u hu
/-- The slice over a new block. -/
theorem sl_new {α:Type} {T sz:Nat} {enc:α→List Value} (XT:∀ x,(enc x).length=sz) (w:World) (xs:List α) (cs:Array Value) (h:cs.toList=xs.flatMap enc) :
 Sl sz enc (w.alloc (.cells cs T)) (some ⟨w.heap.size,0,none⟩) xs:=by
 intro _
 refine ⟨_,_,rfl,by simp,fun i hi j u hu=>?_⟩
 rw [World.cell?_alloc_new]
 have:=Kk XT xs i hi j u hu
 rw [← h] at this
 simpa using this
theorem JB {α:Type} {T sz g:Nat} {enc:α→List Value} (XT:∀ x,(enc x).length=sz) (w:World) (xs:List α) (cs:Array Value) (h:cs.toList=xs.flatMap enc) (hg:g=w.heap.size) :
 Sl sz enc (w.alloc (.cells cs T)) (some ⟨g,0,none⟩) xs:=by
 subst hg
 exact sl_new XT w xs cs h
/-- Block g holds these cells, none of them frozen. -/
def XG (w:World) (g:Nat) (vs:List Value):Prop:=g<w.heap.size∧∀ j v,vs[j]? = some v→w.cell? ⟨g,j,none⟩=some v∧w.frozen? ⟨g,j,none⟩=false
section
variable {w w':World} {g:Nat} {vs:List Value}
theorem XG.new (w:World) (cs:Array Value) (T:TypeId):XG (w.alloc (.cells cs T)) w.heap.size cs.toList :=
 ⟨by simp,fun j v h=>⟨by rw [World.cell?_alloc_new];simpa using h,frozen_of_row _ _ _ cs T (heap_alloc_new w _)⟩⟩
theorem XG.below (h:XG w g vs) (hb:Below w.heap.size w w'):XG w' g vs :=
 ⟨Nat.lt_of_lt_of_le h.1 hb.size,fun j v hv=>⟨(hb.cell (p:=⟨g,j,none⟩) h.1).trans (h.2 j v hv).1,(hb.frozen (p:=⟨g,j,none⟩) h.1).trans (h.2 j v hv).2⟩⟩
theorem XG.alloc (h:XG w g vs) (o:Obj):XG (w.alloc o) g vs:=h.below (bR.alloc Xw o)
theorem XG.drewN (h:XG w g vs) (n:Nat):XG (w.drewN n) g vs:=h
theorem XG.drew (h:XG w g vs):XG w.drew g vs:=h
theorem XG.set_ (h:XG w g vs) {p:Addr} (hp:p.block≠g) (u:Value):XG (w.setCell p u) g vs :=
 ⟨by simpa [World.setCell] using h.1,fun j v hv=>⟨(World.cell?_setCell_other w p ⟨g,j,none⟩ u (fun e=>hp (by rw [e]))).trans (h.2 j v hv).1,(World.frozen?_setCell _ _ _ _).trans (h.2 j v hv).2⟩⟩
end
/-- A slice value that came in or was made: it reads as xs. -/
def Rd {α:Type} (sz:Nat) (enc:α→List Value) (w:World) (v:Value) (xs:List α):Prop:=∃ A cap,v=.slice A xs.length cap∧Sl sz enc w A xs
theorem Rd.below {α:Type} {sz:Nat} {enc:α→List Value} {w w':World} {v:Value} {xs:List α} (h:Rd sz enc w v xs) (hb:Below w.heap.size w w'):Rd sz enc w' v xs:=by
 obtain ⟨A,cap,rfl,h⟩:=h
 exact ⟨A,cap,rfl,h.below hb⟩
end Go.Proofs.YtkjimfapbjdafaaGreat
end
section
namespace Go.Proofs.YtkjimfapbjdafaaGreat
open Go.RowKit
def YC (a b c:Int):Bool:=decide (b≤a)&&decide (a≤c)
theorem ZN {a b c:Int}:YC a b c=true ↔ b≤a∧a≤c:=by simp [YC]
/-- The ints of the machine. -/
structure Yd (a:Int):Prop where
 lo : -9223372036854775808≤a
 hi:a≤9223372036854775807
def X3 (a:Int):Bool:=decide (a = -9223372036854775808)
/-- The greatest common divisor of the magnitudes. -/
def Xh (l:List Int):Nat:=l.foldl (fun g n=>Nat.gcd g n.natAbs) 0
def Yx (a b:Int):Int:=if X3 a||X3 b then 0 else ((Nat.gcd a.natAbs b.natAbs:Nat):Int)
def YW (n:Int):List Value:=[.int .i64 n]
theorem Yq (n:Int):(YW n).length=1:=rfl
theorem gcdAll_snoc (l:List Int) (n:Int):Xh (l++[n])=Nat.gcd (Xh l) n.natAbs:=by simp [Xh,List.foldl_append]
theorem YF {α:Type} (l:List α) (k:Nat) (h:k<l.length):l.take (k+1)=l.take k++[l[k]]:=by
 rw [List.take_succ_eq_append_getElem h]
theorem KG (l:List Int) (h:∀ n∈l,Yd n):Xh l≤9223372036854775808:=by
 have key:∀ (l:List Int) (g:Nat),(∀ n∈l,Yd n)→g≤9223372036854775808→l.foldl (fun g n=>Nat.gcd g n.natAbs) g≤9223372036854775808:=by
  intro l
  induction l with
  | nil=>intro g _ hg;exact hg
  | cons n l ih =>
   intro g hl hg
   refine ih _ (fun m hm=>hl m (by simp [hm])) ?_
   show Nat.gcd g n.natAbs≤_
   have hn:=hl n (by simp)
   by_cases h0:n.natAbs=0
   ·rw [h0,Nat.gcd_zero_right];exact hg
   ·have:=Nat.gcd_le_right g (Nat.pos_of_ne_zero h0)
    have:=hn.lo;have:=hn.hi;omega
 exact key l 0 h (by omega)
theorem KD {a:Int} (h:Yd a):a.natAbs≤9223372036854775808:=by have:=h.lo;have:=h.hi;omega
theorem tdiv_nat (n g:Nat):(n:Int).tdiv (g:Int)=((n / g:Nat):Int):=rfl
theorem Z5 {a:Int} (h:0≤a) (g:Nat):a.tdiv g=((a.natAbs / g:Nat):Int):=by
 obtain ⟨n,rfl⟩:=Int.eq_ofNat_of_zero_le h
 rw [tdiv_nat];simp
theorem KO {a:Int} (h:a<0) (g:Nat):a.tdiv g = -((a.natAbs / g:Nat):Int):=by
 obtain ⟨n,hn⟩:=Int.eq_ofNat_of_zero_le (a:=-a) (by omega)
 obtain rfl:a = -(n:Int):=by omega
 rw [Int.neg_tdiv,tdiv_nat];simp
theorem div_nonneg (n g:Nat):(0:Int)≤(n:Int) / (g:Int):=by rw [← Int.natCast_ediv];exact Int.natCast_nonneg _
theorem div_le (n g:Nat) (B:Int) (h:(n:Int)≤B):(n:Int) / (g:Int)≤B:=by
 rw [← Int.natCast_ediv]
 exact Int.le_trans (Int.ofNat_le.2 (Nat.div_le_self n g)) h
theorem ZJ (a b:Int):Xh [a,b]=Nat.gcd a.natAbs b.natAbs:=by simp [Xh]
theorem gcdOf_eq (a b:Int):Yx a b=if X3 a||X3 b then 0 else ((Xh [a,b]:Nat):Int):=by rw [ZJ];rfl
theorem ZI {a:Int} (h:Yd a) (hm:X3 a=false) : -9223372036854775807≤a∧a≤9223372036854775807:=by
 have:=h.lo;have:=h.hi
 simp [X3] at hm
 omega
theorem gcd_pair_le {a b:Int} (ha:Yd a) (hb:Yd b) (h1:X3 a=false) (h2:X3 b=false):Xh [a,b]≤9223372036854775807:=by
 have h3:=ZI ha h1
 have h4:=ZI hb h2
 rw [ZJ]
 by_cases h0:a=0
 ·subst h0;simp;omega
 ·have:=Nat.gcd_le_left b.natAbs (m:=a.natAbs) (by omega)
  omega
end Go.Proofs.YtkjimfapbjdafaaGreat
end
section
namespace Go.Proofs.YtkjimfapbjdafaaGreat
open Go.RowKit
structure XX where
 n:Int
 d:Int
 deriving DecidableEq
def ratioC (x:XX):List Value:=[.int .i64 x.n,.int .i64 x.d]
abbrev X9 (x:XX):Value:=.agg #[.int .i64 x.n,.int .i64 x.d]
theorem ratioC_len (x:XX):(ratioC x).length=2:=rfl
def XX.In (x:XX):Prop:=Yd x.n∧Yd x.d
def mkRatio (r:List Int):XX:=⟨r.getD 0 0,r.getD 1 0⟩
def markRatios (k:Int) (n:Nat):List XX:=(List.range n).map fun (i:Nat)=>⟨k+i*2,k+i*2+1⟩
structure XC where
 x:Int
 y:Int
 d:Int
 deriving DecidableEq
def spotC (x:XC):List Value:=[.int .i64 x.x,.int .i64 x.y,.int .i64 x.d]
abbrev Zi (x:XC):Value:=.agg #[.int .i64 x.x,.int .i64 x.y,.int .i64 x.d]
theorem Jb (x:XC):(spotC x).length=3:=rfl
def XC.In (x:XC):Prop:=Yd x.x∧Yd x.y∧Yd x.d
def mkSpot (r:List Int):XC:=⟨r.getD 0 0,r.getD 1 0,r.getD 2 0⟩
theorem mkSpot_In {r:List Int} (h:r.length=3) (h2:∀ n∈r,Yd n):(mkSpot r).In:=by
 match r,h with
 | [a,b,c],_=>simpa [XC.In,mkSpot] using h2
def markSpots (k:Int) (n:Nat):List XC:=(List.range n).map fun (i:Nat)=>⟨k+i*3,k+i*3+1,k+i*3+1+1⟩
structure Half where
 a:Int
 b:Int
 c:Int
 deriving DecidableEq
def Xj (x:Half):List Value:=[.int .i64 x.a,.int .i64 x.b,.int .i64 x.c]
abbrev YX (x:Half):Value:=.agg #[.int .i64 x.a,.int .i64 x.b,.int .i64 x.c]
theorem Xt (x:Half):(Xj x).length=3:=rfl
def Half.In (x:Half):Prop:=Yd x.a∧Yd x.b∧Yd x.c
def mkHalf (r:List Int):Half:=⟨r.getD 0 0,r.getD 1 0,r.getD 2 0⟩
theorem mkHalf_C {r:List Int} (h:r.length=3):Xj (mkHalf r)=r.map (Value.int .i64):=by
 match r,h with
 | [a,b,c],_=>rfl
theorem mkHalf_In {r:List Int} (h:r.length=3) (h2:∀ n∈r,Yd n):(mkHalf r).In:=by
 match r,h with
 | [a,b,c],_=>simpa [Half.In,mkHalf] using h2
def Z2 (k:Int) (n:Nat):List Half:=(List.range n).map fun (i:Nat)=>⟨k+i*3,k+i*3+1,k+i*3+1+1⟩
structure Ks where
 a:Int
 b:Int
 c:Int
 d:Int
 deriving DecidableEq
def pieceC (x:Ks):List Value:=[.int .i64 x.a,.int .i64 x.b,.int .i64 x.c,.int .i64 x.d]
abbrev pieceV (x:Ks):Value:=.agg #[.int .i64 x.a,.int .i64 x.b,.int .i64 x.c,.int .i64 x.d]
theorem pieceC_len (x:Ks):(pieceC x).length=4:=rfl
def Ks.In (x:Ks):Prop:=Yd x.a∧Yd x.b∧Yd x.c∧Yd x.d
def mkPiece (r:List Int):Ks:=⟨r.getD 0 0,r.getD 1 0,r.getD 2 0,r.getD 3 0⟩
def markPieces (k:Int) (n:Nat):List Ks:=(List.range n).map fun (i:Nat)=>⟨k+i*4,k+i*4+1,k+i*4+1+1,k+i*4+1+1+1⟩
structure Zo where
 low:Int
 high:Int
 deriving DecidableEq
def Zy (x:Zo):List Value:=[.int .i64 x.low,.int .i64 x.high]
abbrev modeV (x:Zo):Value:=.agg #[.int .i64 x.low,.int .i64 x.high]
theorem Kb (x:Zo):(Zy x).length=2:=rfl
def Zo.In (x:Zo):Prop:=Yd x.low∧Yd x.high
def mkMode (r:List Int):Zo:=⟨r.getD 0 0,r.getD 1 0⟩
theorem mkMode_C {r:List Int} (h:r.length=2):Zy (mkMode r)=r.map (Value.int .i64):=by
 match r,h with
 | [a,b],_=>rfl
theorem mkMode_In {r:List Int} (h:r.length=2) (h2:∀ n∈r,Yd n):(mkMode r).In:=by
 match r,h with
 | [a,b],_=>simpa [Zo.In,mkMode] using h2
def KE (k:Int) (n:Nat):List Zo:=(List.range n).map fun (i:Nat)=>⟨k+i*2,k+i*2+1⟩
structure Zf where
 before:Int
 input:Int
 after:Int
 deriving DecidableEq
def recordC (x:Zf):List Value:=[.int .i64 x.before,.int .i64 x.input,.int .i64 x.after]
abbrev recordV (x:Zf):Value:=.agg #[.int .i64 x.before,.int .i64 x.input,.int .i64 x.after]
def Zf.In (x:Zf):Prop:=Yd x.before∧Yd x.input∧Yd x.after
def mkRecord (r:List Int):Zf:=⟨r.getD 0 0,r.getD 1 0,r.getD 2 0⟩
def markRecords (k:Int) (n:Nat):List Zf:=(List.range n).map fun (i:Nat)=>⟨k+i*3,k+i*3+1,k+i*3+1+1⟩
end Go.Proofs.YtkjimfapbjdafaaGreat
end
section
namespace Go.Proofs.YtkjimfapbjdafaaGreat
open Go.RowKit
theorem gcd3 (a b c:Int):Xh [a,b,c]=Nat.gcd (Nat.gcd a.natAbs b.natAbs) c.natAbs:=by simp [Xh]
theorem Y7 {a:Int} (h : -9223372036854775807≤a):X3 a=false:=by simp [X3];omega
theorem ZK {a b:Int} (ha:X3 a=false) (hb:X3 b=false):Yx a b=((Nat.gcd a.natAbs b.natAbs:Nat):Int):=by simp [Yx,ha,hb]
theorem gcdOf_min1 {a b:Int} (ha:X3 a=true):Yx a b=0:=by simp [Yx,ha]
/-- The gcd of two ints that are not the least one is an int that is not the least one. -/
theorem KR {a b:Int} (ha:Yd a) (hb:Yd b):0≤Yx a b∧Yx a b≤9223372036854775807:=by
 unfold Yx
 split
 ·omega
 ·rename_i h
  simp at h
  have:=gcd_pair_le ha hb h.1 h.2
  rw [ZJ] at this
  omega
theorem JP {a b:Int} (ha:Yd a) (hb:Yd b):Yd (Yx a b):=by
 have:=KR ha hb
 exact ⟨by omega,by omega⟩
theorem natAbs_tdiv (a:Int) (g:Nat):(a.tdiv g).natAbs=a.natAbs / g:=by
 rcases Int.le_total 0 a with h|h
 ·rw [Z5 h];rfl
 ·rcases Int.lt_or_eq_of_le h with h|h
  ·rw [KO h,Int.natAbs_neg];rfl
  ·subst h;simp
theorem tdiv_le (a:Int) (g:Nat) (B:Int) (h1 : -B≤a) (h2:a≤B) : -B≤a.tdiv g∧a.tdiv g≤B:=by
 have h:=natAbs_tdiv a g
 have:=Nat.div_le_self a.natAbs g
 omega
/-! ### Fractions -/
def Xy (r:XX):Bool:=YC r.d 1 1000000000000000&&YC r.n (-1000000000000000000) 1000000000000000000&&decide (Yx r.n r.d=1)
def Yo:XX:=⟨0,0⟩
def XD (n d:Int):XX :=
 if d=0∨X3 n=true∨X3 d=true then Yo
 else if 1000000000000000000<n.natAbs / Xh [n,d]∨1000000000000000<d.natAbs / Xh [n,d] then Yo
 else if decide (n<0)=decide (d<0) then ⟨((n.natAbs / Xh [n,d]:Nat):Int),((d.natAbs / Xh [n,d]:Nat):Int)⟩
 else ⟨-((n.natAbs / Xh [n,d]:Nat):Int),((d.natAbs / Xh [n,d]:Nat):Int)⟩
theorem Zr {r:XX}:Xy r=true ↔ (1≤r.d∧r.d≤1000000000000000)∧(-1000000000000000000≤r.n∧r.n≤1000000000000000000)∧Nat.gcd r.n.natAbs r.d.natAbs=1:=by
 simp only [Xy,Bool.and_eq_true,ZN,decide_eq_true_eq,and_assoc]
 refine ⟨fun ⟨a,b,c,d,e⟩=>?_,fun ⟨a,b,c,d,e⟩=>?_⟩
 ·rw [ZK (Y7 (by omega)) (Y7 (by omega))] at e
  exact ⟨a,b,c,d,by omega⟩
 ·refine ⟨a,b,c,d, ?_⟩
  rw [ZK (Y7 (by omega)) (Y7 (by omega))]
  omega
theorem ratioOk_zero:Xy Yo=false:=by decide
theorem ratioOf_ok {n d:Int}:Xy (XD n d)=true ↔ XD n d≠Yo:=by
 constructor
 ·intro h e
  rw [e,ratioOk_zero] at h;cases h
 ·intro h
  unfold XD at h ⊢
  split
  ·rename_i h1;rw [if_pos h1] at h;exact absurd rfl h
  ·rename_i h1
   rw [if_neg h1] at h
   split
   ·rename_i h2;rw [if_pos h2] at h;exact absurd rfl h
   ·rename_i h2
    have hd:0<d.natAbs:=by omega
    have hg:0<Xh [n,d]:=by rw [ZJ];exact Nat.gcd_pos_of_pos_right _ hd
    have hdd:Xh [n,d] ∣ d.natAbs:=by rw [ZJ];exact Nat.gcd_dvd_right _ _
    have hpos:0<d.natAbs / Xh [n,d]:=Nat.div_pos (Nat.le_of_dvd hd hdd) hg
    have hco:Nat.gcd (n.natAbs / Xh [n,d]) (d.natAbs / Xh [n,d])=1:=by
     rw [ZJ]
     exact Nat.gcd_div_gcd_div_gcd_of_pos_right hd
    generalize n.natAbs / Xh [n,d]=top at *
    generalize d.natAbs / Xh [n,d]=bel at *
    split
    ·rw [Zr];simp only [Int.natAbs_natCast];exact ⟨by omega,by omega,hco⟩
    ·rw [Zr];simp only [Int.natAbs_natCast,Int.natAbs_neg];exact ⟨by omega,by omega,hco⟩
/-- The fraction by the other way of reckoning: reduce, then look whether it is valid. -/
theorem ratioOf_alt {n d:Int} (hn:X3 n=false) (hd:X3 d=false) (h0:d≠0) :
 XD n d=if Xy ⟨n.tdiv (if d<0 then -(Xh [n,d]:Int) else Xh [n,d]),d.tdiv (if d<0 then -(Xh [n,d]:Int) else Xh [n,d])⟩
  then ⟨n.tdiv (if d<0 then -(Xh [n,d]:Int) else Xh [n,d]),d.tdiv (if d<0 then -(Xh [n,d]:Int) else Xh [n,d])⟩ else Yo:=by
 have hdp:0<d.natAbs:=by omega
 have hg:0<Xh [n,d]:=by rw [ZJ];exact Nat.gcd_pos_of_pos_right _ hdp
 have hdd:Xh [n,d] ∣ d.natAbs:=by rw [ZJ];exact Nat.gcd_dvd_right _ _
 have hpos:0<d.natAbs / Xh [n,d]:=Nat.div_pos (Nat.le_of_dvd hdp hdd) hg
 have hco:Nat.gcd (n.natAbs / Xh [n,d]) (d.natAbs / Xh [n,d])=1:=by
  rw [ZJ]
  exact Nat.gcd_div_gcd_div_gcd_of_pos_right hdp
 unfold XD
 rw [if_neg (by simp [hn,hd,h0])]
 generalize hG:Xh [n,d]=G at *
 have en:n.tdiv (if d<0 then -(G:Int) else G)=if decide (n<0)=decide (d<0) then ((n.natAbs / G:Nat):Int) else -((n.natAbs / G:Nat):Int):=by
  rcases Int.lt_or_le d 0 with h|h<;>rcases Int.lt_or_le n 0 with h'|h'
  ·rw [if_pos h,Int.tdiv_neg,KO h',if_pos (by simp [h,h'])];omega
  ·rw [if_pos h,Int.tdiv_neg,Z5 h',if_neg (by simp [h];omega)]
  ·rw [if_neg (by omega),KO h',if_neg (by simp [h'];omega)]
  ·rw [if_neg (by omega),Z5 h',if_pos (by simp;omega)]
 have ed:d.tdiv (if d<0 then -(G:Int) else G)=((d.natAbs / G:Nat):Int):=by
  rcases Int.lt_or_le d 0 with h|h
  ·rw [if_pos h,Int.tdiv_neg,KO h];omega
  ·rw [if_neg (by omega),Z5 h]
 rw [en,ed]
 clear en ed hG
 generalize n.natAbs / G=top at *
 generalize d.natAbs / G=bel at *
 by_cases hbig:1000000000000000000<top∨1000000000000000<bel
 ·rw [if_pos hbig,if_neg]
  rw [Zr]
  dsimp only
  split<;>omega
 ·by_cases hs:decide (n<0)=decide (d<0)
  ·simp only [if_pos hs,if_neg hbig]
   rw [if_pos]
   rw [Zr]
   exact ⟨by dsimp only;omega,by dsimp only;omega,by simpa using hco⟩
  ·simp only [if_neg hs,if_neg hbig]
   rw [if_pos]
   rw [Zr]
   exact ⟨by dsimp only;omega,by dsimp only;omega,by simpa using hco⟩
/-! ### Spots -/
def XQ (s:XC):Bool:=YC s.d 1 5000000000&&YC s.x (-1000*s.d) (1000*s.d)&&YC s.y (-1000*s.d) (1000*s.d)&&decide (Xh [s.x,s.y,s.d]=1)
def ZF (x y d:Int):XC:=⟨x.tdiv (Xh [x,y,d]),y.tdiv (Xh [x,y,d]),d.tdiv (Xh [x,y,d])⟩
def YG (x y d:Int):Option XC :=
 if d≤0∨X3 x=true∨X3 y=true then none
 else if XQ (ZF x y d)=true then some (ZF x y d) else none
theorem spotOk_iff {s:XC}:XQ s=true ↔ (1≤s.d∧s.d≤5000000000)∧(-1000*s.d≤s.x∧s.x≤1000*s.d)∧(-1000*s.d≤s.y∧s.y≤1000*s.d)∧Xh [s.x,s.y,s.d]=1:=by
 simp only [XQ,Bool.and_eq_true,ZN,decide_eq_true_eq,and_assoc]
/-! ### Half planes -/
def Xr (h:Half):Bool:=YC h.a (-50000) 50000&&YC h.b (-50000) 50000&&YC h.c (-100000000) 100000000 && !(decide (h.a=0)&&decide (h.b=0))&&decide (Xh [h.a,h.b,h.c]=1)
def redHalf (a b c:Int):Half:=⟨a.tdiv (Xh [a,b,c]),b.tdiv (Xh [a,b,c]),c.tdiv (Xh [a,b,c])⟩
def YK (a b c:Int):Option Half :=
 if Xh [a,b,c]=0∨X3 a=true∨X3 b=true∨X3 c=true then none
 else if Xr (redHalf a b c)=true then some (redHalf a b c) else none
theorem Zn {h:Half}:Xr h=true ↔ (-50000≤h.a∧h.a≤50000)∧(-50000≤h.b∧h.b≤50000)∧(-100000000≤h.c∧h.c≤100000000)∧¬(h.a=0∧h.b=0)∧Xh [h.a,h.b,h.c]=1:=by
 simp only [Xr,Bool.and_eq_true,ZN,decide_eq_true_eq,and_assoc,Bool.not_eq_true',Bool.and_eq_false_imp,decide_eq_false_iff_not,not_and]
/-! ### Pieces -/
def pieceOk (q:Ks):Bool:=YC q.d 1 1000000000000&&YC q.a (-1000000000000) 1000000000000&&YC q.b (-1000000000000) 1000000000000&&YC q.c (-1000000000000) 1000000000000&&decide (Xh [q.a,q.b,q.c,q.d]=1)
/-- The value of a piece at a spot, if both are valid and the denominator is small. -/
def pieceVal (q:Ks) (s:XC):XX:=if 1000<s.d then Yo else XD (q.a*s.x+q.b*s.y+q.c*s.d) (q.d*s.d)
def pieceAt (q:Ks) (s:XC):XX:=if pieceOk q=true∧XQ s=true then pieceVal q s else Yo
end Go.Proofs.YtkjimfapbjdafaaGreat
end
section
namespace Go.Proofs.YtkjimfapbjdafaaGreat
open Go.RowKit
theorem XK.out {α:Type} {T sz base n cap:Nat} {enc:α→List Value} {w:World} {A:Option Addr} {xs:List α} (h:XK T sz enc w base (.slice A n cap) xs) (XT:∀ x,(enc x).length=sz):Sl sz enc w A xs:=by
 obtain ⟨A',cap',e,hs⟩:=h.sl XT
 injection e with e1 _ _
 subst e1
 exact hs
theorem Yb {a w w':World} {n:Nat} (h:(∀ b o,b<n→w.cell? ⟨b,o,none⟩=a.cell? ⟨b,o,none⟩)∧n≤w.heap.size) (hb:Below w.heap.size w w') :
 (∀ b o,b<n→w'.cell? ⟨b,o,none⟩=a.cell? ⟨b,o,none⟩)∧n≤w'.heap.size :=
 ⟨fun b o hlt=>(hb.cell (p:=⟨b,o,none⟩) (Nat.lt_of_lt_of_le hlt h.2)).trans (h.1 b o hlt),Nat.le_trans h.2 hb.size⟩
theorem Ym {a w:World} {n:Nat} (h:(∀ b o,b<n→w.cell? ⟨b,o,none⟩=a.cell? ⟨b,o,none⟩)∧n≤w.heap.size) (o:Obj) :
 (∀ b o',b<n→(w.alloc o).cell? ⟨b,o',none⟩=a.cell? ⟨b,o',none⟩)∧n≤(w.alloc o).heap.size :=
 Yb h (Xf bR o)
theorem Zb {a w:World} {n:Nat} (h:(∀ b o,b<n→w.cell? ⟨b,o,none⟩=a.cell? ⟨b,o,none⟩)∧n≤w.heap.size) {p:Addr} (hp:n≤p.block) (u:Value) :
 (∀ b o',b<n→(w.setCell p u).cell? ⟨b,o',none⟩=a.cell? ⟨b,o',none⟩)∧n≤(w.setCell p u).heap.size :=
 ⟨fun b o hlt=>(World.cell?_setCell_other w p ⟨b,o,none⟩ u (fun e=>by rw [e] at hp;simp only at hp;omega)).trans (h.1 b o hlt),by simpa using h.2⟩
theorem XG.new_at {g:Nat} {vs:List Value} {w:World} (h:g=w.heap.size) (cs:Array Value) (T:TypeId) (hv:cs.toList=vs):XG (w.alloc (.cells cs T)) g vs:=by
 subst h hv
 exact XG.new w cs T
theorem Xd {W w1:World} (hb:Below W.heap.size W w1):∀ b o,b<W.heap.size→w1.cell? ⟨b,o,none⟩=W.cell? ⟨b,o,none⟩ :=
 fun b o h=>hb.cell (p:=⟨b,o,none⟩) h
theorem blt {W w1:World} (hb:Below W.heap.size W w1) {g:Nat} (h:g<W.heap.size):g<w1.heap.size:=Nat.lt_of_lt_of_le h hb.size
/-- A chain of steps that leave all below the start. -/
theorem Xg {B:Nat} {a w:World} (h:Below B a w:=by (repeat (first|(with_reducible exact Below.refl _ _)|(with_reducible assumption)|(with_reducible refine Xf ?_ _)|(with_reducible refine Below.drew ?_)|(with_reducible refine Yy ?_ _)|(with_reducible refine Yg ?_ ?_ _)|(with_reducible refine Xb ?_ (by assumption))|(with_reducible exact Nat.le_refl _)|(focus (simp;done))|(focus (simp;omega))))):Below B a w:=h
theorem Ya {w:World} {g:Nat} {vs:List Value} (h:XG w g vs:=by repeat (first|((with_reducible refine XG.new_at ?_ _ _ rfl);(first|rfl|(focus (simp;done))))|(with_reducible refine XG.set_ ?_ ?_ _)|(with_reducible refine XG.alloc ?_ _)|(with_reducible refine XG.below ?_ (by assumption))|(focus (simp;done))|(focus (simp;omega)))):XG w g vs:=h
end Go.Proofs.YtkjimfapbjdafaaGreat
end
section
namespace Go.Proofs.YtkjimfapbjdafaaGreat
open Go.RowKit
theorem ZD {α:Type} {T sz:Nat} {enc:α→List Value} (XT:∀ x,(enc x).length=sz) {P:Program} (w:World) {ops:Array Oper} {rest:List Oper} {o:Oper} {a:Act} {Q:Exit→Act→World→Prop} (hgd:o.guard=none) (s x:Operand) (t:TypeId)
 (ho:o.op=.call { callee:=.builtin .append,args:=#[s,x],argTypes:=#[t,t] })
 (base:Nat) (i:TypeInfo) (z:Value) (bytes:Nat) (ht:P.underlying t=some (.slice T)) (hi:P.info? T=some i) (hz:i.zero=some z)
 (hsize:i.size=sz) (hby:i.bytes=bytes) (hzs:z.cells.size=sz) (hpos:0<sz)
 {v:Value} {xs:List α} (hs:a.eval s=v) (hown:XK T sz enc w base v xs)
 (ad:Addr) (c:Nat) (hx:a.eval x=.slice (some ad) 1 c) (y:α) (hy:∀ j u,(enc y)[j]? = some u→w.cell? (ad.add j)=some u) (h1:∀ u∈enc y,u.oneCell'=true)
 {W0:World} (hb:Below base W0 w) (hbase:base≤w.heap.size) (hn:xs.length≤1073741823) (hbytes:bytes≤128)
 (h:∀ v' w',XK T sz enc w' base v' (xs++[y])→Below base W0 w'→wpList P ops Q rest (a.put o.dst v') w'):wpList P ops Q (o :: rest) a w:=by
 obtain ⟨A,cap,rfl,hr⟩:=hown
 have hb2:(xs.length+1)*bytes≤1073741824*128:=Nat.mul_le_mul (by omega) hbytes
 refine wpList_append_own w hgd s x t ho base T i z sz bytes ht hi hz hsize hby hzs hpos _ _ _ hs hr ad 1 c (enc y) hx (by rw [XT,Nat.one_mul]) hy h1 (by unfold maxLen;omega) (by omega) hbase ?_
 intro v' w' hown' hg _
 have hl:(xs++[y]).length=xs.length+1:=by simp
 have hf:(xs++[y]).flatMap enc=xs.flatMap enc++enc y:=by simp
 have hbl:=hb.grown hg hbase (fun k e=>(hr.lt k e).1)
 rcases hown'.2 with ⟨_,h0⟩|⟨g,cap',cur,rfl,hg1,r⟩
 ·omega
 ·exact h _ _ ⟨_,cap',by rw [hl],by rw [hl,hf];exact hown'⟩ hbl
end Go.Proofs.YtkjimfapbjdafaaGreat
end
section
namespace Go.Proofs.YtkjimfapbjdafaaGreat
open Go.RowKit
/-- Where a slice lies: its address and its capacity. -/
structure Zw where
 A:Option Addr
 c:Nat
/-- Two slices do not share a block. -/
def Z9 (A B:Zw):Prop:=∀ p q,A.A=some p→B.A=some q→p.block≠q.block
def Blk (lo hi:Nat) (A:Zw):Prop:=∀ p,A.A=some p→lo≤p.block∧p.block<hi
theorem Blk.apart {lo hi lo' hi':Nat} {A B:Zw} (h:Blk lo hi A) (h':Blk lo' hi' B) (hle:hi≤lo'):Z9 A B:=by
 intro p q hp hq e
 have:=h p hp
 have:=h' q hq
 omega
theorem Z9.symm {A B:Zw} (h:Z9 A B):Z9 B A:=fun p q hp hq e=>h q p hq hp e.symm
theorem XK.blk {α:Type} {T sz base n c:Nat} {enc:α→List Value} {w:World} {A:Option Addr} {xs:List α} (h:XK T sz enc w base (.slice A n c) xs):Blk base w.heap.size ⟨A,c⟩:=by
 obtain ⟨A',c',e,h1,h2⟩:=h
 intro p hp
 subst hp
 rcases h2 with ⟨h2,_⟩|⟨g,cap',cur,hv,hg,hh,r⟩
 ·cases h2
 ·injection hv with hv _ _
  injection hv with hv
  subst hv
  refine ⟨hg, ?_⟩
  rcases Nat.lt_or_ge g w.heap.size with hlt|hge
  ·exact hlt
  ·rw [Array.getElem?_eq_none hge] at hh;cases hh
abbrev X5 (x:List Half) (a:Zw):Value:=.agg #[.slice a.A (List.length x) a.c]
def Xn (x:List Half):Nat:=List.length x
structure JJ (x:List Half):Prop where
 halves:∀ y∈x,Half.In y
structure Y3 (w:World) (x:List Half) (a:Zw):Prop where
 halves:Sl 3 Xj w a.A x
theorem Y3.below {w w':World} {x:List Half} {a:Zw} (h:Y3 w x a) (hb:Below w.heap.size w w'):Y3 w' x a:=⟨h.halves.below hb⟩
structure XJ where
 map:List Int
 div:Int
 bx:Int
 by_:Int
 low:Int
 high:Int
 noise:List Half
 limits:List Half
structure Ye where
 map:Zw
 noise:Zw
 limits:Zw
abbrev XY (x:XJ) (a:Ye):Value:=.agg #[.slice a.map.A (List.length x.map) a.map.c,.int .i64 x.div,.int .i64 x.bx,.int .i64 x.by_,.int .i64 x.low,.int .i64 x.high,.slice a.noise.A (List.length x.noise) a.noise.c,.slice a.limits.A (List.length x.limits) a.limits.c]
def Xp (x:XJ):Nat:=List.length x.map+List.length x.noise+List.length x.limits
structure Y6 (x:XJ):Prop where
 map:∀ y∈x.map,Yd y
 div:Yd x.div
 bx:Yd x.bx
 by_:Yd x.by_
 low:Yd x.low
 high:Yd x.high
 noise:JJ x.noise
 limits:JJ x.limits
structure Yh (w:World) (x:XJ) (a:Ye):Prop where
 map:Sl 1 YW w a.map.A x.map
 noise:Y3 w x.noise a.noise
 limits:Y3 w x.limits a.limits
theorem Yh.below {w w':World} {x:XJ} {a:Ye} (h:Yh w x a) (hb:Below w.heap.size w w'):Yh w' x a:=⟨h.map.below hb,h.noise.below hb,h.limits.below hb⟩
structure K6 where
 room:XJ
 reg:List Half
 log:List Int
structure KI where
 room:Ye
 reg:Zw
 log:Zw
abbrev watchV (x:K6) (a:KI):Value:=.agg #[.slice a.room.map.A (List.length x.room.map) a.room.map.c,.int .i64 x.room.div,.int .i64 x.room.bx,.int .i64 x.room.by_,.int .i64 x.room.low,.int .i64 x.room.high,.slice a.room.noise.A (List.length x.room.noise) a.room.noise.c,.slice a.room.limits.A (List.length x.room.limits) a.room.limits.c,.slice a.reg.A (List.length x.reg) a.reg.c,.slice a.log.A (List.length x.log) a.log.c]
def watchLen (x:K6):Nat:=List.length x.room.map+List.length x.room.noise+List.length x.room.limits+List.length x.reg+List.length x.log
structure WatchIn (x:K6):Prop where
 room:Y6 x.room
 reg:JJ x.reg
 log:∀ y∈x.log,Yd y
structure WatchSl (w:World) (x:K6) (a:KI):Prop where
 room:Yh w x.room a.room
 reg:Y3 w x.reg a.reg
 log:Sl 1 YW w a.log.A x.log
theorem WatchSl.below {w w':World} {x:K6} {a:KI} (h:WatchSl w x a) (hb:Below w.heap.size w w'):WatchSl w' x a:=⟨h.room.below hb,h.reg.below hb,h.log.below hb⟩
structure Jo where
 spots:List XC
 inputs:List XX
structure KJ where
 spots:Zw
 inputs:Zw
abbrev trackV (x:Jo) (a:KJ):Value:=.agg #[.slice a.spots.A (List.length x.spots) a.spots.c,.slice a.inputs.A (List.length x.inputs) a.inputs.c]
def trackLen (x:Jo):Nat:=List.length x.spots+List.length x.inputs
structure TrackIn (x:Jo):Prop where
 spots:∀ y∈x.spots,XC.In y
 inputs:∀ y∈x.inputs,XX.In y
structure TrackSl (w:World) (x:Jo) (a:KJ):Prop where
 spots:Sl 3 spotC w a.spots.A x.spots
 inputs:Sl 2 ratioC w a.inputs.A x.inputs
theorem TrackSl.below {w w':World} {x:Jo} {a:KJ} (h:TrackSl w x a) (hb:Below w.heap.size w w'):TrackSl w' x a:=⟨h.spots.below hb,h.inputs.below hb⟩
structure Law where
 lows:List Ks
 highs:List Ks
structure LawA where
 lows:Zw
 highs:Zw
abbrev lawV (x:Law) (a:LawA):Value:=.agg #[.slice a.lows.A (List.length x.lows) a.lows.c,.slice a.highs.A (List.length x.highs) a.highs.c]
def lawLen (x:Law):Nat:=List.length x.lows+List.length x.highs
structure LawIn (x:Law):Prop where
 lows:∀ y∈x.lows,Ks.In y
 highs:∀ y∈x.highs,Ks.In y
structure LawSl (w:World) (x:Law) (a:LawA):Prop where
 lows:Sl 4 pieceC w a.lows.A x.lows
 highs:Sl 4 pieceC w a.highs.A x.highs
theorem LawSl.below {w w':World} {x:Law} {a:LawA} (h:LawSl w x a) (hb:Below w.heap.size w w'):LawSl w' x a:=⟨h.lows.below hb,h.highs.below hb⟩
end Go.Proofs.YtkjimfapbjdafaaGreat
end
