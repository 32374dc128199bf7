/-
 Words on memory that the contracts of this claim use: a slice that reads as a list of structs, a slice of the call's own.
 Conditions: none.
-/
import Derived.Test.YtbekjpkcicjcgaaGreatRows
import Derived.WalkKit
import Derived.WalkSpells
import Derived.WalkLawsBesides
import Derived.Deep.Draws
import Derived.Lib.Hide
import Derived.Deep.Slices
import Derived.Deep.Fields
import Derived.ChangeSame
import Derived.ArgAppend
namespace Go.Proofs.YtbekjpkcicjcgaaGreat
open Go.RowKit
theorem bR {n : Nat} {w : World} : Below n w w := Below.refl n w
theorem XE {n : Nat} : n ≤ n := Nat.le_refl n
abbrev Vi (n : Int) : Value := .int .i64 n
theorem Dz {p : Prop} (h : p := by decide) : p := h
theorem Oz {p : Prop} (h : p := by omega) : p := h
theorem Sz {p : Prop} (h : p := by simp) : p := h
theorem Az {p : Prop} (h : p := by assumption) : p := h
theorem Cz {p q : Prop} (h : p → q := by intro h; cases h) : p → q := h
abbrev Pz (g : Nat) : Value := .pointer (some ⟨g, 0, none⟩)
abbrev Nz : Value := .slice none 0 0
abbrev V0 : Value := .int .i64 0
abbrev Sv (A : Option Addr) (n c : Nat) : Value := .slice A n c
abbrev Bv (b : Bool) : Value := .bool b
abbrev Bt : Value := .bool true
abbrev Bf : Value := .bool false
def Sl {α:Type} (sz:Nat) (enc:α->List Value) (w:World) (A:Option Addr) (xs:List α):Prop :=
 0<xs.length->∃ b off,A=some ⟨b,off,none⟩/\b<w.heap.size /\
  ∀ i (h:i<xs.length) j u,(enc xs[i])[j]? = some u->w.cell? ⟨b,off+i*sz+j,none⟩=some u
section
variable {α:Type} {sz:Nat} {enc:α->List Value} {w w':World} {A:Option Addr} {xs:List α}
theorem Sl.keep (h:Sl sz enc w A xs) {B:Nat} (hs:w.heap.size<=w'.heap.size) (hA:∀ b off,A=some ⟨b,off,none⟩->b<B) (hk:∀ p:Addr,p.block<B->w'.cell? p=w.cell? p):Sl sz enc w' A xs:=by
 intro hn;obtain ⟨b,off,rfl,hlt,hc⟩:=h hn;exact ⟨b,off,rfl,Nat.lt_of_lt_of_le hlt hs,λ i hi j u hu=>(hk ⟨b,off+i*sz+j,none⟩ (hA _ _ rfl)).trans (hc i hi j u hu)⟩
theorem Sl.below (h:Sl sz enc w A xs) (hb:Below w.heap.size w w'):Sl sz enc w' A xs:=by
 intro hn;obtain ⟨b,off,rfl,hlt,hc⟩:=h hn;exact ⟨b,off,rfl,Nat.lt_of_lt_of_le hlt hb.size,λ i hi j u hu=>(hb.cell (p:=⟨b,off+i*sz+j,none⟩) hlt).trans (hc i hi j u hu)⟩
theorem Sl.alloc (h:Sl sz enc w A xs) (o:Obj):Sl sz enc (w.alloc o) A xs:=h.below (bR.alloc XE o)
theorem Sl.drew (h:Sl sz enc w A xs):Sl sz enc w.drew A xs:=h
theorem Sl.drewN (h:Sl sz enc w A xs) (n:Nat):Sl sz enc (w.drewN n) A xs:=h
theorem Sl.at_ (h:Sl sz enc w A xs) {k:Nat} (hk:k<xs.length) :
 ∃ b off,A=some ⟨b,off,none⟩/\b<w.heap.size/\∀ j u,(enc xs[k])[j]? = some u->w.cell? ⟨b,off+k*sz+j,none⟩=some u:=by
 obtain ⟨b,off,hA,hb,hc⟩:=h Oz;exact ⟨b,off,hA,hb,λ j u hu=>hc k hk j u hu⟩
end
theorem YI {α:Type} {sz:Nat} {enc:α->List Value} (X5:∀ x,(enc x).length=sz):∀ xs:List α,(xs.flatMap enc).length=xs.length*sz
 | []=>by simp
 | x :: r=>by simp only [List.flatMap_cons,List.length_append,X5,YI X5 r,List.length_cons,Nat.succ_mul];omega
theorem Kz {α:Type} {sz:Nat} {enc:α->List Value} (X5:∀ x,(enc x).length=sz):∀ (xs:List α) (i:Nat) (h:i<xs.length) (j:Nat) (u:Value),(enc xs[i])[j]? = some u->(xs.flatMap enc)[i*sz+j]? = some u
 | x :: r,0,_,j,u,hu=>by
  have hj:j<(enc x).length:=by
   rcases Nat.lt_or_ge j (enc x).length with h|h
   ·exact h
   ·simp only [List.getElem_cons_zero] at hu;rw [List.getElem?_eq_none h] at hu;cases hu
  simp only [List.getElem_cons_zero] at hu;simp only [Nat.zero_mul,Nat.zero_add,List.flatMap_cons];rw [List.getElem?_append_left hj];exact hu
 | x :: r,i+1,h,j,u,hu=>by
  have hu':(enc (r[i]'(by simpa using h)))[j]? = some u:=by simpa using hu
  have:=Kz X5 r i (by simpa using h) j u hu';simp only [List.flatMap_cons,Nat.succ_mul];rw [List.getElem?_append_right (by rw [X5];omega),X5];rw [<- this];congr 1;omega
def XI {α:Type} (T sz:Nat) (enc:α->List Value) (w:World) (base:Nat) (v:Value) (xs:List α):Prop :=
 ∃ A cap,v=.slice A xs.length cap/\w.ownsRow base T sz v xs.length (xs.flatMap enc)
section
variable {α:Type} {T sz:Nat} {enc:α->List Value} {w w':World} {v:Value} {xs:List α} {base:Nat}
theorem XI.below {B:Nat} (h:XI T sz enc w base v xs) (hb:Below B w w') (hB:w.heap.size<=B):XI T sz enc w' base v xs:=by
 obtain ⟨A,cap,rfl,h1,h2⟩:=h;refine ⟨A,cap,rfl,h1, ?_⟩;rcases h2 with h2|⟨g,cap',cur,hv,hg,hh,r⟩
 ·exact .inl h2
 ·have hlt:g<w.heap.size:=by
   rcases Nat.lt_or_ge g w.heap.size with hlt|hge
   ·exact hlt
   ·rw [Array.getElem?_eq_none hge] at hh;cases hh
  exact .inr ⟨g,cap',cur,hv,hg,(hb.block g Oz).trans hh,r⟩
theorem XI.alloc (h:XI T sz enc w base v xs) (o:Obj):XI T sz enc (w.alloc o) base v xs:=h.below (bR.alloc XE o) XE
theorem XI.mono (h:XI T sz enc w base v xs) {base':Nat} (hb:base'<=base):XI T sz enc w base' v xs:=by
 obtain ⟨A,cap,rfl,h1,h2⟩:=h;refine ⟨A,cap,rfl,h1, ?_⟩;rcases h2 with h2|⟨g,cap',cur,hv,hg,r⟩
 ·exact .inl h2
 ·exact .inr ⟨g,cap',cur,hv,Oz,r⟩
theorem XI.sl (h:XI T sz enc w base v xs) (X5:∀ x,(enc x).length=sz):∃ A cap,v=.slice A xs.length cap/\Sl sz enc w A xs:=by
 obtain ⟨A,cap,rfl,h1,h2⟩:=h;refine ⟨A,cap,rfl,λ hn=>?_⟩;rcases h2 with ⟨h2,h0⟩|⟨g,cap',cur,hv,hg,hh,hcap,hmax,hsize,htake⟩
 ·omega
 ·injection hv with hA _ _
  subst hA;have hlt:g<w.heap.size:=by
   rcases Nat.lt_or_ge g w.heap.size with hlt|hge
   ·exact hlt
   ·rw [Array.getElem?_eq_none hge] at hh;cases hh
  refine ⟨g,0,rfl,hlt,λ i hi j u hu=>?_⟩;have hc:w.cell? ⟨g,0+i*sz+j,none⟩=cur[0+i*sz+j]?:=cell_of_row w g _ cur T (0,0) hh;rw [hc];have hj:j<sz:=by
   rcases Nat.lt_or_ge j (enc xs[i]).length with h|h
   ·rw [X5] at h;exact h
   ·rw [List.getElem?_eq_none h] at hu;cases hu
  have hf:=Kz X5 xs i hi j u hu;rw [<- htake] at hf;have hlt2:i*sz+j<xs.length*sz:=by
   have:(i+1)*sz<=xs.length*sz:=Nat.mul_le_mul_right _ hi;rw [Nat.succ_mul] at this;omega
  rw [List.getElem?_take_of_lt hlt2] at hf;rw [Nat.zero_add];simpa using hf
end
theorem bcell {W w1:World} {B:Nat} (hb:Below B W w1):(∀ b o,b<B->w1.cell? ⟨b,o,none⟩=W.cell? ⟨b,o,none⟩)/\(∀ b o,b<B->w1.frozen? ⟨b,o,none⟩=W.frozen? ⟨b,o,none⟩) :=
 ⟨λ b o h=>hb.cell (p:=⟨b,o,none⟩) h,λ b o h=>hb.frozen (p:=⟨b,o,none⟩) h⟩
theorem YQ {B:Nat} {a w:World} (h:Below B a w) (n:Nat):Below B a (w.drewN n):=⟨h.os,h.tape,h.output,h.size,h.block⟩
theorem Xc {a w:World} (h:Below a.heap.size a w) (o:Obj):Below a.heap.size a (w.alloc o):=h.alloc h.size o
theorem Xe {a w w':World} (h:Below a.heap.size a w) (h':Below w.heap.size w w'):Below a.heap.size a w':=h.trans (h'.mono h.size)
theorem Yp {a w:World} (h:Below a.heap.size a w) {p:Addr} (hp:a.heap.size<=p.block) (u:Value):Below a.heap.size a (w.setCell p u):=h.setCell hp u
theorem YB {k:IntKind} {a b:Int} (h:a=b):Ending.returned (.int k a)=.returned (.int k b):=by rw [h]
theorem Xi {a b:Bool} (h:a=b):Ending.returned (.bool a)=.returned (.bool b):=by rw [h]
theorem list_of_cells {α:Type} {sz:Nat} {enc:α->List Value} (X5:∀ x,(enc x).length=sz) (xs:List α) (cs:Array Value) (hs:xs.length*sz<=cs.size)
 (h:∀ i (hi:i<xs.length) j u,(enc xs[i])[j]? = some u->cs[i*sz+j]? = some u):cs.toList.take (xs.length*sz)=xs.flatMap enc:=by
 apply List.ext_getElem?;intro m;rcases Nat.lt_or_ge m (xs.length*sz) with hm|hm
 ·have hz:0<sz:=by
   rcases Nat.eq_zero_or_pos sz with h0|h0
   ·subst h0;simp at hm
   ·exact h0
  have hi:m / sz<xs.length:=Nat.div_lt_of_lt_mul (by rw [Nat.mul_comm];exact hm);have hj:m % sz<sz:=Nat.mod_lt _ hz;have hmm:m / sz*sz+m % sz=m:=by rw [Nat.mul_comm];exact Nat.div_add_mod m sz
  have hl:m % sz<(enc xs[m / sz]).length:=by rw [X5];exact hj
  have hu:(enc xs[m / sz])[m % sz]? = some ((enc xs[m / sz])[m % sz]):=List.getElem?_eq_getElem hl;have h1:=h _ hi _ _ hu;have h2:=Kz X5 xs _ hi _ _ hu;rw [hmm] at h1 h2;rw [h2,List.getElem?_take_of_lt hm];simpa using h1
 ·rw [List.getElem?_eq_none (Nat.le_trans (List.length_take_le _ _) hm),List.getElem?_eq_none (by rw [YI X5];exact hm)]
def ZG {α:Type} (T sz:Nat) (enc:α->List Value) (w:World) (g N:Nat) (xs:List α) (k:Nat):Prop :=
 ∃ cs:Array Value,w.heap[g]? = some (.cells cs T (0,0))/\cs.size=N/\xs.length*sz<=N/\∀ i (hi:i<xs.length),i<k->∀ j u,(enc xs[i])[j]? = some u->cs[i*sz+j]? = some u
section
variable {α:Type} {T sz:Nat} {enc:α->List Value} {w w':World} {g N k:Nat} {xs:List α}
theorem ZG.start {cs:Array Value} (h:cs.size=N) (hN:xs.length*sz<=N):ZG T sz enc (w.alloc (.cells cs T)) w.heap.size N xs 0 :=
 ⟨cs,heap_alloc_new w _,h,hN,λ _ _ h0=>absurd h0 (Nat.not_lt_zero _)⟩
theorem YD {o:Obj} (h:w.heap[g]? = some o):g<w.heap.size:=by
 rcases Nat.lt_or_ge g w.heap.size with hlt|hge
 ·exact hlt
 ·rw [Array.getElem?_eq_none hge] at h;cases h
theorem ZG.lt (h:ZG T sz enc w g N xs k):g<w.heap.size:=by
 obtain ⟨cs,hg,_⟩:=h;exact YD hg
theorem ZG.room (h:ZG T sz enc w g N xs k):xs.length*sz<=N:=by
 obtain ⟨cs,_,_,h,_⟩:=h;exact h
theorem ZG.below (h:ZG T sz enc w g N xs k) (hb:Below w.heap.size w w'):ZG T sz enc w' g N xs k:=by
 have hlt:=h.lt;obtain ⟨cs,hg,r⟩:=h;exact ⟨cs,(hb.block g hlt).trans hg,r⟩
theorem ZG.cell (h:ZG T sz enc w g N xs k) {m:Nat} (hm:m<N):∃ u,w.cell? ⟨g,m,none⟩=some u:=by
 obtain ⟨cs,hg,hs,_⟩:=h;exact ⟨cs[m]' Oz,by rw [cell_of_row w g m cs T (0,0) hg];exact Array.getElem?_eq_getElem Oz⟩
theorem ZG.frozen (h:ZG T sz enc w g N xs k) (m:Nat):w.frozen? ⟨g,m,none⟩=false:=by
 obtain ⟨cs,hg,_⟩:=h;exact frozen_of_row w g m cs T hg
end
theorem cells_setCells {T g:Nat}:∀ (vs:List Value) (o:Nat) (w:World) (cs:Array Value),w.heap[g]? = some (.cells cs T (0,0))->o+vs.length<=cs.size ->
 ∃ cs',(w.setCells g o vs).heap[g]? = some (.cells cs' T (0,0))/\cs'.size=cs.size/\(∀ j u,vs[j]? = some u->cs'[o+j]? = some u)/\(∀ m,m<o∨o+vs.length<=m->cs'[m]? = cs[m]?)
 | [],o,w,cs,hg,_=>⟨cs,hg,rfl,λ j u h=>by simp at h,λ m _=>rfl⟩
 | v :: r,o,w,cs,hg,hle=>by
  simp only [List.length_cons] at hle;obtain ⟨cs',h1,h2,h3,h4⟩:=cells_setCells r (o+1) (w.setCell ⟨g,o,none⟩ v) (cs.setIfInBounds o v) (heap_setCell_same w g o cs T v hg) (by simp;omega);refine ⟨cs',h1,by simpa using h2,λ j u hu=>?_,λ m hm=>?_⟩
  ·cases j with
   | zero =>
    have:=h4 o Oz;simp only [List.getElem?_cons_zero,Option.some.injEq] at hu;subst hu;rw [Nat.add_zero,this,Array.getElem?_setIfInBounds_self_of_lt Oz]
   | succ j =>
    have:=h3 j u (by simpa using hu);rw [show o+(j+1)=o+1+j from Oz];exact this
  ·simp only [List.length_cons] at hm;rw [h4 m Oz,Array.getElem?_setIfInBounds_ne Oz]
theorem ZG.stored {α:Type} {T sz:Nat} {enc:α->List Value} (X5:∀ x,(enc x).length=sz) {w:World} {g N k:Nat} {xs:List α} (h:ZG T sz enc w g N xs k) (hk:k<xs.length) {vs:List Value} (hv:enc xs[k]=vs) :
 ZG T sz enc (w.setCells g (k*sz) vs) g N xs (k+1):=by
 obtain ⟨cs,hg,hs,hN,hc⟩:=h;have hl:vs.length=sz:=by rw [<- hv,X5]
 have hm:(k+1)*sz<=xs.length*sz:=Nat.mul_le_mul_right _ hk;rw [Nat.succ_mul] at hm;obtain ⟨cs',h1,h2,h3,h4⟩:=cells_setCells vs (k*sz) w cs hg Oz;refine ⟨cs',h1,h2.trans hs,hN,λ i hi hik j u hu=>?_⟩;have hj:j<sz:=by
  rcases Nat.lt_or_ge j (enc xs[i]).length with h|h
  ·rw [X5] at h;exact h
  ·rw [List.getElem?_eq_none h] at hu;cases hu
 rcases Nat.lt_or_eq_of_le (Nat.le_of_lt_succ hik) with hlt|rfl
 ·have:(i+1)*sz<=k*sz:=Nat.mul_le_mul_right _ hlt;rw [Nat.succ_mul] at this;rw [h4 _ Oz];exact hc i hi hlt j u hu
 ·exact h3 j u (by rw [<- hv];exact hu)
theorem Zy {B:Nat} {a:World} {g:Nat} (hg:B<=g):∀ (vs:List Value) (o:Nat) (w:World),Below B a w->Below B a (w.setCells g o vs)
 | [],_,_,h=>h
 | v :: r,o,_,h=>Zy hg r (o+1) _ (h.setCell hg v)
theorem below_setCells {a:World} {g:Nat} (hg:a.heap.size<=g) (vs:List Value) (o:Nat) (w:World) (h:Below a.heap.size a w):Below a.heap.size a (w.setCells g o vs):=Zy hg vs o w h
theorem ZG.newCap {α:Type} {T sz:Nat} {enc:α->List Value} (X5:∀ x,(enc x).length=sz) {w:World} {g base cap:Nat} {xs:List α} (h:ZG T sz enc w g (cap*sz) xs xs.length) (hb:base<=g) (hle:xs.length<=cap) (hm:cap<=maxLen) :
 XI T sz enc w base (.slice (some ⟨g,0,none⟩) xs.length cap) xs:=by
 obtain ⟨cs,hg,hs,hN,hc⟩:=h;exact ⟨_,_,rfl,YI X5 xs,.inr ⟨g,cap,cs,rfl,hb,hg,hle,hm,hs,list_of_cells X5 xs cs Oz (λ i hi j u hu=>hc i hi hi j u hu)⟩⟩
theorem ZG.new {α:Type} {T sz:Nat} {enc:α->List Value} (X5:∀ x,(enc x).length=sz) {w:World} {g base:Nat} {xs:List α} (h:ZG T sz enc w g (xs.length*sz) xs xs.length) (hb:base<=g) (hm:xs.length<=maxLen) :
 XI T sz enc w base (.slice (some ⟨g,0,none⟩) xs.length xs.length) xs:=h.newCap X5 hb XE hm
theorem own_filled {α:Type} {T sz:Nat} {enc:α->List Value} (X5:∀ x,(enc x).length=sz) {w:World} {base cap:Nat} {A:Option Addr} {xs:List α} (h:w.ownsRow base T sz (.slice A xs.length cap) xs.length (xs.flatMap enc))
 (ys:List α) (hl:ys.length=xs.length) (h0:0<xs.length) :
 ∃ g,A=some ⟨g,0,none⟩/\base<=g/\ZG T sz enc w g (cap*sz) ys 0/\∀ w',ZG T sz enc w' g (cap*sz) ys xs.length->XI T sz enc w' base (.slice (some ⟨g,0,none⟩) xs.length cap) ys:=by
 obtain ⟨h1,h2⟩:=h;rcases h2 with ⟨_,h2⟩|⟨g,cap',cur,hv,hg,hh,hcap,hmax,hsize,htake⟩
 ·omega
 ·injection hv with hA _ hc
  subst hc;refine ⟨g,hA,hg,⟨cur,hh,hsize, ?_,λ _ _ h0=>absurd h0 (Nat.not_lt_zero _)⟩,λ w' hf=>?_⟩
  ·rw [hl];exact Nat.mul_le_mul_right _ hcap
  ·rw [<- hl] at hf hcap ⊢;exact hf.newCap X5 hg hcap hmax
theorem Sl.map {α β:Type} {sz:Nat} {enc:α->List Value} {enc':β->List Value} {w:World} {A:Option Addr} {xs:List α} (f:α->β) (h:Sl sz enc w A xs) (hf:∀ x∈xs,enc' (f x)=enc x):Sl sz enc' w A (xs.map f):=by
 intro h0;simp at h0;obtain ⟨b,off,hA,hb,hc⟩:=h Oz;refine ⟨b,off,hA,hb,λ i hi j u hu=>?_⟩;simp only [List.length_map] at hi;simp only [List.getElem_map] at hu;rw [hf _ (List.getElem_mem hi)] at hu;exact hc i hi j u hu
theorem sl_new {α:Type} {T sz:Nat} {enc:α->List Value} (X5:∀ x,(enc x).length=sz) (w:World) (xs:List α) (cs:Array Value) (h:cs.toList=xs.flatMap enc) :
 Sl sz enc (w.alloc (.cells cs T)) (some ⟨w.heap.size,0,none⟩) xs:=by
 intro _;refine ⟨_,_,rfl,Sz,λ i hi j u hu=>?_⟩;rw [World.cell?_alloc_new];have:=Kz X5 xs i hi j u hu;rw [<- h] at this;simpa using this
theorem sl_new_at {α:Type} {T sz g:Nat} {enc:α->List Value} (X5:∀ x,(enc x).length=sz) (w:World) (xs:List α) (cs:Array Value) (h:cs.toList=xs.flatMap enc) (hg:g=w.heap.size) :
 Sl sz enc (w.alloc (.cells cs T)) (some ⟨g,0,none⟩) xs:=by
 subst hg;exact sl_new X5 w xs cs h
def XV (w:World) (g:Nat) (vs:List Value):Prop:=g<w.heap.size/\∀ j v,vs[j]? = some v->w.cell? ⟨g,j,none⟩=some v/\w.frozen? ⟨g,j,none⟩=false
section
variable {w w':World} {g:Nat} {vs:List Value}
theorem XV.new (w:World) (cs:Array Value) (T:TypeId):XV (w.alloc (.cells cs T)) w.heap.size cs.toList :=
 ⟨Sz,λ j v h=>⟨by rw [World.cell?_alloc_new];simpa using h,frozen_of_row _ _ _ cs T (heap_alloc_new w _)⟩⟩
theorem XV.below (h:XV w g vs) (hb:Below w.heap.size w w'):XV w' g vs :=
 ⟨Nat.lt_of_lt_of_le h.1 hb.size,λ j v hv=>⟨(hb.cell (p:=⟨g,j,none⟩) h.1).trans (h.2 j v hv).1,(hb.frozen (p:=⟨g,j,none⟩) h.1).trans (h.2 j v hv).2⟩⟩
theorem XV.alloc (h:XV w g vs) (o:Obj):XV (w.alloc o) g vs:=h.below (bR.alloc XE o)
theorem XV.drewN (h:XV w g vs) (n:Nat):XV (w.drewN n) g vs:=h
theorem XV.drew (h:XV w g vs):XV w.drew g vs:=h
theorem XV.set_ (h:XV w g vs) {p:Addr} (hp:p.block≠g) (u:Value):XV (w.setCell p u) g vs :=
 ⟨by simpa [World.setCell] using h.1,λ j v hv=>⟨(World.cell?_setCell_other w p ⟨g,j,none⟩ u (λ e=>hp (by rw [e]))).trans (h.2 j v hv).1,(World.frozen?_setCell _ _ _ _).trans (h.2 j v hv).2⟩⟩
end
def Rd {α:Type} (sz:Nat) (enc:α->List Value) (w:World) (v:Value) (xs:List α):Prop:=∃ A cap,v=.slice A xs.length cap/\Sl sz enc w A xs
theorem Rd.below {α:Type} {sz:Nat} {enc:α->List Value} {w w':World} {v:Value} {xs:List α} (h:Rd sz enc w v xs) (hb:Below w.heap.size w w'):Rd sz enc w' v xs:=by
 obtain ⟨A,cap,rfl,h⟩:=h;exact ⟨A,cap,rfl,h.below hb⟩
def ZL (a b c:Int):Bool:=decide (b<=a)&&decide (a<=c)
theorem Z3 {a b c:Int}:ZL a b c=true ↔ b<=a/\a<=c:=by simp [ZL]
structure Yy (a:Int):Prop where
 lo : -9223372036854775808<=a
 hi:a<=9223372036854775807
def Yj (a:Int):Bool:=decide (a = -9223372036854775808)
def Xm (l:List Int):Nat:=l.foldl (λ g n=>Nat.gcd g n.natAbs) 0
def YF (a b:Int):Int:=if Yj a||Yj b then 0 else ((Nat.gcd a.natAbs b.natAbs:Nat):Int)
def Zm (n:Int):List Value:=[.int .i64 n]
theorem Zg (n:Int):(Zm n).length=1:=rfl
theorem gcdAll_snoc (l:List Int) (n:Int):Xm (l++[n])=Nat.gcd (Xm l) n.natAbs:=by simp [Xm,List.foldl_append]
theorem Zj {α:Type} (l:List α) (k:Nat) (h:k<l.length):l.take (k+1)=l.take k++[l[k]]:=by
 rw [List.take_succ_eq_append_getElem h]
theorem JF (l:List Int) (h:∀ n∈l,Yy n):Xm l<=9223372036854775808:=by
 have key:∀ (l:List Int) (g:Nat),(∀ n∈l,Yy n)->g<=9223372036854775808->l.foldl (λ g n=>Nat.gcd g n.natAbs) g<=9223372036854775808:=by
  intro l;induction l with
  | nil=>intro g _ hg;exact hg
  | cons n l ih =>
   intro g hl hg;refine ih _ (λ m hm=>hl m (by simp [hm])) ?_;show Nat.gcd g n.natAbs<=_;have hn:=hl n Sz;by_cases h0:n.natAbs=0
   ·rw [h0,Nat.gcd_zero_right];exact hg
   ·have:=Nat.gcd_le_right g (Nat.pos_of_ne_zero h0);have:=hn.lo;have:=hn.hi;omega
 exact key l 0 h Oz
theorem JC {a:Int} (h:Yy a):a.natAbs<=9223372036854775808:=by have:=h.lo;have:=h.hi;omega
theorem tdiv_nat (n g:Nat):(n:Int).tdiv (g:Int)=((n / g:Nat):Int):=rfl
theorem KM {a:Int} (h:0<=a) (g:Nat):a.tdiv g=((a.natAbs / g:Nat):Int):=by
 obtain ⟨n,rfl⟩:=Int.eq_ofNat_of_zero_le h;rw [tdiv_nat];simp
theorem JL {a:Int} (h:a<0) (g:Nat):a.tdiv g = -((a.natAbs / g:Nat):Int):=by
 obtain ⟨n,hn⟩:=Int.eq_ofNat_of_zero_le (a:=-a) Oz;obtain rfl:a = -(n:Int):=Oz
 rw [Int.neg_tdiv,tdiv_nat];simp
theorem div_nonneg (n g:Nat):(0:Int)<=(n:Int) / (g:Int):=by rw [<- Int.natCast_ediv];exact Int.natCast_nonneg _
theorem div_le (n g:Nat) (B:Int) (h:(n:Int)<=B):(n:Int) / (g:Int)<=B:=by
 rw [<- Int.natCast_ediv];exact Int.le_trans (Int.ofNat_le.2 (Nat.div_le_self n g)) h
theorem Ka (a b:Int):Xm [a,b]=Nat.gcd a.natAbs b.natAbs:=by simp [Xm]
theorem gcdOf_eq (a b:Int):YF a b=if Yj a||Yj b then 0 else ((Xm [a,b]:Nat):Int):=by rw [Ka];rfl
theorem Kj {a:Int} (h:Yy a) (hm:Yj a=false) : -9223372036854775807<=a/\a<=9223372036854775807:=by
 have:=h.lo;have:=h.hi;simp [Yj] at hm;omega
theorem gcd_pair_le {a b:Int} (ha:Yy a) (hb:Yy b) (h1:Yj a=false) (h2:Yj b=false):Xm [a,b]<=9223372036854775807:=by
 have h3:=Kj ha h1;have h4:=Kj hb h2;rw [Ka];by_cases h0:a=0
 ·subst h0;simp;omega
 ·have:=Nat.gcd_le_left b.natAbs (m:=a.natAbs) Oz;omega
structure Yk where
 n:Int
 d:Int
 deriving DecidableEq
def ratioC (x:Yk):List Value:=[.int .i64 x.n,.int .i64 x.d]
abbrev Xv (x:Yk):Value:=.agg #[.int .i64 x.n,.int .i64 x.d]
theorem ratioC_len (x:Yk):(ratioC x).length=2:=rfl
def Yk.In (x:Yk):Prop:=Yy x.n/\Yy x.d
def mkRatio (r:List Int):Yk:=⟨r.getD 0 0,r.getD 1 0⟩
theorem mkRatio_In {r:List Int} (h:r.length=2) (h2:∀ n∈r,Yy n):(mkRatio r).In:=by
 match r,h with
 | [a,b],_=>simpa [Yk.In,mkRatio] using h2
structure X9 where
 x:Int
 y:Int
 d:Int
 deriving DecidableEq
def spotC (x:X9):List Value:=[.int .i64 x.x,.int .i64 x.y,.int .i64 x.d]
abbrev YK (x:X9):Value:=.agg #[.int .i64 x.x,.int .i64 x.y,.int .i64 x.d]
theorem Jg (x:X9):(spotC x).length=3:=rfl
def X9.In (x:X9):Prop:=Yy x.x/\Yy x.y/\Yy x.d
def mkSpot (r:List Int):X9:=⟨r.getD 0 0,r.getD 1 0,r.getD 2 0⟩
theorem mkSpot_In {r:List Int} (h:r.length=3) (h2:∀ n∈r,Yy n):(mkSpot r).In:=by
 match r,h with
 | [a,b,c],_=>simpa [X9.In,mkSpot] using h2
structure Half where
 a:Int
 b:Int
 c:Int
 deriving DecidableEq
def Xd (x:Half):List Value:=[.int .i64 x.a,.int .i64 x.b,.int .i64 x.c]
abbrev X3 (x:Half):Value:=.agg #[.int .i64 x.a,.int .i64 x.b,.int .i64 x.c]
theorem Xx (x:Half):(Xd x).length=3:=rfl
def Half.In (x:Half):Prop:=Yy x.a/\Yy x.b/\Yy x.c
def mkHalf (r:List Int):Half:=⟨r.getD 0 0,r.getD 1 0,r.getD 2 0⟩
theorem mkHalf_C {r:List Int} (h:r.length=3):Xd (mkHalf r)=r.map (Value.int .i64):=by
 match r,h with
 | [a,b,c],_=>rfl
theorem mkHalf_In {r:List Int} (h:r.length=3) (h2:∀ n∈r,Yy n):(mkHalf r).In:=by
 match r,h with
 | [a,b,c],_=>simpa [Half.In,mkHalf] using h2
def Zl (k:Int) (n:Nat):List Half:=(List.range n).map λ(i:Nat)=>⟨k+i*3,k+i*3+1,k+i*3+1+1⟩
structure Piece where
 a:Int
 b:Int
 c:Int
 d:Int
 deriving DecidableEq
def pieceC (x:Piece):List Value:=[.int .i64 x.a,.int .i64 x.b,.int .i64 x.c,.int .i64 x.d]
def Piece.In (x:Piece):Prop:=Yy x.a/\Yy x.b/\Yy x.c/\Yy x.d
structure Mode where
 low:Int
 high:Int
 deriving DecidableEq
def Mode.In (x:Mode):Prop:=Yy x.low/\Yy x.high
structure Record where
 before:Int
 input:Int
 after:Int
 deriving DecidableEq
def Record.In (x:Record):Prop:=Yy x.before/\Yy x.input/\Yy x.after
theorem gcd3 (a b c:Int):Xm [a,b,c]=Nat.gcd (Nat.gcd a.natAbs b.natAbs) c.natAbs:=by simp [Xm]
theorem ZI {a:Int} (h : -9223372036854775807<=a):Yj a=false:=by simp [Yj];omega
theorem Kk {a b:Int} (ha:Yj a=false) (hb:Yj b=false):YF a b=((Nat.gcd a.natAbs b.natAbs:Nat):Int):=by simp [YF,ha,hb]
theorem gcdOf_min1 {a b:Int} (ha:Yj a=true):YF a b=0:=by simp [YF,ha]
theorem JM {a b:Int} (ha:Yy a) (hb:Yy b):0<=YF a b/\YF a b<=9223372036854775807:=by
 unfold YF;split
 ·omega
 ·rename_i h
  simp at h;have:=gcd_pair_le ha hb h.1 h.2;rw [Ka] at this;omega
theorem gcdOf_In64 {a b:Int} (ha:Yy a) (hb:Yy b):Yy (YF a b):=by
 have:=JM ha hb;exact ⟨Oz,Oz⟩
theorem natAbs_tdiv (a:Int) (g:Nat):(a.tdiv g).natAbs=a.natAbs / g:=by
 rcases Int.le_total 0 a with h|h
 ·rw [KM h];rfl
 ·rcases Int.lt_or_eq_of_le h with h|h
  ·rw [JL h,Int.natAbs_neg];rfl
  ·subst h;simp
theorem tdiv_le (a:Int) (g:Nat) (B:Int) (h1 : -B<=a) (h2:a<=B) : -B<=a.tdiv g/\a.tdiv g<=B:=by
 have h:=natAbs_tdiv a g;have:=Nat.div_le_self a.natAbs g;omega
def Xn (r:Yk):Bool:=ZL r.d 1 1000000000000000&&ZL r.n (-1000000000000000000) 1000000000000000000&&decide (YF r.n r.d=1)
def Y7:Yk:=⟨0,0⟩
def XD (n d:Int):Yk :=
 if d=0∨Yj n=true∨Yj d=true then Y7
 else if 1000000000000000000<n.natAbs / Xm [n,d]∨1000000000000000<d.natAbs / Xm [n,d] then Y7
 else if decide (n<0)=decide (d<0) then ⟨((n.natAbs / Xm [n,d]:Nat):Int),((d.natAbs / Xm [n,d]:Nat):Int)⟩
 else ⟨-((n.natAbs / Xm [n,d]:Nat):Int),((d.natAbs / Xm [n,d]:Nat):Int)⟩
theorem Z6 {r:Yk}:Xn r=true ↔ (1<=r.d/\r.d<=1000000000000000)/\(-1000000000000000000<=r.n/\r.n<=1000000000000000000)/\Nat.gcd r.n.natAbs r.d.natAbs=1:=by
 simp only [Xn,Bool.and_eq_true,Z3,decide_eq_true_eq,and_assoc];refine ⟨λ⟨a,b,c,d,e⟩=>?_,λ⟨a,b,c,d,e⟩=>?_⟩
 ·rw [Kk (ZI Oz) (ZI Oz)] at e;exact ⟨a,b,c,d,Oz⟩
 ·refine ⟨a,b,c,d, ?_⟩;rw [Kk (ZI Oz) (ZI Oz)];omega
theorem ratioOk_zero:Xn Y7=false:=Dz
theorem ratioOf_ok {n d:Int}:Xn (XD n d)=true ↔ XD n d≠Y7:=by
 constructor
 ·intro h e;rw [e,ratioOk_zero] at h;cases h
 ·intro h;unfold XD at h ⊢;split
  ·rename_i h1;rw [if_pos h1] at h;exact absurd rfl h
  ·rename_i h1
   rw [if_neg h1] at h;split
   ·rename_i h2;rw [if_pos h2] at h;exact absurd rfl h
   ·rename_i h2
    have hd:0<d.natAbs:=Oz
    have hg:0<Xm [n,d]:=by rw [Ka];exact Nat.gcd_pos_of_pos_right _ hd
    have hdd:Xm [n,d] ∣ d.natAbs:=by rw [Ka];exact Nat.gcd_dvd_right _ _
    have hpos:0<d.natAbs / Xm [n,d]:=Nat.div_pos (Nat.le_of_dvd hd hdd) hg;have hco:Nat.gcd (n.natAbs / Xm [n,d]) (d.natAbs / Xm [n,d])=1:=by
     rw [Ka];exact Nat.gcd_div_gcd_div_gcd_of_pos_right hd
    generalize n.natAbs / Xm [n,d]=top at *;generalize d.natAbs / Xm [n,d]=bel at *;split
    ·rw [Z6];simp only [Int.natAbs_natCast];exact ⟨Oz,Oz,hco⟩
    ·rw [Z6];simp only [Int.natAbs_natCast,Int.natAbs_neg];exact ⟨Oz,Oz,hco⟩
theorem ratioOf_alt {n d:Int} (hn:Yj n=false) (hd:Yj d=false) (h0:d≠0) :
 XD n d=if Xn ⟨n.tdiv (if d<0 then -(Xm [n,d]:Int) else Xm [n,d]),d.tdiv (if d<0 then -(Xm [n,d]:Int) else Xm [n,d])⟩
  then ⟨n.tdiv (if d<0 then -(Xm [n,d]:Int) else Xm [n,d]),d.tdiv (if d<0 then -(Xm [n,d]:Int) else Xm [n,d])⟩ else Y7:=by
 have hdp:0<d.natAbs:=Oz
 have hg:0<Xm [n,d]:=by rw [Ka];exact Nat.gcd_pos_of_pos_right _ hdp
 have hdd:Xm [n,d] ∣ d.natAbs:=by rw [Ka];exact Nat.gcd_dvd_right _ _
 have hpos:0<d.natAbs / Xm [n,d]:=Nat.div_pos (Nat.le_of_dvd hdp hdd) hg;have hco:Nat.gcd (n.natAbs / Xm [n,d]) (d.natAbs / Xm [n,d])=1:=by
  rw [Ka];exact Nat.gcd_div_gcd_div_gcd_of_pos_right hdp
 unfold XD;rw [if_neg (by simp [hn,hd,h0])];generalize hG:Xm [n,d]=G at *;have en:n.tdiv (if d<0 then -(G:Int) else G)=if decide (n<0)=decide (d<0) then ((n.natAbs / G:Nat):Int) else -((n.natAbs / G:Nat):Int):=by
  rcases Int.lt_or_le d 0 with h|h<;>rcases Int.lt_or_le n 0 with h'|h'
  ·rw [if_pos h,Int.tdiv_neg,JL h',if_pos (by simp [h,h'])];omega
  ·rw [if_pos h,Int.tdiv_neg,KM h',if_neg (by simp [h];omega)]
  ·rw [if_neg Oz,JL h',if_neg (by simp [h'];omega)]
  ·rw [if_neg Oz,KM h',if_pos (by simp;omega)]
 have ed:d.tdiv (if d<0 then -(G:Int) else G)=((d.natAbs / G:Nat):Int):=by
  rcases Int.lt_or_le d 0 with h|h
  ·rw [if_pos h,Int.tdiv_neg,JL h];omega
  ·rw [if_neg Oz,KM h]
 rw [en,ed];clear en ed hG;generalize n.natAbs / G=top at *;generalize d.natAbs / G=bel at *;by_cases hbig:1000000000000000000<top∨1000000000000000<bel
 ·rw [if_pos hbig,if_neg];rw [Z6];dsimp only
  split<;>omega
 ·by_cases hs:decide (n<0)=decide (d<0)
  ·simp only [if_pos hs,if_neg hbig];rw [if_pos];rw [Z6];exact ⟨by dsimp only;omega,by dsimp only;omega,by simpa using hco⟩
  ·simp only [if_neg hs,if_neg hbig];rw [if_pos];rw [Z6];exact ⟨by dsimp only;omega,by dsimp only;omega,by simpa using hco⟩
def X7 (s:X9):Bool:=ZL s.d 1 5000000000&&ZL s.x (-1000*s.d) (1000*s.d)&&ZL s.y (-1000*s.d) (1000*s.d)&&decide (Xm [s.x,s.y,s.d]=1)
def Kf (x y d:Int):X9:=⟨x.tdiv (Xm [x,y,d]),y.tdiv (Xm [x,y,d]),d.tdiv (Xm [x,y,d])⟩
def Zd (x y d:Int):Option X9 :=
 if d<=0∨Yj x=true∨Yj y=true then none
 else if X7 (Kf x y d)=true then some (Kf x y d) else none
theorem J0 {s:X9}:X7 s=true ↔ (1<=s.d/\s.d<=5000000000)/\(-1000*s.d<=s.x/\s.x<=1000*s.d)/\(-1000*s.d<=s.y/\s.y<=1000*s.d)/\Xm [s.x,s.y,s.d]=1:=by
 simp only [X7,Bool.and_eq_true,Z3,decide_eq_true_eq,and_assoc]
def Xt (h:Half):Bool:=ZL h.a (-50000) 50000&&ZL h.b (-50000) 50000&&ZL h.c (-100000000) 100000000 && !(decide (h.a=0)&&decide (h.b=0))&&decide (Xm [h.a,h.b,h.c]=1)
def redHalf (a b c:Int):Half:=⟨a.tdiv (Xm [a,b,c]),b.tdiv (Xm [a,b,c]),c.tdiv (Xm [a,b,c])⟩
def Y1 (a b c:Int):Option Half :=
 if Xm [a,b,c]=0∨Yj a=true∨Yj b=true∨Yj c=true then none
 else if Xt (redHalf a b c)=true then some (redHalf a b c) else none
theorem Y0 {h:Half}:Xt h=true ↔ (-50000<=h.a/\h.a<=50000)/\(-50000<=h.b/\h.b<=50000)/\(-100000000<=h.c/\h.c<=100000000)/\¬(h.a=0/\h.b=0)/\Xm [h.a,h.b,h.c]=1:=by
 simp only [Xt,Bool.and_eq_true,Z3,decide_eq_true_eq,and_assoc,Bool.not_eq_true',Bool.and_eq_false_imp,decide_eq_false_iff_not,not_and]
theorem XI.out {α:Type} {T sz base n cap:Nat} {enc:α->List Value} {w:World} {A:Option Addr} {xs:List α} (h:XI T sz enc w base (.slice A n cap) xs) (X5:∀ x,(enc x).length=sz):Sl sz enc w A xs:=by
 obtain ⟨A',cap',e,hs⟩:=h.sl X5;injection e with e1 _ _
 subst e1;exact hs
theorem Yw {a w w':World} {n:Nat} (h:(∀ b o,b<n->w.cell? ⟨b,o,none⟩=a.cell? ⟨b,o,none⟩)/\n<=w.heap.size) (hb:Below w.heap.size w w') :
 (∀ b o,b<n->w'.cell? ⟨b,o,none⟩=a.cell? ⟨b,o,none⟩)/\n<=w'.heap.size :=
 ⟨λ b o hlt=>(hb.cell (p:=⟨b,o,none⟩) (Nat.lt_of_lt_of_le hlt h.2)).trans (h.1 b o hlt),Nat.le_trans h.2 hb.size⟩
theorem YH {a w:World} {n:Nat} (h:(∀ b o,b<n->w.cell? ⟨b,o,none⟩=a.cell? ⟨b,o,none⟩)/\n<=w.heap.size) (o:Obj) :
 (∀ b o',b<n->(w.alloc o).cell? ⟨b,o',none⟩=a.cell? ⟨b,o',none⟩)/\n<=(w.alloc o).heap.size :=
 Yw h (Xc bR o)
theorem ZT {a w:World} {n:Nat} (h:(∀ b o,b<n->w.cell? ⟨b,o,none⟩=a.cell? ⟨b,o,none⟩)/\n<=w.heap.size) {p:Addr} (hp:n<=p.block) (u:Value) :
 (∀ b o',b<n->(w.setCell p u).cell? ⟨b,o',none⟩=a.cell? ⟨b,o',none⟩)/\n<=(w.setCell p u).heap.size :=
 ⟨λ b o hlt=>(World.cell?_setCell_other w p ⟨b,o,none⟩ u (λ e=>by rw [e] at hp;simp only at hp;omega)).trans (h.1 b o hlt),by simpa using h.2⟩
theorem XV.new_at {g:Nat} {vs:List Value} {w:World} (h:g=w.heap.size) (cs:Array Value) (T:TypeId) (hv:cs.toList=vs):XV (w.alloc (.cells cs T)) g vs:=by
 subst h hv;exact XV.new w cs T
theorem Xh {W w1:World} (hb:Below W.heap.size W w1):∀ b o,b<W.heap.size->w1.cell? ⟨b,o,none⟩=W.cell? ⟨b,o,none⟩ :=
 λ b o h=>hb.cell (p:=⟨b,o,none⟩) h
theorem blt {W w1:World} (hb:Below W.heap.size W w1) {g:Nat} (h:g<W.heap.size):g<w1.heap.size:=Nat.lt_of_lt_of_le h hb.size
theorem Xo {W w1:World} {g:Nat} (hb:Below W.heap.size W w1) (h:g<W.heap.size:=by first|(simp;done)|(simp;omega)|omega):g<w1.heap.size:=blt hb h
theorem Xl {B:Nat} {a w:World} (h:Below B a w:=by (repeat (first|(with_reducible exact Below.refl _ _)|(with_reducible assumption)|(with_reducible refine Xc ?_ _)|(with_reducible refine Below.drew ?_)|(with_reducible refine YQ ?_ _)|(with_reducible refine Yp ?_ ?_ _)|(with_reducible refine Xe ?_ Az)|(with_reducible exact Nat.le_refl _)|(focus (simp;done))|(focus (simp;omega))))):Below B a w:=h
theorem Ys {w:World} {g:Nat} {vs:List Value} (h:XV w g vs:=by repeat (first|((with_reducible refine XV.new_at ?_ _ _ rfl);(first|rfl|(focus (simp;done))))|(with_reducible refine XV.set_ ?_ ?_ _)|(with_reducible refine XV.alloc ?_ _)|(with_reducible refine XV.below ?_ Az)|(focus (simp;done))|(focus (simp;omega)))):XV w g vs:=h
theorem Z5 {α:Type} {T sz:Nat} {enc:α->List Value} (X5:∀ x,(enc x).length=sz) {P:Program} (w:World) {ops:Array Oper} {rest:List Oper} {o:Oper} {a:Act} {Q:Exit->Act->World->Prop} (hgd:o.guard=none) (s x:Operand) (t:TypeId)
 (ho:o.op=.call { callee:=.builtin .append,args:=#[s,x],argTypes:=#[t,t] })
 (base:Nat) (i:TypeInfo) (z:Value) (bytes:Nat) (ht:P.underlying t=some (.slice T)) (hi:P.info? T=some i) (hz:i.zero=some z)
 (hsize:i.size=sz) (hby:i.bytes=bytes) (hzs:z.cells.size=sz) (hpos:0<sz)
 {v:Value} {xs:List α} (hs:a.eval s=v) (hown:XI T sz enc w base v xs)
 (ad:Addr) (c:Nat) (hx:a.eval x=.slice (some ad) 1 c) (y:α) (hy:∀ j u,(enc y)[j]? = some u->w.cell? (ad.add j)=some u) (h1:∀ u∈enc y,u.oneCell'=true)
 {W0:World} (hb:Below base W0 w) (hbase:base<=w.heap.size) (hn:xs.length<=1073741823) (hbytes:bytes<=128)
 (h:∀ v' w',XI T sz enc w' base v' (xs++[y])->Below base W0 w'->wpList P ops Q rest (a.put o.dst v') w'):wpList P ops Q (o :: rest) a w:=by
 obtain ⟨A,cap,rfl,hr⟩:=hown;have hb2:(xs.length+1)*bytes<=1073741824*128:=Nat.mul_le_mul Oz hbytes;refine wpList_append_own w hgd s x t ho base T i z sz bytes ht hi hz hsize hby hzs hpos _ _ _ hs hr ad 1 c (enc y) hx (by rw [X5,Nat.one_mul]) hy h1 (by unfold maxLen;omega) Oz hbase ?_;intro v' w' hown' hg _;have hl:(xs++[y]).length=xs.length+1:=Sz
 have hf:(xs++[y]).flatMap enc=xs.flatMap enc++enc y:=Sz
 have hbl:=hb.grown hg hbase (λ k e=>(hr.lt k e).1);rcases hown'.2 with ⟨_,h0⟩|⟨g,cap',cur,rfl,hg1,r⟩
 ·omega
 ·exact h _ _ ⟨_,cap',by rw [hl],by rw [hl,hf];exact hown'⟩ hbl
structure Zi where
 A:Option Addr
 c:Nat
def Kd (A B:Zi):Prop:=∀ p q,A.A=some p->B.A=some q->p.block≠q.block
def Blk (lo hi:Nat) (A:Zi):Prop:=∀ p,A.A=some p->lo<=p.block/\p.block<hi
theorem Blk.apart {lo hi lo' hi':Nat} {A B:Zi} (h:Blk lo hi A) (h':Blk lo' hi' B) (hle:hi<=lo'):Kd A B:=by
 intro p q hp hq e;have:=h p hp;have:=h' q hq;omega
theorem Kd.symm {A B:Zi} (h:Kd A B):Kd B A:=λ p q hp hq e=>h q p hq hp e.symm
theorem XI.blk {α:Type} {T sz base n c:Nat} {enc:α->List Value} {w:World} {A:Option Addr} {xs:List α} (h:XI T sz enc w base (.slice A n c) xs):Blk base w.heap.size ⟨A,c⟩:=by
 obtain ⟨A',c',e,h1,h2⟩:=h;intro p hp;subst hp;rcases h2 with ⟨h2,_⟩|⟨g,cap',cur,hv,hg,hh,r⟩
 ·cases h2
 ·injection hv with hv _ _
  injection hv with hv
  subst hv;refine ⟨hg, ?_⟩;rcases Nat.lt_or_ge g w.heap.size with hlt|hge
  ·exact hlt
  ·rw [Array.getElem?_eq_none hge] at hh;cases hh
abbrev Yi (x:List Half) (a:Zi):Value:=.agg #[.slice a.A (List.length x) a.c]
def XB (x:List Half):Nat:=List.length x
structure RegionIn (x:List Half):Prop where
 halves:∀ y∈x,Half.In y
structure Y9 (w:World) (x:List Half) (a:Zi):Prop where
 halves:Sl 3 Xd w a.A x
theorem Y9.below {w w':World} {x:List Half} {a:Zi} (h:Y9 w x a) (hb:Below w.heap.size w w'):Y9 w' x a:=⟨h.halves.below hb⟩
structure XU where
 map:List Int
 div:Int
 bx:Int
 by_:Int
 low:Int
 high:Int
 noise:List Half
 limits:List Half
structure Yn where
 map:Zi
 noise:Zi
 limits:Zi
abbrev Ya (x:XU) (a:Yn):Value:=.agg #[.slice a.map.A (List.length x.map) a.map.c,.int .i64 x.div,.int .i64 x.bx,.int .i64 x.by_,.int .i64 x.low,.int .i64 x.high,.slice a.noise.A (List.length x.noise) a.noise.c,.slice a.limits.A (List.length x.limits) a.limits.c]
def Xy (x:XU):Nat:=List.length x.map+List.length x.noise+List.length x.limits
structure Zh (x:XU):Prop where
 map:∀ y∈x.map,Yy y
 div:Yy x.div
 bx:Yy x.bx
 by_:Yy x.by_
 low:Yy x.low
 high:Yy x.high
 noise:RegionIn x.noise
 limits:RegionIn x.limits
structure Ym (w:World) (x:XU) (a:Yn):Prop where
 map:Sl 1 Zm w a.map.A x.map
 noise:Y9 w x.noise a.noise
 limits:Y9 w x.limits a.limits
theorem Ym.below {w w':World} {x:XU} {a:Yn} (h:Ym w x a) (hb:Below w.heap.size w w'):Ym w' x a:=⟨h.map.below hb,h.noise.below hb,h.limits.below hb⟩
structure ZE where
 room:XU
 reg:List Half
 log:List Int
structure ZF where
 room:Yn
 reg:Zi
 log:Zi
abbrev XO (x:ZE) (a:ZF):Value:=.agg #[.slice a.room.map.A (List.length x.room.map) a.room.map.c,.int .i64 x.room.div,.int .i64 x.room.bx,.int .i64 x.room.by_,.int .i64 x.room.low,.int .i64 x.room.high,.slice a.room.noise.A (List.length x.room.noise) a.room.noise.c,.slice a.room.limits.A (List.length x.room.limits) a.room.limits.c,.slice a.reg.A (List.length x.reg) a.reg.c,.slice a.log.A (List.length x.log) a.log.c]
def Yd (x:ZE):Nat:=List.length x.room.map+List.length x.room.noise+List.length x.room.limits+List.length x.reg+List.length x.log
structure WatchIn (x:ZE):Prop where
 room:Zh x.room
 reg:RegionIn x.reg
 log:∀ y∈x.log,Yy y
structure K6 (w:World) (x:ZE) (a:ZF):Prop where
 room:Ym w x.room a.room
 reg:Y9 w x.reg a.reg
 log:Sl 1 Zm w a.log.A x.log
theorem K6.below {w w':World} {x:ZE} {a:ZF} (h:K6 w x a) (hb:Below w.heap.size w w'):K6 w' x a:=⟨h.room.below hb,h.reg.below hb,h.log.below hb⟩
structure Track where
 spots:List X9
 inputs:List Yk
structure JS where
 spots:Zi
 inputs:Zi
structure TrackSl (w:World) (x:Track) (a:JS):Prop where
 spots:Sl 3 spotC w a.spots.A x.spots
 inputs:Sl 2 ratioC w a.inputs.A x.inputs
theorem TrackSl.below {w w':World} {x:Track} {a:JS} (h:TrackSl w x a) (hb:Below w.heap.size w w'):TrackSl w' x a:=⟨h.spots.below hb,h.inputs.below hb⟩
structure Law where
 lows:List Piece
 highs:List Piece
structure LawA where
 lows:Zi
 highs:Zi
structure LawSl (w:World) (x:Law) (a:LawA):Prop where
 lows:Sl 4 pieceC w a.lows.A x.lows
 highs:Sl 4 pieceC w a.highs.A x.highs
theorem LawSl.below {w w':World} {x:Law} {a:LawA} (h:LawSl w x a) (hb:Below w.heap.size w w'):LawSl w' x a:=⟨h.lows.below hb,h.highs.below hb⟩
end Go.Proofs.YtbekjpkcicjcgaaGreat
