/-
 Words on memory that the contracts of this claim use: a slice that reads as a list of structs, a slice of the call's own.
 Conditions: none.
-/
import Derived.Test.YtbekjpkcicjcgaaGreatRows
import Derived.WalkKit
import Derived.WalkSpells
import Derived.WalkLawsBesides
import Derived.Deep.Draws
import Derived.Lib.Hide
import Derived.Deep.Slices
import Derived.Deep.Fields
import Derived.ChangeSame
import Derived.ArgAppend
namespace Go.Proofs.YtbekjpkcicjcgaaGreat
open Go.RowKit
theorem bR {n : Nat} {w : World} : Below n w w := Below.refl n w
theorem Xy {n : Nat} : n ≤ n := Nat.le_refl n
abbrev Vi (n : Int) : Value := .int .i64 n
theorem Dz {p : Prop} (h : p := by decide) : p := h
theorem Oz {p : Prop} (h : p := by omega) : p := h
theorem Sz {p : Prop} (h : p := by simp) : p := h
theorem Az {p : Prop} (h : p := by assumption) : p := h
theorem Cz {p q : Prop} (h : p → q := by intro h; cases h) : p → q := h
abbrev Pz (g : Nat) : Value := .pointer (some ⟨g, 0, none⟩)
abbrev Nz : Value := .slice none 0 0
abbrev V0 : Value := .int .i64 0
abbrev Sv (A : Option Addr) (n c : Nat) : Value := .slice A n c
abbrev Bv (b : Bool) : Value := .bool b
abbrev Bt : Value := .bool true
abbrev Bf : Value := .bool false
def Sl {α:Type} (sz:Nat) (enc:α->List Value) (w:World) (A:Option Addr) (xs:List α):Prop :=
 0<xs.length->∃ b off,A=some ⟨b,off,none⟩/\b<w.heap.size /\
  ∀ i (h:i<xs.length) j u,(enc xs[i])[j]? = some u->w.cell? ⟨b,off+i*sz+j,none⟩=some u
section
variable {α:Type} {sz:Nat} {enc:α->List Value} {w w':World} {A:Option Addr} {xs:List α}
theorem Sl.keep (h:Sl sz enc w A xs) {B:Nat} (hs:w.heap.size<=w'.heap.size) (hA:∀ b off,A=some ⟨b,off,none⟩->b<B) (hk:∀ p:Addr,p.block<B->w'.cell? p=w.cell? p):Sl sz enc w' A xs:=by
 intro hn;obtain ⟨b,off,rfl,hlt,hc⟩:=h hn;exact ⟨b,off,rfl,Nat.lt_of_lt_of_le hlt hs,λ i hi j u hu=>(hk ⟨b,off+i*sz+j,none⟩ (hA _ _ rfl)).trans (hc i hi j u hu)⟩
theorem Sl.below (h:Sl sz enc w A xs) (hb:Below w.heap.size w w'):Sl sz enc w' A xs:=by
 intro hn;obtain ⟨b,off,rfl,hlt,hc⟩:=h hn;exact ⟨b,off,rfl,Nat.lt_of_lt_of_le hlt hb.size,λ i hi j u hu=>(hb.cell (p:=⟨b,off+i*sz+j,none⟩) hlt).trans (hc i hi j u hu)⟩
theorem Sl.alloc (h:Sl sz enc w A xs) (o:Obj):Sl sz enc (w.alloc o) A xs:=h.below (bR.alloc Xy o)
theorem Sl.drew (h:Sl sz enc w A xs):Sl sz enc w.drew A xs:=h
theorem Sl.drewN (h:Sl sz enc w A xs) (n:Nat):Sl sz enc (w.drewN n) A xs:=h
theorem Sl.at_ (h:Sl sz enc w A xs) {k:Nat} (hk:k<xs.length) :
 ∃ b off,A=some ⟨b,off,none⟩/\b<w.heap.size/\∀ j u,(enc xs[k])[j]? = some u->w.cell? ⟨b,off+k*sz+j,none⟩=some u:=by
 obtain ⟨b,off,hA,hb,hc⟩:=h Oz;exact ⟨b,off,hA,hb,λ j u hu=>hc k hk j u hu⟩
end
theorem Y5 {α:Type} {sz:Nat} {enc:α->List Value} (X5:∀ x,(enc x).length=sz):∀ xs:List α,(xs.flatMap enc).length=xs.length*sz
 | []=>by simp
 | x :: r=>by simp only [List.flatMap_cons,List.length_append,X5,Y5 X5 r,List.length_cons,Nat.succ_mul];omega
theorem Jq {α:Type} {sz:Nat} {enc:α->List Value} (X5:∀ x,(enc x).length=sz):∀ (xs:List α) (i:Nat) (h:i<xs.length) (j:Nat) (u:Value),(enc xs[i])[j]? = some u->(xs.flatMap enc)[i*sz+j]? = some u
 | x :: r,0,_,j,u,hu=>by
  have hj:j<(enc x).length:=by
   rcases Nat.lt_or_ge j (enc x).length with h|h
   ·exact h
   ·simp only [List.getElem_cons_zero] at hu;rw [List.getElem?_eq_none h] at hu;cases hu
  simp only [List.getElem_cons_zero] at hu;simp only [Nat.zero_mul,Nat.zero_add,List.flatMap_cons];rw [List.getElem?_append_left hj];exact hu
 | x :: r,i+1,h,j,u,hu=>by
  have hu':(enc (r[i]'(by simpa using h)))[j]? = some u:=by simpa using hu
  have:=Jq X5 r i (by simpa using h) j u hu';simp only [List.flatMap_cons,Nat.succ_mul];rw [List.getElem?_append_right (by rw [X5];omega),X5];rw [<- this];congr 1;omega
def XG {α:Type} (T sz:Nat) (enc:α->List Value) (w:World) (base:Nat) (v:Value) (xs:List α):Prop :=
 ∃ A cap,v=.slice A xs.length cap/\w.ownsRow base T sz v xs.length (xs.flatMap enc)
section
variable {α:Type} {T sz:Nat} {enc:α->List Value} {w w':World} {v:Value} {xs:List α} {base:Nat}
theorem XG.below {B:Nat} (h:XG T sz enc w base v xs) (hb:Below B w w') (hB:w.heap.size<=B):XG T sz enc w' base v xs:=by
 obtain ⟨A,cap,rfl,h1,h2⟩:=h;refine ⟨A,cap,rfl,h1, ?_⟩;rcases h2 with h2|⟨g,cap',cur,hv,hg,hh,r⟩
 ·exact .inl h2
 ·have hlt:g<w.heap.size:=by
   rcases Nat.lt_or_ge g w.heap.size with hlt|hge
   ·exact hlt
   ·rw [Array.getElem?_eq_none hge] at hh;cases hh
  exact .inr ⟨g,cap',cur,hv,hg,(hb.block g Oz).trans hh,r⟩
theorem XG.alloc (h:XG T sz enc w base v xs) (o:Obj):XG T sz enc (w.alloc o) base v xs:=h.below (bR.alloc Xy o) Xy
theorem XG.mono (h:XG T sz enc w base v xs) {base':Nat} (hb:base'<=base):XG T sz enc w base' v xs:=by
 obtain ⟨A,cap,rfl,h1,h2⟩:=h;refine ⟨A,cap,rfl,h1, ?_⟩;rcases h2 with h2|⟨g,cap',cur,hv,hg,r⟩
 ·exact .inl h2
 ·exact .inr ⟨g,cap',cur,hv,Oz,r⟩
theorem XG.sl (h:XG T sz enc w base v xs) (X5:∀ x,(enc x).length=sz):∃ A cap,v=.slice A xs.length cap/\Sl sz enc w A xs:=by
 obtain ⟨A,cap,rfl,h1,h2⟩:=h;refine ⟨A,cap,rfl,λ hn=>?_⟩;rcases h2 with ⟨h2,h0⟩|⟨g,cap',cur,hv,hg,hh,hcap,hmax,hsize,htake⟩
 ·omega
 ·injection hv with hA _ _
  subst hA;have hlt:g<w.heap.size:=by
   rcases Nat.lt_or_ge g w.heap.size with hlt|hge
   ·exact hlt
   ·rw [Array.getElem?_eq_none hge] at hh;cases hh
  refine ⟨g,0,rfl,hlt,λ i hi j u hu=>?_⟩;have hc:w.cell? ⟨g,0+i*sz+j,none⟩=cur[0+i*sz+j]?:=cell_of_row w g _ cur T (0,0) hh;rw [hc];have hj:j<sz:=by
   rcases Nat.lt_or_ge j (enc xs[i]).length with h|h
   ·rw [X5] at h;exact h
   ·rw [List.getElem?_eq_none h] at hu;cases hu
  have hf:=Jq X5 xs i hi j u hu;rw [<- htake] at hf;have hlt2:i*sz+j<xs.length*sz:=by
   have:(i+1)*sz<=xs.length*sz:=Nat.mul_le_mul_right _ hi;rw [Nat.succ_mul] at this;omega
  rw [List.getElem?_take_of_lt hlt2] at hf;rw [Nat.zero_add];simpa using hf
end
theorem bcell {W w1:World} {B:Nat} (hb:Below B W w1):(∀ b o,b<B->w1.cell? ⟨b,o,none⟩=W.cell? ⟨b,o,none⟩)/\(∀ b o,b<B->w1.frozen? ⟨b,o,none⟩=W.frozen? ⟨b,o,none⟩) :=
 ⟨λ b o h=>hb.cell (p:=⟨b,o,none⟩) h,λ b o h=>hb.frozen (p:=⟨b,o,none⟩) h⟩
theorem Zn {B:Nat} {a w:World} (h:Below B a w) (n:Nat):Below B a (w.drewN n):=⟨h.os,h.tape,h.output,h.size,h.block⟩
theorem Xb {a w:World} (h:Below a.heap.size a w) (o:Obj):Below a.heap.size a (w.alloc o):=h.alloc h.size o
theorem Xf {a w w':World} (h:Below a.heap.size a w) (h':Below w.heap.size w w'):Below a.heap.size a w':=h.trans (h'.mono h.size)
theorem YY {a w:World} (h:Below a.heap.size a w) {p:Addr} (hp:a.heap.size<=p.block) (u:Value):Below a.heap.size a (w.setCell p u):=h.setCell hp u
theorem ZG {k:IntKind} {a b:Int} (h:a=b):Ending.returned (.int k a)=.returned (.int k b):=by rw [h]
theorem Xm {a b:Bool} (h:a=b):Ending.returned (.bool a)=.returned (.bool b):=by rw [h]
theorem list_of_cells {α:Type} {sz:Nat} {enc:α->List Value} (X5:∀ x,(enc x).length=sz) (xs:List α) (cs:Array Value) (hs:xs.length*sz<=cs.size)
 (h:∀ i (hi:i<xs.length) j u,(enc xs[i])[j]? = some u->cs[i*sz+j]? = some u):cs.toList.take (xs.length*sz)=xs.flatMap enc:=by
 apply List.ext_getElem?;intro m;rcases Nat.lt_or_ge m (xs.length*sz) with hm|hm
 ·have hz:0<sz:=by
   rcases Nat.eq_zero_or_pos sz with h0|h0
   ·subst h0;simp at hm
   ·exact h0
  have hi:m / sz<xs.length:=Nat.div_lt_of_lt_mul (by rw [Nat.mul_comm];exact hm);have hj:m % sz<sz:=Nat.mod_lt _ hz;have hmm:m / sz*sz+m % sz=m:=by rw [Nat.mul_comm];exact Nat.div_add_mod m sz
  have hl:m % sz<(enc xs[m / sz]).length:=by rw [X5];exact hj
  have hu:(enc xs[m / sz])[m % sz]? = some ((enc xs[m / sz])[m % sz]):=List.getElem?_eq_getElem hl;have h1:=h _ hi _ _ hu;have h2:=Jq X5 xs _ hi _ _ hu;rw [hmm] at h1 h2;rw [h2,List.getElem?_take_of_lt hm];simpa using h1
 ·rw [List.getElem?_eq_none (Nat.le_trans (List.length_take_le _ _) hm),List.getElem?_eq_none (by rw [Y5 X5];exact hm)]
def KR {α:Type} (T sz:Nat) (enc:α->List Value) (w:World) (g N:Nat) (xs:List α) (k:Nat):Prop :=
 ∃ cs:Array Value,w.heap[g]? = some (.cells cs T (0,0))/\cs.size=N/\xs.length*sz<=N/\∀ i (hi:i<xs.length),i<k->∀ j u,(enc xs[i])[j]? = some u->cs[i*sz+j]? = some u
section
variable {α:Type} {T sz:Nat} {enc:α->List Value} {w w':World} {g N k:Nat} {xs:List α}
theorem KR.start {cs:Array Value} (h:cs.size=N) (hN:xs.length*sz<=N):KR T sz enc (w.alloc (.cells cs T)) w.heap.size N xs 0 :=
 ⟨cs,heap_alloc_new w _,h,hN,λ _ _ h0=>absurd h0 (Nat.not_lt_zero _)⟩
theorem XR {o:Obj} (h:w.heap[g]? = some o):g<w.heap.size:=by
 rcases Nat.lt_or_ge g w.heap.size with hlt|hge
 ·exact hlt
 ·rw [Array.getElem?_eq_none hge] at h;cases h
theorem KR.lt (h:KR T sz enc w g N xs k):g<w.heap.size:=by
 obtain ⟨cs,hg,_⟩:=h;exact XR hg
theorem KR.room (h:KR T sz enc w g N xs k):xs.length*sz<=N:=by
 obtain ⟨cs,_,_,h,_⟩:=h;exact h
theorem KR.below (h:KR T sz enc w g N xs k) (hb:Below w.heap.size w w'):KR T sz enc w' g N xs k:=by
 have hlt:=h.lt;obtain ⟨cs,hg,r⟩:=h;exact ⟨cs,(hb.block g hlt).trans hg,r⟩
theorem KR.cell (h:KR T sz enc w g N xs k) {m:Nat} (hm:m<N):∃ u,w.cell? ⟨g,m,none⟩=some u:=by
 obtain ⟨cs,hg,hs,_⟩:=h;exact ⟨cs[m]' Oz,by rw [cell_of_row w g m cs T (0,0) hg];exact Array.getElem?_eq_getElem Oz⟩
theorem KR.frozen (h:KR T sz enc w g N xs k) (m:Nat):w.frozen? ⟨g,m,none⟩=false:=by
 obtain ⟨cs,hg,_⟩:=h;exact frozen_of_row w g m cs T hg
end
theorem cells_setCells {T g:Nat}:∀ (vs:List Value) (o:Nat) (w:World) (cs:Array Value),w.heap[g]? = some (.cells cs T (0,0))->o+vs.length<=cs.size ->
 ∃ cs',(w.setCells g o vs).heap[g]? = some (.cells cs' T (0,0))/\cs'.size=cs.size/\(∀ j u,vs[j]? = some u->cs'[o+j]? = some u)/\(∀ m,m<o∨o+vs.length<=m->cs'[m]? = cs[m]?)
 | [],o,w,cs,hg,_=>⟨cs,hg,rfl,λ j u h=>by simp at h,λ m _=>rfl⟩
 | v :: r,o,w,cs,hg,hle=>by
  simp only [List.length_cons] at hle;obtain ⟨cs',h1,h2,h3,h4⟩:=cells_setCells r (o+1) (w.setCell ⟨g,o,none⟩ v) (cs.setIfInBounds o v) (heap_setCell_same w g o cs T v hg) (by simp;omega);refine ⟨cs',h1,by simpa using h2,λ j u hu=>?_,λ m hm=>?_⟩
  ·cases j with
   | zero =>
    have:=h4 o Oz;simp only [List.getElem?_cons_zero,Option.some.injEq] at hu;subst hu;rw [Nat.add_zero,this,Array.getElem?_setIfInBounds_self_of_lt Oz]
   | succ j =>
    have:=h3 j u (by simpa using hu);rw [show o+(j+1)=o+1+j from Oz];exact this
  ·simp only [List.length_cons] at hm;rw [h4 m Oz,Array.getElem?_setIfInBounds_ne Oz]
theorem KR.stored {α:Type} {T sz:Nat} {enc:α->List Value} (X5:∀ x,(enc x).length=sz) {w:World} {g N k:Nat} {xs:List α} (h:KR T sz enc w g N xs k) (hk:k<xs.length) {vs:List Value} (hv:enc xs[k]=vs) :
 KR T sz enc (w.setCells g (k*sz) vs) g N xs (k+1):=by
 obtain ⟨cs,hg,hs,hN,hc⟩:=h;have hl:vs.length=sz:=by rw [<- hv,X5]
 have hm:(k+1)*sz<=xs.length*sz:=Nat.mul_le_mul_right _ hk;rw [Nat.succ_mul] at hm;obtain ⟨cs',h1,h2,h3,h4⟩:=cells_setCells vs (k*sz) w cs hg Oz;refine ⟨cs',h1,h2.trans hs,hN,λ i hi hik j u hu=>?_⟩;have hj:j<sz:=by
  rcases Nat.lt_or_ge j (enc xs[i]).length with h|h
  ·rw [X5] at h;exact h
  ·rw [List.getElem?_eq_none h] at hu;cases hu
 rcases Nat.lt_or_eq_of_le (Nat.le_of_lt_succ hik) with hlt|rfl
 ·have:(i+1)*sz<=k*sz:=Nat.mul_le_mul_right _ hlt;rw [Nat.succ_mul] at this;rw [h4 _ Oz];exact hc i hi hlt j u hu
 ·exact h3 j u (by rw [<- hv];exact hu)
theorem Kb {B:Nat} {a:World} {g:Nat} (hg:B<=g):∀ (vs:List Value) (o:Nat) (w:World),Below B a w->Below B a (w.setCells g o vs)
 | [],_,_,h=>h
 | v :: r,o,_,h=>Kb hg r (o+1) _ (h.setCell hg v)
theorem KR.newCap {α:Type} {T sz:Nat} {enc:α->List Value} (X5:∀ x,(enc x).length=sz) {w:World} {g base cap:Nat} {xs:List α} (h:KR T sz enc w g (cap*sz) xs xs.length) (hb:base<=g) (hle:xs.length<=cap) (hm:cap<=maxLen) :
 XG T sz enc w base (.slice (some ⟨g,0,none⟩) xs.length cap) xs:=by
 obtain ⟨cs,hg,hs,hN,hc⟩:=h;exact ⟨_,_,rfl,Y5 X5 xs,.inr ⟨g,cap,cs,rfl,hb,hg,hle,hm,hs,list_of_cells X5 xs cs Oz (λ i hi j u hu=>hc i hi hi j u hu)⟩⟩
theorem KR.new {α:Type} {T sz:Nat} {enc:α->List Value} (X5:∀ x,(enc x).length=sz) {w:World} {g base:Nat} {xs:List α} (h:KR T sz enc w g (xs.length*sz) xs xs.length) (hb:base<=g) (hm:xs.length<=maxLen) :
 XG T sz enc w base (.slice (some ⟨g,0,none⟩) xs.length xs.length) xs:=h.newCap X5 hb Xy hm
theorem Sl.map {α β:Type} {sz:Nat} {enc:α->List Value} {enc':β->List Value} {w:World} {A:Option Addr} {xs:List α} (f:α->β) (h:Sl sz enc w A xs) (hf:∀ x∈xs,enc' (f x)=enc x):Sl sz enc' w A (xs.map f):=by
 intro h0;simp at h0;obtain ⟨b,off,hA,hb,hc⟩:=h Oz;refine ⟨b,off,hA,hb,λ i hi j u hu=>?_⟩;simp only [List.length_map] at hi;simp only [List.getElem_map] at hu;rw [hf _ (List.getElem_mem hi)] at hu;exact hc i hi j u hu
theorem sl_new {α:Type} {T sz:Nat} {enc:α->List Value} (X5:∀ x,(enc x).length=sz) (w:World) (xs:List α) (cs:Array Value) (h:cs.toList=xs.flatMap enc) :
 Sl sz enc (w.alloc (.cells cs T)) (some ⟨w.heap.size,0,none⟩) xs:=by
 intro _;refine ⟨_,_,rfl,Sz,λ i hi j u hu=>?_⟩;rw [World.cell?_alloc_new];have:=Jq X5 xs i hi j u hu;rw [<- h] at this;simpa using this
theorem sl_new_at {α:Type} {T sz g:Nat} {enc:α->List Value} (X5:∀ x,(enc x).length=sz) (w:World) (xs:List α) (cs:Array Value) (h:cs.toList=xs.flatMap enc) (hg:g=w.heap.size) :
 Sl sz enc (w.alloc (.cells cs T)) (some ⟨g,0,none⟩) xs:=by
 subst hg;exact sl_new X5 w xs cs h
def Yd (w:World) (g:Nat) (vs:List Value):Prop:=g<w.heap.size/\∀ j v,vs[j]? = some v->w.cell? ⟨g,j,none⟩=some v/\w.frozen? ⟨g,j,none⟩=false
section
variable {w w':World} {g:Nat} {vs:List Value}
theorem Yd.new (w:World) (cs:Array Value) (T:TypeId):Yd (w.alloc (.cells cs T)) w.heap.size cs.toList :=
 ⟨Sz,λ j v h=>⟨by rw [World.cell?_alloc_new];simpa using h,frozen_of_row _ _ _ cs T (heap_alloc_new w _)⟩⟩
theorem Yd.below (h:Yd w g vs) (hb:Below w.heap.size w w'):Yd w' g vs :=
 ⟨Nat.lt_of_lt_of_le h.1 hb.size,λ j v hv=>⟨(hb.cell (p:=⟨g,j,none⟩) h.1).trans (h.2 j v hv).1,(hb.frozen (p:=⟨g,j,none⟩) h.1).trans (h.2 j v hv).2⟩⟩
theorem Yd.alloc (h:Yd w g vs) (o:Obj):Yd (w.alloc o) g vs:=h.below (bR.alloc Xy o)
theorem Yd.drewN (h:Yd w g vs) (n:Nat):Yd (w.drewN n) g vs:=h
theorem Yd.drew (h:Yd w g vs):Yd w.drew g vs:=h
theorem Yd.set_ (h:Yd w g vs) {p:Addr} (hp:p.block≠g) (u:Value):Yd (w.setCell p u) g vs :=
 ⟨by simpa [World.setCell] using h.1,λ j v hv=>⟨(World.cell?_setCell_other w p ⟨g,j,none⟩ u (λ e=>hp (by rw [e]))).trans (h.2 j v hv).1,(World.frozen?_setCell _ _ _ _).trans (h.2 j v hv).2⟩⟩
end
def Rd {α:Type} (sz:Nat) (enc:α->List Value) (w:World) (v:Value) (xs:List α):Prop:=∃ A cap,v=.slice A xs.length cap/\Sl sz enc w A xs
theorem Rd.below {α:Type} {sz:Nat} {enc:α->List Value} {w w':World} {v:Value} {xs:List α} (h:Rd sz enc w v xs) (hb:Below w.heap.size w w'):Rd sz enc w' v xs:=by
 obtain ⟨A,cap,rfl,h⟩:=h;exact ⟨A,cap,rfl,h.below hb⟩
def ZT (a b c:Int):Bool:=decide (b<=a)&&decide (a<=c)
theorem Y3 {a b c:Int}:ZT a b c=true ↔ b<=a/\a<=c:=by simp [ZT]
structure YU (a:Int):Prop where
 lo : -9223372036854775808<=a
 hi:a<=9223372036854775807
def YF (a:Int):Bool:=decide (a = -9223372036854775808)
def Xn (l:List Int):Nat:=l.foldl (λ g n=>Nat.gcd g n.natAbs) 0
def ZN (a b:Int):Int:=if YF a||YF b then 0 else ((Nat.gcd a.natAbs b.natAbs:Nat):Int)
def Kk (n:Int):List Value:=[.int .i64 n]
theorem ZI (n:Int):(Kk n).length=1:=rfl
theorem gcdAll_snoc (l:List Int) (n:Int):Xn (l++[n])=Nat.gcd (Xn l) n.natAbs:=by simp [Xn,List.foldl_append]
theorem Zx {α:Type} (l:List α) (k:Nat) (h:k<l.length):l.take (k+1)=l.take k++[l[k]]:=by
 rw [List.take_succ_eq_append_getElem h]
theorem gcdAll_le (l:List Int) (h:∀ n∈l,YU n):Xn l<=9223372036854775808:=by
 have key:∀ (l:List Int) (g:Nat),(∀ n∈l,YU n)->g<=9223372036854775808->l.foldl (λ g n=>Nat.gcd g n.natAbs) g<=9223372036854775808:=by
  intro l;induction l with
  | nil=>intro g _ hg;exact hg
  | cons n l ih =>
   intro g hl hg;refine ih _ (λ m hm=>hl m (by simp [hm])) ?_;show Nat.gcd g n.natAbs<=_;have hn:=hl n Sz;by_cases h0:n.natAbs=0
   ·rw [h0,Nat.gcd_zero_right];exact hg
   ·have:=Nat.gcd_le_right g (Nat.pos_of_ne_zero h0);have:=hn.lo;have:=hn.hi;omega
 exact key l 0 h Oz
theorem natAbs_le {a:Int} (h:YU a):a.natAbs<=9223372036854775808:=by have:=h.lo;have:=h.hi;omega
theorem tdiv_nat (n g:Nat):(n:Int).tdiv (g:Int)=((n / g:Nat):Int):=rfl
theorem tdiv_of_nonneg {a:Int} (h:0<=a) (g:Nat):a.tdiv g=((a.natAbs / g:Nat):Int):=by
 obtain ⟨n,rfl⟩:=Int.eq_ofNat_of_zero_le h;rw [tdiv_nat];simp
theorem tdiv_of_neg {a:Int} (h:a<0) (g:Nat):a.tdiv g = -((a.natAbs / g:Nat):Int):=by
 obtain ⟨n,hn⟩:=Int.eq_ofNat_of_zero_le (a:=-a) Oz;obtain rfl:a = -(n:Int):=Oz
 rw [Int.neg_tdiv,tdiv_nat];simp
theorem div_nonneg (n g:Nat):(0:Int)<=(n:Int) / (g:Int):=by rw [<- Int.natCast_ediv];exact Int.natCast_nonneg _
theorem div_le (n g:Nat) (B:Int) (h:(n:Int)<=B):(n:Int) / (g:Int)<=B:=by
 rw [<- Int.natCast_ediv];exact Int.le_trans (Int.ofNat_le.2 (Nat.div_le_self n g)) h
theorem Jp (a b:Int):Xn [a,b]=Nat.gcd a.natAbs b.natAbs:=by simp [Xn]
theorem gcdOf_eq (a b:Int):ZN a b=if YF a||YF b then 0 else ((Xn [a,b]:Nat):Int):=by rw [Jp];rfl
theorem Jn {a:Int} (h:YU a) (hm:YF a=false) : -9223372036854775807<=a/\a<=9223372036854775807:=by
 have:=h.lo;have:=h.hi;simp [YF] at hm;omega
theorem gcd_pair_le {a b:Int} (ha:YU a) (hb:YU b) (h1:YF a=false) (h2:YF b=false):Xn [a,b]<=9223372036854775807:=by
 have h3:=Jn ha h1;have h4:=Jn hb h2;rw [Jp];by_cases h0:a=0
 ·subst h0;simp;omega
 ·have:=Nat.gcd_le_left b.natAbs (m:=a.natAbs) Oz;omega
structure XW where
 n:Int
 d:Int
 deriving DecidableEq
def ratioC (x:XW):List Value:=[.int .i64 x.n,.int .i64 x.d]
abbrev X0 (x:XW):Value:=.agg #[.int .i64 x.n,.int .i64 x.d]
theorem ratioC_len (x:XW):(ratioC x).length=2:=rfl
def XW.In (x:XW):Prop:=YU x.n/\YU x.d
structure XH where
 x:Int
 y:Int
 d:Int
 deriving DecidableEq
def Kz (x:XH):List Value:=[.int .i64 x.x,.int .i64 x.y,.int .i64 x.d]
abbrev Yu (x:XH):Value:=.agg #[.int .i64 x.x,.int .i64 x.y,.int .i64 x.d]
theorem Jf (x:XH):(Kz x).length=3:=rfl
def XH.In (x:XH):Prop:=YU x.x/\YU x.y/\YU x.d
structure Half where
 a:Int
 b:Int
 c:Int
 deriving DecidableEq
def Xe (x:Half):List Value:=[.int .i64 x.a,.int .i64 x.b,.int .i64 x.c]
abbrev YI (x:Half):Value:=.agg #[.int .i64 x.a,.int .i64 x.b,.int .i64 x.c]
theorem Xx (x:Half):(Xe x).length=3:=rfl
def Half.In (x:Half):Prop:=YU x.a/\YU x.b/\YU x.c
def markHalfs (k:Int) (n:Nat):List Half:=(List.range n).map λ(i:Nat)=>⟨k+i*3,k+i*3+1,k+i*3+1+1⟩
structure Piece where
 a:Int
 b:Int
 c:Int
 d:Int
 deriving DecidableEq
def pieceC (x:Piece):List Value:=[.int .i64 x.a,.int .i64 x.b,.int .i64 x.c,.int .i64 x.d]
def Piece.In (x:Piece):Prop:=YU x.a/\YU x.b/\YU x.c/\YU x.d
structure Mode where
 low:Int
 high:Int
 deriving DecidableEq
def Mode.In (x:Mode):Prop:=YU x.low/\YU x.high
structure Record where
 before:Int
 input:Int
 after:Int
 deriving DecidableEq
def Record.In (x:Record):Prop:=YU x.before/\YU x.input/\YU x.after
theorem gcd3 (a b c:Int):Xn [a,b,c]=Nat.gcd (Nat.gcd a.natAbs b.natAbs) c.natAbs:=by simp [Xn]
theorem ZQ {a:Int} (h : -9223372036854775807<=a):YF a=false:=by simp [YF];omega
theorem KP {a b:Int} (ha:YF a=false) (hb:YF b=false):ZN a b=((Nat.gcd a.natAbs b.natAbs:Nat):Int):=by simp [ZN,ha,hb]
theorem gcdOf_min1 {a b:Int} (ha:YF a=true):ZN a b=0:=by simp [ZN,ha]
theorem gcdOf_in {a b:Int} (ha:YU a) (hb:YU b):0<=ZN a b/\ZN a b<=9223372036854775807:=by
 unfold ZN;split
 ·omega
 ·rename_i h
  simp at h;have:=gcd_pair_le ha hb h.1 h.2;rw [Jp] at this;omega
theorem gcdOf_In64 {a b:Int} (ha:YU a) (hb:YU b):YU (ZN a b):=by
 have:=gcdOf_in ha hb;exact ⟨Oz,Oz⟩
theorem natAbs_tdiv (a:Int) (g:Nat):(a.tdiv g).natAbs=a.natAbs / g:=by
 rcases Int.le_total 0 a with h|h
 ·rw [tdiv_of_nonneg h];rfl
 ·rcases Int.lt_or_eq_of_le h with h|h
  ·rw [tdiv_of_neg h,Int.natAbs_neg];rfl
  ·subst h;simp
theorem tdiv_le (a:Int) (g:Nat) (B:Int) (h1 : -B<=a) (h2:a<=B) : -B<=a.tdiv g/\a.tdiv g<=B:=by
 have h:=natAbs_tdiv a g;have:=Nat.div_le_self a.natAbs g;omega
def Xh (r:XW):Bool:=ZT r.d 1 1000000000000000&&ZT r.n (-1000000000000000000) 1000000000000000000&&decide (ZN r.n r.d=1)
def Ke:XW:=⟨0,0⟩
def XT (n d:Int):XW :=
 if d=0∨YF n=true∨YF d=true then Ke
 else if 1000000000000000000<n.natAbs / Xn [n,d]∨1000000000000000<d.natAbs / Xn [n,d] then Ke
 else if decide (n<0)=decide (d<0) then ⟨((n.natAbs / Xn [n,d]:Nat):Int),((d.natAbs / Xn [n,d]:Nat):Int)⟩
 else ⟨-((n.natAbs / Xn [n,d]:Nat):Int),((d.natAbs / Xn [n,d]:Nat):Int)⟩
theorem Km {r:XW}:Xh r=true ↔ (1<=r.d/\r.d<=1000000000000000)/\(-1000000000000000000<=r.n/\r.n<=1000000000000000000)/\Nat.gcd r.n.natAbs r.d.natAbs=1:=by
 simp only [Xh,Bool.and_eq_true,Y3,decide_eq_true_eq,and_assoc];refine ⟨λ⟨a,b,c,d,e⟩=>?_,λ⟨a,b,c,d,e⟩=>?_⟩
 ·rw [KP (ZQ Oz) (ZQ Oz)] at e;exact ⟨a,b,c,d,Oz⟩
 ·refine ⟨a,b,c,d, ?_⟩;rw [KP (ZQ Oz) (ZQ Oz)];omega
theorem ratioOk_zero:Xh Ke=false:=Dz
theorem ratioOf_ok {n d:Int}:Xh (XT n d)=true ↔ XT n d≠Ke:=by
 constructor
 ·intro h e;rw [e,ratioOk_zero] at h;cases h
 ·intro h;unfold XT at h ⊢;split
  ·rename_i h1;rw [if_pos h1] at h;exact absurd rfl h
  ·rename_i h1
   rw [if_neg h1] at h;split
   ·rename_i h2;rw [if_pos h2] at h;exact absurd rfl h
   ·rename_i h2
    have hd:0<d.natAbs:=Oz
    have hg:0<Xn [n,d]:=by rw [Jp];exact Nat.gcd_pos_of_pos_right _ hd
    have hdd:Xn [n,d] ∣ d.natAbs:=by rw [Jp];exact Nat.gcd_dvd_right _ _
    have hpos:0<d.natAbs / Xn [n,d]:=Nat.div_pos (Nat.le_of_dvd hd hdd) hg;have hco:Nat.gcd (n.natAbs / Xn [n,d]) (d.natAbs / Xn [n,d])=1:=by
     rw [Jp];exact Nat.gcd_div_gcd_div_gcd_of_pos_right hd
    generalize n.natAbs / Xn [n,d]=top at *;generalize d.natAbs / Xn [n,d]=bel at *;split
    ·rw [Km];simp only [Int.natAbs_natCast];exact ⟨Oz,Oz,hco⟩
    ·rw [Km];simp only [Int.natAbs_natCast,Int.natAbs_neg];exact ⟨Oz,Oz,hco⟩
def Xo (s:XH):Bool:=ZT s.d 1 5000000000&&ZT s.x (-1000*s.d) (1000*s.d)&&ZT s.y (-1000*s.d) (1000*s.d)&&decide (Xn [s.x,s.y,s.d]=1)
def Ku (x y d:Int):XH:=⟨x.tdiv (Xn [x,y,d]),y.tdiv (Xn [x,y,d]),d.tdiv (Xn [x,y,d])⟩
def Y9 (x y d:Int):Option XH :=
 if d<=0∨YF x=true∨YF y=true then none
 else if Xo (Ku x y d)=true then some (Ku x y d) else none
theorem ZF {s:XH}:Xo s=true ↔ (1<=s.d/\s.d<=5000000000)/\(-1000*s.d<=s.x/\s.x<=1000*s.d)/\(-1000*s.d<=s.y/\s.y<=1000*s.d)/\Xn [s.x,s.y,s.d]=1:=by
 simp only [Xo,Bool.and_eq_true,Y3,decide_eq_true_eq,and_assoc]
def Xs (h:Half):Bool:=ZT h.a (-50000) 50000&&ZT h.b (-50000) 50000&&ZT h.c (-100000000) 100000000 && !(decide (h.a=0)&&decide (h.b=0))&&decide (Xn [h.a,h.b,h.c]=1)
def redHalf (a b c:Int):Half:=⟨a.tdiv (Xn [a,b,c]),b.tdiv (Xn [a,b,c]),c.tdiv (Xn [a,b,c])⟩
def Zd (a b c:Int):Option Half :=
 if Xn [a,b,c]=0∨YF a=true∨YF b=true∨YF c=true then none
 else if Xs (redHalf a b c)=true then some (redHalf a b c) else none
theorem Zk {h:Half}:Xs h=true ↔ (-50000<=h.a/\h.a<=50000)/\(-50000<=h.b/\h.b<=50000)/\(-100000000<=h.c/\h.c<=100000000)/\¬(h.a=0/\h.b=0)/\Xn [h.a,h.b,h.c]=1:=by
 simp only [Xs,Bool.and_eq_true,Y3,decide_eq_true_eq,and_assoc,Bool.not_eq_true',Bool.and_eq_false_imp,decide_eq_false_iff_not,not_and]
theorem XG.out {α:Type} {T sz base n cap:Nat} {enc:α->List Value} {w:World} {A:Option Addr} {xs:List α} (h:XG T sz enc w base (.slice A n cap) xs) (X5:∀ x,(enc x).length=sz):Sl sz enc w A xs:=by
 obtain ⟨A',cap',e,hs⟩:=h.sl X5;injection e with e1 _ _
 subst e1;exact hs
theorem YD {a w w':World} {n:Nat} (h:(∀ b o,b<n->w.cell? ⟨b,o,none⟩=a.cell? ⟨b,o,none⟩)/\n<=w.heap.size) (hb:Below w.heap.size w w') :
 (∀ b o,b<n->w'.cell? ⟨b,o,none⟩=a.cell? ⟨b,o,none⟩)/\n<=w'.heap.size :=
 ⟨λ b o hlt=>(hb.cell (p:=⟨b,o,none⟩) (Nat.lt_of_lt_of_le hlt h.2)).trans (h.1 b o hlt),Nat.le_trans h.2 hb.size⟩
theorem YW {a w:World} {n:Nat} (h:(∀ b o,b<n->w.cell? ⟨b,o,none⟩=a.cell? ⟨b,o,none⟩)/\n<=w.heap.size) (o:Obj) :
 (∀ b o',b<n->(w.alloc o).cell? ⟨b,o',none⟩=a.cell? ⟨b,o',none⟩)/\n<=(w.alloc o).heap.size :=
 YD h (Xb bR o)
theorem Kf {a w:World} {n:Nat} (h:(∀ b o,b<n->w.cell? ⟨b,o,none⟩=a.cell? ⟨b,o,none⟩)/\n<=w.heap.size) {p:Addr} (hp:n<=p.block) (u:Value) :
 (∀ b o',b<n->(w.setCell p u).cell? ⟨b,o',none⟩=a.cell? ⟨b,o',none⟩)/\n<=(w.setCell p u).heap.size :=
 ⟨λ b o hlt=>(World.cell?_setCell_other w p ⟨b,o,none⟩ u (λ e=>by rw [e] at hp;simp only at hp;omega)).trans (h.1 b o hlt),by simpa using h.2⟩
theorem Yd.new_at {g:Nat} {vs:List Value} {w:World} (h:g=w.heap.size) (cs:Array Value) (T:TypeId) (hv:cs.toList=vs):Yd (w.alloc (.cells cs T)) g vs:=by
 subst h hv;exact Yd.new w cs T
theorem XA {W w1:World} (hb:Below W.heap.size W w1):∀ b o,b<W.heap.size->w1.cell? ⟨b,o,none⟩=W.cell? ⟨b,o,none⟩ :=
 λ b o h=>hb.cell (p:=⟨b,o,none⟩) h
theorem blt {W w1:World} (hb:Below W.heap.size W w1) {g:Nat} (h:g<W.heap.size):g<w1.heap.size:=Nat.lt_of_lt_of_le h hb.size
theorem XM {W w1:World} {g:Nat} (hb:Below W.heap.size W w1) (h:g<W.heap.size:=by first|(simp;done)|(simp;omega)|omega):g<w1.heap.size:=blt hb h
theorem Xw {B:Nat} {a w:World} (h:Below B a w:=by (repeat (first|(with_reducible exact Below.refl _ _)|(with_reducible assumption)|(with_reducible refine Xb ?_ _)|(with_reducible refine Below.drew ?_)|(with_reducible refine Zn ?_ _)|(with_reducible refine YY ?_ ?_ _)|(with_reducible refine Xf ?_ Az)|(with_reducible exact Nat.le_refl _)|(focus (simp;done))|(focus (simp;omega))))):Below B a w:=h
theorem ZK {w:World} {g:Nat} {vs:List Value} (h:Yd w g vs:=by repeat (first|((with_reducible refine Yd.new_at ?_ _ _ rfl);(first|rfl|(focus (simp;done))))|(with_reducible refine Yd.set_ ?_ ?_ _)|(with_reducible refine Yd.alloc ?_ _)|(with_reducible refine Yd.below ?_ Az)|(focus (simp;done))|(focus (simp;omega)))):Yd w g vs:=h
theorem KV {α:Type} {T sz:Nat} {enc:α->List Value} (X5:∀ x,(enc x).length=sz) {P:Program} (w:World) {ops:Array Oper} {rest:List Oper} {o:Oper} {a:Act} {Q:Exit->Act->World->Prop} (hgd:o.guard=none) (s x:Operand) (t:TypeId)
 (ho:o.op=.call { callee:=.builtin .append,args:=#[s,x],argTypes:=#[t,t] })
 (base:Nat) (i:TypeInfo) (z:Value) (bytes:Nat) (ht:P.underlying t=some (.slice T)) (hi:P.info? T=some i) (hz:i.zero=some z)
 (hsize:i.size=sz) (hby:i.bytes=bytes) (hzs:z.cells.size=sz) (hpos:0<sz)
 {v:Value} {xs:List α} (hs:a.eval s=v) (hown:XG T sz enc w base v xs)
 (ad:Addr) (c:Nat) (hx:a.eval x=.slice (some ad) 1 c) (y:α) (hy:∀ j u,(enc y)[j]? = some u->w.cell? (ad.add j)=some u) (h1:∀ u∈enc y,u.oneCell'=true)
 {W0:World} (hb:Below base W0 w) (hbase:base<=w.heap.size) (hn:xs.length<=1073741823) (hbytes:bytes<=128)
 (h:∀ v' w',XG T sz enc w' base v' (xs++[y])->Below base W0 w'->wpList P ops Q rest (a.put o.dst v') w'):wpList P ops Q (o :: rest) a w:=by
 obtain ⟨A,cap,rfl,hr⟩:=hown;have hb2:(xs.length+1)*bytes<=1073741824*128:=Nat.mul_le_mul Oz hbytes;refine wpList_append_own w hgd s x t ho base T i z sz bytes ht hi hz hsize hby hzs hpos _ _ _ hs hr ad 1 c (enc y) hx (by rw [X5,Nat.one_mul]) hy h1 (by unfold maxLen;omega) Oz hbase ?_;intro v' w' hown' hg _;have hl:(xs++[y]).length=xs.length+1:=Sz
 have hf:(xs++[y]).flatMap enc=xs.flatMap enc++enc y:=Sz
 have hbl:=hb.grown hg hbase (λ k e=>(hr.lt k e).1);rcases hown'.2 with ⟨_,h0⟩|⟨g,cap',cur,rfl,hg1,r⟩
 ·omega
 ·exact h _ _ ⟨_,cap',by rw [hl],by rw [hl,hf];exact hown'⟩ hbl
structure Kw where
 A:Option Addr
 c:Nat
def Apart (A B:Kw):Prop:=∀ p q,A.A=some p->B.A=some q->p.block≠q.block
def Blk (lo hi:Nat) (A:Kw):Prop:=∀ p,A.A=some p->lo<=p.block/\p.block<hi
theorem Blk.apart {lo hi lo' hi':Nat} {A B:Kw} (h:Blk lo hi A) (h':Blk lo' hi' B) (hle:hi<=lo'):Apart A B:=by
 intro p q hp hq e;have:=h p hp;have:=h' q hq;omega
theorem Apart.symm {A B:Kw} (h:Apart A B):Apart B A:=λ p q hp hq e=>h q p hq hp e.symm
theorem XG.blk {α:Type} {T sz base n c:Nat} {enc:α->List Value} {w:World} {A:Option Addr} {xs:List α} (h:XG T sz enc w base (.slice A n c) xs):Blk base w.heap.size ⟨A,c⟩:=by
 obtain ⟨A',c',e,h1,h2⟩:=h;intro p hp;subst hp;rcases h2 with ⟨h2,_⟩|⟨g,cap',cur,hv,hg,hh,r⟩
 ·cases h2
 ·injection hv with hv _ _
  injection hv with hv
  subst hv;refine ⟨hg, ?_⟩;rcases Nat.lt_or_ge g w.heap.size with hlt|hge
  ·exact hlt
  ·rw [Array.getElem?_eq_none hge] at hh;cases hh
abbrev Zl (x:List Half) (a:Kw):Value:=.agg #[.slice a.A (List.length x) a.c]
structure RegionIn (x:List Half):Prop where
 halves:∀ y∈x,Half.In y
structure RegionSl (w:World) (x:List Half) (a:Kw):Prop where
 halves:Sl 3 Xe w a.A x
theorem RegionSl.below {w w':World} {x:List Half} {a:Kw} (h:RegionSl w x a) (hb:Below w.heap.size w w'):RegionSl w' x a:=⟨h.halves.below hb⟩
structure XD where
 map:List Int
 div:Int
 bx:Int
 by_:Int
 low:Int
 high:Int
 noise:List Half
 limits:List Half
structure Y7 where
 map:Kw
 noise:Kw
 limits:Kw
abbrev X7 (x:XD) (a:Y7):Value:=.agg #[.slice a.map.A (List.length x.map) a.map.c,.int .i64 x.div,.int .i64 x.bx,.int .i64 x.by_,.int .i64 x.low,.int .i64 x.high,.slice a.noise.A (List.length x.noise) a.noise.c,.slice a.limits.A (List.length x.limits) a.limits.c]
def Kt (x:XD):Nat:=List.length x.map+List.length x.noise+List.length x.limits
structure JO (x:XD):Prop where
 map:∀ y∈x.map,YU y
 div:YU x.div
 bx:YU x.bx
 by_:YU x.by_
 low:YU x.low
 high:YU x.high
 noise:RegionIn x.noise
 limits:RegionIn x.limits
structure ZX (w:World) (x:XD) (a:Y7):Prop where
 map:Sl 1 Kk w a.map.A x.map
 noise:RegionSl w x.noise a.noise
 limits:RegionSl w x.limits a.limits
theorem ZX.below {w w':World} {x:XD} {a:Y7} (h:ZX w x a) (hb:Below w.heap.size w w'):ZX w' x a:=⟨h.map.below hb,h.noise.below hb,h.limits.below hb⟩
structure Jv where
 room:XD
 reg:List Half
 log:List Int
structure J3 where
 room:Y7
 reg:Kw
 log:Kw
abbrev watchV (x:Jv) (a:J3):Value:=.agg #[.slice a.room.map.A (List.length x.room.map) a.room.map.c,.int .i64 x.room.div,.int .i64 x.room.bx,.int .i64 x.room.by_,.int .i64 x.room.low,.int .i64 x.room.high,.slice a.room.noise.A (List.length x.room.noise) a.room.noise.c,.slice a.room.limits.A (List.length x.room.limits) a.room.limits.c,.slice a.reg.A (List.length x.reg) a.reg.c,.slice a.log.A (List.length x.log) a.log.c]
def watchLen (x:Jv):Nat:=List.length x.room.map+List.length x.room.noise+List.length x.room.limits+List.length x.reg+List.length x.log
structure WatchIn (x:Jv):Prop where
 room:JO x.room
 reg:RegionIn x.reg
 log:∀ y∈x.log,YU y
structure WatchSl (w:World) (x:Jv) (a:J3):Prop where
 room:ZX w x.room a.room
 reg:RegionSl w x.reg a.reg
 log:Sl 1 Kk w a.log.A x.log
theorem WatchSl.below {w w':World} {x:Jv} {a:J3} (h:WatchSl w x a) (hb:Below w.heap.size w w'):WatchSl w' x a:=⟨h.room.below hb,h.reg.below hb,h.log.below hb⟩
structure Track where
 spots:List XH
 inputs:List XW
structure TrackA where
 spots:Kw
 inputs:Kw
structure TrackSl (w:World) (x:Track) (a:TrackA):Prop where
 spots:Sl 3 Kz w a.spots.A x.spots
 inputs:Sl 2 ratioC w a.inputs.A x.inputs
theorem TrackSl.below {w w':World} {x:Track} {a:TrackA} (h:TrackSl w x a) (hb:Below w.heap.size w w'):TrackSl w' x a:=⟨h.spots.below hb,h.inputs.below hb⟩
structure Law where
 lows:List Piece
 highs:List Piece
structure LawA where
 lows:Kw
 highs:Kw
structure LawSl (w:World) (x:Law) (a:LawA):Prop where
 lows:Sl 4 pieceC w a.lows.A x.lows
 highs:Sl 4 pieceC w a.highs.A x.highs
theorem LawSl.below {w w':World} {x:Law} {a:LawA} (h:LawSl w x a) (hb:Below w.heap.size w w'):LawSl w' x a:=⟨h.lows.below hb,h.highs.below hb⟩
end Go.Proofs.YtbekjpkcicjcgaaGreat
