/-
 Words on memory that the contracts of this claim use: a slice that reads as a list of structs, a slice of the call's own.
 Conditions: none.
-/
import Derived.Test.YtbekjpkcicjcgabGreatRows
import Derived.WalkKit
import Derived.WalkSpells
import Derived.WalkLawsBesides
import Derived.Deep.Draws
import Derived.Lib.Hide
import Derived.Deep.Slices
import Derived.Deep.Fields
import Derived.ChangeSame
import Derived.ArgAppend
namespace Go.Proofs.YtbekjpkcicjcgabGreat
open Go.RowKit
theorem bR {n : Nat} {w : World} : Below n w w := Below.refl n w
theorem Xs {n : Nat} : n ≤ n := Nat.le_refl n
def Sl {α:Type} (sz:Nat) (enc:α->List Value) (w:World) (A:Option Addr) (xs:List α):Prop :=
 0<xs.length->∃ b off,A=some ⟨b,off,none⟩/\b<w.heap.size /\
  ∀ i (h:i<xs.length) j u,(enc xs[i])[j]? = some u->w.cell? ⟨b,off+i*sz+j,none⟩=some u
section
variable {α:Type} {sz:Nat} {enc:α->List Value} {w w':World} {A:Option Addr} {xs:List α}
theorem Sl.keep (h:Sl sz enc w A xs) {B:Nat} (hs:w.heap.size<=w'.heap.size) (hA:∀ b off,A=some ⟨b,off,none⟩->b<B) (hk:∀ p:Addr,p.block<B->w'.cell? p=w.cell? p):Sl sz enc w' A xs:=by
 intro hn;obtain ⟨b,off,rfl,hlt,hc⟩:=h hn;exact ⟨b,off,rfl,Nat.lt_of_lt_of_le hlt hs,λ i hi j u hu=>(hk ⟨b,off+i*sz+j,none⟩ (hA _ _ rfl)).trans (hc i hi j u hu)⟩
theorem Sl.below (h:Sl sz enc w A xs) (hb:Below w.heap.size w w'):Sl sz enc w' A xs:=by
 intro hn;obtain ⟨b,off,rfl,hlt,hc⟩:=h hn;exact ⟨b,off,rfl,Nat.lt_of_lt_of_le hlt hb.size,λ i hi j u hu=>(hb.cell (p:=⟨b,off+i*sz+j,none⟩) hlt).trans (hc i hi j u hu)⟩
theorem Sl.alloc (h:Sl sz enc w A xs) (o:Obj):Sl sz enc (w.alloc o) A xs:=h.below (bR.alloc Xs o)
theorem Sl.drew (h:Sl sz enc w A xs):Sl sz enc w.drew A xs:=h
theorem Sl.drewN (h:Sl sz enc w A xs) (n:Nat):Sl sz enc (w.drewN n) A xs:=h
theorem Sl.at_ (h:Sl sz enc w A xs) {k:Nat} (hk:k<xs.length) :
 ∃ b off,A=some ⟨b,off,none⟩/\b<w.heap.size/\∀ j u,(enc xs[k])[j]? = some u->w.cell? ⟨b,off+k*sz+j,none⟩=some u:=by
 obtain ⟨b,off,hA,hb,hc⟩:=h (by omega);exact ⟨b,off,hA,hb,λ j u hu=>hc k hk j u hu⟩
end
theorem YK {α:Type} {sz:Nat} {enc:α->List Value} (XU:∀ x,(enc x).length=sz):∀ xs:List α,(xs.flatMap enc).length=xs.length*sz
 | []=>by simp
 | x :: r=>by simp only [List.flatMap_cons,List.length_append,XU,YK XU r,List.length_cons,Nat.succ_mul];omega
theorem KN {α:Type} {sz:Nat} {enc:α->List Value} (XU:∀ x,(enc x).length=sz):∀ (xs:List α) (i:Nat) (h:i<xs.length) (j:Nat) (u:Value),(enc xs[i])[j]? = some u->(xs.flatMap enc)[i*sz+j]? = some u
 | x :: r,0,_,j,u,hu=>by
  have hj:j<(enc x).length:=by
   rcases Nat.lt_or_ge j (enc x).length with h|h
   ·exact h
   ·simp only [List.getElem_cons_zero] at hu;rw [List.getElem?_eq_none h] at hu;cases hu
  simp only [List.getElem_cons_zero] at hu;simp only [Nat.zero_mul,Nat.zero_add,List.flatMap_cons];rw [List.getElem?_append_left hj];exact hu
 | x :: r,i+1,h,j,u,hu=>by
  have hu':(enc (r[i]'(by simpa using h)))[j]? = some u:=by simpa using hu
  have:=KN XU r i (by simpa using h) j u hu';simp only [List.flatMap_cons,Nat.succ_mul];rw [List.getElem?_append_right (by rw [XU];omega),XU];rw [<- this];congr 1;omega
def XI {α:Type} (T sz:Nat) (enc:α->List Value) (w:World) (base:Nat) (v:Value) (xs:List α):Prop :=
 ∃ A cap,v=.slice A xs.length cap/\w.ownsRow base T sz v xs.length (xs.flatMap enc)
section
variable {α:Type} {T sz:Nat} {enc:α->List Value} {w w':World} {v:Value} {xs:List α} {base:Nat}
theorem XI.below {B:Nat} (h:XI T sz enc w base v xs) (hb:Below B w w') (hB:w.heap.size<=B):XI T sz enc w' base v xs:=by
 obtain ⟨A,cap,rfl,h1,h2⟩:=h;refine ⟨A,cap,rfl,h1, ?_⟩;rcases h2 with h2|⟨g,cap',cur,hv,hg,hh,r⟩
 ·exact .inl h2
 ·have hlt:g<w.heap.size:=by
   rcases Nat.lt_or_ge g w.heap.size with hlt|hge
   ·exact hlt
   ·rw [Array.getElem?_eq_none hge] at hh;cases hh
  exact .inr ⟨g,cap',cur,hv,hg,(hb.block g (by omega)).trans hh,r⟩
theorem XI.alloc (h:XI T sz enc w base v xs) (o:Obj):XI T sz enc (w.alloc o) base v xs:=h.below (bR.alloc Xs o) Xs
theorem XI.mono (h:XI T sz enc w base v xs) {base':Nat} (hb:base'<=base):XI T sz enc w base' v xs:=by
 obtain ⟨A,cap,rfl,h1,h2⟩:=h;refine ⟨A,cap,rfl,h1, ?_⟩;rcases h2 with h2|⟨g,cap',cur,hv,hg,r⟩
 ·exact .inl h2
 ·exact .inr ⟨g,cap',cur,hv,by omega,r⟩
theorem XI.sl (h:XI T sz enc w base v xs) (XU:∀ x,(enc x).length=sz):∃ A cap,v=.slice A xs.length cap/\Sl sz enc w A xs:=by
 obtain ⟨A,cap,rfl,h1,h2⟩:=h;refine ⟨A,cap,rfl,λ hn=>?_⟩;rcases h2 with ⟨h2,h0⟩|⟨g,cap',cur,hv,hg,hh,hcap,hmax,hsize,htake⟩
 ·omega
 ·injection hv with hA _ _
  subst hA;have hlt:g<w.heap.size:=by
   rcases Nat.lt_or_ge g w.heap.size with hlt|hge
   ·exact hlt
   ·rw [Array.getElem?_eq_none hge] at hh;cases hh
  refine ⟨g,0,rfl,hlt,λ i hi j u hu=>?_⟩;have hc:w.cell? ⟨g,0+i*sz+j,none⟩=cur[0+i*sz+j]?:=cell_of_row w g _ cur T (0,0) hh;rw [hc];have hj:j<sz:=by
   rcases Nat.lt_or_ge j (enc xs[i]).length with h|h
   ·rw [XU] at h;exact h
   ·rw [List.getElem?_eq_none h] at hu;cases hu
  have hf:=KN XU xs i hi j u hu;rw [<- htake] at hf;have hlt2:i*sz+j<xs.length*sz:=by
   have:(i+1)*sz<=xs.length*sz:=Nat.mul_le_mul_right _ hi;rw [Nat.succ_mul] at this;omega
  rw [List.getElem?_take_of_lt hlt2] at hf;rw [Nat.zero_add];simpa using hf
end
theorem bcell {W w1:World} {B:Nat} (hb:Below B W w1):(∀ b o,b<B->w1.cell? ⟨b,o,none⟩=W.cell? ⟨b,o,none⟩)/\(∀ b o,b<B->w1.frozen? ⟨b,o,none⟩=W.frozen? ⟨b,o,none⟩) :=
 ⟨λ b o h=>hb.cell (p:=⟨b,o,none⟩) h,λ b o h=>hb.frozen (p:=⟨b,o,none⟩) h⟩
theorem Zf {B:Nat} {a w:World} (h:Below B a w) (n:Nat):Below B a (w.drewN n):=⟨h.os,h.tape,h.output,h.size,h.block⟩
theorem Xa {a w:World} (h:Below a.heap.size a w) (o:Obj):Below a.heap.size a (w.alloc o):=h.alloc h.size o
theorem Xg {a w w':World} (h:Below a.heap.size a w) (h':Below w.heap.size w w'):Below a.heap.size a w':=h.trans (h'.mono h.size)
theorem YV {a w:World} (h:Below a.heap.size a w) {p:Addr} (hp:a.heap.size<=p.block) (u:Value):Below a.heap.size a (w.setCell p u):=h.setCell hp u
theorem YH {k:IntKind} {a b:Int} (h:a=b):Ending.returned (.int k a)=.returned (.int k b):=by rw [h]
theorem Xi {a b:Bool} (h:a=b):Ending.returned (.bool a)=.returned (.bool b):=by rw [h]
theorem list_of_cells {α:Type} {sz:Nat} {enc:α->List Value} (XU:∀ x,(enc x).length=sz) (xs:List α) (cs:Array Value) (hs:xs.length*sz<=cs.size)
 (h:∀ i (hi:i<xs.length) j u,(enc xs[i])[j]? = some u->cs[i*sz+j]? = some u):cs.toList.take (xs.length*sz)=xs.flatMap enc:=by
 apply List.ext_getElem?;intro m;rcases Nat.lt_or_ge m (xs.length*sz) with hm|hm
 ·have hz:0<sz:=by
   rcases Nat.eq_zero_or_pos sz with h0|h0
   ·subst h0;simp at hm
   ·exact h0
  have hi:m / sz<xs.length:=Nat.div_lt_of_lt_mul (by rw [Nat.mul_comm];exact hm);have hj:m % sz<sz:=Nat.mod_lt _ hz;have hmm:m / sz*sz+m % sz=m:=by rw [Nat.mul_comm];exact Nat.div_add_mod m sz
  have hl:m % sz<(enc xs[m / sz]).length:=by rw [XU];exact hj
  have hu:(enc xs[m / sz])[m % sz]? = some ((enc xs[m / sz])[m % sz]):=List.getElem?_eq_getElem hl;have h1:=h _ hi _ _ hu;have h2:=KN XU xs _ hi _ _ hu;rw [hmm] at h1 h2;rw [h2,List.getElem?_take_of_lt hm];simpa using h1
 ·rw [List.getElem?_eq_none (Nat.le_trans (List.length_take_le _ _) hm),List.getElem?_eq_none (by rw [YK XU];exact hm)]
def Zb {α:Type} (T sz:Nat) (enc:α->List Value) (w:World) (g N:Nat) (xs:List α) (k:Nat):Prop :=
 ∃ cs:Array Value,w.heap[g]? = some (.cells cs T (0,0))/\cs.size=N/\xs.length*sz<=N/\∀ i (hi:i<xs.length),i<k->∀ j u,(enc xs[i])[j]? = some u->cs[i*sz+j]? = some u
section
variable {α:Type} {T sz:Nat} {enc:α->List Value} {w w':World} {g N k:Nat} {xs:List α}
theorem Zb.start {cs:Array Value} (h:cs.size=N) (hN:xs.length*sz<=N):Zb T sz enc (w.alloc (.cells cs T)) w.heap.size N xs 0 :=
 ⟨cs,heap_alloc_new w _,h,hN,λ _ _ h0=>absurd h0 (Nat.not_lt_zero _)⟩
theorem YD {o:Obj} (h:w.heap[g]? = some o):g<w.heap.size:=by
 rcases Nat.lt_or_ge g w.heap.size with hlt|hge
 ·exact hlt
 ·rw [Array.getElem?_eq_none hge] at h;cases h
theorem Zb.lt (h:Zb T sz enc w g N xs k):g<w.heap.size:=by
 obtain ⟨cs,hg,_⟩:=h;exact YD hg
theorem Zb.room (h:Zb T sz enc w g N xs k):xs.length*sz<=N:=by
 obtain ⟨cs,_,_,h,_⟩:=h;exact h
theorem Zb.below (h:Zb T sz enc w g N xs k) (hb:Below w.heap.size w w'):Zb T sz enc w' g N xs k:=by
 have hlt:=h.lt;obtain ⟨cs,hg,r⟩:=h;exact ⟨cs,(hb.block g hlt).trans hg,r⟩
theorem Zb.cell (h:Zb T sz enc w g N xs k) {m:Nat} (hm:m<N):∃ u,w.cell? ⟨g,m,none⟩=some u:=by
 obtain ⟨cs,hg,hs,_⟩:=h;exact ⟨cs[m]'(by omega),by rw [cell_of_row w g m cs T (0,0) hg];exact Array.getElem?_eq_getElem (by omega)⟩
theorem Zb.frozen (h:Zb T sz enc w g N xs k) (m:Nat):w.frozen? ⟨g,m,none⟩=false:=by
 obtain ⟨cs,hg,_⟩:=h;exact frozen_of_row w g m cs T hg
end
theorem cells_setCells {T g:Nat}:∀ (vs:List Value) (o:Nat) (w:World) (cs:Array Value),w.heap[g]? = some (.cells cs T (0,0))->o+vs.length<=cs.size ->
 ∃ cs',(w.setCells g o vs).heap[g]? = some (.cells cs' T (0,0))/\cs'.size=cs.size/\(∀ j u,vs[j]? = some u->cs'[o+j]? = some u)/\(∀ m,m<o∨o+vs.length<=m->cs'[m]? = cs[m]?)
 | [],o,w,cs,hg,_=>⟨cs,hg,rfl,λ j u h=>by simp at h,λ m _=>rfl⟩
 | v :: r,o,w,cs,hg,hle=>by
  simp only [List.length_cons] at hle;obtain ⟨cs',h1,h2,h3,h4⟩:=cells_setCells r (o+1) (w.setCell ⟨g,o,none⟩ v) (cs.setIfInBounds o v) (heap_setCell_same w g o cs T v hg) (by simp;omega);refine ⟨cs',h1,by simpa using h2,λ j u hu=>?_,λ m hm=>?_⟩
  ·cases j with
   | zero =>
    have:=h4 o (by omega);simp only [List.getElem?_cons_zero,Option.some.injEq] at hu;subst hu;rw [Nat.add_zero,this,Array.getElem?_setIfInBounds_self_of_lt (by omega)]
   | succ j =>
    have:=h3 j u (by simpa using hu);rw [show o+(j+1)=o+1+j from by omega];exact this
  ·simp only [List.length_cons] at hm;rw [h4 m (by omega),Array.getElem?_setIfInBounds_ne (by omega)]
theorem Zb.stored {α:Type} {T sz:Nat} {enc:α->List Value} (XU:∀ x,(enc x).length=sz) {w:World} {g N k:Nat} {xs:List α} (h:Zb T sz enc w g N xs k) (hk:k<xs.length) {vs:List Value} (hv:enc xs[k]=vs) :
 Zb T sz enc (w.setCells g (k*sz) vs) g N xs (k+1):=by
 obtain ⟨cs,hg,hs,hN,hc⟩:=h;have hl:vs.length=sz:=by rw [<- hv,XU]
 have hm:(k+1)*sz<=xs.length*sz:=Nat.mul_le_mul_right _ hk;rw [Nat.succ_mul] at hm;obtain ⟨cs',h1,h2,h3,h4⟩:=cells_setCells vs (k*sz) w cs hg (by omega);refine ⟨cs',h1,h2.trans hs,hN,λ i hi hik j u hu=>?_⟩;have hj:j<sz:=by
  rcases Nat.lt_or_ge j (enc xs[i]).length with h|h
  ·rw [XU] at h;exact h
  ·rw [List.getElem?_eq_none h] at hu;cases hu
 rcases Nat.lt_or_eq_of_le (Nat.le_of_lt_succ hik) with hlt|rfl
 ·have:(i+1)*sz<=k*sz:=Nat.mul_le_mul_right _ hlt;rw [Nat.succ_mul] at this;rw [h4 _ (by omega)];exact hc i hi hlt j u hu
 ·exact h3 j u (by rw [<- hv];exact hu)
theorem Kd {B:Nat} {a:World} {g:Nat} (hg:B<=g):∀ (vs:List Value) (o:Nat) (w:World),Below B a w->Below B a (w.setCells g o vs)
 | [],_,_,h=>h
 | v :: r,o,_,h=>Kd hg r (o+1) _ (h.setCell hg v)
theorem Zb.newCap {α:Type} {T sz:Nat} {enc:α->List Value} (XU:∀ x,(enc x).length=sz) {w:World} {g base cap:Nat} {xs:List α} (h:Zb T sz enc w g (cap*sz) xs xs.length) (hb:base<=g) (hle:xs.length<=cap) (hm:cap<=maxLen) :
 XI T sz enc w base (.slice (some ⟨g,0,none⟩) xs.length cap) xs:=by
 obtain ⟨cs,hg,hs,hN,hc⟩:=h;exact ⟨_,_,rfl,YK XU xs,.inr ⟨g,cap,cs,rfl,hb,hg,hle,hm,hs,list_of_cells XU xs cs (by omega) (λ i hi j u hu=>hc i hi hi j u hu)⟩⟩
theorem Zb.new {α:Type} {T sz:Nat} {enc:α->List Value} (XU:∀ x,(enc x).length=sz) {w:World} {g base:Nat} {xs:List α} (h:Zb T sz enc w g (xs.length*sz) xs xs.length) (hb:base<=g) (hm:xs.length<=maxLen) :
 XI T sz enc w base (.slice (some ⟨g,0,none⟩) xs.length xs.length) xs:=h.newCap XU hb Xs hm
theorem Sl.map {α β:Type} {sz:Nat} {enc:α->List Value} {enc':β->List Value} {w:World} {A:Option Addr} {xs:List α} (f:α->β) (h:Sl sz enc w A xs) (hf:∀ x∈xs,enc' (f x)=enc x):Sl sz enc' w A (xs.map f):=by
 intro h0;simp at h0;obtain ⟨b,off,hA,hb,hc⟩:=h (by omega);refine ⟨b,off,hA,hb,λ i hi j u hu=>?_⟩;simp only [List.length_map] at hi;simp only [List.getElem_map] at hu;rw [hf _ (List.getElem_mem hi)] at hu;exact hc i hi j u hu
theorem sl_new {α:Type} {T sz:Nat} {enc:α->List Value} (XU:∀ x,(enc x).length=sz) (w:World) (xs:List α) (cs:Array Value) (h:cs.toList=xs.flatMap enc) :
 Sl sz enc (w.alloc (.cells cs T)) (some ⟨w.heap.size,0,none⟩) xs:=by
 intro _;refine ⟨_,_,rfl,by simp,λ i hi j u hu=>?_⟩;rw [World.cell?_alloc_new];have:=KN XU xs i hi j u hu;rw [<- h] at this;simpa using this
theorem Jy {α:Type} {T sz g:Nat} {enc:α->List Value} (XU:∀ x,(enc x).length=sz) (w:World) (xs:List α) (cs:Array Value) (h:cs.toList=xs.flatMap enc) (hg:g=w.heap.size) :
 Sl sz enc (w.alloc (.cells cs T)) (some ⟨g,0,none⟩) xs:=by
 subst hg;exact sl_new XU w xs cs h
def X0 (w:World) (g:Nat) (vs:List Value):Prop:=g<w.heap.size/\∀ j v,vs[j]? = some v->w.cell? ⟨g,j,none⟩=some v/\w.frozen? ⟨g,j,none⟩=false
section
variable {w w':World} {g:Nat} {vs:List Value}
theorem X0.new (w:World) (cs:Array Value) (T:TypeId):X0 (w.alloc (.cells cs T)) w.heap.size cs.toList :=
 ⟨by simp,λ j v h=>⟨by rw [World.cell?_alloc_new];simpa using h,frozen_of_row _ _ _ cs T (heap_alloc_new w _)⟩⟩
theorem X0.below (h:X0 w g vs) (hb:Below w.heap.size w w'):X0 w' g vs :=
 ⟨Nat.lt_of_lt_of_le h.1 hb.size,λ j v hv=>⟨(hb.cell (p:=⟨g,j,none⟩) h.1).trans (h.2 j v hv).1,(hb.frozen (p:=⟨g,j,none⟩) h.1).trans (h.2 j v hv).2⟩⟩
theorem X0.alloc (h:X0 w g vs) (o:Obj):X0 (w.alloc o) g vs:=h.below (bR.alloc Xs o)
theorem X0.drewN (h:X0 w g vs) (n:Nat):X0 (w.drewN n) g vs:=h
theorem X0.drew (h:X0 w g vs):X0 w.drew g vs:=h
theorem X0.set_ (h:X0 w g vs) {p:Addr} (hp:p.block≠g) (u:Value):X0 (w.setCell p u) g vs :=
 ⟨by simpa [World.setCell] using h.1,λ j v hv=>⟨(World.cell?_setCell_other w p ⟨g,j,none⟩ u (λ e=>hp (by rw [e]))).trans (h.2 j v hv).1,(World.frozen?_setCell _ _ _ _).trans (h.2 j v hv).2⟩⟩
end
def Rd {α:Type} (sz:Nat) (enc:α->List Value) (w:World) (v:Value) (xs:List α):Prop:=∃ A cap,v=.slice A xs.length cap/\Sl sz enc w A xs
theorem Rd.below {α:Type} {sz:Nat} {enc:α->List Value} {w w':World} {v:Value} {xs:List α} (h:Rd sz enc w v xs) (hb:Below w.heap.size w w'):Rd sz enc w' v xs:=by
 obtain ⟨A,cap,rfl,h⟩:=h;exact ⟨A,cap,rfl,h.below hb⟩
def Zo (a b c:Int):Bool:=decide (b<=a)&&decide (a<=c)
theorem YQ {a b c:Int}:Zo a b c=true ↔ b<=a/\a<=c:=by simp [Zo]
structure Yo (a:Int):Prop where
 lo : -9223372036854775808<=a
 hi:a<=9223372036854775807
def Yn (a:Int):Bool:=decide (a = -9223372036854775808)
def Xh (l:List Int):Nat:=l.foldl (λ g n=>Nat.gcd g n.natAbs) 0
def YO (a b:Int):Int:=if Yn a||Yn b then 0 else ((Nat.gcd a.natAbs b.natAbs:Nat):Int)
def KX (n:Int):List Value:=[.int .i64 n]
theorem Zc (n:Int):(KX n).length=1:=rfl
theorem gcdAll_snoc (l:List Int) (n:Int):Xh (l++[n])=Nat.gcd (Xh l) n.natAbs:=by simp [Xh,List.foldl_append]
theorem Y8 {α:Type} (l:List α) (k:Nat) (h:k<l.length):l.take (k+1)=l.take k++[l[k]]:=by
 rw [List.take_succ_eq_append_getElem h]
theorem Jd (l:List Int) (h:∀ n∈l,Yo n):Xh l<=9223372036854775808:=by
 have key:∀ (l:List Int) (g:Nat),(∀ n∈l,Yo n)->g<=9223372036854775808->l.foldl (λ g n=>Nat.gcd g n.natAbs) g<=9223372036854775808:=by
  intro l;induction l with
  | nil=>intro g _ hg;exact hg
  | cons n l ih =>
   intro g hl hg;refine ih _ (λ m hm=>hl m (by simp [hm])) ?_;show Nat.gcd g n.natAbs<=_;have hn:=hl n (by simp);by_cases h0:n.natAbs=0
   ·rw [h0,Nat.gcd_zero_right];exact hg
   ·have:=Nat.gcd_le_right g (Nat.pos_of_ne_zero h0);have:=hn.lo;have:=hn.hi;omega
 exact key l 0 h (by omega)
theorem JD {a:Int} (h:Yo a):a.natAbs<=9223372036854775808:=by have:=h.lo;have:=h.hi;omega
theorem tdiv_nat (n g:Nat):(n:Int).tdiv (g:Int)=((n / g:Nat):Int):=rfl
theorem tdiv_of_nonneg {a:Int} (h:0<=a) (g:Nat):a.tdiv g=((a.natAbs / g:Nat):Int):=by
 obtain ⟨n,rfl⟩:=Int.eq_ofNat_of_zero_le h;rw [tdiv_nat];simp
theorem tdiv_of_neg {a:Int} (h:a<0) (g:Nat):a.tdiv g = -((a.natAbs / g:Nat):Int):=by
 obtain ⟨n,hn⟩:=Int.eq_ofNat_of_zero_le (a:=-a) (by omega);obtain rfl:a = -(n:Int):=by omega
 rw [Int.neg_tdiv,tdiv_nat];simp
theorem div_nonneg (n g:Nat):(0:Int)<=(n:Int) / (g:Int):=by rw [<- Int.natCast_ediv];exact Int.natCast_nonneg _
theorem div_le (n g:Nat) (B:Int) (h:(n:Int)<=B):(n:Int) / (g:Int)<=B:=by
 rw [<- Int.natCast_ediv];exact Int.le_trans (Int.ofNat_le.2 (Nat.div_le_self n g)) h
theorem Jm (a b:Int):Xh [a,b]=Nat.gcd a.natAbs b.natAbs:=by simp [Xh]
theorem gcdOf_eq (a b:Int):YO a b=if Yn a||Yn b then 0 else ((Xh [a,b]:Nat):Int):=by rw [Jm];rfl
theorem KK {a:Int} (h:Yo a) (hm:Yn a=false) : -9223372036854775807<=a/\a<=9223372036854775807:=by
 have:=h.lo;have:=h.hi;simp [Yn] at hm;omega
theorem gcd_pair_le {a b:Int} (ha:Yo a) (hb:Yo b) (h1:Yn a=false) (h2:Yn b=false):Xh [a,b]<=9223372036854775807:=by
 have h3:=KK ha h1;have h4:=KK hb h2;rw [Jm];by_cases h0:a=0
 ·subst h0;simp;omega
 ·have:=Nat.gcd_le_left b.natAbs (m:=a.natAbs) (by omega);omega
structure Yu where
 n:Int
 d:Int
 deriving DecidableEq
def ratioC (x:Yu):List Value:=[.int .i64 x.n,.int .i64 x.d]
theorem ratioC_len (x:Yu):(ratioC x).length=2:=rfl
def Yu.In (x:Yu):Prop:=Yo x.n/\Yo x.d
structure XW where
 x:Int
 y:Int
 d:Int
 deriving DecidableEq
def spotC (x:XW):List Value:=[.int .i64 x.x,.int .i64 x.y,.int .i64 x.d]
abbrev spotV (x:XW):Value:=.agg #[.int .i64 x.x,.int .i64 x.y,.int .i64 x.d]
theorem spotC_len (x:XW):(spotC x).length=3:=rfl
def XW.In (x:XW):Prop:=Yo x.x/\Yo x.y/\Yo x.d
structure Half where
 a:Int
 b:Int
 c:Int
 deriving DecidableEq
def Xe (x:Half):List Value:=[.int .i64 x.a,.int .i64 x.b,.int .i64 x.c]
abbrev Yf (x:Half):Value:=.agg #[.int .i64 x.a,.int .i64 x.b,.int .i64 x.c]
theorem Xu (x:Half):(Xe x).length=3:=rfl
def Half.In (x:Half):Prop:=Yo x.a/\Yo x.b/\Yo x.c
def YZ (k:Int) (n:Nat):List Half:=(List.range n).map λ(i:Nat)=>⟨k+i*3,k+i*3+1,k+i*3+1+1⟩
structure Xm where
 a:Int
 b:Int
 c:Int
 d:Int
 deriving DecidableEq
def Yy (x:Xm):List Value:=[.int .i64 x.a,.int .i64 x.b,.int .i64 x.c,.int .i64 x.d]
abbrev XZ (x:Xm):Value:=.agg #[.int .i64 x.a,.int .i64 x.b,.int .i64 x.c,.int .i64 x.d]
theorem Zv (x:Xm):(Yy x).length=4:=rfl
def Xm.In (x:Xm):Prop:=Yo x.a/\Yo x.b/\Yo x.c/\Yo x.d
def Kq (k:Int) (n:Nat):List Xm:=(List.range n).map λ(i:Nat)=>⟨k+i*4,k+i*4+1,k+i*4+1+1,k+i*4+1+1+1⟩
structure Mode where
 low:Int
 high:Int
 deriving DecidableEq
def Mode.In (x:Mode):Prop:=Yo x.low/\Yo x.high
structure Record where
 before:Int
 input:Int
 after:Int
 deriving DecidableEq
def Record.In (x:Record):Prop:=Yo x.before/\Yo x.input/\Yo x.after
theorem gcd3 (a b c:Int):Xh [a,b,c]=Nat.gcd (Nat.gcd a.natAbs b.natAbs) c.natAbs:=by simp [Xh]
theorem gcd4 (a b c d:Int):Xh [a,b,c,d]=Nat.gcd (Nat.gcd (Nat.gcd a.natAbs b.natAbs) c.natAbs) d.natAbs:=by simp [Xh]
theorem YF {a:Int} (h : -9223372036854775807<=a):Yn a=false:=by simp [Yn];omega
theorem ZU {a b:Int} (ha:Yn a=false) (hb:Yn b=false):YO a b=((Nat.gcd a.natAbs b.natAbs:Nat):Int):=by simp [YO,ha,hb]
theorem gcdOf_min1 {a b:Int} (ha:Yn a=true):YO a b=0:=by simp [YO,ha]
theorem Jn {a b:Int} (ha:Yo a) (hb:Yo b):0<=YO a b/\YO a b<=9223372036854775807:=by
 unfold YO;split
 ·omega
 ·rename_i h
  simp at h;have:=gcd_pair_le ha hb h.1 h.2;rw [Jm] at this;omega
theorem JG {a b:Int} (ha:Yo a) (hb:Yo b):Yo (YO a b):=by
 have:=Jn ha hb;exact ⟨by omega,by omega⟩
theorem natAbs_tdiv (a:Int) (g:Nat):(a.tdiv g).natAbs=a.natAbs / g:=by
 rcases Int.le_total 0 a with h|h
 ·rw [tdiv_of_nonneg h];rfl
 ·rcases Int.lt_or_eq_of_le h with h|h
  ·rw [tdiv_of_neg h,Int.natAbs_neg];rfl
  ·subst h;simp
theorem tdiv_le (a:Int) (g:Nat) (B:Int) (h1 : -B<=a) (h2:a<=B) : -B<=a.tdiv g/\a.tdiv g<=B:=by
 have h:=natAbs_tdiv a g;have:=Nat.div_le_self a.natAbs g;omega
def XE (r:Yu):Bool:=Zo r.d 1 1000000000000000&&Zo r.n (-1000000000000000000) 1000000000000000000&&decide (YO r.n r.d=1)
def ZV:Yu:=⟨0,0⟩
def X6 (n d:Int):Yu :=
 if d=0∨Yn n=true∨Yn d=true then ZV
 else if 1000000000000000000<n.natAbs / Xh [n,d]∨1000000000000000<d.natAbs / Xh [n,d] then ZV
 else if decide (n<0)=decide (d<0) then ⟨((n.natAbs / Xh [n,d]:Nat):Int),((d.natAbs / Xh [n,d]:Nat):Int)⟩
 else ⟨-((n.natAbs / Xh [n,d]:Nat):Int),((d.natAbs / Xh [n,d]:Nat):Int)⟩
theorem KJ {r:Yu}:XE r=true ↔ (1<=r.d/\r.d<=1000000000000000)/\(-1000000000000000000<=r.n/\r.n<=1000000000000000000)/\Nat.gcd r.n.natAbs r.d.natAbs=1:=by
 simp only [XE,Bool.and_eq_true,YQ,decide_eq_true_eq,and_assoc];refine ⟨λ⟨a,b,c,d,e⟩=>?_,λ⟨a,b,c,d,e⟩=>?_⟩
 ·rw [ZU (YF (by omega)) (YF (by omega))] at e;exact ⟨a,b,c,d,by omega⟩
 ·refine ⟨a,b,c,d, ?_⟩;rw [ZU (YF (by omega)) (YF (by omega))];omega
theorem ratioOk_zero:XE ZV=false:=by decide
theorem ratioOf_ok {n d:Int}:XE (X6 n d)=true ↔ X6 n d≠ZV:=by
 constructor
 ·intro h e;rw [e,ratioOk_zero] at h;cases h
 ·intro h;unfold X6 at h ⊢;split
  ·rename_i h1;rw [if_pos h1] at h;exact absurd rfl h
  ·rename_i h1
   rw [if_neg h1] at h;split
   ·rename_i h2;rw [if_pos h2] at h;exact absurd rfl h
   ·rename_i h2
    have hd:0<d.natAbs:=by omega
    have hg:0<Xh [n,d]:=by rw [Jm];exact Nat.gcd_pos_of_pos_right _ hd
    have hdd:Xh [n,d] ∣ d.natAbs:=by rw [Jm];exact Nat.gcd_dvd_right _ _
    have hpos:0<d.natAbs / Xh [n,d]:=Nat.div_pos (Nat.le_of_dvd hd hdd) hg;have hco:Nat.gcd (n.natAbs / Xh [n,d]) (d.natAbs / Xh [n,d])=1:=by
     rw [Jm];exact Nat.gcd_div_gcd_div_gcd_of_pos_right hd
    generalize n.natAbs / Xh [n,d]=top at *;generalize d.natAbs / Xh [n,d]=bel at *;split
    ·rw [KJ];simp only [Int.natAbs_natCast];exact ⟨by omega,by omega,hco⟩
    ·rw [KJ];simp only [Int.natAbs_natCast,Int.natAbs_neg];exact ⟨by omega,by omega,hco⟩
def XP (s:XW):Bool:=Zo s.d 1 5000000000&&Zo s.x (-1000*s.d) (1000*s.d)&&Zo s.y (-1000*s.d) (1000*s.d)&&decide (Xh [s.x,s.y,s.d]=1)
def Z9 (x y d:Int):XW:=⟨x.tdiv (Xh [x,y,d]),y.tdiv (Xh [x,y,d]),d.tdiv (Xh [x,y,d])⟩
def Y9 (x y d:Int):Option XW :=
 if d<=0∨Yn x=true∨Yn y=true then none
 else if XP (Z9 x y d)=true then some (Z9 x y d) else none
theorem ZO {s:XW}:XP s=true ↔ (1<=s.d/\s.d<=5000000000)/\(-1000*s.d<=s.x/\s.x<=1000*s.d)/\(-1000*s.d<=s.y/\s.y<=1000*s.d)/\Xh [s.x,s.y,s.d]=1:=by
 simp only [XP,Bool.and_eq_true,YQ,decide_eq_true_eq,and_assoc]
def Xq (h:Half):Bool:=Zo h.a (-50000) 50000&&Zo h.b (-50000) 50000&&Zo h.c (-100000000) 100000000 && !(decide (h.a=0)&&decide (h.b=0))&&decide (Xh [h.a,h.b,h.c]=1)
def redHalf (a b c:Int):Half:=⟨a.tdiv (Xh [a,b,c]),b.tdiv (Xh [a,b,c]),c.tdiv (Xh [a,b,c])⟩
def XO (a b c:Int):Option Half :=
 if Xh [a,b,c]=0∨Yn a=true∨Yn b=true∨Yn c=true then none
 else if Xq (redHalf a b c)=true then some (redHalf a b c) else none
theorem Zm {h:Half}:Xq h=true ↔ (-50000<=h.a/\h.a<=50000)/\(-50000<=h.b/\h.b<=50000)/\(-100000000<=h.c/\h.c<=100000000)/\¬(h.a=0/\h.b=0)/\Xh [h.a,h.b,h.c]=1:=by
 simp only [Xq,Bool.and_eq_true,YQ,decide_eq_true_eq,and_assoc,Bool.not_eq_true',Bool.and_eq_false_imp,decide_eq_false_iff_not,not_and]
def XM (q:Xm):Bool:=Zo q.d 1 1000000000000&&Zo q.a (-1000000000000) 1000000000000&&Zo q.b (-1000000000000) 1000000000000&&Zo q.c (-1000000000000) 1000000000000&&decide (Xh [q.a,q.b,q.c,q.d]=1)
theorem Ka {q:Xm}:XM q=true ↔ (1<=q.d/\q.d<=1000000000000)/\(-1000000000000<=q.a/\q.a<=1000000000000)/\(-1000000000000<=q.b/\q.b<=1000000000000)/\(-1000000000000<=q.c/\q.c<=1000000000000)/\Xh [q.a,q.b,q.c,q.d]=1:=by
 simp only [XM,Bool.and_eq_true,YQ,decide_eq_true_eq,and_assoc]
theorem XI.out {α:Type} {T sz base n cap:Nat} {enc:α->List Value} {w:World} {A:Option Addr} {xs:List α} (h:XI T sz enc w base (.slice A n cap) xs) (XU:∀ x,(enc x).length=sz):Sl sz enc w A xs:=by
 obtain ⟨A',cap',e,hs⟩:=h.sl XU;injection e with e1 _ _
 subst e1;exact hs
theorem Ym {a w w':World} {n:Nat} (h:(∀ b o,b<n->w.cell? ⟨b,o,none⟩=a.cell? ⟨b,o,none⟩)/\n<=w.heap.size) (hb:Below w.heap.size w w') :
 (∀ b o,b<n->w'.cell? ⟨b,o,none⟩=a.cell? ⟨b,o,none⟩)/\n<=w'.heap.size :=
 ⟨λ b o hlt=>(hb.cell (p:=⟨b,o,none⟩) (Nat.lt_of_lt_of_le hlt h.2)).trans (h.1 b o hlt),Nat.le_trans h.2 hb.size⟩
theorem YC {a w:World} {n:Nat} (h:(∀ b o,b<n->w.cell? ⟨b,o,none⟩=a.cell? ⟨b,o,none⟩)/\n<=w.heap.size) (o:Obj) :
 (∀ b o',b<n->(w.alloc o).cell? ⟨b,o',none⟩=a.cell? ⟨b,o',none⟩)/\n<=(w.alloc o).heap.size :=
 Ym h (Xa bR o)
theorem ZP {a w:World} {n:Nat} (h:(∀ b o,b<n->w.cell? ⟨b,o,none⟩=a.cell? ⟨b,o,none⟩)/\n<=w.heap.size) {p:Addr} (hp:n<=p.block) (u:Value) :
 (∀ b o',b<n->(w.setCell p u).cell? ⟨b,o',none⟩=a.cell? ⟨b,o',none⟩)/\n<=(w.setCell p u).heap.size :=
 ⟨λ b o hlt=>(World.cell?_setCell_other w p ⟨b,o,none⟩ u (λ e=>by rw [e] at hp;simp only at hp;omega)).trans (h.1 b o hlt),by simpa using h.2⟩
theorem X0.new_at {g:Nat} {vs:List Value} {w:World} (h:g=w.heap.size) (cs:Array Value) (T:TypeId) (hv:cs.toList=vs):X0 (w.alloc (.cells cs T)) g vs:=by
 subst h hv;exact X0.new w cs T
theorem Xt {W w1:World} (hb:Below W.heap.size W w1):∀ b o,b<W.heap.size->w1.cell? ⟨b,o,none⟩=W.cell? ⟨b,o,none⟩ :=
 λ b o h=>hb.cell (p:=⟨b,o,none⟩) h
theorem blt {W w1:World} (hb:Below W.heap.size W w1) {g:Nat} (h:g<W.heap.size):g<w1.heap.size:=Nat.lt_of_lt_of_le h hb.size
theorem XN {W w1:World} {g:Nat} (hb:Below W.heap.size W w1) (h:g<W.heap.size:=by first|(simp;done)|(simp;omega)|omega):g<w1.heap.size:=blt hb h
theorem Xn {B:Nat} {a w:World} (h:Below B a w:=by (repeat (first|(with_reducible exact Below.refl _ _)|(with_reducible assumption)|(with_reducible refine Xa ?_ _)|(with_reducible refine Below.drew ?_)|(with_reducible refine Zf ?_ _)|(with_reducible refine YV ?_ ?_ _)|(with_reducible refine Xg ?_ (by assumption))|(with_reducible exact Nat.le_refl _)|(focus (simp;done))|(focus (simp;omega))))):Below B a w:=h
theorem ZQ {w:World} {g:Nat} {vs:List Value} (h:X0 w g vs:=by repeat (first|((with_reducible refine X0.new_at ?_ _ _ rfl);(first|rfl|(focus (simp;done))))|(with_reducible refine X0.set_ ?_ ?_ _)|(with_reducible refine X0.alloc ?_ _)|(with_reducible refine X0.below ?_ (by assumption))|(focus (simp;done))|(focus (simp;omega)))):X0 w g vs:=h
theorem KG {α:Type} {T sz:Nat} {enc:α->List Value} (XU:∀ x,(enc x).length=sz) {P:Program} (w:World) {ops:Array Oper} {rest:List Oper} {o:Oper} {a:Act} {Q:Exit->Act->World->Prop} (hgd:o.guard=none) (s x:Operand) (t:TypeId)
 (ho:o.op=.call { callee:=.builtin .append,args:=#[s,x],argTypes:=#[t,t] })
 (base:Nat) (i:TypeInfo) (z:Value) (bytes:Nat) (ht:P.underlying t=some (.slice T)) (hi:P.info? T=some i) (hz:i.zero=some z)
 (hsize:i.size=sz) (hby:i.bytes=bytes) (hzs:z.cells.size=sz) (hpos:0<sz)
 {v:Value} {xs:List α} (hs:a.eval s=v) (hown:XI T sz enc w base v xs)
 (ad:Addr) (c:Nat) (hx:a.eval x=.slice (some ad) 1 c) (y:α) (hy:∀ j u,(enc y)[j]? = some u->w.cell? (ad.add j)=some u) (h1:∀ u∈enc y,u.oneCell'=true)
 {W0:World} (hb:Below base W0 w) (hbase:base<=w.heap.size) (hn:xs.length<=1073741823) (hbytes:bytes<=128)
 (h:∀ v' w',XI T sz enc w' base v' (xs++[y])->Below base W0 w'->wpList P ops Q rest (a.put o.dst v') w'):wpList P ops Q (o :: rest) a w:=by
 obtain ⟨A,cap,rfl,hr⟩:=hown;have hb2:(xs.length+1)*bytes<=1073741824*128:=Nat.mul_le_mul (by omega) hbytes;refine wpList_append_own w hgd s x t ho base T i z sz bytes ht hi hz hsize hby hzs hpos _ _ _ hs hr ad 1 c (enc y) hx (by rw [XU,Nat.one_mul]) hy h1 (by unfold maxLen;omega) (by omega) hbase ?_;intro v' w' hown' hg _;have hl:(xs++[y]).length=xs.length+1:=by simp
 have hf:(xs++[y]).flatMap enc=xs.flatMap enc++enc y:=by simp
 have hbl:=hb.grown hg hbase (λ k e=>(hr.lt k e).1);rcases hown'.2 with ⟨_,h0⟩|⟨g,cap',cur,rfl,hg1,r⟩
 ·omega
 ·exact h _ _ ⟨_,cap',by rw [hl],by rw [hl,hf];exact hown'⟩ hbl
structure ZC where
 A:Option Addr
 c:Nat
def Jf (A B:ZC):Prop:=∀ p q,A.A=some p->B.A=some q->p.block≠q.block
def Blk (lo hi:Nat) (A:ZC):Prop:=∀ p,A.A=some p->lo<=p.block/\p.block<hi
theorem Blk.apart {lo hi lo' hi':Nat} {A B:ZC} (h:Blk lo hi A) (h':Blk lo' hi' B) (hle:hi<=lo'):Jf A B:=by
 intro p q hp hq e;have:=h p hp;have:=h' q hq;omega
theorem Jf.symm {A B:ZC} (h:Jf A B):Jf B A:=λ p q hp hq e=>h q p hq hp e.symm
theorem XI.blk {α:Type} {T sz base n c:Nat} {enc:α->List Value} {w:World} {A:Option Addr} {xs:List α} (h:XI T sz enc w base (.slice A n c) xs):Blk base w.heap.size ⟨A,c⟩:=by
 obtain ⟨A',c',e,h1,h2⟩:=h;intro p hp;subst hp;rcases h2 with ⟨h2,_⟩|⟨g,cap',cur,hv,hg,hh,r⟩
 ·cases h2
 ·injection hv with hv _ _
  injection hv with hv
  subst hv;refine ⟨hg, ?_⟩;rcases Nat.lt_or_ge g w.heap.size with hlt|hge
  ·exact hlt
  ·rw [Array.getElem?_eq_none hge] at hh;cases hh
abbrev Yr (x:List Half) (a:ZC):Value:=.agg #[.slice a.A (List.length x) a.c]
structure RegionIn (x:List Half):Prop where
 halves:∀ y∈x,Half.In y
structure Zn (w:World) (x:List Half) (a:ZC):Prop where
 halves:Sl 3 Xe w a.A x
theorem Zn.below {w w':World} {x:List Half} {a:ZC} (h:Zn w x a) (hb:Below w.heap.size w w'):Zn w' x a:=⟨h.halves.below hb⟩
structure XK where
 map:List Int
 div:Int
 bx:Int
 by_:Int
 low:Int
 high:Int
 noise:List Half
 limits:List Half
structure Yq where
 map:ZC
 noise:ZC
 limits:ZC
abbrev Ye (x:XK) (a:Yq):Value:=.agg #[.slice a.map.A (List.length x.map) a.map.c,.int .i64 x.div,.int .i64 x.bx,.int .i64 x.by_,.int .i64 x.low,.int .i64 x.high,.slice a.noise.A (List.length x.noise) a.noise.c,.slice a.limits.A (List.length x.limits) a.limits.c]
def XA (x:XK):Nat:=List.length x.map+List.length x.noise+List.length x.limits
structure ZR (x:XK):Prop where
 map:∀ y∈x.map,Yo y
 div:Yo x.div
 bx:Yo x.bx
 by_:Yo x.by_
 low:Yo x.low
 high:Yo x.high
 noise:RegionIn x.noise
 limits:RegionIn x.limits
structure Y4 (w:World) (x:XK) (a:Yq):Prop where
 map:Sl 1 KX w a.map.A x.map
 noise:Zn w x.noise a.noise
 limits:Zn w x.limits a.limits
theorem Y4.below {w w':World} {x:XK} {a:Yq} (h:Y4 w x a) (hb:Below w.heap.size w w'):Y4 w' x a:=⟨h.map.below hb,h.noise.below hb,h.limits.below hb⟩
structure Watch where
 room:XK
 reg:List Half
 log:List Int
structure JY where
 room:Yq
 reg:ZC
 log:ZC
structure WatchSl (w:World) (x:Watch) (a:JY):Prop where
 room:Y4 w x.room a.room
 reg:Zn w x.reg a.reg
 log:Sl 1 KX w a.log.A x.log
theorem WatchSl.below {w w':World} {x:Watch} {a:JY} (h:WatchSl w x a) (hb:Below w.heap.size w w'):WatchSl w' x a:=⟨h.room.below hb,h.reg.below hb,h.log.below hb⟩
structure Track where
 spots:List XW
 inputs:List Yu
structure JZ where
 spots:ZC
 inputs:ZC
structure TrackSl (w:World) (x:Track) (a:JZ):Prop where
 spots:Sl 3 spotC w a.spots.A x.spots
 inputs:Sl 2 ratioC w a.inputs.A x.inputs
theorem TrackSl.below {w w':World} {x:Track} {a:JZ} (h:TrackSl w x a) (hb:Below w.heap.size w w'):TrackSl w' x a:=⟨h.spots.below hb,h.inputs.below hb⟩
structure KS where
 lows:List Xm
 highs:List Xm
structure KW where
 lows:ZC
 highs:ZC
abbrev lawV (x:KS) (a:KW):Value:=.agg #[.slice a.lows.A (List.length x.lows) a.lows.c,.slice a.highs.A (List.length x.highs) a.highs.c]
def YJ (x:KS):Nat:=List.length x.lows+List.length x.highs
structure LawIn (x:KS):Prop where
 lows:∀ y∈x.lows,Xm.In y
 highs:∀ y∈x.highs,Xm.In y
structure J3 (w:World) (x:KS) (a:KW):Prop where
 lows:Sl 4 Yy w a.lows.A x.lows
 highs:Sl 4 Yy w a.highs.A x.highs
theorem J3.below {w w':World} {x:KS} {a:KW} (h:J3 w x a) (hb:Below w.heap.size w w'):J3 w' x a:=⟨h.lows.below hb,h.highs.below hb⟩
end Go.Proofs.YtbekjpkcicjcgabGreat
