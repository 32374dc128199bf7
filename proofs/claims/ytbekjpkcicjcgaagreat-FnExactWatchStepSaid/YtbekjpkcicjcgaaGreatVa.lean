/-
 Appends to slices of the call's own, as steps of regions.
 Conditions: none.
-/
import Derived.Test.YtbekjpkcicjcgaaGreatGrU
import Derived.Test.YtbekjpkcicjcgaaGreatNewR
namespace Go.Proofs.YtbekjpkcicjcgaaGreat
open Go.RowKit
def blkL (A:Option Addr):List Nat:=match A with|some p=>[p.block]|none=>[]
theorem YU {A:Option Addr} {g:Nat} (h:∀ p,A=some p->p.block≠g):g ∉ blkL A:=by
 cases A with
 | none=>simp [blkL]
 | some p=>simp only [blkL,List.mem_singleton];exact λ e=>h p rfl e.symm
theorem blkL_in {A:Option Addr} {m:Nat} (h:m∈blkL A):∃ p,A=some p/\p.block=m:=by
 cases A with
 | none=>simp [blkL] at h
 | some p=>simp only [blkL,List.mem_singleton] at h;exact ⟨p,rfl,h.symm⟩
theorem Kp.grown {w w':World} {A:Option Addr} {n c:Nat} (hg:w.grownBy w' (Value.slice A n c).ownBlock):Kp (blkL A) w w':=by
 refine ⟨⟨hg.os,hg.tape,hg.output,hg.size,λ k hk=>absurd hk (Nat.not_lt_zero _)⟩,λ g hlt hm=>hg.block g hlt ?_⟩;cases A with
 | none=>intro e;cases e
 | some p =>
  intro e;injection e with e
  exact hm (by rw [e];simp [blkL])
theorem Kp.trans2 {M M':List Nat} {a w w':World} (h:Kp M a w) (k:Kp M' w w') (hm:∀ m∈M',m∈M∨a.heap.size<=m):Kp M a w' :=
 ⟨h.base.trans k.base,λ g hg hn=>(k.block g (Nat.lt_of_lt_of_le hg h.size) (λ q=>by rcases hm g q with r|r;exact hn r;omega)).trans (h.block g hg hn)⟩
theorem XI.nilN {α:Type} (T sz:Nat) (enc:α->List Value) (w:World) (base:Nat):XI T sz enc w base (.slice none ([]:List α).length 0) ([]:List α):=⟨none,0,rfl,World.ownsRow_nil _ _ _ _⟩
theorem one_slT {α:Type} {sz:Nat} {enc:α->List Value} {w:World} {g T:Nat} {y:α} (h:Xz w g T (enc y)):Sl sz enc w (some ⟨g,0,none⟩) [y]:=by
 intro _;refine ⟨g,0,rfl,h.lt,λ i hi j u hu=>?_⟩;obtain rfl:i=0:=by simp at hi;omega
 simp only [List.getElem_cons_zero] at hu;rw [show (0+0*sz+j)=j by omega,h.cell j];exact hu
theorem wp_app1 {α:Type} {T sz:Nat} {enc:α->List Value} (X5:∀ x,(enc x).length=sz) {P:Program} {o:Oper} {a:Act} {w:World} {N:Act->World->Prop} {Q:Exit->Act->World->Prop} {s x:Operand} {t:TypeId}
 (ho:o.op=.call { callee:=.builtin .append,args:=#[s,x],argTypes:=#[t,t] })
 (base:Nat) (i:TypeInfo) (z:Value) (bytes:Nat) (ht:P.underlying t=some (.slice T)) (hi:P.info? T=some i) (hz:i.zero=some z)
 (hsize:i.size=sz) (hby:i.bytes=bytes) (hzs:z.cells.size=sz) (hpos:0<sz)
 {A:Option Addr} {n c:Nat} {xs:List α} (hs:a.eval s=.slice A n c) (hown:XI T sz enc w base (.slice A n c) xs) {g T':Nat} (hx:a.eval x=.slice (some ⟨g,0,none⟩) 1 1) {y:α} (hy:Xz w g T' (enc y)) (h1:∀ y,∀ u∈enc y,u.oneCell'=true)
 (hbase:base<=w.heap.size) (hn:xs.length<=1000000000) (hbytes:bytes<=128)
 (hN:∀ A' c' w',XI T sz enc w' base (.slice A' (xs++[y]).length c') (xs++[y])->Kp (blkL A) w w'->N (a.put o.dst (.slice A' (xs++[y]).length c')) w'):o.wp P a w N Q:=by
 refine step_appO X5 s x t ho base i z bytes ht hi hz hsize hby hzs hpos hs hown (some ⟨g,0,none⟩) 1 (ys:=[y]) hx (one_slT hy) (λ e=>by cases e) h1 hbase (by simp only [List.length_singleton];omega) hbytes ?_;rintro v' w' ⟨A',c',rfl,h2⟩ _ hG;exact hN A' c' w' ⟨A',c',rfl,h2⟩ (Kp.grown hG)
def XW (f:Half->Option Half) (p:List Half):List Half:=p.map λ h=>(f h).getD Xa
def YZ (f:Half->Option Half) (p:List Half):Bool:=p.all λ h=>(f h).isSome
def Yv (f:Half->Option Half) (p:List Half):Bool:=decide (p.length=0)||(YZ f p&&YA (Xs (XW f p)))
def YR (f:Half->Option Half) (p:List Half):List Half:=if p.length=0∨YZ f p=false then [] else XZ (Xs (XW f p))
theorem Jo {f:Half->Option Half} {p:List Half} (h:p.length=0):Yv f p=true/\YR f p=[]:=by
 unfold Yv YR;rw [decide_eq_true h,if_pos (.inl h)];exact ⟨rfl,rfl⟩
theorem mov_none {f:Half->Option Half} {p:List Half} {k:Nat} (h:k<p.length) (hn:f p[k]=none):Yv f p=false/\YR f p=[]:=by
 have ha:YZ f p=false:=by
  unfold YZ;rw [List.all_eq_false];exact ⟨p[k],List.getElem_mem h,by rw [hn];decide⟩
 unfold Yv YR;rw [ha,if_pos (.inr rfl),decide_eq_false Oz];exact ⟨rfl,rfl⟩
theorem mov_all {f:Half->Option Half} {p:List Half} (h:p.length≠0) (ha:YZ f p=true):Yv f p=YA (Xs (XW f p))/\YR f p=XZ (Xs (XW f p)):=by
 unfold Yv YR;rw [ha,decide_eq_false h,if_neg (by intro h2;rcases h2 with h2|h2;exact h h2;cases h2)];exact ⟨rfl,rfl⟩
theorem movL_take {f:Half->Option Half} {p:List Half} {k:Nat} {g:Half} (h:k<p.length) (hg:f p[k]=some g):XW f (p.take (k+1))=XW f (p.take k)++[g]:=by
 unfold XW;rw [Zj p k h,List.map_append];simp [hg]
theorem movAll_take {f:Half->Option Half} {p:List Half} {k:Nat} {g:Half} (h:k<p.length) (h1:YZ f (p.take k)=true) (hg:f p[k]=some g):YZ f (p.take (k+1))=true:=by
 unfold YZ at h1 ⊢;rw [Zj p k h,List.all_append,h1];simp [hg]
theorem JV {f:Half->Option Half} {p:List Half} (hf:∀ h∈p,∀ g,f h=some g->Xt g=true) (ha:YZ f p=true):∀ g∈XW f p,Xt g=true:=by
 intro g hg;unfold XW at hg;obtain ⟨h,hh,rfl⟩:=List.mem_map.1 hg;unfold YZ at ha;have:=List.all_eq_true.1 ha h hh;cases e:f h with
 | none=>rw [e] at this;cases this
 | some g=>exact hf h hh g e
theorem ZH (f:Half->Option Half) (p:List Half):(XW f p).length=p.length:=by unfold XW;rw [List.length_map]
theorem halfOf_ok {a b c:Int} {g:Half} (h:Y1 a b c=some g):Xt g=true:=by
 unfold Y1 at h;split at h
 ·cases h
 split at h
 ·rename_i h2
  cases h;exact h2
 ·cases h
theorem movR_ok {f:Half->Option Half} {p:List Half} (hf:∀ h∈p,∀ g,f h=some g->Xt g=true):Xb (YR f p)=true:=by
 unfold YR;split
 ·rfl
 ·rename_i h
  have ha:YZ f p=true:=by
   cases e:YZ f p
   ·exact absurd (.inr e) h
   ·rfl
  unfold XZ;split
  ·rename_i h2
   unfold YA at h2;exact regionOk_meet (JV hf ha) (of_decide_eq_true h2)
  ·rfl
theorem eroH_ok {q:List Half} {h g:Half} (e:YG q h=some g):Xt g=true:=halfOf_ok e
structure EroB (h:Half) (r:Yk):Prop where
 x : -250000000000000<=h.a*r.d/\h.a*r.d<=250000000000000
 y : -250000000000000<=h.b*r.d/\h.b*r.d<=250000000000000
 c : -500000000000000000<=h.c*r.d/\h.c*r.d<=500000000000000000
 n : -500000000000000000<=r.n/\r.n<=500000000000000000
 d:1<=r.d/\r.d<=5000000000
theorem eroB {h:Half} {q:List Half} (hh:Xt h=true) (hq:Xb q=true) (hne:q≠[]):EroB h (ZO q h.a h.b):=by
 obtain ⟨a1,a2,a3,_⟩:=Y0.1 hh;have R:=supR hq hne (a:=h.a) (b:=h.b) ⟨Oz,Oz⟩ ⟨Oz,Oz⟩;have d1:=R.d;have p:=Jd (a:=h.a) (b:=(ZO q h.a h.b).d) (A:=50000) (B:=5000000000) ⟨Oz,Oz⟩ ⟨Oz,Oz⟩;have q2:=Jd (a:=h.b) (b:=(ZO q h.a h.b).d) (A:=50000) (B:=5000000000) ⟨Oz,Oz⟩ ⟨Oz,Oz⟩;have r:=Jd (a:=h.c) (b:=(ZO q h.a h.b).d) (A:=100000000) (B:=5000000000) ⟨Oz,Oz⟩ ⟨Oz,Oz⟩;exact ⟨⟨Oz,Oz⟩,⟨Oz,Oz⟩,⟨Oz,Oz⟩,R.n,R.d⟩
end Go.Proofs.YtbekjpkcicjcgaaGreat
