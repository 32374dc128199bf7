/-
 The region of the points that a map moves into a region: of the reference.
 Conditions: valid regions and maps.
-/
import Derived.Test.YtbekjpkcicjcgabGreatGrVQa
import Derived.Deep.RegionHeld3
import Derived.Deep.DeepMust
import Derived.Deep.DeepCutAuto
import Derived.Maps.AppendAt
namespace Go.Proofs.YtbekjpkcicjcgabGreat
open Go.RowKit
theorem getD_halfOk {p:List Half} {k:Nat} (h:k<p.length) (hp:Xc p=true):Xq (p.getD k Xb)=true:=by
 have e:p.getD k Xb=p[k]:=by rw [List.getD_eq_getElem?_getD,List.getElem?_eq_getElem h,Option.getD_some]
 rw [e];exact Z1 hp _ (List.getElem_mem h)
theorem XI.lit {α:Type} {T sz g base:Nat} {enc:α->List Value} {w:World} {xs:List α} (XU:∀ x,(enc x).length=sz) (h:Xv w g T (xs.flatMap enc)) (hb:base<=g) (hm:xs.length<=1000000):XI T sz enc w base (.slice (some ⟨g,0,none⟩) xs.length xs.length) xs:=by
 have hl:(xs.flatMap enc).length=xs.length*sz:=by
  clear h hb hm;induction xs with
  | nil=>simp
  | cons x t ih=>rw [List.flatMap_cons,List.length_append,ih,XU,List.length_cons,Nat.add_mul,Nat.one_mul,Nat.add_comm]
 refine ⟨_,_,rfl,hl,.inr ⟨g,xs.length,(xs.flatMap enc).toArray,rfl,hb,h,Nat.le_refl _,Nat.le_trans hm (by decide),by simpa using hl, ?_⟩⟩;exact List.take_of_length_le (by show (xs.flatMap enc).length<=_;omega)
theorem wp_app1at {α:Type} {T sz:Nat} {enc:α->List Value} (XU:∀ x,(enc x).length=sz) {P:Program} {o:Oper} {a:Act} {w:World} {N:Act->World->Prop} {Q:Exit->Act->World->Prop} {s x:Operand} {t:TypeId}
 (ho:o.op=.call { callee:=.builtin .append,args:=#[s,x],argTypes:=#[t,t] })
 (base:Nat) (i:TypeInfo) (z:Value) (bytes:Nat) (ht:P.underlying t=some (.slice T)) (hi:P.info? T=some i) (hz:i.zero=some z)
 (hsize:i.size=sz) (hby:i.bytes=bytes) (hzs:z.cells.size=sz) (hpos:0<sz)
 {A:Option Addr} {n c:Nat} {xs:List α} (hs:a.eval s=.slice A n c) (hown:XI T sz enc w base (.slice A n c) xs) {g T':Nat} (hx:a.eval x=.slice (some ⟨g,0,none⟩) 1 1) {y:α} (hy:Xv w g T' (enc y)) (h1:∀ y,∀ u∈enc y,u.oneCell'=true)
 (hbase:base<=w.heap.size) (hn:xs.length<=1000000000) (hbytes:bytes<=128)
 (hN:∀ A' c' w',XI T sz enc w' base (.slice A' (xs++[y]).length c') (xs++[y])->Kp (blkL A) w w'->(∀ p,A'=some p->(∃ q,A=some q/\q.block=p.block)∨p.block=w.heap.size)->N (a.put o.dst (.slice A' (xs++[y]).length c')) w'):o.wp P a w N Q:=by
 obtain ⟨A0,c0,e0,hr⟩:=hown;injection e0 with e1 e2 e3
 subst e1 e2 e3;have hb2:(xs.length+1)*bytes<=1000000001*128:=Nat.mul_le_mul (by omega) hbytes;have hl:(xs++[y]).length=xs.length+1:=by simp
 have hf:(xs++[y]).flatMap enc=xs.flatMap enc++enc y:=by simp
 obtain ⟨v',w',hrun,hown',hg,_,hat⟩:=run_append_own_at (P:=P) w base t o.type T i z sz bytes ht hi hz hsize hby hzs hpos _ _ _ hr ⟨g,0,none⟩ 1 1 (enc y) (by rw [XU,Nat.one_mul]) (λ j u hu=>by
  have:=hy.cell j;rw [Addr.add_lit,Nat.zero_add,this];exact hu) (h1 y) (by unfold maxLen;omega) (by omega) hbase
 rw [<- hf] at hown';have hN2:XI T sz enc w' base v' (xs++[y]):=XI.mk' hl.symm hown';have key:N (a.put o.dst v') w':=by
  clear hrun;obtain ⟨A',c',rfl,hN'⟩:=hN2;refine hN A' c' w' ⟨A',c',rfl,hN'⟩ (Kp.grown hg) (λ p hp=>?_);subst hp;rcases hat with h|h
  ·cases A with
   | none=>simp [Value.ownBlock] at h
   | some q=>exact .inl ⟨q,rfl,by simpa [Value.ownBlock] using h.symm⟩
  ·exact .inr (by simpa [Value.ownBlock] using h)
 unfold Oper.wp;simp [execOp,ho,resolve,invoke,builtin,hs,hx,hrun,Result.andThen];exact key
theorem XS.ap {w:World} {base:Nat} {x:KS} {a:KW} (h:XS w base x a):∀ p q,a.lows.A=some p->a.highs.A=some q->p.block≠q.block:=by
 have h2:=h.apart;simp only [List.pairwise_cons,List.mem_cons,List.not_mem_nil,or_false] at h2;exact h2.1 _ rfl
theorem lawNew_appH {w w':World} {base:Nat} {lo hi:List Xm} {y:Xm} {a:KW} {A':Option Addr} {c':Nat} (h:XS w base ⟨lo,hi⟩ a) (hn:XI 49 4 Yy w' base (.slice A' (hi++[y]).length c') (hi++[y])) (hG:Kp (blkL a.highs.A) w w') (hat:∀ p,A'=some p->(∃ q,a.highs.A=some q/\q.block=p.block)∨p.block=w.heap.size):XS w' base ⟨lo,(hi++[y])⟩ ⟨a.lows,⟨A',c'⟩⟩:=by
 refine ⟨h.lows.kpN hG (λ p hp hm=>?_),hn,apart2 (λ p q hp hq e=>?_)⟩
 ·obtain ⟨q,hq,e⟩:=Yh hm;exact h.ap p q hp hq e.symm
 ·rcases hat q hq with ⟨q2,h2,e2⟩|h2
  ·exact h.ap p q2 hp h2 (e.trans e2.symm)
  ·have:=h.lows.blk p hp;omega
theorem lawNew_appL {w w':World} {base:Nat} {lo hi:List Xm} {y:Xm} {a:KW} {A':Option Addr} {c':Nat} (h:XS w base ⟨lo,hi⟩ a) (hn:XI 49 4 Yy w' base (.slice A' (lo++[y]).length c') (lo++[y])) (hG:Kp (blkL a.lows.A) w w') (hat:∀ p,A'=some p->(∃ q,a.lows.A=some q/\q.block=p.block)∨p.block=w.heap.size):XS w' base ⟨(lo++[y]),hi⟩ ⟨⟨A',c'⟩,a.highs⟩:=by
 refine ⟨hn,h.highs.kpN hG (λ p hp hm=>?_),apart2 (λ q p hq hp e=>?_)⟩
 ·obtain ⟨q,hq,e⟩:=Yh hm;exact h.ap q p hq hp e
 ·rcases hat q hq with ⟨q2,h2,e2⟩|h2
  ·exact h.ap q2 p h2 hp (e2.trans e)
  ·have:=h.highs.blk p hp;omega
theorem XS.kpLo {M:List Nat} {w w':World} {base:Nat} {x:KS} {a:KW} (h:XS w base x a) (k:Kp M w w') (hM:∀ m∈M,m<base):XS w' base x a :=
 ⟨h.lows.kpN k (λ p hp hm=>by have:=hM _ hm;have:=h.lows.blk p hp;omega),h.highs.kpN k (λ p hp hm=>by have:=hM _ hm;have:=h.highs.blk p hp;omega),h.apart⟩
theorem XS.lits {w:World} {base g1 g2:Nat} {y1 y2:Xm} (h1:Xv w g1 49 (Yy y1)) (h2:Xv w g2 49 (Yy y2)) (hb1:base<=g1) (hb2:base<=g2) (hne:g1≠g2):XS w base ⟨[y1],[y2]⟩ ⟨⟨some ⟨g1,0,none⟩,1⟩,⟨some ⟨g2,0,none⟩,1⟩⟩ :=
 ⟨XI.lit (enc:=Yy) (xs:=[y1]) Zv (by simpa using h1) hb1 (by simp),XI.lit (enc:=Yy) (xs:=[y2]) Zv (by simpa using h2) hb2 (by simp),apart2 (λ p q hp hq e=>by cases hp;cases hq;exact hne e)⟩
theorem sl_ne {g g':Nat} (h:g≠g'):(Value.slice (some ⟨g,0,none⟩) 1 1)≠.slice (some ⟨g',0,none⟩) 1 1:=λ e=>by
 injection e with e1 _ _
 injection e1 with e1
 injection e1 with e1 _ _
 exact h e1
theorem nin_app {g:Nat} {L M:List Nat} (h:g ∉ L) (h2:g ∉ M):g ∉ L++M:=λ hm=>(List.mem_append.1 hm).elim h h2
end Go.Proofs.YtbekjpkcicjcgabGreat
