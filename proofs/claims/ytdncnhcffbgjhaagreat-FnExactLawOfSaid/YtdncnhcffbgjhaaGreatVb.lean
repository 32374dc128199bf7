/-
 Appends to the slices of a law, as steps of regions: where the new slice lies.
 Conditions: none.
-/
import Derived.Test.YtdncnhcffbgjhaaGreatGrU
import Derived.Test.YtdncnhcffbgjhaaGreatVa
import Derived.Test.YtdncnhcffbgjhaaGreatInv2
import Derived.Test.YtdncnhcffbgjhaaGreatGrow
import Derived.Maps.AppendAt
namespace Go.Proofs.YtdncnhcffbgjhaaGreat
open Go.RowKit
theorem wp_app1at {α:Type} {T sz:Nat} {enc:α→List Value} (hsz:∀ x,(enc x).length=sz) {P:Program} {o:Oper} {a:Act} {w:World} {N:Act→World→Prop} {Q:Exit→Act→World→Prop} {s x:Operand} {t:TypeId}
 (ho:o.op=.call { callee:=.builtin .append,args:=#[s,x],argTypes:=#[t,t] })
 (base:Nat) (i:TypeInfo) (z:Value) (bytes:Nat) (ht:P.underlying t=some (.slice T)) (hi:P.info? T=some i) (hz:i.zero=some z)
 (hsize:i.size=sz) (hby:i.bytes=bytes) (hzs:z.cells.size=sz) (hpos:0<sz)
 {A:Option Addr} {n c:Nat} {xs:List α} (hs:a.eval s=.slice A n c) (hown:New T sz enc w base (.slice A n c) xs) {g T':Nat} (hx:a.eval x=.slice (some ⟨g,0,none⟩) 1 1) {y:α} (hy:HasT w g T' (enc y)) (h1:∀ y,∀ u∈enc y,u.oneCell'=true)
 (hbase:base≤w.heap.size) (hn:xs.length≤1000000000) (hbytes:bytes≤128)
 (hN:∀ A' c' w',New T sz enc w' base (.slice A' (xs++[y]).length c') (xs++[y])→Kp (blkL A) w w'→(∀ p,A'=some p→(∃ q,A=some q∧q.block=p.block)∨p.block=w.heap.size)→N (a.put o.dst (.slice A' (xs++[y]).length c')) w'):o.wp P a w N Q:=by
 obtain ⟨A0,c0,e0,hr⟩:=hown
 injection e0 with e1 e2 e3
 subst e1 e2 e3
 have hb2:(xs.length+1)*bytes≤1000000001*128:=Nat.mul_le_mul (by omega) hbytes
 have hl:(xs++[y]).length=xs.length+1:=by simp
 have hf:(xs++[y]).flatMap enc=xs.flatMap enc++enc y:=by simp
 obtain ⟨v',w',hrun,hown',hg,_,hat⟩:=run_append_own_at (P:=P) w base t o.type T i z sz bytes ht hi hz hsize hby hzs hpos _ _ _ hr ⟨g,0,none⟩ 1 1 (enc y) (by rw [hsz,Nat.one_mul]) (fun j u hu=>by
  have:=hy.cell j
  rw [Addr.add_lit,Nat.zero_add,this];exact hu) (h1 y) (by unfold maxLen;omega) (by omega) hbase
 rw [← hf] at hown'
 have hN2:New T sz enc w' base v' (xs++[y]):=New.mk' hl.symm hown'
 have key:N (a.put o.dst v') w':=by
  clear hrun
  obtain ⟨A',c',rfl,hN'⟩:=hN2
  refine hN A' c' w' ⟨A',c',rfl,hN'⟩ (Kp.grown hg) (fun p hp=>?_)
  subst hp
  rcases hat with h|h
  ·cases A with
   | none=>simp [Value.ownBlock] at h
   | some q=>exact .inl ⟨q,rfl,by simpa [Value.ownBlock] using h.symm⟩
  ·exact .inr (by simpa [Value.ownBlock] using h)
 unfold Oper.wp
 simp [execOp,ho,resolve,invoke,builtin,hs,hx,hrun,Result.andThen]
 exact key
theorem New.kpN {α:Type} {T sz base n c:Nat} {enc:α→List Value} {M:List Nat} {w w':World} {A:Option Addr} {xs:List α} (h:New T sz enc w base (.slice A n c) xs) (k:Kp M w w') (hA:∀ p,A=some p→p.block ∉ M):New T sz enc w' base (.slice A n c) xs:=by
 obtain ⟨A',cap,e,h1,h2⟩:=h
 refine ⟨A',cap,e,h1, ?_⟩
 rcases h2 with h2|⟨q,cap',cur,hv,hg,hh,r⟩
 ·exact .inl h2
 ·have hA2:A=some ⟨q,0,none⟩:=by injection hv
  exact .inr ⟨q,cap',cur,hv,hg,(k.block q (lt_of_heap hh) (hA _ hA2)).trans hh,r⟩
theorem apart2 {A B:SlA} (h:∀ p q,A.A=some p→B.A=some q→p.block≠q.block):List.Pairwise Apart [A,B]:=by
 simp only [List.pairwise_cons,List.mem_cons,List.not_mem_nil,or_false,forall_eq,List.Pairwise.nil,and_true]
 exact ⟨h,fun _ hf=>hf.elim⟩
theorem LawNew.ap {w:World} {base:Nat} {x:Law} {a:LawA} (h:LawNew w base x a):∀ p q,a.lows.A=some p→a.highs.A=some q→p.block≠q.block:=by
 have h2:=h.apart
 simp only [List.pairwise_cons,List.mem_cons,List.not_mem_nil,or_false] at h2
 exact h2.1 _ rfl
theorem lawNew_appH {w w':World} {base:Nat} {lo hi:List Piece} {y:Piece} {a:LawA} {A':Option Addr} {c':Nat} (h:LawNew w base ⟨lo,hi⟩ a) (hn:New 109 4 pieceC w' base (.slice A' (hi++[y]).length c') (hi++[y])) (hG:Kp (blkL a.highs.A) w w') (hat:∀ p,A'=some p→(∃ q,a.highs.A=some q∧q.block=p.block)∨p.block=w.heap.size):LawNew w' base ⟨lo,(hi++[y])⟩ ⟨a.lows,⟨A',c'⟩⟩:=by
 refine ⟨h.lows.kpN hG (fun p hp hm=>?_),hn,apart2 (fun p q hp hq e=>?_)⟩
 ·obtain ⟨q,hq,e⟩:=blkL_in hm
  exact h.ap p q hp hq e.symm
 ·rcases hat q hq with ⟨q2,h2,e2⟩|h2
  ·exact h.ap p q2 hp h2 (e.trans e2.symm)
  ·have:=h.lows.blk p hp
   omega
theorem lawNew_appL {w w':World} {base:Nat} {lo hi:List Piece} {y:Piece} {a:LawA} {A':Option Addr} {c':Nat} (h:LawNew w base ⟨lo,hi⟩ a) (hn:New 109 4 pieceC w' base (.slice A' (lo++[y]).length c') (lo++[y])) (hG:Kp (blkL a.lows.A) w w') (hat:∀ p,A'=some p→(∃ q,a.lows.A=some q∧q.block=p.block)∨p.block=w.heap.size):LawNew w' base ⟨(lo++[y]),hi⟩ ⟨⟨A',c'⟩,a.highs⟩:=by
 refine ⟨hn,h.highs.kpN hG (fun p hp hm=>?_),apart2 (fun q p hq hp e=>?_)⟩
 ·obtain ⟨q,hq,e⟩:=blkL_in hm
  exact h.ap q p hq hp e
 ·rcases hat q hq with ⟨q2,h2,e2⟩|h2
  ·exact h.ap q2 p h2 hp (e2.trans e)
  ·have:=h.highs.blk p hp
   omega
theorem LawNew.kpLo {M:List Nat} {w w':World} {base:Nat} {x:Law} {a:LawA} (h:LawNew w base x a) (k:Kp M w w') (hM:∀ m∈M,m<base):LawNew w' base x a :=
 ⟨h.lows.kpN k (fun p hp hm=>by have:=hM _ hm;have:=h.lows.blk p hp;omega),h.highs.kpN k (fun p hp hm=>by have:=hM _ hm;have:=h.highs.blk p hp;omega),h.apart⟩
theorem LawNew.lits {w:World} {base g1 g2:Nat} {y1 y2:Piece} (h1:HasT w g1 109 (pieceC y1)) (h2:HasT w g2 109 (pieceC y2)) (hb1:base≤g1) (hb2:base≤g2) (hne:g1≠g2):LawNew w base ⟨[y1],[y2]⟩ ⟨⟨some ⟨g1,0,none⟩,1⟩,⟨some ⟨g2,0,none⟩,1⟩⟩ :=
 ⟨New.lit (enc:=pieceC) (xs:=[y1]) pieceC_len (by simpa using h1) hb1 (by simp),New.lit (enc:=pieceC) (xs:=[y2]) pieceC_len (by simpa using h2) hb2 (by simp),apart2 (fun p q hp hq e=>by cases hp;cases hq;exact hne e)⟩
theorem LawNew.nil (w:World) (base:Nat):LawNew w base ⟨[],[]⟩ ⟨⟨none,0⟩,⟨none,0⟩⟩ :=
 ⟨New.nilN _ _ _ _ _,New.nilN _ _ _ _ _,apart2 (fun p q hp _=>by cases hp)⟩
theorem sl_ne {g g':Nat} (h:g≠g'):(Value.slice (some ⟨g,0,none⟩) 1 1)≠.slice (some ⟨g',0,none⟩) 1 1:=fun e=>by
 injection e with e1 _ _
 injection e1 with e1
 injection e1 with e1 _ _
 exact h e1
theorem nin_app {g:Nat} {L M:List Nat} (h:g ∉ L) (h2:g ∉ M):g ∉ L++M:=fun hm=>(List.mem_append.1 hm).elim h h2
end Go.Proofs.YtdncnhcffbgjhaaGreat
