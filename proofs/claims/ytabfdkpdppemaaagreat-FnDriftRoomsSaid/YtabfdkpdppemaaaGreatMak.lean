/-
 Records with parameters that are consistent with them, of the reference's verifier.
 Conditions: at most 2^20 bytes.
-/
import Derived.Test.YtabfdkpdppemaaaGreatCur
import Derived.Test.YtabfdkpdppemaaaGreatGrV
import Derived.Maps.AppendAt
namespace Go.Proofs.YtabfdkpdppemaaaGreat
open Go.RowKit
structure RecOf (a b err:Int) (x:Z2):Prop where
 b0 : -100<=x.before/\x.before<=99
 i0 : -20<=x.input/\x.input<=19
 d0 : -100*err<=a*x.before+b*x.input-100*x.after/\a*x.before+b*x.input-100*x.after<=100*err
structure MakR (xs:List Z2) (err a b:Int):Prop where
 a0:60<=a/\a<=99
 b0 : -20<=b/\b<=39
 e0:1<=err/\err<=4
 len:xs.length<=5
 all:∀ x∈xs,RecOf a b err x
theorem XI.farG {α:Type} {T sz base g T':Nat} {enc:α->List Value} {w w':World} {v:Value} {xs:List α} {vs:List Value} (h:XI T sz enc w base v xs) (hc:Xr w g T' vs) (hne:T≠T') (ho:ZJ w w' g):XI T sz enc w' base v xs:=by
 obtain ⟨A,c,rfl,o⟩:=h;have N:XI T sz enc w base (.slice A xs.length c) xs:=⟨A,c,rfl,o⟩;refine N.far ho (λ b hb p q hp hq=>?_);rw [List.mem_singleton] at hb;subst hb;cases hq;exact N.typ hc hne p hp
theorem XI.lit {α:Type} {T sz g base:Nat} {enc:α->List Value} {w:World} {xs:List α} (XL:∀ x,(enc x).length=sz) (h:Xr w g T (xs.flatMap enc)) (hb:base<=g) (hm:xs.length<=1000000):XI T sz enc w base (.slice (some ⟨g,0,none⟩) xs.length xs.length) xs:=by
 have hl:(xs.flatMap enc).length=xs.length*sz:=by
  clear h hb hm;induction xs with
  | nil=>simp
  | cons x t ih=>rw [List.flatMap_cons,List.length_append,ih,XL,List.length_cons,Nat.add_mul,Nat.one_mul,Nat.add_comm]
 refine ⟨_,_,rfl,hl,.inr ⟨g,xs.length,(xs.flatMap enc).toArray,rfl,hb,h,Nat.le_refl _,Nat.le_trans hm (by decide),by simpa using hl, ?_⟩⟩;exact List.take_of_length_le (by show (xs.flatMap enc).length<=_;omega)
theorem XI.kpN {α:Type} {T sz base n c:Nat} {enc:α->List Value} {M:List Nat} {w w':World} {A:Option Addr} {xs:List α} (h:XI T sz enc w base (.slice A n c) xs) (k:Kp M w w') (hA:∀ p,A=some p->p.block ∉ M):XI T sz enc w' base (.slice A n c) xs:=by
 obtain ⟨A',cap,e,h1,h2⟩:=h;refine ⟨A',cap,e,h1, ?_⟩;rcases h2 with h2|⟨q,cap',cur,hv,hg,hh,r⟩
 ·exact .inl h2
 ·have hA2:A=some ⟨q,0,none⟩:=by injection hv
  exact .inr ⟨q,cap',cur,hv,hg,(k.block q (XF hh) (hA _ hA2)).trans hh,r⟩
theorem apart2 {A B:Kd} (h:∀ p q,A.A=some p->B.A=some q->p.block≠q.block):List.Pairwise Z4 [A,B]:=by
 simp only [List.pairwise_cons,List.mem_cons,List.not_mem_nil,or_false,forall_eq,List.Pairwise.nil,and_true];exact ⟨h,λ _ hf=>hf.elim⟩
theorem ZK.nil (w:World) (base:Nat):ZK w base ⟨[],[]⟩ ⟨⟨none,0⟩,⟨none,0⟩⟩ :=
 ⟨XI.nilN _ _ _ _ _,XI.nilN _ _ _ _ _,apart2 (λ p q hp _=>by cases hp)⟩
theorem gcd1 (x y:Int):Xk [x,y,1]=1:=by
 obtain ⟨_,_,h⟩:=@JO x y 1;have:=Int.natAbs_dvd_natAbs.2 h;simp at this;exact this
theorem spot1 {x y:Int} (hx : -1000<=x/\x<=1000) (hy : -1000<=y/\y<=1000):areParams ⟨x,y,1⟩=true:=by
 unfold areParams XA;rw [gcd1];simp [ZH];omega
theorem MakR.records {xs:List Z2} {err a b:Int} (h:MakR xs err a b):recordsOk xs=true:=by
 have he:=h.e0;have ha:=h.a0;have hb:=h.b0;unfold recordsOk;rw [Bool.and_eq_true,List.all_eq_true,decide_eq_true_eq];refine ⟨λ x hx=>?_,by have:=h.len;omega⟩;obtain ⟨p,q,r⟩:=h.all x hx;have m1:=mulB (a:=a) (b:=x.before) (A:=99) (B:=100) ⟨by omega,by omega⟩ ⟨by omega,by omega⟩;have m2:=mulB (a:=b) (b:=x.input) (A:=39) (B:=20) ⟨by omega,by omega⟩ ⟨by omega,by omega⟩;exact recOk_iff.2 ⟨⟨by omega,by omega⟩,⟨by omega,by omega⟩,⟨by omega,by omega⟩⟩
theorem MakR.err_ {xs:List Z2} {err a b:Int} (h:MakR xs err a b):ZH err 0 1000=true:=XY.2 ⟨by have:=h.e0;omega,by have:=h.e0;omega⟩
theorem MakR.par {xs:List Z2} {err a b:Int} (h:MakR xs err a b):areParams ⟨a,b,1⟩=true:=spot1 (by have:=h.a0;omega) (by have:=h.b0;omega)
theorem MakR.least {xs:List Z2} {err a b:Int} (h:MakR xs err a b):leastOk xs ⟨a,b,1⟩=true:=by unfold leastOk;rw [h.records,h.par];rfl
theorem MakR.dist {xs:List Z2} {err a b:Int} (h:MakR xs err a b):∀ x∈xs,distR x ⟨a,b,1⟩<=100*err*1:=by
 intro x hx;obtain ⟨_,_,r⟩:=h.all x hx;unfold distR;simp only;generalize a*x.before=m1 at *;generalize b*x.input=m2 at *;omega
theorem MakR.max_ {xs:List Z2} {err a b:Int} (h:MakR xs err a b):maxDist xs ⟨a,b,1⟩<=100*err*1:=(maxDist_le (s:=⟨a,b,1⟩) (100*err*1) xs (by have:=h.e0;omega)).2 h.dist
theorem MakR.cons {xs:List Z2} {err a b:Int} (h:MakR xs err a b):isConsistent xs err ⟨a,b,1⟩=true:=by
 unfold isConsistent;rw [h.least,h.err_];simp only [Bool.true_and,decide_eq_true_eq];exact h.max_
end Go.Proofs.YtabfdkpdppemaaaGreat
