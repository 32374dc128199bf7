/-
 The regions in which one piece of a law's lower bounds is the greatest.
 Conditions: valid regions, whole states.
-/
import Derived.Deep.RegionHeld3
import Derived.Deep.DeepMust
import Derived.Deep.DeepCutAuto
import Derived.Test.YtbekjpkcicjcgabGreatPtl
namespace Go.Proofs.YtbekjpkcicjcgabGreat
open Go.RowKit
theorem halfOf_lt {a b c:Int} {g:Half} (h:XO a b c=some g) {x y d:Int} (k:a*x+b*y<c*d):g.a*x+g.b*y<g.c*d:=by
 by_cases hc:g.a*x+g.b*y<g.c*d
 ·exact hc
 ·exfalso;have h1:Yp g (-x) (-y) (-d):=by
   unfold Yp;rw [Int.mul_neg,Int.mul_neg,Int.mul_neg];omega
  have h2:=(halfOf_pts h).1 h1;rw [Int.mul_neg,Int.mul_neg,Int.mul_neg] at h2;omega
theorem low_gap (q o:Xm) (x y d:Int):lowA q o*x+lowB q o*y<=lowC q o*d ↔ 0<=Kc q o x y d:=by
 unfold lowA lowB lowC Kc;have e:(q.a*x+q.b*y+q.c*d)*o.d-(o.a*x+o.b*y+o.c*d)*q.d=(q.c*o.d-o.c*q.d)*d-((o.a*q.d-q.a*o.d)*x+(o.b*q.d-q.b*o.d)*y):=by grind
 rw [e];omega
theorem low_gap_lt (q o:Xm) (x y d:Int):lowA q o*x+lowB q o*y<lowC q o*d ↔ 0<Kc q o x y d:=by
 unfold lowA lowB lowC Kc;have e:(q.a*x+q.b*y+q.c*d)*o.d-(o.a*x+o.b*y+o.c*d)*q.d=(q.c*o.d-o.c*q.d)*d-((o.a*q.d-q.a*o.d)*x+(o.b*q.d-q.b*o.d)*y):=by grind
 rw [e];omega
structure LowIn (p:List Half) (L:List Xm):Prop where
 reg:Xc p=true
 ne:p≠[]
 pos:0<L.length
 ok:∀ q∈L,XM q=true
 len:p.length+L.length<=40
 hs:∀ k,k<L.length->∃ hs,Z5 L k L.length=some hs
theorem piece_pos {L:List Xm} (h:∀ q∈L,XM q=true) {i:Nat} (hi:i<L.length):0<(L.getD i Xo).d:=by
 have:=(Ka.1 (h _ (Ki hi Xo))).1.1;omega
theorem low_pts {p:List Half} {L:List Xm} (I:LowIn p L) {k:Nat} (hk:k<L.length) {x y d:Int} (hd:0<d):InP (KA p L k) x y d->KA p L k≠[]->InP p x y d/\∀ j,j<L.length->0<=Kc (L.getD k Xo) (L.getD j Xo) x y d:=by
 intro hi hne;obtain ⟨hs,e⟩:=I.hs k hk;obtain ⟨a,b,c,dd⟩:=lowHs_mem _ hs e;unfold KA at hi hne;rw [e] at hi hne;split at hi
 ·rename_i h
  rw [if_pos h] at hne;exact absurd rfl hne
 ·rename_i h
  rw [if_neg h] at hne;simp only [Option.getD_some] at hi hne;have hok:∀ f∈p++hs,Xq f=true:=app_ok (Z1 I.reg) (λ f hf=>(a f hf).1);have hi2:=((meetR_pts hok hne (by omega)).1 hi).2;obtain ⟨h1,h2⟩:=inP_app.1 hi2;refine ⟨h1,λ j hj=>?_⟩;by_cases hjk:j=k
  ·subst hjk;unfold Kc;omega
  ·by_cases hf:YP (L.getD k Xo) (L.getD j Xo)=true
   ·have hv:lowV L k=false:=by
     simp only [Bool.or_eq_true,not_or,Bool.not_eq_true] at h;exact h.2
    unfold lowV at hv;simp only [Bool.or_eq_false_iff,List.any_eq_false] at hv;have h3:=hv.2 j (List.mem_range.2 hj);rw [hf,decide_eq_true hjk] at h3;simp only [Bool.true_and,decide_eq_true_eq] at h3;unfold YP at hf;simp only [Bool.and_eq_true,decide_eq_true_eq] at hf;refine (low_gap _ _ x y d).1 ?_;rw [hf.1,hf.2,Int.zero_mul,Int.zero_mul];have:=Int.mul_nonneg (show 0<=lowC (L.getD k Xo) (L.getD j Xo) by omega) (show 0<=d by omega);omega
   ·obtain ⟨g,hg,eg⟩:=dd j hj hjk (by simpa using hf);exact (low_gap _ _ x y d).1 ((halfOf_pts eg).1 (h2 g hg))
theorem low_ok {p:List Half} {L:List Xm} (I:LowIn p L) {k:Nat} (hk:k<L.length):Xc (KA p L k)=true:=by
 obtain ⟨hs,e⟩:=I.hs k hk;obtain ⟨a,_⟩:=lowHs_mem _ hs e;unfold KA;rw [e];split
 ·rfl
 ·exact regionOk_meetR (app_ok (Z1 I.reg) (λ f hf=>(a f hf).1))
theorem low_within {p:List Half} {L:List Xm} (I:LowIn p L) {k:Nat} (hk:k<L.length):withinB (KA p L k) p=true :=
 pts_within (low_ok I hk) (λ _=>I.ne) (λ hne _ _ _ hd h=>(low_pts I hk hd h hne).1)
theorem low_cover {p:List Half} {L:List Xm} (I:LowIn p L) {x y d:Int} (hd:0<d) (hi:InP p x y d):∃ k,k<L.length/\KA p L k≠[]/\InP (KA p L k) x y d:=by
 have hn:L.length-1+1=L.length:=by have:=I.pos;omega
 obtain ⟨k,X,Y,D,T⟩:=cover I.reg I.ne (L:=λ i=>L.getD i Xo) (n:=L.length-1) (λ i hi=>piece_pos I.ok (by omega)) hd hi;have hk:k<L.length:=by have:=T.lt;omega
 obtain ⟨hs,e⟩:=I.hs k hk;obtain ⟨a,b,c,dd⟩:=lowHs_mem _ hs e;have D0:=T.pos;have hv:lowV L k=false:=by
  unfold lowV;simp only [Bool.or_eq_false_iff,List.any_eq_false];constructor
  ·rw [Bool.eq_false_iff];intro hc;have hm:L.getD k Xo∈L.take k:=by simpa using hc
   obtain ⟨j,hj,ej⟩:=List.getElem_of_mem hm;have hjk:j<k:=by
    rw [List.length_take] at hj;omega
   have g:=T.first j hjk;have e3:L.getD j Xo=L.getD k Xo:=by
    rw [<- ej,List.getElem_take,List.getD_eq_getElem?_getD,List.getElem?_eq_getElem (by omega)];rfl
   simp only [e3] at g;unfold Kc at g;omega
  ·intro i hi2;have hi3:=List.mem_range.1 hi2;by_cases hik:i=k
   ·rw [decide_eq_false (λ q=>q hik)];simp
   ·by_cases hf:YP (L.getD k Xo) (L.getD i Xo)=true
    ·have hc:0<=lowC (L.getD k Xo) (L.getD i Xo):=by
      unfold YP at hf;simp only [Bool.and_eq_true,decide_eq_true_eq] at hf;rcases T.near i (by omega) with h|h
      ·unfold sameP at h;unfold lowC;omega
      ·have h2:=(low_gap_lt _ _ X Y D).2 h;rw [hf.1,hf.2,Int.zero_mul,Int.zero_mul] at h2;rw [Int.mul_comm] at h2;exact Int.le_of_lt (gmp (a:=D) (by omega) D0)
     rw [decide_eq_false (show ¬ lowC (L.getD k Xo) (L.getD i Xo)<0 by omega)];simp
    ·rw [show YP (L.getD k Xo) (L.getD i Xo)=false by simpa using hf];simp
 have hok:∀ f∈p++hs,Xq f=true:=app_ok (Z1 I.reg) (λ f hf=>(a f hf).1);have hin:Xw (Xk (p++hs))≠[]:=by
  refine ne_of_inner hok (x:=X) (y:=Y) (d:=D) D0 (λ f hf=>?_);rcases List.mem_append.1 hf with h1|h1
  ·exact T.inner f (List.mem_append.2 (.inl h1))
  ·rcases List.mem_append.1 h1 with h2|h2
   ·exact T.inner f (List.mem_append.2 (.inr h2))
   ·obtain ⟨_,j,hj,hjk,ej⟩:=a f h2;have hg:0<Kc (L.getD k Xo) (L.getD j Xo) X Y D:=by
     rcases T.near j (by omega) with h|h
     ·exfalso;unfold sameP at h;have z1:lowA (L.getD k Xo) (L.getD j Xo)=0:=by unfold lowA;omega
      have z2:lowB (L.getD k Xo) (L.getD j Xo)=0:=by unfold lowB;omega
      have z3:lowC (L.getD k Xo) (L.getD j Xo)=0:=by unfold lowC;omega
      unfold YE at ej;rw [z1,z2,z3] at ej;rw [show XO 0 0 0=none by decide] at ej;cases ej
     ·exact h
    exact halfOf_lt ej ((low_gap_lt _ _ X Y D).2 hg)
 have hm:Yw (Xk (p++hs))=true:=meet_app_ok I.reg I.ne (λ f hf=>(a f hf).1) (by have:=I.len;omega);have el:KA p L k=Xw (Xk (p++hs)):=by
  unfold KA;rw [hv,decide_eq_false (λ q=>I.ne (List.length_eq_zero_iff.1 q)),e,if_neg (by simp)];unfold Yk;rw [Option.getD_some,if_pos hm]
 have er:KA p L k=Yk (Xk (p++hs)):=by
  rw [el];unfold Yk;rw [if_pos hm]
 refine ⟨k,hk,by rw [el];exact hin, ?_⟩;rw [er,meetR_pts hok (by rw [<- er,el];exact hin) (by omega)];refine ⟨reg_frame I.reg I.ne (by omega) hi,inP_app.2 ⟨hi,λ f hf=>?_⟩⟩;obtain ⟨_,j,hj,hjk,ej⟩:=a f hf;exact (halfOf_pts ej).2 ((low_gap _ _ x y d).2 (T.here j (by omega)))
theorem piece_rat {q:Xm} {x y:Int} (hq:XM q=true) (hs:XP ⟨x,y,1⟩=true) {n e:Int}:XE (XC q ⟨x,y,1⟩)=true/\((XC q ⟨x,y,1⟩).n*e<=n*(XC q ⟨x,y,1⟩).d ↔ (q.a*x+q.b*y+q.c)*e<=n*q.d)/\(n*(XC q ⟨x,y,1⟩).d<=(XC q ⟨x,y,1⟩).n*e ↔ n*q.d<=(q.a*x+q.b*y+q.c)*e):=by
 obtain ⟨q1,q2,q3,q4,_⟩:=Ka.1 hq;have S:=ZO.1 hs;simp only at S;have m1:=JE (a:=q.a) (b:=x) (A:=1000000000000) (B:=1000) ⟨by omega,by omega⟩ ⟨by omega,by omega⟩;have m2:=JE (a:=q.b) (b:=y) (A:=1000000000000) (B:=1000) ⟨by omega,by omega⟩ ⟨by omega,by omega⟩;have ev:XC q ⟨x,y,1⟩=X6 (q.a*x+q.b*y+q.c) q.d:=by
  unfold XC Kv;rw [if_pos ⟨hq,hs⟩,if_neg (by simp only;omega)];simp only [Int.mul_one]
 rw [ev];exact of_le (t:=q.a*x+q.b*y+q.c) (d:=q.d) (n:=n) (e:=e) ⟨by omega,by omega⟩ ⟨by omega,by omega⟩
theorem gap_cmp {q o:Xm} {x y:Int} (hq:XM q=true) (ho:XM o=true) (hs:XP ⟨x,y,1⟩=true) (h:0<=Kc q o x y 1):X7 (XC o ⟨x,y,1⟩) (XC q ⟨x,y,1⟩)<=0:=by
 have k1:=(piece_rat (n:=0) (e:=0) hq hs).1;have k2:=(piece_rat (n:=0) (e:=0) ho hs).1;refine (cmp_le k2 k1).2 ?_;refine (piece_rat ho hs).2.1.2 ?_;refine (piece_rat hq hs).2.2.2 ?_;unfold Kc at h;rw [Int.mul_one,Int.mul_one] at h;omega
theorem low_top {p:List Half} {L:List Xm} (I:LowIn p L) {k:Nat} (hk:k<L.length) {x y:Int} (hs:XP ⟨x,y,1⟩=true) (h:Zl (KA p L k) ⟨x,y,1⟩=true):Zl p ⟨x,y,1⟩=true/\∀ q∈L,X7 (XC q ⟨x,y,1⟩) (XC (L.getD k Xo) ⟨x,y,1⟩)<=0:=by
 obtain ⟨hne,hi⟩:=holdsB_pt.1 h;obtain ⟨h1,h2⟩:=low_pts I hk (show (0:Int)<1 by omega) hi hne;refine ⟨holdsB_pt.2 ⟨I.ne,h1⟩,λ q hq=>?_⟩;obtain ⟨j,hj,rfl⟩:=List.getElem_of_mem hq;have g:=h2 j hj;rw [Jl hj] at g;exact gap_cmp (I.ok _ (Ki hk Xo)) (I.ok _ hq) hs g
theorem low_some {p:List Half} {L:List Xm} (I:LowIn p L) {x y:Int}:Zl p ⟨x,y,1⟩=true->∃ k,k<L.length/\Zl (KA p L k) ⟨x,y,1⟩=true:=λ h=>by
 obtain ⟨k,hk,h1,h2⟩:=low_cover I (show (0:Int)<1 by omega) (holdsB_pt.1 h).2;exact ⟨k,hk,holdsB_pt.2 ⟨h1,h2⟩⟩
end Go.Proofs.YtbekjpkcicjcgabGreat
