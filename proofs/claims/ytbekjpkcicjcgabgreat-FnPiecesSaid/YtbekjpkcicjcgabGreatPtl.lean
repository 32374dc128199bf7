/-
 The law of a region says at the states of the region what the region itself admits.
 Conditions: valid rooms, whole states.
-/
import Derived.Deep.RegionHeld3
import Derived.Deep.DeepMust
import Derived.Deep.DeepCutAuto
import Derived.Test.YtbekjpkcicjcgabGreatPtaQa
import Derived.Test.YtbekjpkcicjcgabGreatLw2
namespace Go.Proofs.YtbekjpkcicjcgabGreat
open Go.RowKit
structure PcN (a b c d:Int) (q:Xm) (g:Int):Prop where
 pos:0<g
 ea:a=g*q.a
 eb:b=g*q.b
 ec:c=g*q.c
 ed:d=g*q.d
 ok:XM q=true
 ba : -10000000000<=q.a/\q.a<=10000000000
 bb : -10000000000<=q.b/\q.b<=10000000000
 bc : -10000000000<=q.c/\q.c<=10000000000
 bd:1<=q.d/\q.d<=10000000000
theorem pieceN_ok {a b c d:Int} (h:PcB a b c d) (hd:0<d):PcN a b c d (pieceN a b c d) ((Xh [a,b,c,d]:Nat):Int):=by
 have G:=pcG h;have e:Xh [a,b,c,d]=Nat.gcd (Nat.gcd (Nat.gcd a.natAbs b.natAbs) c.natAbs) d.natAbs:=gcd4 a b c d;have v4:Xh [a,b,c,d] ∣ d.natAbs:=by rw [e];exact Nat.gcd_dvd_right _ _
 have w3:Xh [a,b,c,d] ∣ Nat.gcd (Nat.gcd a.natAbs b.natAbs) c.natAbs:=by rw [e];exact Nat.gcd_dvd_left _ _
 have v3:Xh [a,b,c,d] ∣ c.natAbs:=Nat.dvd_trans w3 (Nat.gcd_dvd_right _ _);have w2:Xh [a,b,c,d] ∣ Nat.gcd a.natAbs b.natAbs:=Nat.dvd_trans w3 (Nat.gcd_dvd_left _ _);have v2:Xh [a,b,c,d] ∣ b.natAbs:=Nat.dvd_trans w2 (Nat.gcd_dvd_right _ _);have v1:Xh [a,b,c,d] ∣ a.natAbs:=Nat.dvd_trans w2 (Nat.gcd_dvd_left _ _);have g1:=G.g;have f1:=G.fa;have f2:=G.fb;have f3:=G.fc;have f4:=G.fd;clear G;generalize hg:Xh [a,b,c,d]=g at *;have div:∀ {x:Int},g ∣ x.natAbs->x=(g:Int)*x.tdiv g:=λ{x} hx=>(Int.mul_tdiv_cancel' (Int.ofNat_dvd_left.2 hx)).symm;have abs:∀ x:Int,(x.tdiv (g:Int)).natAbs=x.natAbs / g:=λ x=>natAbs_tdiv x g;have hp:0<g:=by omega
 have e4:=div v4;have dpos:1<=d.tdiv (g:Int):=by
  have:=gmp (a:=(g:Int)) (b:=d.tdiv (g:Int)) (by rw [<- e4];exact hd) (by omega);omega
 have q1:Nat.gcd (Nat.gcd (Nat.gcd (a.natAbs / g) (b.natAbs / g)) (c.natAbs / g)) (d.natAbs / g)=1:=by
  rw [Nat.gcd_div v1 v2,Nat.gcd_div w2 v3,Nat.gcd_div w3 v4,<- e];exact Nat.div_self hp
 have gc:Xh [a.tdiv (g:Int),b.tdiv (g:Int),c.tdiv (g:Int),d.tdiv (g:Int)]=1:=by
  rw [gcd4,abs,abs,abs,abs];exact q1
 have ok:XM (pieceN a b c d)=true:=by
  unfold pieceN;rw [hg];exact Ka.2 ⟨⟨by simp only;omega,by simp only;omega⟩,⟨by simp only;omega,by simp only;omega⟩,⟨by simp only;omega,by simp only;omega⟩,⟨by simp only;omega,by simp only;omega⟩,gc⟩
 have un:pieceN a b c d=⟨a.tdiv (g:Int),b.tdiv (g:Int),c.tdiv (g:Int),d.tdiv (g:Int)⟩:=by unfold pieceN;rw [hg]
 rw [un] at ok ⊢;exact ⟨by omega,div v1,div v2,div v3,e4,ok,f1,f2,f3,⟨dpos,f4.2⟩⟩
theorem pieceM_ok {a b c d:Int} (h:PcB a b c d):∃ g,PcN (if d<0 then -a else a) (if d<0 then -b else b) (if d<0 then -c else c) (if d<0 then -d else d) (K9 a b c d) g:=by
 unfold K9;have nz:=h.nz;by_cases hd:d<0
 ·rw [if_pos hd,if_pos hd,if_pos hd,if_pos hd,if_pos hd];exact ⟨_,pieceN_ok h.neg (by omega)⟩
 ·rw [if_neg hd,if_neg hd,if_neg hd,if_neg hd,if_neg hd];exact ⟨_,pieceN_ok h (by omega)⟩
theorem JC {a b c d:Int} {q:Xm} {g x y:Int} (P:PcN a b c d q g) (hs:XP ⟨x,y,1⟩=true) {n e:Int}:XE (XC q ⟨x,y,1⟩)=true/\((XC q ⟨x,y,1⟩).n*e<=n*(XC q ⟨x,y,1⟩).d ↔ (a*x+b*y+c)*e<=n*d)/\(n*(XC q ⟨x,y,1⟩).d<=(XC q ⟨x,y,1⟩).n*e ↔ n*d<=(a*x+b*y+c)*e):=by
 have S:=ZO.1 hs;simp only at S;have ba:=P.ba;have bb:=P.bb;have bc:=P.bc;have bd:=P.bd;have m1:=JE (a:=q.a) (b:=x) (A:=10000000000) (B:=1000) ⟨by omega,by omega⟩ ⟨by omega,by omega⟩;have m2:=JE (a:=q.b) (b:=y) (A:=10000000000) (B:=1000) ⟨by omega,by omega⟩ ⟨by omega,by omega⟩;have ev:XC q ⟨x,y,1⟩=X6 (q.a*x+q.b*y+q.c) q.d:=by
  unfold XC Kv;rw [if_pos ⟨P.ok,hs⟩,if_neg (by simp only;omega)];simp only [Int.mul_one]
 obtain ⟨h1,h2,h3⟩:=of_le (t:=q.a*x+q.b*y+q.c) (d:=q.d) (n:=n) (e:=e) ⟨by omega,by omega⟩ ⟨by omega,by omega⟩;rw [ev];refine ⟨h1, ?_, ?_⟩
 ·rw [h2,P.ea,P.eb,P.ec,P.ed];have e1:(g*q.a*x+g*q.b*y+g*q.c)*e=(q.a*x+q.b*y+q.c)*e*g:=by grind
  have e2:n*(g*q.d)=n*q.d*g:=by grind
  rw [e1,e2];exact ⟨λ k=>Int.mul_le_mul_of_nonneg_right k (by have:=P.pos;omega),λ k=>le_cancel P.pos k⟩
 ·rw [h3,P.ea,P.eb,P.ec,P.ed];have e1:(g*q.a*x+g*q.b*y+g*q.c)*e=(q.a*x+q.b*y+q.c)*e*g:=by grind
  have e2:n*(g*q.d)=n*q.d*g:=by grind
  rw [e1,e2];exact ⟨λ k=>Int.mul_le_mul_of_nonneg_right k (by have:=P.pos;omega),λ k=>le_cancel P.pos k⟩
structure PcV (r:XK) (h:Half) (x y:Int):Prop where
 ok:XM (pcM r h)=true
 val:XE (XC (pcM r h) ⟨x,y,1⟩)=true
 hi:0<XH r h->∀ n e,0<e->(n*(XC (pcM r h) ⟨x,y,1⟩).d<=(XC (pcM r h) ⟨x,y,1⟩).n*e ↔ AdmH r ⟨x,y,1⟩ h n e)
 lo:XH r h<0->∀ n e,0<e->((XC (pcM r h) ⟨x,y,1⟩).n*e<=n*(XC (pcM r h) ⟨x,y,1⟩).d ↔ AdmH r ⟨x,y,1⟩ h n e)
theorem pcM_val {r:XK} {h:Half} {x y:Int} (hr:XG r=true) (hh:Xq h=true) (hz:XH r h≠0) (hs:XP ⟨x,y,1⟩=true):PcV r h x y:=by
 have B:=(lwB hr hh).p hz;have D:=(roomB hr).div;obtain ⟨g,P⟩:=pieceM_ok B;have sg:r.div*XH r h<0 ↔ XH r h<0:=by
  constructor
  ·intro k;by_cases hc:XH r h<0
   ·exact hc
   ·have:=Int.mul_nonneg (show 0<=r.div by omega) (show 0<=XH r h by omega);omega
  ·intro k;have:=Int.mul_lt_mul_of_pos_left k (show 0<r.div by omega);rw [Int.mul_zero] at this;exact this
 have top:topA r ⟨x,y,1⟩ h = -(h.a*r.map.getD 0 0+h.b*r.map.getD 2 0)*x + -(h.a*r.map.getD 1 0+h.b*r.map.getD 3 0)*y+h.c*r.div:=by
  unfold topA mapX mapY Z7;simp only [Int.mul_one];grind
 refine ⟨P.ok,(JC (n:=0) (e:=0) P hs).1,λ hp n e he=>?_,λ hn n e he=>?_⟩
 ·have V:=(JC (n:=n) (e:=e) P hs).2.2;have hd:¬ r.div*XH r h<0:=λ k=>by have:=sg.1 k;omega
  rw [if_neg hd,if_neg hd,if_neg hd,if_neg hd] at V;show n*(XC (K9 _ _ _ _) ⟨x,y,1⟩).d<=(XC (K9 _ _ _ _) ⟨x,y,1⟩).n*e ↔ _;rw [V];unfold AdmH;rw [top];unfold Z7;simp only [Int.mul_one];have e1:n*(r.div*XH r h)=XH r h*n*r.div:=by grind
  rw [e1]
 ·have V:=(JC (n:=n) (e:=e) P hs).2.1;have hd:r.div*XH r h<0:=sg.2 hn;rw [if_pos hd,if_pos hd,if_pos hd,if_pos hd] at V;show (XC (K9 _ _ _ _) ⟨x,y,1⟩).n*e<=n*(XC (K9 _ _ _ _) ⟨x,y,1⟩).d ↔ _;rw [V];unfold AdmH;rw [top];unfold Z7;simp only [Int.mul_one];have e1:n * -(r.div*XH r h) = -(XH r h*n*r.div):=by grind
  have e2:(- -(h.a*r.map.getD 0 0+h.b*r.map.getD 2 0)*x + - -(h.a*r.map.getD 1 0+h.b*r.map.getD 3 0)*y + -(h.c*r.div))*e = -((-(h.a*r.map.getD 0 0+h.b*r.map.getD 2 0)*x + -(h.a*r.map.getD 1 0+h.b*r.map.getD 3 0)*y+h.c*r.div)*e):=by grind
  rw [e1,e2];omega
def negS (r:XK) (h:Half):Bool:=decide (XH r h<0)
def posS (r:XK) (h:Half):Bool:=decide (0<XH r h)
structure LawQ (r:XK) (p E:List Half) (lo hi:List Xm) (l:KS):Prop where
 lows:l.lows=lo++(E.filter (negS r)).map (pcM r)
 highs:l.highs=hi++(E.filter (posS r)).map (pcM r)
 flat:∀ h∈E,XH r h=0->covB p (pulH r.map r.div h)=true
theorem lw_list {r:XK} {p:List Half}:∀ (E:List Half) (lo hi:List Xm) (l:KS),E.foldl (lwF r p) (some ⟨lo,hi⟩)=some l->LawQ r p E lo hi l
 | [],lo,hi,l,e=>by
  injection e with e
  subst e;exact ⟨by simp,by simp,λ h hh=>by cases hh⟩
 | h :: E,lo,hi,l,e=>by
  rw [List.foldl_cons] at e;by_cases h1:XH r h > 0
  ·rw [lwF_hi h1] at e;obtain ⟨a,b,c⟩:=lw_list E _ _ l e;refine ⟨?_, ?_,λ k hk hz=>?_⟩
   ·rw [a,List.filter_cons_of_neg (by unfold negS;simp;omega)]
   ·rw [b,List.filter_cons_of_pos (by unfold posS;simp;omega),List.map_cons,List.append_assoc];rfl
   ·rcases List.mem_cons.1 hk with rfl|hk
    ·omega
    ·exact c k hk hz
  ·by_cases h2:XH r h<0
   ·rw [lwF_lo h2] at e;obtain ⟨a,b,c⟩:=lw_list E _ _ l e;refine ⟨?_, ?_,λ k hk hz=>?_⟩
    ·rw [a,List.filter_cons_of_pos (by unfold negS;simp;omega),List.map_cons,List.append_assoc];rfl
    ·rw [b,List.filter_cons_of_neg (by unfold posS;simp;omega)]
    ·rcases List.mem_cons.1 hk with rfl|hk
     ·omega
     ·exact c k hk hz
   ·by_cases h3:covB p (pulH r.map r.div h)=true
    ·rw [lwF_eq h1 h2 h3] at e;obtain ⟨a,b,c⟩:=lw_list E _ _ l e;refine ⟨?_, ?_,λ k hk hz=>?_⟩
     ·rw [a,List.filter_cons_of_neg (by unfold negS;simp;omega)]
     ·rw [b,List.filter_cons_of_neg (by unfold posS;simp;omega)]
     ·rcases List.mem_cons.1 hk with rfl|hk
      ·exact h3
      ·exact c k hk hz
    ·rw [lwF_no h1 h2 (by simpa using h3),lwF_none] at e;cases e
theorem cmp_tr {a b c:Yu} (ha:XE a=true) (hb:XE b=true) (hc:XE c=true) (h1:X7 a b<=0) (h2:X7 b c<=0):X7 a c<=0:=by
 have p1:=Ji ha;have p2:=Ji hb;have p3:=Ji hc;exact (cmp_le ha hc).2 (ZG (a:=a.n) (b:=a.d) (c:=b.n) (d:=b.d) (e:=c.n) (f:=c.d) (by omega) (by omega) (by omega) ((cmp_le ha hb).1 h1) ((cmp_le hb hc).1 h2))
theorem cmp_anti {a b:Yu} (ha:XE a=true) (hb:XE b=true) (h:¬ X7 a b<0):X7 b a<=0:=by
 refine (cmp_le hb ha).2 ?_;rw [cmp_def ha hb] at h;have h2:¬ a.n*b.d-b.n*a.d<0:=λ k=>h (by unfold sgn;rw [if_pos k];decide);omega
theorem best_max {val:Nat->Yu}:∀ n:Nat,(∀ i,i<n+1->XE (val i)=true)->∃ j,j<n+1/\JX val 1 (n+1)=((j:Int),val j)/\∀ i,i<n+1->X7 (val i) (val j)<=0
 | 0,h=>by
  refine ⟨0,by omega,by rw [JX,if_pos (.inl (by rw [JX];decide))],λ i hi=>?_⟩;rw [show i=0 by omega];exact (cmp_le (h 0 (by omega)) (h 0 (by omega))).2 (Int.le_refl _)
 | n+1,h=>by
  obtain ⟨j,hj,e,hm⟩:=best_max n (λ i hi=>h i (by omega));rw [JX,e];simp only;have o1:=h (n+1) (by omega);have oj:=h j (by omega);by_cases hc:(j:Int)<0∨0<1*X7 (val (n+1)) (val j)
  ·rw [if_pos hc];have hlt:0<X7 (val (n+1)) (val j):=by omega
   have hle:X7 (val j) (val (n+1))<=0:=cmp_anti o1 oj (by omega);refine ⟨n+1,by omega,rfl,λ i hi=>?_⟩;by_cases hk:i=n+1
   ·rw [hk];exact (cmp_le o1 o1).2 (Int.le_refl _)
   ·exact cmp_tr (h i hi) oj o1 (hm i (by omega)) hle
  ·rw [if_neg hc];refine ⟨j,by omega,rfl,λ i hi=>?_⟩;by_cases hk:i=n+1
   ·rw [hk];omega
   ·exact hm i (by omega)
theorem best_min {val:Nat->Yu}:∀ n:Nat,(∀ i,i<n+1->XE (val i)=true)->∃ j,j<n+1/\JX val (-1) (n+1)=((j:Int),val j)/\∀ i,i<n+1->X7 (val j) (val i)<=0
 | 0,h=>by
  refine ⟨0,by omega,by rw [JX,if_pos (.inl (by rw [JX];decide))],λ i hi=>?_⟩;rw [show i=0 by omega];exact (cmp_le (h 0 (by omega)) (h 0 (by omega))).2 (Int.le_refl _)
 | n+1,h=>by
  obtain ⟨j,hj,e,hm⟩:=best_min n (λ i hi=>h i (by omega));rw [JX,e];simp only;have o1:=h (n+1) (by omega);have oj:=h j (by omega);by_cases hc:(j:Int)<0∨0 < -1*X7 (val (n+1)) (val j)
  ·rw [if_pos hc];have hle:X7 (val (n+1)) (val j)<=0:=by omega
   refine ⟨n+1,by omega,rfl,λ i hi=>?_⟩;by_cases hk:i=n+1
   ·rw [hk];exact (cmp_le o1 o1).2 (Int.le_refl _)
   ·exact cmp_tr o1 oj (h i hi) hle (hm i (by omega))
  ·rw [if_neg hc];refine ⟨j,by omega,rfl,λ i hi=>?_⟩;by_cases hk:i=n+1
   ·rw [hk];exact cmp_anti o1 oj (by omega)
   ·exact hm i (by omega)
end Go.Proofs.YtbekjpkcicjcgabGreat
