/-
 The next spot of a room and a step of the loop: what both compute. No program is named here.
 Conditions: none.
-/
import Derived.Test.YtkjimfapbjdafaaGreatV4Qd
namespace Go.Proofs.YtkjimfapbjdafaaGreat
open Go.RowKit
def Y9 (u:YO):Bool:=Xq u&&Zc u.n (-1000*u.d) (1000*u.d)
def whoN (w:YY):Int:=if (Xu w&&Y9 w.low&&Y9 w.high)=true then max (Yu w.high-YP w.low+1) 0 else 0
theorem sgn_lt0 {x:Int}:sgn x<0 ↔ x<0:=by
 unfold sgn;split
 ·omega
 ·split<;>omega
theorem sgn_gt0 {x:Int}:sgn x > 0 ↔ x > 0:=by
 unfold sgn;split
 ·omega
 ·split<;>omega
theorem who_ends {l h:YO} (hl:Xq l=true) (hh:Xq h=true) (hc:Xp l h<=0):(Y9 l&&Y9 h) = !(decide (Xp l ⟨-1000,1⟩<0)||decide (Xp h ⟨1000,1⟩ > 0)):=by
 have a1:=(Y5.1 hl).1;have b1:=(Y5.1 hh).1;rw [cmp_def hl hh] at hc;have hc2:¬ l.n*h.d-h.n*l.d > 0:=λ q=>by have:=sgn_gt0.2 q;omega
 rw [cmp_def hl (whole_ok (n:=-1000) (by omega)),cmp_def hh (whole_ok (n:=1000) (by omega))];have up:h.n<=1000*h.d->l.n<=1000*l.d:=by
  intro q;rcases Int.lt_or_le (1000*l.d) l.n with g|g
  ·have m1:(1000*l.d+1)*h.d<=l.n*h.d:=Int.mul_le_mul_of_nonneg_right (by omega) (by omega);have m2:h.n*l.d<=1000*h.d*l.d:=Int.mul_le_mul_of_nonneg_right q (by omega);have m3:1000*h.d*l.d=1000*l.d*h.d:=by rw [Int.mul_right_comm]
   rw [Int.add_mul,Int.one_mul] at m1;omega
  ·exact g
 have dn : -1000*l.d<=l.n->-1000*h.d<=h.n:=by
  intro q;rcases Int.lt_or_le h.n (-1000*h.d) with g|g
  ·have m1:h.n*l.d<=(-1000*h.d-1)*l.d:=Int.mul_le_mul_of_nonneg_right (by omega) (by omega);have m2 : -1000*l.d*h.d<=l.n*h.d:=Int.mul_le_mul_of_nonneg_right q (by omega);have m3 : -1000*h.d*l.d = -1000*l.d*h.d:=by rw [Int.mul_right_comm]
   rw [Int.sub_mul,Int.one_mul] at m1;omega
  ·exact g
 have e1:decide (sgn (l.n*1 - -1000*l.d)<0)=decide (l.n < -1000*l.d):=decide_eq_decide.2 (sgn_lt0.trans (by omega));have e2:decide (sgn (h.n*1-1000*h.d) > 0)=decide (h.n > 1000*h.d):=decide_eq_decide.2 (sgn_gt0.trans (by omega));simp only at e1 e2 ⊢;rw [e1,e2];unfold Y9;rw [hl,hh,Bool.true_and,Bool.true_and];rcases Int.lt_or_le l.n (-1000*l.d) with g1|g1
 ·have:Zc l.n (-1000*l.d) (1000*l.d)=false:=by
   cases q:Zc l.n (-1000*l.d) (1000*l.d)
   ·rfl
   ·have:=YT.1 q;omega
  rw [this,decide_eq_true g1];rfl
 ·rcases Int.lt_or_le (1000*h.d) h.n with g2|g2
  ·have:Zc h.n (-1000*h.d) (1000*h.d)=false:=by
    cases q:Zc h.n (-1000*h.d) (1000*h.d)
    ·rfl
    ·have:=YT.1 q;omega
   rw [this,decide_eq_true g2,Bool.and_false,Bool.or_true];rfl
  ·have u:=up g2;have d:=dn g1;rw [YT.2 ⟨g1,u⟩,YT.2 ⟨d,g2⟩,decide_eq_false (by omega),decide_eq_false (by omega)];rfl
theorem who_s {w:YY}:whoN w=if (!(Xu w)||decide (Xp w.low ⟨-1000,1⟩<0)||decide (Xp w.high ⟨1000,1⟩ > 0))=true then 0 else max 0 (Yu w.high-YP w.low+1):=by
 unfold whoN;rcases Bool.eq_false_or_eq_true (Xu w) with h|h
 ·have hs:=h;unfold Xu at hs;simp only [Bool.and_eq_true,decide_eq_true_eq] at hs;have e:=who_ends hs.1.1 hs.1.2 hs.2;rw [h,Bool.true_and,e];rcases Bool.eq_false_or_eq_true (decide (Xp w.low ⟨-1000,1⟩<0)||decide (Xp w.high ⟨1000,1⟩ > 0)) with g|g
  ·rw [g,if_neg (by simp),if_pos (by simpa using g)]
  ·rw [g,if_pos (by simp),if_neg (by simpa using g),Int.max_comm]
 ·rw [h,if_neg (by simp),if_pos (by simp)]
end Go.Proofs.YtkjimfapbjdafaaGreat
