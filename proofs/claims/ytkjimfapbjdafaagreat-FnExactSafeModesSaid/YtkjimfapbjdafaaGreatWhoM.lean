/-
 The number of the whole inputs of a span: the two ways of asking whether both ends are inputs agree.
 Conditions: none.
-/
import Derived.Test.YtkjimfapbjdafaaGreatAdmD
import Derived.Test.YtkjimfapbjdafaaGreatNextM
namespace Go.Proofs.YtkjimfapbjdafaaGreat
open Go.RowKit
def whoN (w:YX):Int:=if (Xv w&&Y3 w.low&&Y3 w.high)=true then max (Yp w.high-YL w.low+1) 0 else 0
theorem sgn_lt0 {x:Int}:sgn x<0 ↔ x<0:=by
 unfold sgn;split
 ·omega
 ·split<;>omega
theorem sgn_gt0 {x:Int}:sgn x > 0 ↔ x > 0:=by
 unfold sgn;split
 ·omega
 ·split<;>omega
theorem who_ends {l h:Yd} (hl:Xp l=true) (hh:Xp h=true) (hc:Xq l h≤0):(Y3 l&&Y3 h) = !(decide (Xq l ⟨-1000,1⟩<0)||decide (Xq h ⟨1000,1⟩ > 0)):=by
 have a1:=(Y7.1 hl).1
 have b1:=(Y7.1 hh).1
 rw [cmp_def hl hh] at hc
 have hc2:¬ l.n*h.d-h.n*l.d > 0:=fun q=>by have:=sgn_gt0.2 q;omega
 rw [cmp_def hl (whole_ok (n:=-1000) (by omega)),cmp_def hh (whole_ok (n:=1000) (by omega))]
 have up:h.n≤1000*h.d→l.n≤1000*l.d:=by
  intro q
  rcases Int.lt_or_le (1000*l.d) l.n with g|g
  ·have m1:(1000*l.d+1)*h.d≤l.n*h.d:=Int.mul_le_mul_of_nonneg_right (by omega) (by omega)
   have m2:h.n*l.d≤1000*h.d*l.d:=Int.mul_le_mul_of_nonneg_right q (by omega)
   have m3:1000*h.d*l.d=1000*l.d*h.d:=by rw [Int.mul_right_comm]
   rw [Int.add_mul,Int.one_mul] at m1
   omega
  ·exact g
 have dn : -1000*l.d≤l.n→-1000*h.d≤h.n:=by
  intro q
  rcases Int.lt_or_le h.n (-1000*h.d) with g|g
  ·have m1:h.n*l.d≤(-1000*h.d-1)*l.d:=Int.mul_le_mul_of_nonneg_right (by omega) (by omega)
   have m2 : -1000*l.d*h.d≤l.n*h.d:=Int.mul_le_mul_of_nonneg_right q (by omega)
   have m3 : -1000*h.d*l.d = -1000*l.d*h.d:=by rw [Int.mul_right_comm]
   rw [Int.sub_mul,Int.one_mul] at m1
   omega
  ·exact g
 have e1:decide (sgn (l.n*1 - -1000*l.d)<0)=decide (l.n < -1000*l.d):=decide_eq_decide.2 (sgn_lt0.trans (by omega))
 have e2:decide (sgn (h.n*1-1000*h.d) > 0)=decide (h.n > 1000*h.d):=decide_eq_decide.2 (sgn_gt0.trans (by omega))
 simp only at e1 e2 ⊢
 rw [e1,e2]
 unfold Y3
 rw [hl,hh,Bool.true_and,Bool.true_and]
 rcases Int.lt_or_le l.n (-1000*l.d) with g1|g1
 ·have:YR l.n (-1000*l.d) (1000*l.d)=false:=by
   cases q:YR l.n (-1000*l.d) (1000*l.d)
   ·rfl
   ·have:=YT.1 q;omega
  rw [this,decide_eq_true g1];rfl
 ·rcases Int.lt_or_le (1000*h.d) h.n with g2|g2
  ·have:YR h.n (-1000*h.d) (1000*h.d)=false:=by
    cases q:YR h.n (-1000*h.d) (1000*h.d)
    ·rfl
    ·have:=YT.1 q;omega
   rw [this,decide_eq_true g2,Bool.and_false,Bool.or_true];rfl
  ·have u:=up g2
   have d:=dn g1
   rw [YT.2 ⟨g1,u⟩,YT.2 ⟨d,g2⟩,decide_eq_false (by omega),decide_eq_false (by omega)];rfl
theorem who_s {w:YX}:whoN w=if (!(Xv w)||decide (Xq w.low ⟨-1000,1⟩<0)||decide (Xq w.high ⟨1000,1⟩ > 0))=true then 0 else max 0 (Yp w.high-YL w.low+1):=by
 unfold whoN
 rcases Bool.eq_false_or_eq_true (Xv w) with h|h
 ·have hs:=h
  unfold Xv at hs
  simp only [Bool.and_eq_true,decide_eq_true_eq] at hs
  have e:=who_ends hs.1.1 hs.1.2 hs.2
  rw [h,Bool.true_and,e]
  rcases Bool.eq_false_or_eq_true (decide (Xq w.low ⟨-1000,1⟩<0)||decide (Xq w.high ⟨1000,1⟩ > 0)) with g|g
  ·rw [g,if_neg (by simp),if_pos (by simpa using g)]
  ·rw [g,if_pos (by simp),if_neg (by simpa using g),Int.max_comm]
 ·rw [h,if_neg (by simp),if_pos (by simp)]
end Go.Proofs.YtkjimfapbjdafaaGreat
