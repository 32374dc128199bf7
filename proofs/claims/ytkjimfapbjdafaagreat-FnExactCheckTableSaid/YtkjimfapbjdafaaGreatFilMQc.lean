/-
 The cells of a filled table, row by row and one by one.
 Conditions: none.
-/
import Derived.Test.YtkjimfapbjdafaaGreatAdmDQc
import Derived.Test.YtkjimfapbjdafaaGreatVdQc
namespace Go.Proofs.YtkjimfapbjdafaaGreat
open Go.RowKit
def XO (r:XT) (p e:List Half) (t:Jp) (i j:Int):Option YY:=accH (Zy p) (XC r e) (Xa t i j) 4
theorem spanC_eq (r:XT) (p e:List Half) (t:Jp) (i j:Int):XO r p e t i j=if (Xa t i j).all (Zy p)=true then KG (XC r e) (Xa t i j) 4 else none:=by
 unfold XO;rw [accH_eq 4 (by simp [Xa])];rfl
theorem wh_gcd (x y:Int):Xs [x,y,1]=1:=by
 obtain ⟨_,_,h⟩:=@gcdAll_dvd x y 1;have:=Int.natAbs_dvd_natAbs.2 h;simp at this;exact this
theorem wh_ok {x y:Int} (hx : -1000<=x/\x<=1000) (hy : -1000<=y/\y<=1000):Yj ⟨x,y,1⟩=true:=by
 unfold Yj;rw [wh_gcd];simp [Zc];omega
theorem cel_cnr {t:Jp} {i j:Int} (h1:ZI t=true) (h2:Jb t i j=true):CellB t i j/\∀ s∈Xa t i j,Yj s=true/\s.d=1:=by
 have hb:=cellB_bd h1 h2;refine ⟨hb, ?_⟩;obtain ⟨g1,g2,g3,g4,g5,_,g7,g8⟩:=KL.1 h1;simp only [Jb,Bool.and_eq_true,decide_eq_true_eq] at h2;have m1:(i+1)*t.step<=t.nx*t.step:=Int.mul_le_mul_of_nonneg_right (by omega) (by omega);have m2:(j+1)*t.step<=t.ny*t.step:=Int.mul_le_mul_of_nonneg_right (by omega) (by omega);rw [Int.add_mul,Int.one_mul] at m1 m2;have b1:=hb.is;have b2:=hb.js;intro s hs;simp only [Xa,List.mem_cons,List.not_mem_nil,or_false] at hs;rcases hs with rfl|rfl|rfl|rfl<;>exact ⟨wh_ok ⟨by omega,by omega⟩ ⟨by omega,by omega⟩,rfl⟩
theorem rob_void {r:XT} {p:List Half} (h:(!(Zo r p)||decide ((Yi r p).length=0))=false):Yf r p=true:=by
 cases h1:Zo r p
 ·rw [h1] at h;cases h
 ·rw [h1] at h;have h2:decide ((Yi r p).length=0)=false:=h;unfold Yf;rw [h1,h2];have:p.length≠0:=by
   intro e;have:Yi r p=[]:=by
    unfold Yi;split
    ·exact (mov_void e).2
    ·rfl
   rw [this] at h2;cases h2
  rw [decide_eq_false this];rfl
theorem rob_void2 {r:XT} {p:List Half} (h:(!(Zo r p)||decide ((Yi r p).length=0))=true):Yf r p=false:=by
 unfold Yf;cases h1:Zo r p
 ·simp
 ·rw [h1] at h;have h2:decide ((Yi r p).length=0)=true:=h;rw [h2];simp
end Go.Proofs.YtkjimfapbjdafaaGreat
