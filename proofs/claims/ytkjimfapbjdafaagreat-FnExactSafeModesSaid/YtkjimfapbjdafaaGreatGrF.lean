/-
 The functions on records: what they return.
 Conditions: the slice reads as a list of at most 2^20 records.
-/
import Derived.Test.YtkjimfapbjdafaaGreatGrC
import Derived.Test.YtkjimfapbjdafaaGreatGrA
import Derived.Test.YtkjimfapbjdafaaGreatGrD
section
namespace Go.Proofs.YtkjimfapbjdafaaGreat
open Go.RowKit
def recOk (x:Zf):Bool:=YC x.before (-1000) 1000&&YC x.input (-1000) 1000&&YC x.after (-1000) 1000
def recordsOk (xs:List Zf):Bool:=xs.all recOk&&decide (xs.length≤12)
end Go.Proofs.YtkjimfapbjdafaaGreat
end
section
namespace Go.Proofs.YtkjimfapbjdafaaGreat
open Go.RowKit
theorem red3 {a b c:Int} (h:0<Xh [a,b,c]):Xh [a.tdiv (Xh [a,b,c]),b.tdiv (Xh [a,b,c]),c.tdiv (Xh [a,b,c])]=1:=by
 have e:=gcd3 a b c
 rw [gcd3 (a.tdiv _)]
 simp only [natAbs_tdiv]
 generalize Xh [a,b,c]=g at *
 have d1:g ∣ a.natAbs:=by rw [e];exact Nat.dvd_trans (Nat.gcd_dvd_left _ _) (Nat.gcd_dvd_left _ _)
 have d2:g ∣ b.natAbs:=by rw [e];exact Nat.dvd_trans (Nat.gcd_dvd_left _ _) (Nat.gcd_dvd_right _ _)
 have d3:g ∣ c.natAbs:=by rw [e];exact Nat.gcd_dvd_right _ _
 rw [Nat.gcd_div d1 d2,Nat.gcd_div (Nat.dvd_gcd d1 d2) d3,← e]
 exact Nat.div_self h
def recH1 (x:Zf) (err:Int):Half:=redHalf x.before x.input (100*(x.after+err))
def recH2 (x:Zf) (err:Int):Half:=redHalf (-x.before) (-x.input) (100*(err-x.after))
def recordHalves (x:Zf) (err:Int):List Half :=
 if recOk x=true∧YC err 0 1000=true∧¬(x.before=0∧x.input=0) then [recH1 x err,recH2 x err] else []
end Go.Proofs.YtkjimfapbjdafaaGreat
end
section
namespace Go.Proofs.YtkjimfapbjdafaaGreat
open Go.RowKit
end Go.Proofs.YtkjimfapbjdafaaGreat
end
