/-
 The functions on records: what they return.
 Conditions: the slice reads as a list of at most 2^20 records.
-/
import Derived.Test.YtdncnhcffbgjhaaGreatGrC
import Derived.Test.YtdncnhcffbgjhaaGreatGrA
import Derived.Test.YtdncnhcffbgjhaaGreatGrD
section
namespace Go.Proofs.YtdncnhcffbgjhaaGreat
open Go.RowKit
def recOk (x:Record):Bool:=inR x.before (-1000) 1000&&inR x.input (-1000) 1000&&inR x.after (-1000) 1000
def recordsOk (xs:List Record):Bool:=xs.all recOk&&decide (xs.length≤12)
end Go.Proofs.YtdncnhcffbgjhaaGreat
end
section
namespace Go.Proofs.YtdncnhcffbgjhaaGreat
open Go.RowKit
theorem red3 {a b c:Int} (h:0<gcdAll [a,b,c]):gcdAll [a.tdiv (gcdAll [a,b,c]),b.tdiv (gcdAll [a,b,c]),c.tdiv (gcdAll [a,b,c])]=1:=by
 have e:=gcd3 a b c
 rw [gcd3 (a.tdiv _)]
 simp only [natAbs_tdiv]
 generalize gcdAll [a,b,c]=g at *
 have d1:g ∣ a.natAbs:=by rw [e];exact Nat.dvd_trans (Nat.gcd_dvd_left _ _) (Nat.gcd_dvd_left _ _)
 have d2:g ∣ b.natAbs:=by rw [e];exact Nat.dvd_trans (Nat.gcd_dvd_left _ _) (Nat.gcd_dvd_right _ _)
 have d3:g ∣ c.natAbs:=by rw [e];exact Nat.gcd_dvd_right _ _
 rw [Nat.gcd_div d1 d2,Nat.gcd_div (Nat.dvd_gcd d1 d2) d3,← e]
 exact Nat.div_self h
def recH1 (x:Record) (err:Int):Half:=redHalf x.before x.input (100*(x.after+err))
def recH2 (x:Record) (err:Int):Half:=redHalf (-x.before) (-x.input) (100*(err-x.after))
def recordHalves (x:Record) (err:Int):List Half :=
 if recOk x=true∧inR err 0 1000=true∧¬(x.before=0∧x.input=0) then [recH1 x err,recH2 x err] else []
end Go.Proofs.YtdncnhcffbgjhaaGreat
end
section
namespace Go.Proofs.YtdncnhcffbgjhaaGreat
open Go.RowKit
end Go.Proofs.YtdncnhcffbgjhaaGreat
end
