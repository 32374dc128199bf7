/-
 Distances of records, LeastError and IsConsistent: of the program and of the reference.
 Conditions: the slice reads as a list of at most 2^20 records.
-/
import Derived.Test.YtkjimfapbjdafaaGreatGrF
import Derived.Test.YtkjimfapbjdafaaGreatGrE
import Derived.Test.YtkjimfapbjdafaaGreatGrG
import Derived.Deep.RegionHeld3
import Derived.Deep.DeepCutAuto
import Derived.Deep.DeepMust
section
namespace Go.Proofs.YtkjimfapbjdafaaGreat
open Go.RowKit
def distR (x:Zf) (s:XC):Int:=max (s.x*x.before+s.y*x.input-100*x.after*s.d) (-(s.x*x.before+s.y*x.input-100*x.after*s.d))
def areParams (s:XC):Bool:=XQ s&&decide (s.d≤1000)
def maxDist (xs:List Zf) (s:XC):Int:=xs.foldl (fun m x=>max m (distR x s)) 0
structure ParB (s:XC):Prop where
 d:1≤s.d∧s.d≤1000
 x : -1000000≤s.x∧s.x≤1000000
 y : -1000000≤s.y∧s.y≤1000000
structure DisB (x:Zf) (s:XC):Prop where
 p : -1000000000≤s.x*x.before∧s.x*x.before≤1000000000
 q : -1000000000≤s.y*x.input∧s.y*x.input≤1000000000
 r : -100000000≤100*x.after*s.d∧100*x.after*s.d≤100000000
theorem mulB {a b A B:Int} (hA : -A≤a∧a≤A) (hB : -B≤b∧b≤B) : -(A*B)≤a*b∧a*b≤A*B:=by
 have h1:0≤(A-a)*(B-b):=Int.mul_nonneg (by omega) (by omega)
 have h2:0≤(A+a)*(B+b):=Int.mul_nonneg (by omega) (by omega)
 have h3:0≤(A-a)*(B+b):=Int.mul_nonneg (by omega) (by omega)
 have h4:0≤(A+a)*(B-b):=Int.mul_nonneg (by omega) (by omega)
 rw [Int.sub_mul,Int.mul_sub,Int.mul_sub] at h1
 rw [Int.add_mul,Int.mul_add,Int.mul_add] at h2
 rw [Int.sub_mul,Int.mul_add,Int.mul_add] at h3
 rw [Int.add_mul,Int.mul_sub,Int.mul_sub] at h4
 omega
def leastOk (xs:List Zf) (s:XC):Bool:=recordsOk xs&&areParams s
def leastError (xs:List Zf) (s:XC):XX:=if leastOk xs s=true then XD (maxDist xs s) (100*s.d) else Yo
def isConsistent (xs:List Zf) (err:Int) (s:XC):Bool:=leastOk xs s&&YC err 0 1000&&decide (maxDist xs s≤100*err*s.d)
end Go.Proofs.YtkjimfapbjdafaaGreat
end
section
namespace Go.Proofs.YtkjimfapbjdafaaGreat
open Go.RowKit
end Go.Proofs.YtkjimfapbjdafaaGreat
end
section
namespace Go.Proofs.YtkjimfapbjdafaaGreat
open Go.RowKit
end Go.Proofs.YtkjimfapbjdafaaGreat
end
section
namespace Go.Proofs.YtkjimfapbjdafaaGreat
open Go.RowKit
end Go.Proofs.YtkjimfapbjdafaaGreat
end
section
namespace Go.Proofs.YtkjimfapbjdafaaGreat
open Go.RowKit
end Go.Proofs.YtkjimfapbjdafaaGreat
end
