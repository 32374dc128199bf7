/-
 Distances of records, LeastError and IsConsistent: of the program and of the reference.
 Conditions: the slice reads as a list of at most 2^20 records.
-/
import Derived.Test.YtkjimfapbjdafaaGreatGrF
import Derived.Test.YtkjimfapbjdafaaGreatGrE
import Derived.Test.YtkjimfapbjdafaaGreatGrG
import Derived.Deep.RegionHeld3
import Derived.Deep.DeepCutAuto
import Derived.Deep.DeepMust
import Derived.Test.YtkjimfapbjdafaaGreatGrA
section
namespace Go.Proofs.YtkjimfapbjdafaaGreat
open Go.RowKit
def distR (x:Z7) (s:XJ):Int:=max (s.x*x.before+s.y*x.input-100*x.after*s.d) (-(s.x*x.before+s.y*x.input-100*x.after*s.d))
def areParams (s:XJ):Bool:=X9 s&&decide (s.d≤1000)
def maxDist (xs:List Z7) (s:XJ):Int:=xs.foldl (fun m x=>max m (distR x s)) 0
structure ParB (s:XJ):Prop where
 d:1≤s.d∧s.d≤1000
 x : -1000000≤s.x∧s.x≤1000000
 y : -1000000≤s.y∧s.y≤1000000
structure DisB (x:Z7) (s:XJ):Prop where
 p : -1000000000≤s.x*x.before∧s.x*x.before≤1000000000
 q : -1000000000≤s.y*x.input∧s.y*x.input≤1000000000
 r : -100000000≤100*x.after*s.d∧100*x.after*s.d≤100000000
theorem mulB {a b A B:Int} (hA : -A≤a∧a≤A) (hB : -B≤b∧b≤B) : -(A*B)≤a*b∧a*b≤A*B:=by
 have h1:0≤(A-a)*(B-b):=Int.mul_nonneg (by omega) (by omega)
 have h2:0≤(A+a)*(B+b):=Int.mul_nonneg (by omega) (by omega)
 have h3:0≤(A-a)*(B+b):=Int.mul_nonneg (by omega) (by omega)
 have h4:0≤(A+a)*(B-b):=Int.mul_nonneg (by omega) (by omega)
 rw [Int.sub_mul,Int.mul_sub,Int.mul_sub] at h1
 rw [Int.add_mul,Int.mul_add,Int.mul_add] at h2
 rw [Int.sub_mul,Int.mul_add,Int.mul_add] at h3
 rw [Int.add_mul,Int.mul_sub,Int.mul_sub] at h4
 omega
def leastOk (xs:List Z7) (s:XJ):Bool:=recordsOk xs&&areParams s
def leastError (xs:List Z7) (s:XJ):Yd:=if leastOk xs s=true then XG (maxDist xs s) (100*s.d) else YW
def isConsistent (xs:List Z7) (err:Int) (s:XJ):Bool:=leastOk xs s&&YR err 0 1000&&decide (maxDist xs s≤100*err*s.d)
end Go.Proofs.YtkjimfapbjdafaaGreat
end
section
namespace Go.Proofs.YtkjimfapbjdafaaGreat
open Go.RowKit
end Go.Proofs.YtkjimfapbjdafaaGreat
end
section
namespace Go.Proofs.YtkjimfapbjdafaaGreat
open Go.RowKit
end Go.Proofs.YtkjimfapbjdafaaGreat
end
section
namespace Go.Proofs.YtkjimfapbjdafaaGreat
open Go.RowKit
end Go.Proofs.YtkjimfapbjdafaaGreat
end
section
namespace Go.Proofs.YtkjimfapbjdafaaGreat
open Go.RowKit
theorem sgn_le {x:Int}:sgn x≤0 ↔ x≤0:=by unfold sgn;split<;>(try split)<;>omega
end Go.Proofs.YtkjimfapbjdafaaGreat
end
namespace Go.Proofs.YtkjimfapbjdafaaGreat
open Go.RowKit
def Zb:XJ:=⟨0,0,0⟩
def farNum (xs:List XJ) (a b:Int) (k:Nat):Int:=a*(xs.getD k Zb).x+b*(xs.getD k Zb).y
def farDen (xs:List XJ) (k:Nat):Int:=(xs.getD k Zb).d
/-- The first most distant one of the first k points: its number and the two parts of its value. -/
def ZM (xs:List XJ) (a b:Int):Nat→Int × Int × Int
 | 0=>(-1,0,0)
 | k+1=>if (ZM xs a b k).1<0∨0<ZX (farNum xs a b k) (farDen xs k) (ZM xs a b k).2.1 (ZM xs a b k).2.2 then ((k:Int),farNum xs a b k,farDen xs k) else ZM xs a b k
def farAll (xs:List XJ):Bool:=(List.range xs.length).all fun k=>X9 (xs.getD k Zb)
def mostDistant (xs:List XJ) (a b:Int):Int:=if YR a (-1000) 1000=true∧YR b (-1000) 1000=true∧farAll xs=true then (ZM xs a b xs.length).1 else -1
theorem far_get {xs:List XJ} {k:Nat} (h:k<xs.length):xs.getD k Zb=xs[k]:=by
 rw [List.getD_eq_getElem?_getD,List.getElem?_eq_getElem h];rfl
theorem farAt_yes {xs:List XJ} {a b:Int} {k:Nat} (h:(ZM xs a b k).1<0∨0<ZX (farNum xs a b k) (farDen xs k) (ZM xs a b k).2.1 (ZM xs a b k).2.2):ZM xs a b (k+1)=((k:Int),farNum xs a b k,farDen xs k):=by
 rw [ZM,if_pos h]
theorem farAt_no {xs:List XJ} {a b:Int} {k:Nat} (h:¬((ZM xs a b k).1<0∨0<ZX (farNum xs a b k) (farDen xs k) (ZM xs a b k).2.1 (ZM xs a b k).2.2)):ZM xs a b (k+1)=ZM xs a b k:=by
 rw [ZM,if_neg h]
/-- Bounds of a value's parts. -/
structure FarB (q:XJ) (a b:Int):Prop where
 x : -5000000000000000≤a*q.x∧a*q.x≤5000000000000000
 y : -5000000000000000≤b*q.y∧b*q.y≤5000000000000000
 d:1≤q.d∧q.d≤5000000000
/-- The stored value of the reference. -/
def farR (p:Int × Int × Int):Yd:=if p.1<0 then YW else XG p.2.1 p.2.2
theorem farR_new (k:Nat) (n d:Int):farR ((k:Int),n,d)=XG n d:=if_neg (by simp only;omega)
end Go.Proofs.YtkjimfapbjdafaaGreat
