/-
 MostDistant: of the program and of the reference.
 Conditions: the slices hold at most 2^20 elements.
-/
import Derived.Test.YtdncnhcffbgjhaaGreatGrA
import Derived.Test.YtdncnhcffbgjhaaGreatGrG
import Derived.Test.YtdncnhcffbgjhaaGreatGrE
import Derived.Test.YtdncnhcffbgjhaaGreatGrS
namespace Go.Proofs.YtdncnhcffbgjhaaGreat
open Go.RowKit
def sp0:Spot:=⟨0,0,0⟩
def farNum (xs:List Spot) (a b:Int) (k:Nat):Int:=a*(xs.getD k sp0).x+b*(xs.getD k sp0).y
def farDen (xs:List Spot) (k:Nat):Int:=(xs.getD k sp0).d
/-- The first most distant one of the first k points: its number and the two parts of its value. -/
def farAt (xs:List Spot) (a b:Int):Nat→Int × Int × Int
 | 0=>(-1,0,0)
 | k+1=>if (farAt xs a b k).1<0∨0<cmpF (farNum xs a b k) (farDen xs k) (farAt xs a b k).2.1 (farAt xs a b k).2.2 then ((k:Int),farNum xs a b k,farDen xs k) else farAt xs a b k
def farAll (xs:List Spot):Bool:=(List.range xs.length).all fun k=>spotOk (xs.getD k sp0)
def mostDistant (xs:List Spot) (a b:Int):Int:=if inR a (-1000) 1000=true∧inR b (-1000) 1000=true∧farAll xs=true then (farAt xs a b xs.length).1 else -1
theorem far_get {xs:List Spot} {k:Nat} (h:k<xs.length):xs.getD k sp0=xs[k]:=by
 rw [List.getD_eq_getElem?_getD,List.getElem?_eq_getElem h];rfl
theorem farAt_yes {xs:List Spot} {a b:Int} {k:Nat} (h:(farAt xs a b k).1<0∨0<cmpF (farNum xs a b k) (farDen xs k) (farAt xs a b k).2.1 (farAt xs a b k).2.2):farAt xs a b (k+1)=((k:Int),farNum xs a b k,farDen xs k):=by
 rw [farAt,if_pos h]
theorem farAt_no {xs:List Spot} {a b:Int} {k:Nat} (h:¬((farAt xs a b k).1<0∨0<cmpF (farNum xs a b k) (farDen xs k) (farAt xs a b k).2.1 (farAt xs a b k).2.2)):farAt xs a b (k+1)=farAt xs a b k:=by
 rw [farAt,if_neg h]
/-- Bounds of a value's parts. -/
structure FarB (q:Spot) (a b:Int):Prop where
 x : -5000000000000000≤a*q.x∧a*q.x≤5000000000000000
 y : -5000000000000000≤b*q.y∧b*q.y≤5000000000000000
 d:1≤q.d∧q.d≤5000000000
/-- The stored value of the reference. -/
def farR (p:Int × Int × Int):Ratio:=if p.1<0 then ratio0 else ratioOf p.2.1 p.2.2
theorem farR_new (k:Nat) (n d:Int):farR ((k:Int),n,d)=ratioOf n d:=if_neg (by simp only;omega)
end Go.Proofs.YtdncnhcffbgjhaaGreat
