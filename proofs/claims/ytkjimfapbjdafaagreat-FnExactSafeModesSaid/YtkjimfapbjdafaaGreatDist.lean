/-
 MostDistant: of the program and of the reference.
 Conditions: the slices hold at most 2^20 elements.
-/
import Derived.Test.YtkjimfapbjdafaaGreatGrA
import Derived.Test.YtkjimfapbjdafaaGreatGrG
import Derived.Test.YtkjimfapbjdafaaGreatGrE
import Derived.Test.YtkjimfapbjdafaaGreatGrS
namespace Go.Proofs.YtkjimfapbjdafaaGreat
open Go.RowKit
def sp0:XC:=⟨0,0,0⟩
def KX (xs:List XC) (a b:Int) (k:Nat):Int:=a*(xs.getD k sp0).x+b*(xs.getD k sp0).y
def Jk (xs:List XC) (k:Nat):Int:=(xs.getD k sp0).d
/-- The first most distant one of the first k points: its number and the two parts of its value. -/
def Y1 (xs:List XC) (a b:Int):Nat→Int × Int × Int
 | 0=>(-1,0,0)
 | k+1=>if (Y1 xs a b k).1<0∨0<Y9 (KX xs a b k) (Jk xs k) (Y1 xs a b k).2.1 (Y1 xs a b k).2.2 then ((k:Int),KX xs a b k,Jk xs k) else Y1 xs a b k
def farAll (xs:List XC):Bool:=(List.range xs.length).all fun k=>XQ (xs.getD k sp0)
def mostDistant (xs:List XC) (a b:Int):Int:=if YC a (-1000) 1000=true∧YC b (-1000) 1000=true∧farAll xs=true then (Y1 xs a b xs.length).1 else -1
theorem far_get {xs:List XC} {k:Nat} (h:k<xs.length):xs.getD k sp0=xs[k]:=by
 rw [List.getD_eq_getElem?_getD,List.getElem?_eq_getElem h];rfl
theorem farAt_yes {xs:List XC} {a b:Int} {k:Nat} (h:(Y1 xs a b k).1<0∨0<Y9 (KX xs a b k) (Jk xs k) (Y1 xs a b k).2.1 (Y1 xs a b k).2.2):Y1 xs a b (k+1)=((k:Int),KX xs a b k,Jk xs k):=by
 rw [Y1,if_pos h]
theorem farAt_no {xs:List XC} {a b:Int} {k:Nat} (h:¬((Y1 xs a b k).1<0∨0<Y9 (KX xs a b k) (Jk xs k) (Y1 xs a b k).2.1 (Y1 xs a b k).2.2)):Y1 xs a b (k+1)=Y1 xs a b k:=by
 rw [Y1,if_neg h]
/-- Bounds of a value's parts. -/
structure FarB (q:XC) (a b:Int):Prop where
 x : -5000000000000000≤a*q.x∧a*q.x≤5000000000000000
 y : -5000000000000000≤b*q.y∧b*q.y≤5000000000000000
 d:1≤q.d∧q.d≤5000000000
/-- The stored value of the reference. -/
def farR (p:Int × Int × Int):XX:=if p.1<0 then Yo else XD p.2.1 p.2.2
theorem farR_new (k:Nat) (n d:Int):farR ((k:Int),n,d)=XD n d:=if_neg (by simp only;omega)
end Go.Proofs.YtkjimfapbjdafaaGreat
