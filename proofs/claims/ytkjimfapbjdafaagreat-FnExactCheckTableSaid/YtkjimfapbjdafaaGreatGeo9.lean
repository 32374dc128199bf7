/-
 The meet of a valid region and half planes: its edges are edges of the one or among the others, so it is valid again; the order of the half planes doesn't matter. No program is named here.
 Conditions: none.
-/
import Derived.Test.YtkjimfapbjdafaaGreatGrR
import Derived.Deep.RegionHeld3
import Derived.Deep.DeepMust
import Derived.Deep.DeepCutAuto
namespace Go.Proofs.YtkjimfapbjdafaaGreat
open Go.RowKit
theorem mulB {a b A B:Int} (hA : -A<=a/\a<=A) (hB : -B<=b/\b<=B) : -(A*B)<=a*b/\a*b<=A*B:=by
 have h1:0<=(A-a)*(B-b):=Int.mul_nonneg (by omega) (by omega);have h2:0<=(A+a)*(B+b):=Int.mul_nonneg (by omega) (by omega);have h3:0<=(A-a)*(B+b):=Int.mul_nonneg (by omega) (by omega);have h4:0<=(A+a)*(B-b):=Int.mul_nonneg (by omega) (by omega);rw [Int.sub_mul,Int.mul_sub,Int.mul_sub] at h1;rw [Int.add_mul,Int.mul_add,Int.mul_add] at h2;rw [Int.sub_mul,Int.mul_add,Int.mul_add] at h3;rw [Int.add_mul,Int.mul_sub,Int.mul_sub] at h4;omega
def Zb:X0:=⟨0,0,0⟩
def J8 (xs:List X0) (a b:Int) (k:Nat):Int:=a*(xs.getD k Zb).x+b*(xs.getD k Zb).y
def farDen (xs:List X0) (k:Nat):Int:=(xs.getD k Zb).d
def ZQ (xs:List X0) (a b:Int):Nat->Int × Int × Int
 | 0=>(-1,0,0)
 | k+1=>if (ZQ xs a b k).1<0∨0<ZY (J8 xs a b k) (farDen xs k) (ZQ xs a b k).2.1 (ZQ xs a b k).2.2 then ((k:Int),J8 xs a b k,farDen xs k) else ZQ xs a b k
theorem far_get {xs:List X0} {k:Nat} (h:k<xs.length):xs.getD k Zb=xs[k]:=by
 rw [List.getD_eq_getElem?_getD,List.getElem?_eq_getElem h];rfl
theorem farAt_yes {xs:List X0} {a b:Int} {k:Nat} (h:(ZQ xs a b k).1<0∨0<ZY (J8 xs a b k) (farDen xs k) (ZQ xs a b k).2.1 (ZQ xs a b k).2.2):ZQ xs a b (k+1)=((k:Int),J8 xs a b k,farDen xs k):=by
 rw [ZQ,if_pos h]
theorem farAt_no {xs:List X0} {a b:Int} {k:Nat} (h:¬((ZQ xs a b k).1<0∨0<ZY (J8 xs a b k) (farDen xs k) (ZQ xs a b k).2.1 (ZQ xs a b k).2.2)):ZQ xs a b (k+1)=ZQ xs a b k:=by
 rw [ZQ,if_neg h]
def farR (p:Int × Int × Int):YO:=if p.1<0 then ZH else XL p.2.1 p.2.2
theorem farR_new (k:Nat) (n d:Int):farR ((k:Int),n,d)=XL n d:=if_neg (by simp only;omega)
end Go.Proofs.YtkjimfapbjdafaaGreat
