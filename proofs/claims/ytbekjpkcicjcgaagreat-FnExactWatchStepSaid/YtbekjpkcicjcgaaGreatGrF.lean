/-
 The functions on records: what they return.
 Conditions: the slice reads as a list of at most 2^20 records.
-/
import Derived.Deep.RegionHeld3
import Derived.Test.YtbekjpkcicjcgaaGreatGrE
import Derived.Test.YtbekjpkcicjcgaaGreatGrG
import Derived.Deep.DeepCutAuto
import Derived.Deep.DeepMust
namespace Go.Proofs.YtbekjpkcicjcgaaGreat
open Go.RowKit
theorem red3 {a b c:Int} (h:0<Xm [a,b,c]):Xm [a.tdiv (Xm [a,b,c]),b.tdiv (Xm [a,b,c]),c.tdiv (Xm [a,b,c])]=1:=by
 have e:=gcd3 a b c;rw [gcd3 (a.tdiv _)];simp only [natAbs_tdiv];generalize Xm [a,b,c]=g at *;have d1:g ∣ a.natAbs:=by rw [e];exact Nat.dvd_trans (Nat.gcd_dvd_left _ _) (Nat.gcd_dvd_left _ _)
 have d2:g ∣ b.natAbs:=by rw [e];exact Nat.dvd_trans (Nat.gcd_dvd_left _ _) (Nat.gcd_dvd_right _ _)
 have d3:g ∣ c.natAbs:=by rw [e];exact Nat.gcd_dvd_right _ _
 rw [Nat.gcd_div d1 d2,Nat.gcd_div (Nat.dvd_gcd d1 d2) d3,<- e];exact Nat.div_self h
def shiftSpot (s:X9) (dx dy:Int):Option X9 :=
 if X7 s=true/\ZL dx (-2000) 2000=true/\ZL dy (-2000) 2000=true then Zd (s.x+dx*s.d) (s.y+dy*s.d) s.d else none
def sh (s:X9) (dx dy:Int):Nat->Option X9
 | 0=>shiftSpot s (-dx) (-dy)
 | 1=>shiftSpot s dx (-dy)
 | 2=>shiftSpot s dx dy
 | _=>shiftSpot s (-dx) dy
theorem Jd {a b A B:Int} (hA : -A<=a/\a<=A) (hB : -B<=b/\b<=B) : -(A*B)<=a*b/\a*b<=A*B:=by
 have h1:0<=(A-a)*(B-b):=Int.mul_nonneg Oz Oz;have h2:0<=(A+a)*(B+b):=Int.mul_nonneg Oz Oz;have h3:0<=(A-a)*(B+b):=Int.mul_nonneg Oz Oz;have h4:0<=(A+a)*(B-b):=Int.mul_nonneg Oz Oz;rw [Int.sub_mul,Int.mul_sub,Int.mul_sub] at h1;rw [Int.add_mul,Int.mul_add,Int.mul_add] at h2;rw [Int.sub_mul,Int.mul_add,Int.mul_add] at h3;rw [Int.add_mul,Int.mul_sub,Int.mul_sub] at h4;omega
theorem sgn_le {x:Int}:sgn x<=0 ↔ x<=0:=by unfold sgn;split<;>(try split)<;>omega
def sp0:X9:=⟨0,0,0⟩
def JP (xs:List X9) (a b:Int) (k:Nat):Int:=a*(xs.getD k sp0).x+b*(xs.getD k sp0).y
def farDen (xs:List X9) (k:Nat):Int:=(xs.getD k sp0).d
def ZD (xs:List X9) (a b:Int):Nat->Int × Int × Int
 | 0=>(-1,0,0)
 | k+1=>if (ZD xs a b k).1<0∨0<ZR (JP xs a b k) (farDen xs k) (ZD xs a b k).2.1 (ZD xs a b k).2.2 then ((k:Int),JP xs a b k,farDen xs k) else ZD xs a b k
theorem far_get {xs:List X9} {k:Nat} (h:k<xs.length):xs.getD k sp0=xs[k]:=by
 rw [List.getD_eq_getElem?_getD,List.getElem?_eq_getElem h];rfl
theorem farAt_yes {xs:List X9} {a b:Int} {k:Nat} (h:(ZD xs a b k).1<0∨0<ZR (JP xs a b k) (farDen xs k) (ZD xs a b k).2.1 (ZD xs a b k).2.2):ZD xs a b (k+1)=((k:Int),JP xs a b k,farDen xs k):=by
 rw [ZD,if_pos h]
theorem farAt_no {xs:List X9} {a b:Int} {k:Nat} (h:¬((ZD xs a b k).1<0∨0<ZR (JP xs a b k) (farDen xs k) (ZD xs a b k).2.1 (ZD xs a b k).2.2)):ZD xs a b (k+1)=ZD xs a b k:=by
 rw [ZD,if_neg h]
def farR (p:Int × Int × Int):Yk:=if p.1<0 then Y7 else XD p.2.1 p.2.2
theorem farR_new (k:Nat) (n d:Int):farR ((k:Int),n,d)=XD n d:=if_neg (by simp only;omega)
end Go.Proofs.YtbekjpkcicjcgaaGreat
