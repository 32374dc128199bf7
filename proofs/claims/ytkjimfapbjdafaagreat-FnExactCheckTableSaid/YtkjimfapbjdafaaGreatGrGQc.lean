/-
 How fractions are compared: of the program (products of 128 bits) and of the reference (continued remainders); the lesser and the greater one; spans.
 Conditions: the numbers are ints of the machine.
-/
import Derived.Shelf.Bits.Mul64
import Derived.Deep.RegionHeld3
import Derived.Deep.DeepCutAuto
import Derived.Deep.DeepMust
import Derived.Test.YtkjimfapbjdafaaGreatGrNQc
import Derived.Test.YtkjimfapbjdafaaGreatGrV
namespace Go.Proofs.YtkjimfapbjdafaaGreat
open Go.RowKit
theorem sgn_zero:sgn 0=0:=rfl
theorem ratioMin_in {r s:YO} (hr:r.In) (hs:s.In):(Ya r s).In:=by
 unfold Ya;split
 ·split<;>assumption
 ·exact ⟨⟨by decide,by decide⟩,⟨by decide,by decide⟩⟩
theorem ratioMax_in {r s:YO} (hr:r.In) (hs:s.In):(Yb r s).In:=by
 unfold Yb;split
 ·split<;>assumption
 ·exact ⟨⟨by decide,by decide⟩,⟨by decide,by decide⟩⟩
theorem sgn_le {x:Int}:sgn x<=0 ↔ x<=0:=by unfold sgn;split<;>(try split)<;>omega
def Yl (a b:YY):Option YY:=if Xu a=true/\Xu b=true/\Xu ⟨Yb a.low b.low,Ya a.high b.high⟩=true then some ⟨Yb a.low b.low,Ya a.high b.high⟩ else none
def KG (A:X0->Option YY) (l:List X0):Nat->Option YY
 | 0=>some Xd
 | k+1=>(KG A l k).bind λ w=>(A (l.getD k Zb)).bind λ v=>if k=0 then some v else Yl w v
theorem accS_none {A:X0->Option YY} {l:List X0} {k:Nat} (h:KG A l k=none):∀ m,KG A l (k+m)=none
 | 0=>h
 | m+1=>by
  have:=accS_none h m;show (KG A l (k+m)).bind _=none;rw [this];rfl
theorem accS_no {A:X0->Option YY} {l:List X0} {k n:Nat} (h:KG A l k=none) (hk:k<=n):KG A l n=none:=by
 obtain ⟨m,rfl⟩:=Nat.le.dest hk;exact accS_none h m
end Go.Proofs.YtkjimfapbjdafaaGreat
