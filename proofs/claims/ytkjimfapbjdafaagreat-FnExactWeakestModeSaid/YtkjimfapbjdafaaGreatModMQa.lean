/-
 The modes of a plant in a state: which of them admit an input, and the weakest one; in plain words.
 Conditions: none.
-/
import Derived.Test.YtkjimfapbjdafaaGreatV1Qa
import Derived.Test.YtkjimfapbjdafaaGreatGrXeQa
namespace Go.Proofs.YtkjimfapbjdafaaGreat
open Go.RowKit
def Xx:ZP:=⟨0,0⟩
def ZF (r:XT) (m:ZP):XT:=setR r m.low m.high
theorem modes_room {r:XT} {l:List ZP} (h:YJ r l=true):XW r=true/\1<=l.length/\l.length<=4:=by
 simp only [YJ,Bool.and_eq_true] at h;have:=YT.1 h.1.1;exact ⟨h.2,by omega,by omega⟩
theorem inM_in {r:XT} {m:ZP} (h:Zd r) (hm:m.In):Zd (ZF r m):=⟨h.map,h.div,h.bx,h.by_,hm.1,hm.2,h.noise,h.limits⟩
def modA (r:XT) (l:List ZP) (p:List Half) (s:X0) (k:Nat):Option YY:=XN (ZF r (l.getD k Xx)) p s
end Go.Proofs.YtkjimfapbjdafaaGreat
