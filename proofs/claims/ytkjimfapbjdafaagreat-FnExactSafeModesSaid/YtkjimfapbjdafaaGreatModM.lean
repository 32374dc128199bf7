/-
 The modes of a plant in a state: which of them admit an input, and the weakest one; in plain words.
 Conditions: none.
-/
import Derived.Test.YtkjimfapbjdafaaGreatAdmD
import Derived.Test.YtkjimfapbjdafaaGreatGrV
import Derived.Test.YtkjimfapbjdafaaGreatGrXe
namespace Go.Proofs.YtkjimfapbjdafaaGreat
open Go.RowKit
def XM:Zo:=⟨0,0⟩
def Kt (r:XJ) (m:Zo):XJ:=setR r m.low m.high
theorem modes_room {r:XJ} {l:List Zo} (h:YE r l=true):XU r=true∧1≤l.length∧l.length≤4:=by
 simp only [YE,Bool.and_eq_true] at h
 have:=ZN.1 h.1.1
 exact ⟨h.2,by omega,by omega⟩
theorem inM_in {r:XJ} {m:Zo} (h:Y6 r) (hm:m.In):Y6 (Kt r m):=⟨h.map,h.div,h.bx,h.by_,hm.1,hm.2,h.noise,h.limits⟩
/-- The span of the inputs that mode k admits. -/
def modA (r:XJ) (l:List Zo) (p:List Half) (s:XC) (k:Nat):Option Km:=X6 (Kt r (l.getD k XM)) p s
def Js (r:XJ) (l:List Zo) (p:List Half) (s:XC):Nat→List Int
 | 0=>[]
 | k+1=>if (modA r l p s k).isSome=true then Js r l p s k++[(k:Int)] else Js r l p s k
def Kf (r:XJ) (l:List Zo) (p:List Half) (s:XC):List Int:=if YE r l=true then Js r l p s l.length else []
theorem sfK_yes {r:XJ} {l:List Zo} {p:List Half} {s:XC} {k:Nat} (h:(modA r l p s k).isSome=true):Js r l p s (k+1)=Js r l p s k++[(k:Int)]:=by rw [Js,if_pos h]
theorem sfK_no {r:XJ} {l:List Zo} {p:List Half} {s:XC} {k:Nat} (h:(modA r l p s k).isSome=false):Js r l p s (k+1)=Js r l p s k:=by rw [Js,if_neg (by rw [h];simp)]
theorem sfK_len (r:XJ) (l:List Zo) (p:List Half) (s:XC):∀ k,(Js r l p s k).length≤k
 | 0=>Nat.le_refl _
 | k+1=>by
  have:=sfK_len r l p s k
  rw [Js]
  split
  ·rw [List.length_append];simp only [List.length_cons,List.length_nil];omega
  ·omega
theorem sfR_le (r:XJ) (l:List Zo) (p:List Half) (s:XC):(Kf r l p s).length≤1048576:=by
 unfold Kf
 split
 ·rename_i h
  have:=sfK_len r l p s l.length
  have:=(modes_room h).2.2
  omega
 ·exact Nat.zero_le _
def wkN (r:XJ) (l:List Zo) (p:List Half) (s:XC) (k:Nat):Int:=whoN ((modA r l p s k).getD XW)
def wkS (r:XJ) (l:List Zo) (p:List Half) (s:XC):Nat→Int × Int
 | 0=>(-1,0)
 | k+1=>if ((wkS r l p s k).1<0∨wkN r l p s k<(wkS r l p s k).2) then ((k:Int),wkN r l p s k) else wkS r l p s k
def wkAll (r:XJ) (l:List Zo) (p:List Half) (s:XC) (k:Nat):Bool:=(List.range k).all fun i=>(modA r l p s i).isSome
def wkR (r:XJ) (l:List Zo) (p:List Half) (s:XC):Int:=if YE r l=true then (match (List.range l.length).find? (fun i=>!(modA r l p s i).isSome) with|some i=>(i:Int)|none=>(wkS r l p s l.length).1) else -1
theorem sf_no {r:XJ} {l:List Zo} {p:List Half} {s:XC} (hm:YE r l=false):Kf r l p s=[]:=by
 unfold Kf
 rw [if_neg (by rw [hm];simp)]
theorem sf_yes {r:XJ} {l:List Zo} {p:List Half} {s:XC} (hm:YE r l=true):Kf r l p s=Js r l p s l.length:=by
 unfold Kf
 rw [if_pos hm]
end Go.Proofs.YtkjimfapbjdafaaGreat
