/-
 The first greatest (or least) one of the values of pieces: of the program (extreme) and of the reference (l12Best).
 Conditions: the slice reads as a list of at most 2^20 pieces.
-/
import Derived.Test.YtkjimfapbjdafaaGreatGrE
import Derived.Test.YtkjimfapbjdafaaGreatGrG
import Derived.Deep.RegionHeld3
import Derived.Deep.DeepMust
import Derived.Deep.DeepCutAuto
import Derived.Test.YtkjimfapbjdafaaGreatGrA
section
namespace Go.Proofs.YtkjimfapbjdafaaGreat
open Go.RowKit
def bestAt (val:Nat→XX) (g:Int):Nat→Int × XX
 | 0=>(-1,Yo)
 | k+1=>if (bestAt val g k).1<0∨0<g*Xz (val k) (bestAt val g k).2 then ((k:Int),val k) else bestAt val g k
def allOk (val:Nat→XX) (n:Nat):Bool:=(List.range n).all fun k=>Xy (val k)
def bestR (val:Nat→XX) (g:Int) (n:Nat):Int × XX:=if allOk val n=true then bestAt val g n else (-1,Yo)
def pc0:Ks:=⟨0,0,0,0⟩
def valV (xs:List Ks) (s:XC) (k:Nat):XX:=pieceVal (xs.getD k pc0) s
def valA (xs:List Ks) (s:XC) (k:Nat):XX:=pieceAt (xs.getD k pc0) s
end Go.Proofs.YtkjimfapbjdafaaGreat
end
section
namespace Go.Proofs.YtkjimfapbjdafaaGreat
open Go.RowKit
end Go.Proofs.YtkjimfapbjdafaaGreat
end
section
namespace Go.Proofs.YtkjimfapbjdafaaGreat
open Go.RowKit
def piecesOk (xs:List Ks):Bool:=xs.all pieceOk&&YC (xs.length:Int) 1 40
def lawOk (x:Law):Bool:=piecesOk x.lows&&piecesOk x.highs
def actL (x:Law) (s:XC):Int × XX:=if lawOk x=true then bestR (valA x.lows s) 1 x.lows.length else (-1,Yo)
def actH (x:Law) (s:XC):Int × XX:=if lawOk x=true then bestR (valA x.highs s) (-1) x.highs.length else (-1,Yo)
end Go.Proofs.YtkjimfapbjdafaaGreat
end
