/-
 The first greatest (or least) one of the values of pieces: of the program (extreme) and of the reference (l12Best).
 Conditions: the slice reads as a list of at most 2^20 pieces.
-/
import Derived.Test.YtdncnhcffbgjhaaGreatGrE
import Derived.Test.YtdncnhcffbgjhaaGreatGrG
import Derived.Deep.RegionHeld3
import Derived.Deep.DeepMust
import Derived.Deep.DeepCutAuto
import Derived.Test.YtdncnhcffbgjhaaGreatGrA
section
namespace Go.Proofs.YtdncnhcffbgjhaaGreat
open Go.RowKit
def bestAt (val:Nat→Ratio) (g:Int):Nat→Int × Ratio
 | 0=>(-1,ratio0)
 | k+1=>if (bestAt val g k).1<0∨0<g*ratioCmp (val k) (bestAt val g k).2 then ((k:Int),val k) else bestAt val g k
def allOk (val:Nat→Ratio) (n:Nat):Bool:=(List.range n).all fun k=>ratioOk (val k)
def bestR (val:Nat→Ratio) (g:Int) (n:Nat):Int × Ratio:=if allOk val n=true then bestAt val g n else (-1,ratio0)
def pc0:Piece:=⟨0,0,0,0⟩
def valV (xs:List Piece) (s:Spot) (k:Nat):Ratio:=pieceVal (xs.getD k pc0) s
def valA (xs:List Piece) (s:Spot) (k:Nat):Ratio:=pieceAt (xs.getD k pc0) s
end Go.Proofs.YtdncnhcffbgjhaaGreat
end
section
namespace Go.Proofs.YtdncnhcffbgjhaaGreat
open Go.RowKit
end Go.Proofs.YtdncnhcffbgjhaaGreat
end
section
namespace Go.Proofs.YtdncnhcffbgjhaaGreat
open Go.RowKit
def piecesOk (xs:List Piece):Bool:=xs.all pieceOk&&inR (xs.length:Int) 1 40
def lawOk (x:Law):Bool:=piecesOk x.lows&&piecesOk x.highs
def actL (x:Law) (s:Spot):Int × Ratio:=if lawOk x=true then bestR (valA x.lows s) 1 x.lows.length else (-1,ratio0)
def actH (x:Law) (s:Spot):Int × Ratio:=if lawOk x=true then bestR (valA x.highs s) (-1) x.highs.length else (-1,ratio0)
end Go.Proofs.YtdncnhcffbgjhaaGreat
end
