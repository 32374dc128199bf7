/-
 LawAt: of the program and of the reference.
 Conditions: the slices hold at most 2^20 elements.
-/
import Derived.Test.YtdncnhcffbgjhaaGreatGrT
import Derived.Test.YtdncnhcffbgjhaaGreatGrN
import Derived.Deep.DeepCutAuto
namespace Go.Proofs.YtdncnhcffbgjhaaGreat
open Go.RowKit
def lawSpan (x:Law) (s:Spot):Span:=⟨(actL x s).2,(actH x s).2⟩
def lawAtOk (x:Law) (s:Spot):Bool:=lawOk x&&spanOk (lawSpan x s)
def lawAt (x:Law) (s:Spot):Span:=if lawAtOk x s=true then lawSpan x s else span0
end Go.Proofs.YtdncnhcffbgjhaaGreat
