/-
 PredictRange: of the program and of the reference.
 Conditions: the slice holds at most 2^20 elements.
-/
import Derived.Test.YtdncnhcffbgjhaaGreatFar
import Derived.Test.YtdncnhcffbgjhaaGreatFarI
import Derived.Test.YtdncnhcffbgjhaaGreatGrL
import Derived.Test.YtdncnhcffbgjhaaGreatGeo9
import Derived.Test.YtdncnhcffbgjhaaGreatGrX
namespace Go.Proofs.YtdncnhcffbgjhaaGreat
open Go.RowKit
def predOkP (ok : Bool) (p : List Half) (b i : Int) : Bool := ok && !decide (p.length = 0) && inR b (-1000) 1000 && inR i (-1000) 1000
def predP (ok : Bool) (p : List Half) (b i : Int) : Ratio × Ratio := if predOkP ok p b i = true then (ratioOf (-(sup p (-b) (-i)).n) (100 * (sup p (-b) (-i)).d), ratioOf (sup p b i).n (100 * (sup p b i).d)) else (ratio0, ratio0)
def predOk (xs : List Record) (err b i : Int) : Bool := predOkP (fitOk xs err) (fitR xs err) b i
def predR (xs : List Record) (err b i : Int) : Ratio × Ratio := predP (fitOk xs err) (fitR xs err) b i
theorem HasT.alloc {w : World} {g T : Nat} {vs : List Value} (h : HasT w g T vs) (o : Obj) : HasT (w.alloc o) g T vs := h.below (below_al bR o)
end Go.Proofs.YtdncnhcffbgjhaaGreat
