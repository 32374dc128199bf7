/-
 Words that the statements over drawn rooms share.
 Conditions: none.
-/
import Derived.Test.YtabfdkpdppemaaaGreatDrwQa
import Derived.Test.YtabfdkpdppemaaaGreatPtdQa
namespace Go.Proofs.YtabfdkpdppemaaaGreat
open Go.RowKit
theorem opt_some {o:Option YT} {v:YT} (e:o=some v) {f:FuncId} {args:Array Value} {w:World} (h:Calls Tryz.prog f args w λ x w'=>x=.returned (Kh o)/\Below w.heap.size w w') :
 Calls Tryz.prog f args w λ x w'=>x=.returned (.tuple #[Kg v,.bool true])/\Below w.heap.size w w':=by
 rw [e] at h;exact h
theorem optS_some {o:Option Xz} {v:Xz} (e:o=some v) {f:FuncId} {args:Array Value} {w:World} (h:Calls Tryz.prog f args w λ x w'=>x=.returned (Y1 o)/\Below w.heap.size w w') :
 Calls Tryz.prog f args w λ x w'=>x=.returned (.tuple #[Y4 v,.bool true])/\Below w.heap.size w w':=by
 rw [e] at h;exact h
theorem spanR {v:YT} (h:XQ v=true):v.low.In/\v.high.In:=⟨(span_In h).1,(span_In h).2⟩
theorem admD_ok {r:XH} {p:List Half} {x y dx dy:Int} (W:WholeD x y dx dy) {w:YT} (h:Xq r p ⟨x,y,1⟩ dx dy=some w):XQ w=true:=by
 rw [drift_acc W] at h;exact (accS_btw KM 3 w h).1
end Go.Proofs.YtabfdkpdppemaaaGreat
