/-
  What the functions that reduce fractions, spots and half planes return.
  Conditions: the numbers are ints of the machine.
-/
import Derived.Test.YtelkcmchokajaaaNum2
import Derived.StillTailTactics
import Derived.Deep.RegionHeld3
namespace Go.Proofs.Ytelkcmchokajaaa
open Go.RowKit

theorem tdiv_In64 {a : Int} (h : In64 a) (hm : isMin a = false) (g : Nat) : In64 (a.tdiv g) := by
  have h1 := isMin_false h hm
  have := tdiv_le a g 9223372036854775807 h1.1 h1.2
  exact ⟨by omega, by omega⟩

def optSpotV : Option Spot → Value
  | some s => .tuple #[.agg #[.int .i64 s.x, .int .i64 s.y, .int .i64 s.d], .bool true]
  | none => .tuple #[.agg #[.int .i64 0, .int .i64 0, .int .i64 0], .bool false]
def optHalfV : Option Half → Value
  | some h => .tuple #[.agg #[.int .i64 h.a, .int .i64 h.b, .int .i64 h.c], .bool true]
  | none => .tuple #[.agg #[.int .i64 0, .int .i64 0, .int .i64 0], .bool false]

end Go.Proofs.Ytelkcmchokajaaa
