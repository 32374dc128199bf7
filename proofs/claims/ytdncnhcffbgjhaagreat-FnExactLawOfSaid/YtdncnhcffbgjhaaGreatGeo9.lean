/-
 The meet of a valid region and half planes: its edges are edges of the one or among the others, so it is valid again; the order of the half planes doesn't matter. No program is named here.
 Conditions: none.
-/
import Derived.Test.YtdncnhcffbgjhaaGreatGrR
namespace Go.Proofs.YtdncnhcffbgjhaaGreat
open Go.RowKit
