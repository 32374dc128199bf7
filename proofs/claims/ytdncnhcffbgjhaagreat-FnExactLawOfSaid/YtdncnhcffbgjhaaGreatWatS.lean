/-
 The region from which an input leads into a region, whether a region is kept, whether a watch is valid: of the reference.
 Conditions: the slices hold at most 2^20 elements.
-/
import Derived.Test.YtdncnhcffbgjhaaGreatGrowS
import Derived.Test.YtdncnhcffbgjhaaGreatGrXb
namespace Go.Proofs.YtdncnhcffbgjhaaGreat
open Go.RowKit
end Go.Proofs.YtdncnhcffbgjhaaGreat
