/-
 The run of a room, step by step, in plain words.
 Conditions: none.
-/
import Derived.Test.YtabfdkpdppemaaaGreatGrXa
import Derived.Test.YtabfdkpdppemaaaGreatV4
import Derived.Maps.AppendAt
import Derived.Test.YtabfdkpdppemaaaGreatMak
namespace Go.Proofs.YtabfdkpdppemaaaGreat
open Go.RowKit
def hasS (p:List Half) (s:Xz):Bool:=!decide (p.length=0)&&XA s&&Xl p&&Zu p s
variable {r:XH} {p:List Half} {s:Xz} {ws:List Int} {ns:List Xz}
end Go.Proofs.YtabfdkpdppemaaaGreat
namespace Go.Proofs.YtabfdkpdppemaaaGreat
open Go.RowKit
theorem ZK.ap {w:World} {base:Nat} {x:Law} {a:LawA} (h:ZK w base x a):∀ p q,a.lows.A=some p->a.highs.A=some q->p.block≠q.block:=by
 have h2:=h.apart;simp only [List.pairwise_cons,List.mem_cons,List.not_mem_nil,or_false] at h2;exact h2.1 _ rfl
end Go.Proofs.YtabfdkpdppemaaaGreat
