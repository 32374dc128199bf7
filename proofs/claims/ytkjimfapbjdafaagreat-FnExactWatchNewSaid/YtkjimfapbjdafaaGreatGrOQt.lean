/-
 How the law's arguments read: structs of ints, slices of them; and the frame of a law that changes nothing that was there.
 Conditions: none.
-/
import Derived.ProofKit
import Derived.OpenShut
import Derived.ChangeOld
import Derived.Below
import Derived.Test.YtkjimfapbjdafaaGreatGrAQa
import Derived.Maps.AppendAt
namespace Go.Proofs.YtkjimfapbjdafaaGreat
open Go.RowKit Go.ChangeShapes Go.WideShapes Go.ChangeAt Go.Deep
section
variable {H:Type} {enc:TypeId × Value->H} {P:Program} {w:World} {base:Nat} {spare:Nat->Bool} {held:Bool}
end
set_option maxRecDepth 100000 in
theorem openRegion {H:Type} {enc:TypeId × Value->H} {W:World} {base b0:Nat} {spare:Nat->Bool} {held:Bool} {r:Reach} {v:Value} {d:DataW H} {p:List MemPlace}
 (hv:Value.okWide Tryz.prog W r b0 25 v) (h:DataW.Trod enc Tryz.prog W base spare held 25 v d p) :
 ∃ (x:List Half) (a:ZY),RegionIn x/\v=Zb x a/\(List.length x<=9223372036854775807)/\ZS W x a:=by
 obtain ⟨cs,rfl,_⟩:=okWide_struct Tryz.underlying25 hv;obtain ⟨fuel,hf⟩:=h;obtain ⟨x,a,h1,h2,h3,h4⟩:=openRegionC (cs:=cs.toList) (by simpa [Value.cells] using hf);refine ⟨x,a,h1, ?_,h3,h4⟩;cases cs;simp only at h2;rw [h2]
end Go.Proofs.YtkjimfapbjdafaaGreat
namespace Go.Proofs.YtkjimfapbjdafaaGreat
open Go.RowKit
theorem apart2 {A B:ZY} (h:∀ p q,A.A=some p->B.A=some q->p.block≠q.block):List.Pairwise JX [A,B]:=by
 simp only [List.pairwise_cons,List.mem_cons,List.not_mem_nil,or_false,forall_eq,List.Pairwise.nil,and_true];exact ⟨h,λ _ hf=>hf.elim⟩
theorem Jg.nil (w:World) (base:Nat):Jg w base ⟨[],[]⟩ ⟨⟨none,0⟩,⟨none,0⟩⟩ :=
 ⟨XI.nilN _ _ _ _ _,XI.nilN _ _ _ _ _,apart2 (λ p q hp _=>by cases hp)⟩
structure TrackMk (w:World) (x:Track) (a:TrackA) (K:Int):Prop where
 spots:Sl 3 Zm w a.spots.A (Jt K x.spots.length)
 inputs:Sl 2 Jw w a.inputs.A (KR (K+x.spots.length*3) x.inputs.length)
theorem TrackMk.below {w w':World} {x:Track} {a:TrackA} {K:Int} (h:TrackMk w x a K) (hb:Below w.heap.size w w'):TrackMk w' x a K:=⟨h.spots.below hb,h.inputs.below hb⟩
structure WatchMk (w:World) (x:Jf) (a:Jn) (K:Int):Prop where
 room:RoomMk w x.room a.room K
 reg:Sl 3 Xk w a.reg.A (Kt (K+x.room.map.length+x.room.noise.length*3+x.room.limits.length*3) x.reg.length)
 log:Sl 1 Y6 w a.log.A (K6 (K+x.room.map.length+x.room.noise.length*3+x.room.limits.length*3+x.reg.length*3) x.log.length)
theorem WatchMk.below {w w':World} {x:Jf} {a:Jn} {K:Int} (h:WatchMk w x a K) (hb:Below w.heap.size w w'):WatchMk w' x a K:=⟨h.room.below hb,h.reg.below hb,h.log.below hb⟩
end Go.Proofs.YtkjimfapbjdafaaGreat
