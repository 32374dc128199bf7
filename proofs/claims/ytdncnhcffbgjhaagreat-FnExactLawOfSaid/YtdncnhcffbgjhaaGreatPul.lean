/-
 The region of the points that a map moves into a region: of the program.
 Conditions: valid regions and maps.
-/
import Derived.Test.YtdncnhcffbgjhaaGreatGrU
import Derived.Test.YtdncnhcffbgjhaaGreatGrXc
import Derived.Test.YtdncnhcffbgjhaaGreatGrV
namespace Go.Proofs.YtdncnhcffbgjhaaGreat
open Go.RowKit
def pulH (m:List Int) (d:Int) (h:Half):Option Half:=halfOf (h.a*m.getD 0 0+h.b*m.getD 2 0) (h.a*m.getD 1 0+h.b*m.getD 3 0) (h.c*d)
structure MapIn (m:List Int) (d:Int):Prop where
 len:m.length=4
 m:∀ i,-20≤m.getD i 0∧m.getD i 0≤20
 d:1≤d∧d≤20
theorem mapIn {r:Room} (h:roomOk r=true):MapIn r.map r.div:=⟨(roomB h).len,(roomB h).m,(roomB h).div⟩
structure PulB (m:List Int) (d:Int) (h:Half):Prop where
 a0 : -1000000≤h.a*m.getD 0 0∧h.a*m.getD 0 0≤1000000
 b2 : -1000000≤h.b*m.getD 2 0∧h.b*m.getD 2 0≤1000000
 a1 : -1000000≤h.a*m.getD 1 0∧h.a*m.getD 1 0≤1000000
 b3 : -1000000≤h.b*m.getD 3 0∧h.b*m.getD 3 0≤1000000
 c : -2000000000≤h.c*d∧h.c*d≤2000000000
theorem pulB {m:List Int} {d:Int} {h:Half} (hM:MapIn m d) (hh:halfOk h=true):PulB m d h:=by
 obtain ⟨a1,a2,a3,_⟩:=halfOk_iff.1 hh
 have p:=fun i=>mulB (a:=h.a) (b:=m.getD i 0) (A:=50000) (B:=20) a1 (hM.m i)
 have q:=fun i=>mulB (a:=h.b) (b:=m.getD i 0) (A:=50000) (B:=20) a2 (hM.m i)
 have c:=mulB (a:=h.c) (b:=d) (A:=100000000) (B:=20) a3 (by have:=hM.d;omega)
 exact ⟨by have:=p 0;omega,by have:=q 2;omega,by have:=p 1;omega,by have:=q 3;omega,by omega⟩
structure PulW (w:World) (gm gq:Nat) (M:Option Addr) (cm:Nat) (m:List Int) (d:Int):Prop where
 bm:HasT w gm 22 [.slice M m.length cm]
 bq:HasT w gq 3 [.int .i64 d]
 sl:Sl 1 intC w M m
theorem PulW.below {w w':World} {gm gq:Nat} {M:Option Addr} {cm:Nat} {m:List Int} {d:Int} (h:PulW w gm gq M cm m d) (hb:Below w.heap.size w w'):PulW w' gm gq M cm m d:=⟨h.bm.bel hb,h.bq.bel hb,h.sl.below hb⟩
theorem PulW.alloc {w:World} {gm gq:Nat} {M:Option Addr} {cm:Nat} {m:List Int} {d:Int} (h:PulW w gm gq M cm m d) (o:Obj):PulW (w.alloc o) gm gq M cm m d:=h.below (below_al bR o)
theorem optHalf_eq (x:Option Half):optHalfV x=.tuple #[halfV (x.getD half0),.bool x.isSome]:=by cases x<;>rfl
end Go.Proofs.YtdncnhcffbgjhaaGreat
