/-
 What the functions on pieces return, and RatioOf.
 Conditions: the numbers are ints of the machine.
-/
import Derived.Deep.RegionHeld3
import Derived.Deep.RegionWith
import Derived.Test.YtabfdkpdppemaaaGreatGrAQb
import Derived.JoinedOf
import Derived.Test.YtabfdkpdppemaaaGreatVbQd
namespace Go.Proofs.YtabfdkpdppemaaaGreat
open Go.RowKit
theorem gcdOf_zero_iff {n d:Int}:ZD n d=0 ↔ Yz n=true∨Yz d=true∨(n=0/\d=0):=by
 unfold ZD;cases Yz n<;>cases Yz d<;>simp [Nat.gcd_eq_zero_iff]
set_option maxRecDepth 100000 in
set_option maxHeartbeats 1000000 in
theorem sRatioOf_c (n d:Int) (w:World) (hn:Zi n) (hd:Zi d) :
 Calls Tryz.prog 185 #[.int .i64 n,.int .i64 d] w λ e w'=>e=.returned (XO (X7 n d))/\Below w.heap.size w w':=by
 have hgi:=gcdOf_in hn hd;obtain ⟨g0,g1⟩:=hgi;by_cases hz:ZD n d=0∨d=0
 ·have hfin:X7 n d=Y3:=by
   rw [gcdOf_zero_iff] at hz;unfold X7;rw [if_pos];rcases hz with (h|h|⟨_,h⟩)|h<;>simp [h]
  rw [hfin];have hzz:(ZD n d == 0)=true∨((ZD n d == 0)=false/\(d == 0)=true):=by
   cases h:(ZD n d == 0)
   ·right;refine ⟨rfl, ?_⟩;simp at h ⊢;omega
   ·left;rfl
  clear hz;rcases hzz with hz|⟨hz,hz2⟩
  all_goals
   go_enter Tryz.func185,Tryz.ntmps185
   go_wp2_with (go_at_call 236;refine (Z4 _ _ _ (by assumption) (by assumption)).mono ?_;rintro e wc ⟨rfl,nc,rfl⟩)
   refine bodyPost_ret (v:=.agg #[.int .i64 0,.int .i64 0]) (by simp [results,Tryz.results185,go_sem]) rfl ⟨rfl, ?_⟩;exact Xp
 ·have h1:¬ ZD n d=0:=λ h=>hz (.inl h);have h2:¬ d=0:=λ h=>hz (.inr h);have h3:¬ (Yz n=true∨Yz d=true∨(n=0/\d=0)):=λ h=>h1 (gcdOf_zero_iff.2 h);have mn:Yz n=false:=by
   cases h:Yz n
   ·rfl
   ·exact absurd (Or.inl h) h3
  have md:Yz d=false:=by
   cases h:Yz d
   ·rfl
   ·exact absurd (Or.inr (Or.inl h)) h3
  have alt:=Lib.hid (ratioOf_alt mn md h2);have eg:ZD n d=((Xl [n,d]:Nat):Int):=by rw [Jp mn md,Jb]
  have hpos:0<Xl [n,d]:=by rw [Jb];exact Nat.gcd_pos_of_pos_right _ (by omega)
  rw [eg] at g1;clear h3 g0 h1 hz;generalize Xl [n,d]=G at *;have i1:=KG hn mn G;have i2:=KG hd md G;have b1:=Jn hn mn;have b2:=Jn hd md;have t1:=tdiv_le n G 9223372036854775807 b1.1 b1.2;have t2:=tdiv_le d G 9223372036854775807 b2.1 b2.2;have hG1:¬ (G=0):=by omega
  have hG2:¬ ((G:Int)=0):=by omega
  have hG3:((G:Int) == 0)=false:=by simp;omega
  have hd0:(d == 0)=false:=by simpa using h2
  rcases Int.lt_or_le d 0 with hneg|hnn
  ·have c5:=λ W=>sRatioOk_c ⟨-(n.tdiv (G:Int)),-(d.tdiv (G:Int))⟩ W ⟨⟨by dsimp only;omega,by dsimp only;omega⟩,⟨by dsimp only;omega,by dsimp only;omega⟩⟩;have u1:IntKind.i64.wrap (-(n.tdiv (G:Int))) = -(n.tdiv (G:Int)):=IntWalk.i64_in _ (by omega);have u2:IntKind.i64.wrap (-(d.tdiv (G:Int))) = -(d.tdiv (G:Int)):=IntWalk.i64_in _ (by omega);have hfin:Hid (X7 n d=if Xe ⟨-(n.tdiv (G:Int)),-(d.tdiv (G:Int))⟩=true then ⟨-(n.tdiv (G:Int)),-(d.tdiv (G:Int))⟩ else Y3):=by
    have:=alt.out;rw [if_pos hneg,Int.tdiv_neg,Int.tdiv_neg] at this;exact this
   clear alt mn md b1 b2 t1 t2 i1 i2 h2;generalize Xe ⟨-(n.tdiv (G:Int)),-(d.tdiv (G:Int))⟩=ok at *;generalize hnt:n.tdiv (G:Int)=nt at *;generalize hdt:d.tdiv (G:Int)=dt at *;go_enter Tryz.func185,Tryz.ntmps185
   go_wp2_with (go_at_call 236;refine (Z4 _ _ _ (by assumption) (by assumption)).mono ?_;rintro e wc ⟨rfl,nc,rfl⟩)
   go_region_held3 (λ _=>True) (exact True.intro) (fail)
   go_wp2_with (fail)
   refine (c5 _).mono ?_;rintro e w9 ⟨rfl,hb9⟩;have hbw:Below w.heap.size w w9:=by
    refine Xf ?_ hb9;exact Xp
   have H2:Yk w9 w.heap.size [.int .i64 0,.int .i64 0]:=by
    refine Yk.below ?_ hb9;exact (Yk.new w _ _).alloc _
   have H3:Yk w9 (w.heap.size+1) [.int .i64 (-nt),.int .i64 (-dt)]:=by
    refine Yk.below ?_ hb9;have:=Yk.new (w.alloc (.cells #[.int .i64 0,.int .i64 0] 36)) #[.int .i64 (-nt),.int .i64 (-dt)] 36;simp only [World.size_alloc] at this;exact this
   obtain ⟨cH2_0,fH2_0⟩:=H2.2 0 _ rfl;obtain ⟨cH2_1,fH2_1⟩:=H2.2 1 _ rfl;obtain ⟨cH3_0,fH3_0⟩:=H3.2 0 _ rfl;obtain ⟨cH3_1,fH3_1⟩:=H3.2 1 _ rfl;cases ok
   ·go_wp2
    refine bodyPost_ret (v:=.agg #[.int .i64 0,.int .i64 0]) (by simp [results,Tryz.results185,go_sem, *]) rfl ⟨by rw [hfin.out];rfl, ?_⟩;exact Xp
   ·go_wp2
    refine bodyPost_ret (v:=.agg #[.int .i64 (-nt),.int .i64 (-dt)]) (by simp [results,Tryz.results185,go_sem, *]) rfl ⟨by rw [hfin.out];rfl, ?_⟩;exact Xp
  ·have c5:=λ W=>sRatioOk_c ⟨n.tdiv (G:Int),d.tdiv (G:Int)⟩ W ⟨i1,i2⟩;have u1:IntKind.i64.wrap (n.tdiv (G:Int))=n.tdiv (G:Int):=IntWalk.i64_in _ (by omega);have u2:IntKind.i64.wrap (d.tdiv (G:Int))=d.tdiv (G:Int):=IntWalk.i64_in _ (by omega);have u3:IntKind.i64.wrap (d / (G:Int))=d.tdiv (G:Int):=by rw [<- Int.tdiv_eq_ediv_of_nonneg hnn];exact u2
   have u4:0<=n->IntKind.i64.wrap (n / (G:Int))=n.tdiv (G:Int):=λ h=>by rw [<- Int.tdiv_eq_ediv_of_nonneg h];exact u1
   have hfin:Hid (X7 n d=if Xe ⟨n.tdiv (G:Int),d.tdiv (G:Int)⟩=true then ⟨n.tdiv (G:Int),d.tdiv (G:Int)⟩ else Y3):=by
    have:=alt.out;rw [if_neg (Int.not_lt.2 hnn)] at this;exact this
   have hdpos:0<d:=by omega
   have hdle:d<=9223372036854775807:=b2.2;clear alt mn md b1 b2 t1 t2 i1 i2 h2 hnn;generalize Xe ⟨n.tdiv (G:Int),d.tdiv (G:Int)⟩=ok at *;generalize hnt:n.tdiv (G:Int)=nt at *;generalize hdt:d.tdiv (G:Int)=dt at *;go_enter Tryz.func185,Tryz.ntmps185
   go_wp2_with (go_at_call 236;refine (Z4 _ _ _ (by assumption) (by assumption)).mono ?_;rintro e wc ⟨rfl,nc,rfl⟩)
   go_region_held3 (λ _=>True) (exact True.intro) (fail)
   go_wp2_with (fail)
   refine (c5 _).mono ?_;rintro e w9 ⟨rfl,hb9⟩;have hbw:Below w.heap.size w w9:=by
    refine Xf ?_ hb9;exact Xp
   have H2:Yk w9 w.heap.size [.int .i64 0,.int .i64 0]:=by
    refine Yk.below ?_ hb9;exact (Yk.new w _ _).alloc _
   have H3:Yk w9 (w.heap.size+1) [.int .i64 (nt),.int .i64 (dt)]:=by
    refine Yk.below ?_ hb9;have:=Yk.new (w.alloc (.cells #[.int .i64 0,.int .i64 0] 36)) #[.int .i64 (nt),.int .i64 (dt)] 36;simp only [World.size_alloc] at this;exact this
   obtain ⟨cH2_0,fH2_0⟩:=H2.2 0 _ rfl;obtain ⟨cH2_1,fH2_1⟩:=H2.2 1 _ rfl;obtain ⟨cH3_0,fH3_0⟩:=H3.2 0 _ rfl;obtain ⟨cH3_1,fH3_1⟩:=H3.2 1 _ rfl;cases ok
   ·go_wp2
    refine bodyPost_ret (v:=.agg #[.int .i64 0,.int .i64 0]) (by simp [results,Tryz.results185,go_sem, *]) rfl ⟨by rw [hfin.out];rfl, ?_⟩;exact Xp
   ·go_wp2
    refine bodyPost_ret (v:=.agg #[.int .i64 (nt),.int .i64 (dt)]) (by simp [results,Tryz.results185,go_sem, *]) rfl ⟨by rw [hfin.out];rfl, ?_⟩;exact Xp
theorem j3_FnMonitors:(Rows.fnMonitorsRow.recurses == Tryz.prog.recurses 3)=true:=by kernel_rfl
theorem j4_FnMonitors:(Rows.fnMonitorsRow.named == Tryz.prog.varsNamed 3)=true:=by kernel_rfl
theorem j1_FnMonitors:(Rows.fnMonitorsRow.inPlace == Tryz.prog.inPlace 3)=true:=by kernel_rfl
theorem j2_FnMonitors:(Rows.fnMonitorsRow.unfollowed == Tryz.prog.unfollowed 3)=true:=by kernel_rfl
def watch0:KX:=⟨⟨[],0,0,0,0,0,[],[]⟩,[],[]⟩
def sasF:Value->List Nat
 | .slice (some p) _ _=>[p.block]
 | _=>[]
def sas:Value->List Nat
 | .agg xs=>xs.toList.flatMap sasF
 | v=>sasF v
def ApV (u v:Value):Prop:=∀ p∈sas u,∀ q∈sas v,p≠q
theorem ApV.symm {u v:Value} (h:ApV u v):ApV v u:=λ p hp q hq e=>h q hq p hp e.symm
theorem Ya.nil (w:World) (base:Nat):Ya w base watch0 ⟨⟨⟨none,0⟩,⟨none,0⟩,⟨none,0⟩⟩,⟨none,0⟩,⟨none,0⟩⟩:=by
 refine ⟨⟨XU.nilN _ _ _ _ _,⟨XU.nilN _ _ _ _ _⟩,⟨XU.nilN _ _ _ _ _⟩, ?_⟩,⟨XU.nilN _ _ _ _ _⟩,XU.nilN _ _ _ _ _, ?_⟩ <;>
 ·simp only [List.pairwise_cons,List.mem_cons,List.not_mem_nil,or_false,forall_eq_or_imp,forall_eq,false_implies,implies_true,List.Pairwise.nil,and_true];simp [J9]
structure WatchMk (w:World) (x:KX) (a:JJ) (K:Int):Prop where
 room:RoomMk w x.room a.room K
 reg:Sl 3 Xh w a.reg.A (markHalfs (K+x.room.map.length+x.room.noise.length*3+x.room.limits.length*3) x.reg.length)
 log:Sl 1 Z6 w a.log.A (markInts (K+x.room.map.length+x.room.noise.length*3+x.room.limits.length*3+x.reg.length*3) x.log.length)
theorem WatchMk.below {w w':World} {x:KX} {a:JJ} {K:Int} (h:WatchMk w x a K) (hb:Below w.heap.size w w'):WatchMk w' x a K:=⟨h.room.below hb,h.reg.below hb,h.log.below hb⟩
theorem Ya.kpLo {M:List Nat} {w w':World} {base:Nat} {x:KX} {a:JJ} (h:Ya w base x a) (k:Kp M w w') (hM:∀ m∈M,m<base):Ya w' base x a:=by
 obtain ⟨b1,b2,b3,b4,b5⟩:=h.blk;have nn:∀ c:KL,Blk base w.heap.size c->∀ p,c.A=some p->p.block ∉ M:=λ c hc p hp hm=>by
  have:=hM _ hm;have:=hc p hp;omega
 exact ⟨⟨h.room.map.kpN k (nn _ b1),⟨h.room.noise.halves.kpN k (nn _ b2)⟩,⟨h.room.limits.halves.kpN k (nn _ b3)⟩,h.room.apart⟩,⟨h.reg.halves.kpN k (nn _ b4)⟩,h.log.kpN k (nn _ b5),h.apart⟩
end Go.Proofs.YtabfdkpdppemaaaGreat
