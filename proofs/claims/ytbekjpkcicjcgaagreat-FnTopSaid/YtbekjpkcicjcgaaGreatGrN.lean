/-
 The functions on tables: what they return.
 Conditions: the slice of cells holds at most 2^20 ints.
-/
import Derived.Test.YtbekjpkcicjcgaaGreatGrC
import Derived.StillTailTactics
namespace Go.Proofs.YtbekjpkcicjcgaaGreat
open Go.RowKit
structure JI where
 x0:Int
 y0:Int
 step:Int
 nx:Int
 ny:Int
 cells:List Int
def JI.In (t:JI):Prop:=YU t.x0/\YU t.y0/\YU t.step/\YU t.nx/\YU t.ny
abbrev tabV (t:JI) (A:Option Addr) (cap:Nat):Value:=.agg #[.int .i64 t.x0,.int .i64 t.y0,.int .i64 t.step,.int .i64 t.nx,.int .i64 t.ny,.slice A t.cells.length cap]
def Yw (t:JI):Bool:=ZT t.x0 (-1000) 1000&&ZT t.y0 (-1000) 1000&&ZT t.step 1 100&&ZT t.nx 1 100&&ZT t.ny 1 100&&decide (t.nx*t.ny<=400)&&decide (t.x0+t.nx*t.step<=1000)&&decide (t.y0+t.ny*t.step<=1000)
def cellOk (n:Int):Bool:=n == -1000000||ZT n (-1000) 1000
def ZZ (t:JI):Bool:=Yw t&&decide ((t.cells.length:Int)=t.nx*t.ny)&&t.cells.all cellOk
theorem mul_bd {a b A B:Int} (ha : -A<=a/\a<=A) (hb : -B<=b/\b<=B) : -(A*B)<=a*b/\a*b<=A*B:=by
 have hA:a.natAbs<=A.natAbs:=Oz
 have hB:b.natAbs<=B.natAbs:=Oz
 have hm:=Nat.mul_le_mul hA hB;rw [<- Int.natAbs_mul,<- Int.natAbs_mul] at hm;have hAB:0<=A*B:=Int.mul_nonneg Oz Oz;omega
theorem Kg {t:JI}:Yw t=true ↔ (-1000<=t.x0/\t.x0<=1000)/\(-1000<=t.y0/\t.y0<=1000)/\(1<=t.step/\t.step<=100)/\(1<=t.nx/\t.nx<=100)/\(1<=t.ny/\t.ny<=100)/\t.nx*t.ny<=400/\t.x0+t.nx*t.step<=1000/\t.y0+t.ny*t.step<=1000:=by
 simp only [Yw,Bool.and_eq_true,Y3,decide_eq_true_eq,and_assoc]
set_option maxHeartbeats 2000000 in
theorem igridOk_c (t:JI) (A:Option Addr) (cap:Nat) (w:World) (_:t.In) :
 Calls Tryz.prog 60 #[tabV t A cap] w λ e w'=>e=.returned (.bool (Yw t))/\Below w.heap.size w w':=by
 cases e1:ZT t.x0 (-1000) 1000
 ·go_enter Tryz.func60,Tryz.ntmps60
  go_wp2_with (first|(go_at_call 59;refine (Yb _ _ _ _).mono ?_;rintro e w' ⟨rfl,rfl⟩))
  go_ret
  refine ⟨Xm (by simp [Yw,e1]<;>omega), ?_⟩;exact Xw
 ·cases e2:ZT t.y0 (-1000) 1000
  ·go_enter Tryz.func60,Tryz.ntmps60
   go_wp2_with (first|(go_at_call 59;refine (Yb _ _ _ _).mono ?_;rintro e w' ⟨rfl,rfl⟩))
   go_ret
   refine ⟨Xm (by simp [Yw,e1,e2]<;>omega), ?_⟩;exact Xw
  ·cases e3:ZT t.step 1 100
   ·go_enter Tryz.func60,Tryz.ntmps60
    go_wp2_with (first|(go_at_call 59;refine (Yb _ _ _ _).mono ?_;rintro e w' ⟨rfl,rfl⟩))
    go_ret
    refine ⟨Xm (by simp [Yw,e1,e2,e3]<;>omega), ?_⟩;exact Xw
   ·cases e4:ZT t.nx 1 100
    ·go_enter Tryz.func60,Tryz.ntmps60
     go_wp2_with (first|(go_at_call 59;refine (Yb _ _ _ _).mono ?_;rintro e w' ⟨rfl,rfl⟩))
     go_ret
     refine ⟨Xm (by simp [Yw,e1,e2,e3,e4]<;>omega), ?_⟩;exact Xw
    ·cases e5:ZT t.ny 1 100
     ·go_enter Tryz.func60,Tryz.ntmps60
      go_wp2_with (first|(go_at_call 59;refine (Yb _ _ _ _).mono ?_;rintro e w' ⟨rfl,rfl⟩))
      go_ret
      refine ⟨Xm (by simp [Yw,e1,e2,e3,e4,e5]<;>omega), ?_⟩;exact Xw
     ·obtain ⟨a1,a2⟩:=Y3.1 e1;obtain ⟨a3,a4⟩:=Y3.1 e2;obtain ⟨a5,a6⟩:=Y3.1 e3;obtain ⟨a7,a8⟩:=Y3.1 e4;obtain ⟨a9,a10⟩:=Y3.1 e5;obtain ⟨m1,m2⟩:=mul_bd (A:=100) (B:=100) (a:=t.nx) (b:=t.ny) Oz Oz;obtain ⟨m3,m4⟩:=mul_bd (A:=100) (B:=100) (a:=t.nx) (b:=t.step) Oz Oz;obtain ⟨m5,m6⟩:=mul_bd (A:=100) (B:=100) (a:=t.ny) (b:=t.step) Oz Oz;by_cases e6:t.nx*t.ny<=400
      rotate_left
      ·go_enter Tryz.func60,Tryz.ntmps60
       go_wp2_with (first|(go_at_call 59;refine (Yb _ _ _ _).mono ?_;rintro e w' ⟨rfl,rfl⟩))
       go_ret
       refine ⟨Xm (by simp [Yw,e1,e2,e3,e4,e5]<;>omega), ?_⟩;exact Xw
      by_cases e7:t.x0+t.nx*t.step<=1000
      rotate_left
      ·go_enter Tryz.func60,Tryz.ntmps60
       go_wp2_with (first|(go_at_call 59;refine (Yb _ _ _ _).mono ?_;rintro e w' ⟨rfl,rfl⟩))
       go_ret
       refine ⟨Xm (by simp [Yw,e1,e2,e3,e4,e5,e6]<;>omega), ?_⟩;exact Xw
      by_cases e8:t.y0+t.ny*t.step<=1000
      rotate_left
      ·go_enter Tryz.func60,Tryz.ntmps60
       go_wp2_with (first|(go_at_call 59;refine (Yb _ _ _ _).mono ?_;rintro e w' ⟨rfl,rfl⟩))
       go_ret
       refine ⟨Xm (by simp [Yw,e1,e2,e3,e4,e5,e6,e7]<;>omega), ?_⟩;exact Xw
      go_enter Tryz.func60,Tryz.ntmps60
      go_wp2_with (first|(go_at_call 59;refine (Yb _ _ _ _).mono ?_;rintro e w' ⟨rfl,rfl⟩))
      go_ret
      refine ⟨Xm (by simp [Yw,e1,e2,e3,e4,e5,e6,e7]<;>omega), ?_⟩;exact Xw
theorem iTableOk_c (t:JI) (A:Option Addr) (cap:Nat) (w:World) (ht:t.In) (hn:t.cells.length<=1048576) (hs:Sl 1 Kk w A t.cells) :
 Calls Tryz.prog 115 #[tabV t A cap] w λ e w'=>e=.returned (.bool (ZZ t))/\Below w.heap.size w w':=by
 have c1:=λ W=>igridOk_c t A cap W ht;have HA:=Yd.new w #[.int .i64 t.x0,.int .i64 t.y0,.int .i64 t.step,.int .i64 t.nx,.int .i64 t.ny,.slice A t.cells.length cap] 57;cases e1:Yw t
 ·rw [e1] at c1;have hfin:Hid (ZZ t=false):=by simp [Hid,ZZ,e1]
  go_enter Tryz.func115,Tryz.ntmps115
  go_wp2_with (fail)
  refine (c1 _).mono ?_;rintro e w1 ⟨rfl,hb1⟩;go_wp2
  go_ret
  refine ⟨Xm (by rw [hfin.out]), ?_⟩;exact Xw
 ·rw [e1] at c1;obtain ⟨_,_,_,g4,g5,g6,_,_⟩:=Kg.1 e1;obtain ⟨m1,m2⟩:=mul_bd (A:=100) (B:=100) (a:=t.nx) (b:=t.ny) Oz Oz;by_cases e2:(t.cells.length:Int)=t.nx*t.ny
  ·have hfin:Hid (ZZ t=t.cells.all cellOk):=by simp [Hid,ZZ,e1,e2]
   have e3:((t.cells.length:Int) != t.nx*t.ny)=false:=by simp [e2]
   have hmm:=Lib.hid e2;clear e2;go_enter Tryz.func115,Tryz.ntmps115
   go_wp2_with (fail)
   refine (c1 _).mono ?_;rintro e w1 ⟨rfl,hb1⟩;have H1:=HA.below hb1;have hbw:=Xf (Xb (Below.refl w.heap.size w) _) hb1;obtain ⟨cH1_0,fH1_0⟩:=H1.2 0 _ rfl;obtain ⟨cH1_1,fH1_1⟩:=H1.2 1 _ rfl;obtain ⟨cH1_2,fH1_2⟩:=H1.2 2 _ rfl;obtain ⟨cH1_3,fH1_3⟩:=H1.2 3 _ rfl;obtain ⟨cH1_4,fH1_4⟩:=H1.2 4 _ rfl;obtain ⟨cH1_5,fH1_5⟩:=H1.2 5 _ rfl;go_wp2
   go_loopw [4,22] (λ x i wr=>∃ k:Nat,k<=t.cells.length/\i=.int .i64 k/\(t.cells.take k).all cellOk=true/\Below w.heap.size w wr) (λ _ i _=>t.cells.length-(intOf i).toNat)
   case atStart=>exact ⟨0,Nat.zero_le _,rfl,rfl,hbw⟩
   case round =>
    obtain ⟨k,hk,rfl,hall,hbr⟩:=hrel;by_cases hlt:k<t.cells.length
    ·obtain ⟨b,off,rfl,hblt,hc⟩:=(hs.below hbr).at_ hlt;have g0:=hc 0 _ rfl;have Z1:cellOk t.cells[k]=false->t.cells.all cellOk=false:=λ h=>by
      rw [List.all_eq_false];exact ⟨_,List.getElem_mem hlt,by simp [h]⟩
     have Z2:cellOk t.cells[k]=true->(t.cells.take (k+1)).all cellOk=true:=λ h=>by
      rw [Zx t.cells k hlt,List.all_append,hall];simp [h]
     have Y1:=Lib.hid Z1;have Y2:=Lib.hid Z2;clear hc hall Z1 Z2 m1 m2 g4 g5 g6;simp only [Nat.mul_one,Nat.add_zero] at g0;generalize t.cells[k]=n at *;cases q1:(n == -1000000)
     ·have q2:(n != -1000000)=true:=by simp [bne,q1]
      cases q3:ZT n (-1000) 1000
      ·go_wp2_with (first|(go_at_call 59;refine (Yb _ _ _ _).mono ?_;rintro e w' ⟨rfl,rfl⟩))
       go_ret
       exact ⟨Xm (by rw [hfin.out,Y1.out (by simp [cellOk,q1,q3])]),hbr⟩
      ·go_wp2_with (first|(go_at_call 59;refine (Yb _ _ _ _).mono ?_;rintro e w' ⟨rfl,rfl⟩))
       exact ⟨⟨k+1,by omega,by go_num,Y2.out (by simp [cellOk,q3]),hbr⟩,by simp [intOf];omega⟩
     ·have q2:(n != -1000000)=false:=by simp [bne,q1]
      go_wp2
      exact ⟨⟨k+1,by omega,by go_num,Y2.out (by simp [cellOk,q1]),hbr⟩,by simp [intOf];omega⟩
    ·obtain rfl:k=t.cells.length:=Oz
     have Y:=Lib.hid hall;clear hall;go_wp2
     go_ret
     exact ⟨Xm (by have:=Y.out;rw [List.take_length] at this;rw [hfin.out,this]),hbr⟩
  ·have hfin:Hid (ZZ t=false):=by simp [Hid,ZZ,e2]
   have e3:((t.cells.length:Int) != t.nx*t.ny)=true:=by simp [e2]
   clear e2;go_enter Tryz.func115,Tryz.ntmps115
   go_wp2_with (fail)
   refine (c1 _).mono ?_;rintro e w1 ⟨rfl,hb1⟩;have H1:=HA.below hb1;obtain ⟨cH1_0,fH1_0⟩:=H1.2 0 _ rfl;obtain ⟨cH1_1,fH1_1⟩:=H1.2 1 _ rfl;obtain ⟨cH1_2,fH1_2⟩:=H1.2 2 _ rfl;obtain ⟨cH1_3,fH1_3⟩:=H1.2 3 _ rfl;obtain ⟨cH1_4,fH1_4⟩:=H1.2 4 _ rfl;obtain ⟨cH1_5,fH1_5⟩:=H1.2 5 _ rfl;go_wp2
   go_ret
   refine ⟨Xm (by rw [hfin.out]), ?_⟩;exact Xw
theorem XG.low {α:Type} {T sz:Nat} {enc:α->List Value} {w:World} {base:Nat} {v:Value} {xs:List α} (h:XG T sz enc w base v xs) {p:Addr} (hp:p.block<base) (u:Value):XG T sz enc (w.setCell p u) base v xs:=by
 obtain ⟨A,cap,rfl,ho⟩:=h;exact ⟨A,cap,rfl,ownsRow_setCell_below ho hp u⟩
structure X1 (w:World) (base:Nat) (x:List Half) (a:Kw):Prop where
 halves:XG 136 3 Xe w base (.slice a.A (List.length x) a.c) x
theorem X1.sl {w:World} {base:Nat} {x:List Half} {a:Kw} (h:X1 w base x a):RegionSl w x a:=⟨h.halves.out Xx⟩
theorem X1.below {w w':World} {base B:Nat} {x:List Half} {a:Kw} (h:X1 w base x a) (hb:Below B w w') (hB:w.heap.size<=B):X1 w' base x a:=⟨h.halves.below hb hB⟩
theorem X1.mono {w:World} {base base':Nat} {x:List Half} {a:Kw} (h:X1 w base x a) (hb:base'<=base):X1 w base' x a:=⟨h.halves.mono hb⟩
theorem X1.low {w:World} {base:Nat} {x:List Half} {a:Kw} (h:X1 w base x a) {p:Addr} (hp:p.block<base) (u:Value):X1 (w.setCell p u) base x a:=⟨h.halves.low hp u⟩
theorem X1.blk {w:World} {base:Nat} {x:List Half} {a:Kw} (h:X1 w base x a):Blk base w.heap.size a:=h.halves.blk
structure Zb (w:World) (base:Nat) (x:XD) (a:Y7):Prop where
 map:XG 3 1 Kk w base (.slice a.map.A (List.length x.map) a.map.c) x.map
 noise:X1 w base x.noise a.noise
 limits:X1 w base x.limits a.limits
 apart:List.Pairwise Apart [a.map,a.noise,a.limits]
theorem Zb.sl {w:World} {base:Nat} {x:XD} {a:Y7} (h:Zb w base x a):ZX w x a:=⟨h.map.out ZI,h.noise.sl,h.limits.sl⟩
theorem Zb.below {w w':World} {base B:Nat} {x:XD} {a:Y7} (h:Zb w base x a) (hb:Below B w w') (hB:w.heap.size<=B):Zb w' base x a:=⟨h.map.below hb hB,h.noise.below hb hB,h.limits.below hb hB,h.apart⟩
theorem Zb.mono {w:World} {base base':Nat} {x:XD} {a:Y7} (h:Zb w base x a) (hb:base'<=base):Zb w base' x a:=⟨h.map.mono hb,h.noise.mono hb,h.limits.mono hb,h.apart⟩
theorem Zb.low {w:World} {base:Nat} {x:XD} {a:Y7} (h:Zb w base x a) {p:Addr} (hp:p.block<base) (u:Value):Zb (w.setCell p u) base x a:=⟨h.map.low hp u,h.noise.low hp u,h.limits.low hp u,h.apart⟩
theorem Zb.blk {w:World} {base:Nat} {x:XD} {a:Y7} (h:Zb w base x a):Blk base w.heap.size a.map/\Blk base w.heap.size a.noise/\Blk base w.heap.size a.limits:=⟨h.map.blk,h.noise.blk,h.limits.blk⟩
structure Yn (w:World) (base:Nat) (x:Jv) (a:J3):Prop where
 room:Zb w base x.room a.room
 reg:X1 w base x.reg a.reg
 log:XG 3 1 Kk w base (.slice a.log.A (List.length x.log) a.log.c) x.log
 apart:List.Pairwise Apart [a.room.map,a.room.noise,a.room.limits,a.reg,a.log]
theorem Yn.sl {w:World} {base:Nat} {x:Jv} {a:J3} (h:Yn w base x a):WatchSl w x a:=⟨h.room.sl,h.reg.sl,h.log.out ZI⟩
theorem Yn.below {w w':World} {base B:Nat} {x:Jv} {a:J3} (h:Yn w base x a) (hb:Below B w w') (hB:w.heap.size<=B):Yn w' base x a:=⟨h.room.below hb hB,h.reg.below hb hB,h.log.below hb hB,h.apart⟩
theorem Yn.mono {w:World} {base base':Nat} {x:Jv} {a:J3} (h:Yn w base x a) (hb:base'<=base):Yn w base' x a:=⟨h.room.mono hb,h.reg.mono hb,h.log.mono hb,h.apart⟩
theorem Yn.low {w:World} {base:Nat} {x:Jv} {a:J3} (h:Yn w base x a) {p:Addr} (hp:p.block<base) (u:Value):Yn (w.setCell p u) base x a:=⟨h.room.low hp u,h.reg.low hp u,h.log.low hp u,h.apart⟩
theorem Yn.blk {w:World} {base:Nat} {x:Jv} {a:J3} (h:Yn w base x a):Blk base w.heap.size a.room.map/\Blk base w.heap.size a.room.noise/\Blk base w.heap.size a.room.limits/\Blk base w.heap.size a.reg/\Blk base w.heap.size a.log:=⟨h.room.blk.1,h.room.blk.2.1,h.room.blk.2.2,h.reg.blk,h.log.blk⟩
structure ZR (w:World) (base:Nat) (x:Track) (a:TrackA):Prop where
 spots:XG 30 3 Kz w base (.slice a.spots.A (List.length x.spots) a.spots.c) x.spots
 inputs:XG 46 2 ratioC w base (.slice a.inputs.A (List.length x.inputs) a.inputs.c) x.inputs
 apart:List.Pairwise Apart [a.spots,a.inputs]
theorem ZR.sl {w:World} {base:Nat} {x:Track} {a:TrackA} (h:ZR w base x a):TrackSl w x a:=⟨h.spots.out Jf,h.inputs.out ratioC_len⟩
theorem ZR.below {w w':World} {base B:Nat} {x:Track} {a:TrackA} (h:ZR w base x a) (hb:Below B w w') (hB:w.heap.size<=B):ZR w' base x a:=⟨h.spots.below hb hB,h.inputs.below hb hB,h.apart⟩
theorem ZR.mono {w:World} {base base':Nat} {x:Track} {a:TrackA} (h:ZR w base x a) (hb:base'<=base):ZR w base' x a:=⟨h.spots.mono hb,h.inputs.mono hb,h.apart⟩
theorem ZR.low {w:World} {base:Nat} {x:Track} {a:TrackA} (h:ZR w base x a) {p:Addr} (hp:p.block<base) (u:Value):ZR (w.setCell p u) base x a:=⟨h.spots.low hp u,h.inputs.low hp u,h.apart⟩
theorem ZR.blk {w:World} {base:Nat} {x:Track} {a:TrackA} (h:ZR w base x a):Blk base w.heap.size a.spots/\Blk base w.heap.size a.inputs:=⟨h.spots.blk,h.inputs.blk⟩
end Go.Proofs.YtbekjpkcicjcgaaGreat
