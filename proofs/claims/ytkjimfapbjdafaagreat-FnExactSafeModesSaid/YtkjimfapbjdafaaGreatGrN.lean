/-
 The functions on tables: what they return.
 Conditions: the slice of cells holds at most 2^20 ints.
-/
import Derived.Test.YtkjimfapbjdafaaGreatGrC
import Derived.Test.YtkjimfapbjdafaaGreatGrA
import Derived.StillTailTactics
section
namespace Go.Proofs.YtkjimfapbjdafaaGreat
open Go.RowKit
structure Jc where
 x0:Int
 y0:Int
 step:Int
 nx:Int
 ny:Int
 cells:List Int
def Jc.In (t:Jc):Prop:=YD t.x0∧YD t.y0∧YD t.step∧YD t.nx∧YD t.ny
abbrev tabV (t:Jc) (A:Option Addr) (cap:Nat):Value:=.agg #[.int .i64 t.x0,.int .i64 t.y0,.int .i64 t.step,.int .i64 t.nx,.int .i64 t.ny,.slice A t.cells.length cap]
abbrev tabC (t:Jc) (A:Option Addr) (cap:Nat):List Value:=[.int .i64 t.x0,.int .i64 t.y0,.int .i64 t.step,.int .i64 t.nx,.int .i64 t.ny,.slice A t.cells.length cap]
def Zz (t:Jc):Bool:=YR t.x0 (-1000) 1000&&YR t.y0 (-1000) 1000&&YR t.step 1 100&&YR t.nx 1 100&&YR t.ny 1 100&&decide (t.nx*t.ny≤400)&&decide (t.x0+t.nx*t.step≤1000)&&decide (t.y0+t.ny*t.step≤1000)
def KI (n:Int):Bool:=n == -1000000||YR n (-1000) 1000
def XR (t:Jc):Bool:=Zz t&&decide ((t.cells.length:Int)=t.nx*t.ny)&&t.cells.all KI
theorem mul_bd {a b A B:Int} (ha : -A≤a∧a≤A) (hb : -B≤b∧b≤B) : -(A*B)≤a*b∧a*b≤A*B:=by
 have hA:a.natAbs≤A.natAbs:=by omega
 have hB:b.natAbs≤B.natAbs:=by omega
 have hm:=Nat.mul_le_mul hA hB
 rw [← Int.natAbs_mul,← Int.natAbs_mul] at hm
 have hAB:0≤A*B:=Int.mul_nonneg (by omega) (by omega)
 omega
theorem KN {t:Jc}:Zz t=true ↔ (-1000≤t.x0∧t.x0≤1000)∧(-1000≤t.y0∧t.y0≤1000)∧(1≤t.step∧t.step≤100)∧(1≤t.nx∧t.nx≤100)∧(1≤t.ny∧t.ny≤100)∧t.nx*t.ny≤400∧t.x0+t.nx*t.step≤1000∧t.y0+t.ny*t.step≤1000:=by
 simp only [Zz,Bool.and_eq_true,YT,decide_eq_true_eq,and_assoc]
set_option maxHeartbeats 2000000 in
theorem igridOk_c (t:Jc) (A:Option Addr) (cap:Nat) (w:World) (_:t.In) :
 Calls Tryz.prog 130 #[tabV t A cap] w fun e w'=>e=.returned (.bool (Zz t))∧Below w.heap.size w w':=by
 cases e1:YR t.x0 (-1000) 1000
 ·go_enter Tryz.func130,Tryz.ntmps130
  go_wp2_with (first|(go_at_call 129;refine (Ys _ _ _ _).mono ?_;rintro e w' ⟨rfl,rfl⟩))
  go_ret
  refine ⟨Xi (by simp [Zz,e1]<;>omega), ?_⟩
  exact Xo
 ·cases e2:YR t.y0 (-1000) 1000
  ·go_enter Tryz.func130,Tryz.ntmps130
   go_wp2_with (first|(go_at_call 129;refine (Ys _ _ _ _).mono ?_;rintro e w' ⟨rfl,rfl⟩))
   go_ret
   refine ⟨Xi (by simp [Zz,e1,e2]<;>omega), ?_⟩
   exact Xo
  ·cases e3:YR t.step 1 100
   ·go_enter Tryz.func130,Tryz.ntmps130
    go_wp2_with (first|(go_at_call 129;refine (Ys _ _ _ _).mono ?_;rintro e w' ⟨rfl,rfl⟩))
    go_ret
    refine ⟨Xi (by simp [Zz,e1,e2,e3]<;>omega), ?_⟩
    exact Xo
   ·cases e4:YR t.nx 1 100
    ·go_enter Tryz.func130,Tryz.ntmps130
     go_wp2_with (first|(go_at_call 129;refine (Ys _ _ _ _).mono ?_;rintro e w' ⟨rfl,rfl⟩))
     go_ret
     refine ⟨Xi (by simp [Zz,e1,e2,e3,e4]<;>omega), ?_⟩
     exact Xo
    ·cases e5:YR t.ny 1 100
     ·go_enter Tryz.func130,Tryz.ntmps130
      go_wp2_with (first|(go_at_call 129;refine (Ys _ _ _ _).mono ?_;rintro e w' ⟨rfl,rfl⟩))
      go_ret
      refine ⟨Xi (by simp [Zz,e1,e2,e3,e4,e5]<;>omega), ?_⟩
      exact Xo
     ·obtain ⟨a1,a2⟩:=YT.1 e1
      obtain ⟨a3,a4⟩:=YT.1 e2
      obtain ⟨a5,a6⟩:=YT.1 e3
      obtain ⟨a7,a8⟩:=YT.1 e4
      obtain ⟨a9,a10⟩:=YT.1 e5
      obtain ⟨m1,m2⟩:=mul_bd (A:=100) (B:=100) (a:=t.nx) (b:=t.ny) (by omega) (by omega)
      obtain ⟨m3,m4⟩:=mul_bd (A:=100) (B:=100) (a:=t.nx) (b:=t.step) (by omega) (by omega)
      obtain ⟨m5,m6⟩:=mul_bd (A:=100) (B:=100) (a:=t.ny) (b:=t.step) (by omega) (by omega)
      by_cases e6:t.nx*t.ny≤400
      rotate_left
      ·go_enter Tryz.func130,Tryz.ntmps130
       go_wp2_with (first|(go_at_call 129;refine (Ys _ _ _ _).mono ?_;rintro e w' ⟨rfl,rfl⟩))
       go_ret
       refine ⟨Xi (by simp [Zz,e1,e2,e3,e4,e5]<;>omega), ?_⟩
       exact Xo
      by_cases e7:t.x0+t.nx*t.step≤1000
      rotate_left
      ·go_enter Tryz.func130,Tryz.ntmps130
       go_wp2_with (first|(go_at_call 129;refine (Ys _ _ _ _).mono ?_;rintro e w' ⟨rfl,rfl⟩))
       go_ret
       refine ⟨Xi (by simp [Zz,e1,e2,e3,e4,e5,e6]<;>omega), ?_⟩
       exact Xo
      by_cases e8:t.y0+t.ny*t.step≤1000
      rotate_left
      ·go_enter Tryz.func130,Tryz.ntmps130
       go_wp2_with (first|(go_at_call 129;refine (Ys _ _ _ _).mono ?_;rintro e w' ⟨rfl,rfl⟩))
       go_ret
       refine ⟨Xi (by simp [Zz,e1,e2,e3,e4,e5,e6,e7]<;>omega), ?_⟩
       exact Xo
      go_enter Tryz.func130,Tryz.ntmps130
      go_wp2_with (first|(go_at_call 129;refine (Ys _ _ _ _).mono ?_;rintro e w' ⟨rfl,rfl⟩))
      go_ret
      refine ⟨Xi (by simp [Zz,e1,e2,e3,e4,e5,e6,e7]<;>omega), ?_⟩
      exact Xo
set_option maxHeartbeats 2000000 in
theorem l16Frame_c (t:Jc) (A:Option Addr) (cap:Nat) (w:World) (_:t.In) :
 Calls Tryz.prog 126 #[tabV t A cap] w fun e w'=>e=.returned (.bool (Zz t))∧Below w.heap.size w w':=by
 cases e1:YR t.x0 (-1000) 1000
 ·go_enter Tryz.func126,Tryz.ntmps126
  go_wp2_with (first|(go_at_call 127;refine (XT _ _ _ _).mono ?_;rintro e w' ⟨rfl,rfl⟩))
  go_ret
  refine ⟨Xi (by simp [Zz,e1]<;>omega), ?_⟩
  exact Xo
 ·cases e2:YR t.y0 (-1000) 1000
  ·go_enter Tryz.func126,Tryz.ntmps126
   go_wp2_with (first|(go_at_call 127;refine (XT _ _ _ _).mono ?_;rintro e w' ⟨rfl,rfl⟩))
   go_ret
   refine ⟨Xi (by simp [Zz,e1,e2]<;>omega), ?_⟩
   exact Xo
  ·cases e3:YR t.step 1 100
   ·go_enter Tryz.func126,Tryz.ntmps126
    go_wp2_with (first|(go_at_call 127;refine (XT _ _ _ _).mono ?_;rintro e w' ⟨rfl,rfl⟩))
    go_ret
    refine ⟨Xi (by simp [Zz,e1,e2,e3]<;>omega), ?_⟩
    exact Xo
   ·cases e4:YR t.nx 1 100
    ·go_enter Tryz.func126,Tryz.ntmps126
     go_wp2_with (first|(go_at_call 127;refine (XT _ _ _ _).mono ?_;rintro e w' ⟨rfl,rfl⟩))
     go_ret
     refine ⟨Xi (by simp [Zz,e1,e2,e3,e4]<;>omega), ?_⟩
     exact Xo
    ·cases e5:YR t.ny 1 100
     ·go_enter Tryz.func126,Tryz.ntmps126
      go_wp2_with (first|(go_at_call 127;refine (XT _ _ _ _).mono ?_;rintro e w' ⟨rfl,rfl⟩))
      go_ret
      refine ⟨Xi (by simp [Zz,e1,e2,e3,e4,e5]<;>omega), ?_⟩
      exact Xo
     ·obtain ⟨a1,a2⟩:=YT.1 e1
      obtain ⟨a3,a4⟩:=YT.1 e2
      obtain ⟨a5,a6⟩:=YT.1 e3
      obtain ⟨a7,a8⟩:=YT.1 e4
      obtain ⟨a9,a10⟩:=YT.1 e5
      obtain ⟨m1,m2⟩:=mul_bd (A:=100) (B:=100) (a:=t.nx) (b:=t.ny) (by omega) (by omega)
      obtain ⟨m3,m4⟩:=mul_bd (A:=100) (B:=100) (a:=t.nx) (b:=t.step) (by omega) (by omega)
      obtain ⟨m5,m6⟩:=mul_bd (A:=100) (B:=100) (a:=t.ny) (b:=t.step) (by omega) (by omega)
      by_cases e6:t.nx*t.ny≤400
      rotate_left
      ·go_enter Tryz.func126,Tryz.ntmps126
       go_wp2_with (first|(go_at_call 127;refine (XT _ _ _ _).mono ?_;rintro e w' ⟨rfl,rfl⟩))
       go_ret
       refine ⟨Xi (by simp [Zz,e1,e2,e3,e4,e5]<;>omega), ?_⟩
       exact Xo
      by_cases e7:t.x0+t.nx*t.step≤1000
      rotate_left
      ·go_enter Tryz.func126,Tryz.ntmps126
       go_wp2_with (first|(go_at_call 127;refine (XT _ _ _ _).mono ?_;rintro e w' ⟨rfl,rfl⟩))
       go_ret
       refine ⟨Xi (by simp [Zz,e1,e2,e3,e4,e5,e6]<;>omega), ?_⟩
       exact Xo
      by_cases e8:t.y0+t.ny*t.step≤1000
      rotate_left
      ·go_enter Tryz.func126,Tryz.ntmps126
       go_wp2_with (first|(go_at_call 127;refine (XT _ _ _ _).mono ?_;rintro e w' ⟨rfl,rfl⟩))
       go_ret
       refine ⟨Xi (by simp [Zz,e1,e2,e3,e4,e5,e6,e7]<;>omega), ?_⟩
       exact Xo
      go_enter Tryz.func126,Tryz.ntmps126
      go_wp2_with (first|(go_at_call 127;refine (XT _ _ _ _).mono ?_;rintro e w' ⟨rfl,rfl⟩))
      go_ret
      refine ⟨Xi (by simp [Zz,e1,e2,e3,e4,e5,e6,e7]<;>omega), ?_⟩
      exact Xo
theorem iTableOk_c (t:Jc) (A:Option Addr) (cap:Nat) (w:World) (ht:t.In) (hn:t.cells.length≤1048576) (hs:Sl 1 YP w A t.cells) :
 Calls Tryz.prog 114 #[tabV t A cap] w fun e w'=>e=.returned (.bool (XR t))∧Below w.heap.size w w':=by
 have c1:=fun W=>igridOk_c t A cap W ht
 have HA:=X3.new w #[.int .i64 t.x0,.int .i64 t.y0,.int .i64 t.step,.int .i64 t.nx,.int .i64 t.ny,.slice A t.cells.length cap] 75
 cases e1:Zz t
 ·rw [e1] at c1
  have hfin:Hid (XR t=false):=by simp [Hid,XR,e1]
  go_enter Tryz.func114,Tryz.ntmps114
  go_wp2_with (fail)
  refine (c1 _).mono ?_
  rintro e w1 ⟨rfl,hb1⟩
  go_wp2
  go_ret
  refine ⟨Xi (by rw [hfin.out]), ?_⟩
  exact Xo
 ·rw [e1] at c1
  obtain ⟨_,_,_,g4,g5,g6,_,_⟩:=KN.1 e1
  obtain ⟨m1,m2⟩:=mul_bd (A:=100) (B:=100) (a:=t.nx) (b:=t.ny) (by omega) (by omega)
  by_cases e2:(t.cells.length:Int)=t.nx*t.ny
  ·have hfin:Hid (XR t=t.cells.all KI):=by simp [Hid,XR,e1,e2]
   have e3:((t.cells.length:Int) != t.nx*t.ny)=false:=by simp [e2]
   have hmm:=Lib.hid e2
   clear e2
   go_enter Tryz.func114,Tryz.ntmps114
   go_wp2_with (fail)
   refine (c1 _).mono ?_
   rintro e w1 ⟨rfl,hb1⟩
   have H1:=HA.below hb1
   have hbw:=Xh (Xm (Below.refl w.heap.size w) _) hb1
   obtain ⟨cH1_0,fH1_0⟩:=H1.2 0 _ rfl
   obtain ⟨cH1_1,fH1_1⟩:=H1.2 1 _ rfl
   obtain ⟨cH1_2,fH1_2⟩:=H1.2 2 _ rfl
   obtain ⟨cH1_3,fH1_3⟩:=H1.2 3 _ rfl
   obtain ⟨cH1_4,fH1_4⟩:=H1.2 4 _ rfl
   obtain ⟨cH1_5,fH1_5⟩:=H1.2 5 _ rfl
   go_wp2
   go_loopw [4,22] (fun x i wr=>∃ k:Nat,k≤t.cells.length∧i=.int .i64 k∧(t.cells.take k).all KI=true∧Below w.heap.size w wr) (fun _ i _=>t.cells.length-(intOf i).toNat)
   case atStart=>exact ⟨0,Nat.zero_le _,rfl,rfl,hbw⟩
   case round =>
    obtain ⟨k,hk,rfl,hall,hbr⟩:=hrel
    by_cases hlt:k<t.cells.length
    ·obtain ⟨b,off,rfl,hblt,hc⟩:=(hs.below hbr).at_ hlt
     have g0:=hc 0 _ rfl
     have Z1:KI t.cells[k]=false→t.cells.all KI=false:=fun h=>by
      rw [List.all_eq_false];exact ⟨_,List.getElem_mem hlt,by simp [h]⟩
     have Z2:KI t.cells[k]=true→(t.cells.take (k+1)).all KI=true:=fun h=>by
      rw [Y9 t.cells k hlt,List.all_append,hall];simp [h]
     have Y1:=Lib.hid Z1
     have Y2:=Lib.hid Z2
     clear hc hall Z1 Z2 m1 m2 g4 g5 g6
     simp only [Nat.mul_one,Nat.add_zero] at g0
     generalize t.cells[k]=n at *
     cases q1:(n == -1000000)
     ·have q2:(n != -1000000)=true:=by simp [bne,q1]
      cases q3:YR n (-1000) 1000
      ·go_wp2_with (first|(go_at_call 129;refine (Ys _ _ _ _).mono ?_;rintro e w' ⟨rfl,rfl⟩))
       go_ret
       exact ⟨Xi (by rw [hfin.out,Y1.out (by simp [KI,q1,q3])]),hbr⟩
      ·go_wp2_with (first|(go_at_call 129;refine (Ys _ _ _ _).mono ?_;rintro e w' ⟨rfl,rfl⟩))
       exact ⟨⟨k+1,by omega,by go_num,Y2.out (by simp [KI,q3]),hbr⟩,by simp [intOf];omega⟩
     ·have q2:(n != -1000000)=false:=by simp [bne,q1]
      go_wp2
      exact ⟨⟨k+1,by omega,by go_num,Y2.out (by simp [KI,q1]),hbr⟩,by simp [intOf];omega⟩
    ·obtain rfl:k=t.cells.length:=by omega
     have Y:=Lib.hid hall
     clear hall
     go_wp2
     go_ret
     exact ⟨Xi (by have:=Y.out;rw [List.take_length] at this;rw [hfin.out,this]),hbr⟩
  ·have hfin:Hid (XR t=false):=by simp [Hid,XR,e2]
   have e3:((t.cells.length:Int) != t.nx*t.ny)=true:=by simp [e2]
   clear e2
   go_enter Tryz.func114,Tryz.ntmps114
   go_wp2_with (fail)
   refine (c1 _).mono ?_
   rintro e w1 ⟨rfl,hb1⟩
   have H1:=HA.below hb1
   obtain ⟨cH1_0,fH1_0⟩:=H1.2 0 _ rfl
   obtain ⟨cH1_1,fH1_1⟩:=H1.2 1 _ rfl
   obtain ⟨cH1_2,fH1_2⟩:=H1.2 2 _ rfl
   obtain ⟨cH1_3,fH1_3⟩:=H1.2 3 _ rfl
   obtain ⟨cH1_4,fH1_4⟩:=H1.2 4 _ rfl
   obtain ⟨cH1_5,fH1_5⟩:=H1.2 5 _ rfl
   go_wp2
   go_ret
   refine ⟨Xi (by rw [hfin.out]), ?_⟩
   exact Xo
theorem sTableOk_c (t:Jc) (A:Option Addr) (cap:Nat) (w:World) (ht:t.In) (hn:t.cells.length≤1048576) (hs:Sl 1 YP w A t.cells) :
 Calls Tryz.prog 117 #[tabV t A cap] w fun e w'=>e=.returned (.bool (XR t))∧Below w.heap.size w w':=by
 have c1:=fun W=>l16Frame_c t A cap W ht
 have HA:=X3.new w #[.int .i64 t.x0,.int .i64 t.y0,.int .i64 t.step,.int .i64 t.nx,.int .i64 t.ny,.slice A t.cells.length cap] 75
 cases e1:Zz t
 ·rw [e1] at c1
  have hfin:Hid (XR t=false):=by simp [Hid,XR,e1]
  go_enter Tryz.func117,Tryz.ntmps117
  go_wp2_with (fail)
  refine (c1 _).mono ?_
  rintro e w1 ⟨rfl,hb1⟩
  go_wp2
  go_ret
  refine ⟨Xi (by rw [hfin.out]), ?_⟩
  exact Xo
 ·rw [e1] at c1
  obtain ⟨_,_,_,g4,g5,g6,_,_⟩:=KN.1 e1
  obtain ⟨m1,m2⟩:=mul_bd (A:=100) (B:=100) (a:=t.nx) (b:=t.ny) (by omega) (by omega)
  by_cases e2:(t.cells.length:Int)=t.nx*t.ny
  ·have hfin:Hid (XR t=t.cells.all KI):=by simp [Hid,XR,e1,e2]
   have e3:((t.cells.length:Int) != t.nx*t.ny)=false:=by simp [e2]
   have hmm:=Lib.hid e2
   clear e2
   go_enter Tryz.func117,Tryz.ntmps117
   go_wp2_with (fail)
   refine (c1 _).mono ?_
   rintro e w1 ⟨rfl,hb1⟩
   have H1:=HA.below hb1
   have hbw:=Xh (Xm (Below.refl w.heap.size w) _) hb1
   obtain ⟨cH1_0,fH1_0⟩:=H1.2 0 _ rfl
   obtain ⟨cH1_1,fH1_1⟩:=H1.2 1 _ rfl
   obtain ⟨cH1_2,fH1_2⟩:=H1.2 2 _ rfl
   obtain ⟨cH1_3,fH1_3⟩:=H1.2 3 _ rfl
   obtain ⟨cH1_4,fH1_4⟩:=H1.2 4 _ rfl
   obtain ⟨cH1_5,fH1_5⟩:=H1.2 5 _ rfl
   go_wp2
   go_loopw [4,22] (fun x i wr=>∃ k:Nat,k≤t.cells.length∧i=.int .i64 k∧(t.cells.take k).all KI=true∧Below w.heap.size w wr) (fun _ i _=>t.cells.length-(intOf i).toNat)
   case atStart=>exact ⟨0,Nat.zero_le _,rfl,rfl,hbw⟩
   case round =>
    obtain ⟨k,hk,rfl,hall,hbr⟩:=hrel
    by_cases hlt:k<t.cells.length
    ·obtain ⟨b,off,rfl,hblt,hc⟩:=(hs.below hbr).at_ hlt
     have g0:=hc 0 _ rfl
     have Z1:KI t.cells[k]=false→t.cells.all KI=false:=fun h=>by
      rw [List.all_eq_false];exact ⟨_,List.getElem_mem hlt,by simp [h]⟩
     have Z2:KI t.cells[k]=true→(t.cells.take (k+1)).all KI=true:=fun h=>by
      rw [Y9 t.cells k hlt,List.all_append,hall];simp [h]
     have Y1:=Lib.hid Z1
     have Y2:=Lib.hid Z2
     clear hc hall Z1 Z2 m1 m2 g4 g5 g6
     simp only [Nat.mul_one,Nat.add_zero] at g0
     generalize t.cells[k]=n at *
     cases q1:(n == -1000000)
     ·have q2:(n != -1000000)=true:=by simp [bne,q1]
      cases q3:YR n (-1000) 1000
      ·go_wp2_with (first|(go_at_call 127;refine (XT _ _ _ _).mono ?_;rintro e w' ⟨rfl,rfl⟩))
       go_ret
       exact ⟨Xi (by rw [hfin.out,Y1.out (by simp [KI,q1,q3])]),hbr⟩
      ·go_wp2_with (first|(go_at_call 127;refine (XT _ _ _ _).mono ?_;rintro e w' ⟨rfl,rfl⟩))
       exact ⟨⟨k+1,by omega,by go_num,Y2.out (by simp [KI,q3]),hbr⟩,by simp [intOf];omega⟩
     ·have q2:(n != -1000000)=false:=by simp [bne,q1]
      go_wp2
      exact ⟨⟨k+1,by omega,by go_num,Y2.out (by simp [KI,q1]),hbr⟩,by simp [intOf];omega⟩
    ·obtain rfl:k=t.cells.length:=by omega
     have Y:=Lib.hid hall
     clear hall
     go_wp2
     go_ret
     exact ⟨Xi (by have:=Y.out;rw [List.take_length] at this;rw [hfin.out,this]),hbr⟩
  ·have hfin:Hid (XR t=false):=by simp [Hid,XR,e2]
   have e3:((t.cells.length:Int) != t.nx*t.ny)=true:=by simp [e2]
   clear e2
   go_enter Tryz.func117,Tryz.ntmps117
   go_wp2_with (fail)
   refine (c1 _).mono ?_
   rintro e w1 ⟨rfl,hb1⟩
   have H1:=HA.below hb1
   obtain ⟨cH1_0,fH1_0⟩:=H1.2 0 _ rfl
   obtain ⟨cH1_1,fH1_1⟩:=H1.2 1 _ rfl
   obtain ⟨cH1_2,fH1_2⟩:=H1.2 2 _ rfl
   obtain ⟨cH1_3,fH1_3⟩:=H1.2 3 _ rfl
   obtain ⟨cH1_4,fH1_4⟩:=H1.2 4 _ rfl
   obtain ⟨cH1_5,fH1_5⟩:=H1.2 5 _ rfl
   go_wp2
   go_ret
   refine ⟨Xi (by rw [hfin.out]), ?_⟩
   exact Xo
end Go.Proofs.YtkjimfapbjdafaaGreat
end
section
namespace Go.Proofs.YtkjimfapbjdafaaGreat
open Go.RowKit
theorem XY.low {α:Type} {T sz:Nat} {enc:α→List Value} {w:World} {base:Nat} {v:Value} {xs:List α} (h:XY T sz enc w base v xs) {p:Addr} (hp:p.block<base) (u:Value):XY T sz enc (w.setCell p u) base v xs:=by
 obtain ⟨A,cap,rfl,ho⟩:=h
 exact ⟨A,cap,rfl,ownsRow_setCell_below ho hp u⟩
theorem szIntS_c (A:Option Addr) (n cap:Nat) (left:Int) (w:World) (hn:n≤9223372036854775807) (h0:0≤left) (h1:left≤1048576) :
 Calls Tryz.prog 81 #[.slice A n cap,.int .i64 left] w fun e w'=>e=.returned (.int .i64 (if left-n<0 then -1 else left-n))∧w=w':=by
 by_cases h:left-n<0
 all_goals
  go_enter Tryz.func81,Tryz.ntmps81
  go_wp2
  go_ret
  exact ⟨YF (by simp),rfl⟩
theorem szTable_c (t:Jc) (A:Option Addr) (cap:Nat) (left:Int) (w:World) (hn:t.cells.length≤9223372036854775807) (h0:0≤left) (h1:left≤1048576) :
 Calls Tryz.prog 42 #[tabV t A cap,.int .i64 left] w fun e w'=>e=.returned (.int .i64 (if left-t.cells.length<0 then -1 else left-t.cells.length))∧Below w.heap.size w w':=by
 have c1:=fun W=>szIntS_c A t.cells.length cap left W hn h0 h1
 by_cases h:left-t.cells.length<0
 ·rw [if_pos h] at c1
  rw [if_pos h]
  go_enter Tryz.func42,Tryz.ntmps42
  go_wp2_with (fail)
  refine (c1 _).mono ?_
  rintro e w' ⟨rfl,rfl⟩
  go_wp2
  go_ret
  refine ⟨rfl, ?_⟩
  exact Xo
 ·rw [if_neg h] at c1
  rw [if_neg h]
  go_enter Tryz.func42,Tryz.ntmps42
  go_wp2_with (fail)
  refine (c1 _).mono ?_
  rintro e w' ⟨rfl,rfl⟩
  go_wp2
  go_ret
  refine ⟨rfl, ?_⟩
  exact Xo
set_option maxRecDepth 100000 in
theorem toIntS_c (A:Option Addr) (xs:List Int) (cap:Nat) (w:World) (hn:xs.length≤1048576) (hs:Sl 1 YP w A xs) :
 Calls Tryz.prog 62 #[.slice A xs.length cap] w fun e w'=>∃ v,e=.returned v∧XY 3 1 YP w' w.heap.size v xs∧Below w.heap.size w w':=by
 obtain ⟨i0,hi0,hz0,hz1,hz2⟩:=info_parts (show (Tryz.prog.info? 3).map (fun i=>(i.zero,i.size,i.bytes))=some (some (.int .i64 0),1,8) by kernel_rfl)
 have hmk:∀ W:World,(Instr.makeSlice 22 (.int .i64 (xs.length:Int)) (.int .i64 (xs.length:Int))).run Tryz.prog W=.ok (.slice (some ⟨W.heap.size,0,none⟩) xs.length xs.length) (W.alloc (.cells (madeCells #[.int .i64 0] xs.length) 3)):=by
  intro W
  have h:=run_make (P:=Tryz.prog) W 22 3 i0 _ Tryz.underlying22 hi0 hz0 .i64 .i64 (xs.length:Int) (xs.length:Int) (by omega) (by omega) (by rw [hz2];omega) (by omega)
  rw [hz1] at h
  simpa [Value.cells] using h
 go_enter Tryz.func62,Tryz.ntmps62
 go_wp2
 go_loopw [4] (fun i wr=>∃ k:Nat,k≤xs.length∧i=.int .i64 k∧ZA 3 1 YP wr w.heap.size (xs.length*1) xs k∧Below w.heap.size w wr) (fun i _=>xs.length-(intOf i).toNat)
 case atStart=>exact ⟨0,Nat.zero_le _,rfl,ZA.start (by simp [madeCells]) Xu,Xm bR _⟩
 case round =>
  obtain ⟨k,hk,rfl,hfill,hbw⟩:=hrel
  by_cases hlt:k<xs.length
  ·obtain ⟨b,off,rfl,hblt,hc⟩:=(hs.below hbw).at_ hlt
   have g0:=hc 0 _ rfl
   clear hc
   simp only [Nat.mul_one,Nat.add_zero] at g0
   obtain ⟨u0,c0⟩:=hfill.cell (m:=k) (by omega)
   have f0:=hfill.frozen k
   have hst:=hfill.stored Yv hlt (vs:=YP xs[k]) rfl
   have hst2:=below_setCells (Nat.le_refl w.heap.size) (YP xs[k]) (k*1) _ hbw
   rw [Nat.mul_one] at hst hst2
   generalize xs[k]=x at *
   go_wp2
   exact ⟨⟨k+1,by omega,by go_num,hst,hst2⟩,by simp [intOf];omega⟩
  ·obtain rfl:k=xs.length:=by omega
   go_wp2
   go_ret
   exact ⟨_,rfl,hfill.new Yv Xu (by unfold maxLen;omega),hbw⟩
set_option maxRecDepth 100000 in
theorem eqIntS_t (A B:Option Addr) (xs:List Int) (c d:Nat) (w:World) (hn:xs.length≤1048576) (ha:Sl 1 YP w A xs) (hb:Sl 1 YP w B xs) :
 Calls Tryz.prog 23 #[.slice A xs.length c,.slice B xs.length d] w fun e w'=>e=.returned (.bool true)∧Below w.heap.size w w':=by
 go_enter Tryz.func23,Tryz.ntmps23
 go_wp2
 go_loopw [5] (fun i wr=>∃ k:Nat,k≤xs.length∧i=.int .i64 k∧Below w.heap.size w wr) (fun i _=>xs.length-(intOf i).toNat)
 case atStart=>exact ⟨0,Nat.zero_le _,rfl,Below.refl _ _⟩
 case round =>
  obtain ⟨k,hk,rfl,hbw⟩:=hrel
  by_cases hlt:k<xs.length
  ·obtain ⟨b,off,rfl,hblt,hc⟩:=(ha.below hbw).at_ hlt
   obtain ⟨b',off',rfl,hblt',hc'⟩:=(hb.below hbw).at_ hlt
   have g0:=hc 0 _ rfl
   have g1:=hc' 0 _ rfl
   clear hc hc'
   simp only [Nat.mul_one,Nat.add_zero] at g0 g1
   generalize xs[k]=x at *
   have i1:(0:Int)≤(k:Int):=by omega
   have i2:(k:Int)<(xs.length:Int):=by omega
   go_wp2
   go_quiet (fail)
   go_wp2
   exact ⟨⟨k+1,by omega,by go_num,YM hbw _⟩,by simp [intOf];omega⟩
  ·go_wp2
   go_ret
   exact ⟨rfl,hbw⟩
set_option maxHeartbeats 400000 in
theorem toTable_c (t:Jc) (A:Option Addr) (cap:Nat) (w:World) (hn:t.cells.length≤1048576) (hs:Sl 1 YP w A t.cells) :
 Calls Tryz.prog 44 #[tabV t A cap] w fun e w'=>∃ A' cap',e=.returned (tabV t A' cap')∧XY 3 1 YP w' w.heap.size (.slice A' t.cells.length cap') t.cells∧Below w.heap.size w w':=by
 go_enter Tryz.func44,Tryz.ntmps44
 go_wp2_with (fail)
 refine (toIntS_c A t.cells cap _ hn ?hsl).mono ?_
 case hsl =>
  refine hs.below ?_
  exact Xo
 rintro e w1 ⟨v1,rfl,N1,hb1⟩
 have hbw:=Xh (Xm (Xm (Xm (Below.refl w.heap.size w) _) _) _) hb1
 have H1:X3 w1 (w.heap.size+1) [.int .i64 0,.int .i64 0,.int .i64 0,.int .i64 0,.int .i64 0,.slice none 0 0]:=by
  refine X3.below ?_ hb1
  have:=X3.new (w.alloc (.cells #[.int .i64 t.x0,.int .i64 t.y0,.int .i64 t.step,.int .i64 t.nx,.int .i64 t.ny,.slice A t.cells.length cap] 67)) #[.int .i64 0,.int .i64 0,.int .i64 0,.int .i64 0,.int .i64 0,.slice none 0 0] 75
  simp only [World.size_alloc] at this
  exact this.alloc _
 have H2:X3 w1 (w.heap.size+1+1) [.int .i64 t.x0,.int .i64 t.y0,.int .i64 t.step,.int .i64 t.nx,.int .i64 t.ny,.slice none 0 0]:=by
  refine X3.below ?_ hb1
  have:=X3.new ((w.alloc (.cells #[.int .i64 t.x0,.int .i64 t.y0,.int .i64 t.step,.int .i64 t.nx,.int .i64 t.ny,.slice A t.cells.length cap] 67)).alloc (.cells #[.int .i64 0,.int .i64 0,.int .i64 0,.int .i64 0,.int .i64 0,.slice none 0 0] 75)) #[.int .i64 t.x0,.int .i64 t.y0,.int .i64 t.step,.int .i64 t.nx,.int .i64 t.ny,.slice none 0 0] 75
  simp only [World.size_alloc] at this
  exact this
 obtain ⟨A1,k1,rfl,hown⟩:=N1
 have N1':XY 3 1 YP w1 (w.heap.size+1+1+1) (.slice A1 t.cells.length k1) t.cells:=XY.mono ⟨A1,k1,rfl,hown⟩ (by simp)
 have hz:w.heap.size+1+1<w1.heap.size:=H2.1
 obtain ⟨cH1_0,fH1_0⟩:=H1.2 0 _ rfl
 obtain ⟨cH1_1,fH1_1⟩:=H1.2 1 _ rfl
 obtain ⟨cH1_2,fH1_2⟩:=H1.2 2 _ rfl
 obtain ⟨cH1_3,fH1_3⟩:=H1.2 3 _ rfl
 obtain ⟨cH1_4,fH1_4⟩:=H1.2 4 _ rfl
 obtain ⟨cH1_5,fH1_5⟩:=H1.2 5 _ rfl
 obtain ⟨cH2_0,fH2_0⟩:=H2.2 0 _ rfl
 obtain ⟨cH2_1,fH2_1⟩:=H2.2 1 _ rfl
 obtain ⟨cH2_2,fH2_2⟩:=H2.2 2 _ rfl
 obtain ⟨cH2_3,fH2_3⟩:=H2.2 3 _ rfl
 obtain ⟨cH2_4,fH2_4⟩:=H2.2 4 _ rfl
 obtain ⟨cH2_5,fH2_5⟩:=H2.2 5 _ rfl
 clear hown hs H1 H2 hb1
 go_wp2
 clear fH1_0 fH1_1 fH1_2 fH1_3 fH1_4 fH1_5 fH2_0 fH2_1 fH2_2 fH2_3 fH2_4 fH2_5 cH2_0 cH2_1 cH2_2 cH2_3 cH2_4 cH2_5
 refine bodyPost_ret (v:=.agg #[.int .i64 t.x0,.int .i64 t.y0,.int .i64 t.step,.int .i64 t.nx,.int .i64 t.ny,.slice A1 t.cells.length k1]) (by simp [results,Tryz.results44,go_sem,cH1_0,cH1_1,cH1_2,cH1_3,cH1_4,cH1_5]) rfl ?_
 refine ⟨A1,k1,rfl, ?_, ?_⟩
 ·refine XY.mono (base:=w.heap.size+1+1+1) ?_ (by omega)
  repeat (first|(with_reducible exact N1')|(with_reducible refine XY.low ?_ ?_ _)|(focus (simp;done))|(focus (simp;omega)))
 ·exact Xo
theorem eqTable_t (t:Jc) (A B:Option Addr) (c d:Nat) (w:World) (hn:t.cells.length≤1048576) (ha:Sl 1 YP w A t.cells) (hb:Sl 1 YP w B t.cells) :
 Calls Tryz.prog 47 #[tabV t A c,tabV t B d] w fun e w'=>e=.returned (.bool true)∧Below w.heap.size w w':=by
 go_enter Tryz.func47,Tryz.ntmps47
 go_wp2_with (fail)
 refine (eqIntS_t A B t.cells c d _ hn ?ha ?hb).mono ?_
 case ha =>
  refine ha.below ?_
  exact Xo
 case hb =>
  refine hb.below ?_
  exact Xo
 rintro e w1 ⟨rfl,hb1⟩
 have hbw:=Xh (Xm (Xm (Below.refl w.heap.size w) _) _) hb1
 go_wp2
 go_ret
 exact ⟨rfl,hbw⟩
end Go.Proofs.YtkjimfapbjdafaaGreat
end
section
namespace Go.Proofs.YtkjimfapbjdafaaGreat
open Go.RowKit
structure XL (w:World) (base:Nat) (x:List Half) (a:ZR):Prop where
 halves:XY 175 3 Xr w base (.slice a.A (List.length x) a.c) x
theorem XL.sl {w:World} {base:Nat} {x:List Half} {a:ZR} (h:XL w base x a):Zk w x a:=⟨h.halves.out Xz⟩
theorem XL.below {w w':World} {base B:Nat} {x:List Half} {a:ZR} (h:XL w base x a) (hb:Below B w w') (hB:w.heap.size≤B):XL w' base x a:=⟨h.halves.below hb hB⟩
theorem XL.mono {w:World} {base base':Nat} {x:List Half} {a:ZR} (h:XL w base x a) (hb:base'≤base):XL w base' x a:=⟨h.halves.mono hb⟩
theorem XL.low {w:World} {base:Nat} {x:List Half} {a:ZR} (h:XL w base x a) {p:Addr} (hp:p.block<base) (u:Value):XL (w.setCell p u) base x a:=⟨h.halves.low hp u⟩
theorem XL.blk {w:World} {base:Nat} {x:List Half} {a:ZR} (h:XL w base x a):Blk base w.heap.size a:=h.halves.blk
structure X0 (w:World) (base:Nat) (x:XN) (a:Yr):Prop where
 map:XY 3 1 YP w base (.slice a.map.A (List.length x.map) a.map.c) x.map
 noise:XL w base x.noise a.noise
 limits:XL w base x.limits a.limits
 apart:List.Pairwise Jb [a.map,a.noise,a.limits]
theorem X0.sl {w:World} {base:Nat} {x:XN} {a:Yr} (h:X0 w base x a):Yo w x a:=⟨h.map.out Yv,h.noise.sl,h.limits.sl⟩
theorem X0.below {w w':World} {base B:Nat} {x:XN} {a:Yr} (h:X0 w base x a) (hb:Below B w w') (hB:w.heap.size≤B):X0 w' base x a:=⟨h.map.below hb hB,h.noise.below hb hB,h.limits.below hb hB,h.apart⟩
theorem X0.mono {w:World} {base base':Nat} {x:XN} {a:Yr} (h:X0 w base x a) (hb:base'≤base):X0 w base' x a:=⟨h.map.mono hb,h.noise.mono hb,h.limits.mono hb,h.apart⟩
theorem X0.low {w:World} {base:Nat} {x:XN} {a:Yr} (h:X0 w base x a) {p:Addr} (hp:p.block<base) (u:Value):X0 (w.setCell p u) base x a:=⟨h.map.low hp u,h.noise.low hp u,h.limits.low hp u,h.apart⟩
theorem X0.blk {w:World} {base:Nat} {x:XN} {a:Yr} (h:X0 w base x a):Blk base w.heap.size a.map∧Blk base w.heap.size a.noise∧Blk base w.heap.size a.limits:=⟨h.map.blk,h.noise.blk,h.limits.blk⟩
structure Zh (w:World) (base:Nat) (x:Watch) (a:JP):Prop where
 room:X0 w base x.room a.room
 reg:XL w base x.reg a.reg
 log:XY 3 1 YP w base (.slice a.log.A (List.length x.log) a.log.c) x.log
 apart:List.Pairwise Jb [a.room.map,a.room.noise,a.room.limits,a.reg,a.log]
theorem Zh.sl {w:World} {base:Nat} {x:Watch} {a:JP} (h:Zh w base x a):WatchSl w x a:=⟨h.room.sl,h.reg.sl,h.log.out Yv⟩
theorem Zh.below {w w':World} {base B:Nat} {x:Watch} {a:JP} (h:Zh w base x a) (hb:Below B w w') (hB:w.heap.size≤B):Zh w' base x a:=⟨h.room.below hb hB,h.reg.below hb hB,h.log.below hb hB,h.apart⟩
theorem Zh.mono {w:World} {base base':Nat} {x:Watch} {a:JP} (h:Zh w base x a) (hb:base'≤base):Zh w base' x a:=⟨h.room.mono hb,h.reg.mono hb,h.log.mono hb,h.apart⟩
theorem Zh.low {w:World} {base:Nat} {x:Watch} {a:JP} (h:Zh w base x a) {p:Addr} (hp:p.block<base) (u:Value):Zh (w.setCell p u) base x a:=⟨h.room.low hp u,h.reg.low hp u,h.log.low hp u,h.apart⟩
theorem Zh.blk {w:World} {base:Nat} {x:Watch} {a:JP} (h:Zh w base x a):Blk base w.heap.size a.room.map∧Blk base w.heap.size a.room.noise∧Blk base w.heap.size a.room.limits∧Blk base w.heap.size a.reg∧Blk base w.heap.size a.log:=⟨h.room.blk.1,h.room.blk.2.1,h.room.blk.2.2,h.reg.blk,h.log.blk⟩
structure Zi (w:World) (base:Nat) (x:Track) (a:JQ):Prop where
 spots:XY 44 3 KR w base (.slice a.spots.A (List.length x.spots) a.spots.c) x.spots
 inputs:XY 70 2 ratioC w base (.slice a.inputs.A (List.length x.inputs) a.inputs.c) x.inputs
 apart:List.Pairwise Jb [a.spots,a.inputs]
theorem Zi.sl {w:World} {base:Nat} {x:Track} {a:JQ} (h:Zi w base x a):TrackSl w x a:=⟨h.spots.out KV,h.inputs.out ratioC_len⟩
theorem Zi.below {w w':World} {base B:Nat} {x:Track} {a:JQ} (h:Zi w base x a) (hb:Below B w w') (hB:w.heap.size≤B):Zi w' base x a:=⟨h.spots.below hb hB,h.inputs.below hb hB,h.apart⟩
theorem Zi.mono {w:World} {base base':Nat} {x:Track} {a:JQ} (h:Zi w base x a) (hb:base'≤base):Zi w base' x a:=⟨h.spots.mono hb,h.inputs.mono hb,h.apart⟩
theorem Zi.low {w:World} {base:Nat} {x:Track} {a:JQ} (h:Zi w base x a) {p:Addr} (hp:p.block<base) (u:Value):Zi (w.setCell p u) base x a:=⟨h.spots.low hp u,h.inputs.low hp u,h.apart⟩
theorem Zi.blk {w:World} {base:Nat} {x:Track} {a:JQ} (h:Zi w base x a):Blk base w.heap.size a.spots∧Blk base w.heap.size a.inputs:=⟨h.spots.blk,h.inputs.blk⟩
structure Ko (w:World) (base:Nat) (x:Law) (a:LawA):Prop where
 lows:XY 171 4 pieceC w base (.slice a.lows.A (List.length x.lows) a.lows.c) x.lows
 highs:XY 171 4 pieceC w base (.slice a.highs.A (List.length x.highs) a.highs.c) x.highs
 apart:List.Pairwise Jb [a.lows,a.highs]
theorem Ko.sl {w:World} {base:Nat} {x:Law} {a:LawA} (h:Ko w base x a):LawSl w x a:=⟨h.lows.out pieceC_len,h.highs.out pieceC_len⟩
theorem Ko.below {w w':World} {base B:Nat} {x:Law} {a:LawA} (h:Ko w base x a) (hb:Below B w w') (hB:w.heap.size≤B):Ko w' base x a:=⟨h.lows.below hb hB,h.highs.below hb hB,h.apart⟩
theorem Ko.mono {w:World} {base base':Nat} {x:Law} {a:LawA} (h:Ko w base x a) (hb:base'≤base):Ko w base' x a:=⟨h.lows.mono hb,h.highs.mono hb,h.apart⟩
theorem Ko.low {w:World} {base:Nat} {x:Law} {a:LawA} (h:Ko w base x a) {p:Addr} (hp:p.block<base) (u:Value):Ko (w.setCell p u) base x a:=⟨h.lows.low hp u,h.highs.low hp u,h.apart⟩
theorem Ko.blk {w:World} {base:Nat} {x:Law} {a:LawA} (h:Ko w base x a):Blk base w.heap.size a.lows∧Blk base w.heap.size a.highs:=⟨h.lows.blk,h.highs.blk⟩
end Go.Proofs.YtkjimfapbjdafaaGreat
end
section
namespace Go.Proofs.YtkjimfapbjdafaaGreat
open Go.RowKit
theorem eqRatio_t (x:Yd) (w:World) :
 Calls Tryz.prog 59 #[X6 x,X6 x] w fun e w'=>e=.returned (.bool true)∧Below w.heap.size w w':=by
 go_enter Tryz.func59,Tryz.ntmps59
 go_wp2
 go_ret
 refine ⟨rfl, ?_⟩
 exact Xo
theorem toSpot_c (x:XJ) (w:World) :
 Calls Tryz.prog 21 #[Yz x] w fun e w'=>e=.returned (Yz x)∧Below w.heap.size w w':=by
 go_enter Tryz.func21,Tryz.ntmps21
 go_wp2
 refine bodyPost_ret (v:=.agg #[.int .i64 x.x,.int .i64 x.y,.int .i64 x.d]) (by simp [results,Tryz.results21,go_sem]) rfl ⟨rfl, ?_⟩
 exact Xo
theorem toHalf_c (x:Half) (w:World) :
 Calls Tryz.prog 161 #[Zc x] w fun e w'=>e=.returned (Zc x)∧Below w.heap.size w w':=by
 go_enter Tryz.func161,Tryz.ntmps161
 go_wp2
 refine bodyPost_ret (v:=.agg #[.int .i64 x.a,.int .i64 x.b,.int .i64 x.c]) (by simp [results,Tryz.results161,go_sem]) rfl ⟨rfl, ?_⟩
 exact Xo
theorem eqHalf_t (x:Half) (w:World) :
 Calls Tryz.prog 164 #[Zc x,Zc x] w fun e w'=>e=.returned (.bool true)∧Below w.heap.size w w':=by
 go_enter Tryz.func164,Tryz.ntmps164
 go_wp2
 go_ret
 refine ⟨rfl, ?_⟩
 exact Xo
theorem toMode_c (x:ZJ) (w:World) :
 Calls Tryz.prog 86 #[modeV x] w fun e w'=>e=.returned (modeV x)∧Below w.heap.size w w':=by
 go_enter Tryz.func86,Tryz.ntmps86
 go_wp2
 refine bodyPost_ret (v:=.agg #[.int .i64 x.low,.int .i64 x.high]) (by simp [results,Tryz.results86,go_sem]) rfl ⟨rfl, ?_⟩
 exact Xo
theorem eqMode_t (x:ZJ) (w:World) :
 Calls Tryz.prog 91 #[modeV x,modeV x] w fun e w'=>e=.returned (.bool true)∧Below w.heap.size w w':=by
 go_enter Tryz.func91,Tryz.ntmps91
 go_wp2
 go_ret
 refine ⟨rfl, ?_⟩
 exact Xo
end Go.Proofs.YtkjimfapbjdafaaGreat
end
section
namespace Go.Proofs.YtkjimfapbjdafaaGreat
open Go.RowKit
theorem szHalfS_c (A:Option Addr) (n cap:Nat) (left:Int) (w:World) (hn:n≤9223372036854775807) (h0:0≤left) (h1:left≤1048576) :
 Calls Tryz.prog 82 #[.slice A n cap,.int .i64 left] w fun e w'=>e=.returned (.int .i64 (if left-n<0 then -1 else left-n))∧w=w':=by
 by_cases h:left-n<0
 all_goals
  go_enter Tryz.func82,Tryz.ntmps82
  go_wp2
  go_ret
  exact ⟨YF (by simp),rfl⟩
set_option maxRecDepth 100000 in
theorem eqHalfS_t (A B:Option Addr) (xs:List Half) (c d:Nat) (w:World) (hn:xs.length≤1048576) (ha:Sl 3 Xr w A xs) (hb:Sl 3 Xr w B xs) :
 Calls Tryz.prog 92 #[.slice A xs.length c,.slice B xs.length d] w fun e w'=>e=.returned (.bool true)∧Below w.heap.size w w':=by
 go_enter Tryz.func92,Tryz.ntmps92
 go_wp2
 go_loopw [5] (fun i wr=>∃ k:Nat,k≤xs.length∧i=.int .i64 k∧Below w.heap.size w wr) (fun i _=>xs.length-(intOf i).toNat)
 case atStart=>exact ⟨0,Nat.zero_le _,rfl,Below.refl _ _⟩
 case round =>
  obtain ⟨k,hk,rfl,hbw⟩:=hrel
  by_cases hlt:k<xs.length
  ·obtain ⟨b,off,rfl,hblt,hc⟩:=(ha.below hbw).at_ hlt
   obtain ⟨b',off',rfl,hblt',hc'⟩:=(hb.below hbw).at_ hlt
   have g0:=hc 0 _ rfl
   have g1:=hc 1 _ rfl
   have g2:=hc 2 _ rfl
   have g0':=hc' 0 _ rfl
   have g1':=hc' 1 _ rfl
   have g2':=hc' 2 _ rfl
   clear hc hc'
   simp only [Nat.add_zero] at g0 g0'
   generalize xs[k]=x at *
   go_wp2
   go_still_tail 8,(by kernel_rfl)
   change wpList _ _ _ _ _ wr.drew
   generalize hwr:wr.drew=w2
   have hb2:Below w.heap.size w w2:=by rw [← hwr];exact hbw.drew
   clear hwr
   go_wp2_with (fail)
   refine (eqHalf_t x _).mono ?_
   rintro e w1 ⟨rfl,hb1⟩
   go_wp2
   go_roundw
   case rel=>exact ⟨k+1,by omega,by go_num,hb2.trans (hb1.mono hb2.size)⟩
   case measure=>simp [intOf];omega
  ·go_wp2
   go_ret
   exact ⟨rfl,hbw⟩
set_option maxRecDepth 100000 in
theorem toHalfS_c (A:Option Addr) (xs:List Half) (cap:Nat) (w:World) (hn:xs.length≤1048576) (hs:Sl 3 Xr w A xs) :
 Calls Tryz.prog 87 #[.slice A xs.length cap] w fun e w'=>∃ v,e=.returned v∧XY 175 3 Xr w' w.heap.size v xs∧Below w.heap.size w w':=by
 obtain ⟨i0,hi0,hz0,hz1,hz2⟩:=info_parts (show (Tryz.prog.info? 175).map (fun i=>(i.zero,i.size,i.bytes))=some (some (.agg #[.int .i64 0,.int .i64 0,.int .i64 0]),3,24) by kernel_rfl)
 have hmk:∀ W:World,(Instr.makeSlice 35 (.int .i64 (xs.length:Int)) (.int .i64 (xs.length:Int))).run Tryz.prog W=.ok (.slice (some ⟨W.heap.size,0,none⟩) xs.length xs.length) (W.alloc (.cells (madeCells #[.int .i64 0,.int .i64 0,.int .i64 0] (xs.length*3)) 175)):=by
  intro W
  have h:=run_make (P:=Tryz.prog) W 35 175 i0 _ Tryz.underlying35 hi0 hz0 .i64 .i64 (xs.length:Int) (xs.length:Int) (by omega) (by omega) (by rw [hz2];omega) (by omega)
  rw [hz1] at h
  simpa [Value.cells] using h
 go_enter Tryz.func87,Tryz.ntmps87
 go_wp2
 go_loopw [4] (fun i wr=>∃ k:Nat,k≤xs.length∧i=.int .i64 k∧ZA 175 3 Xr wr w.heap.size (xs.length*3) xs k∧Below w.heap.size w wr) (fun i _=>xs.length-(intOf i).toNat)
 case atStart=>exact ⟨0,Nat.zero_le _,rfl,ZA.start (by simp [madeCells]) Xu,Xm bR _⟩
 case round =>
  obtain ⟨k,hk,rfl,hfill,hbw⟩:=hrel
  by_cases hlt:k<xs.length
  ·obtain ⟨b,off,rfl,hblt,hc⟩:=(hs.below hbw).at_ hlt
   have g0:=hc 0 _ rfl
   have g1:=hc 1 _ rfl
   have g2:=hc 2 _ rfl
   clear hc
   simp only [Nat.add_zero] at g0
   have hx:xs[k]=xs[k]:=rfl
   generalize hxx:xs[k]=x at *
   have HX:=Lib.hid hxx
   clear hxx hx
   go_wp2_with (fail)
   refine (toHalf_c x _).mono ?_
   rintro e w1 ⟨rfl,hb1⟩
   have hfill1:=hfill.below hb1
   have hbw1:=Xh hbw hb1
   have hm:=Nat.mul_le_mul_right 3 hlt
   obtain ⟨u0,c0⟩:=hfill1.cell (m:=k*3) (by omega)
   have f0:=hfill1.frozen (k*3)
   obtain ⟨u1,c1⟩:=hfill1.cell (m:=k*3+1) (by omega)
   have f1:=hfill1.frozen (k*3+1)
   obtain ⟨u2,c2⟩:=hfill1.cell (m:=k*3+2) (by omega)
   have f2:=hfill1.frozen (k*3+2)
   clear hm
   have hst:=hfill1.stored Xz hlt (vs:=Xr x) (by rw [HX.out])
   have hst2:=below_setCells (Nat.le_refl w.heap.size) (Xr x) (k*3) _ hbw1
   go_wp2
   exact ⟨⟨k+1,by omega,by go_num,hst,hst2⟩,by simp [intOf];omega⟩
  ·obtain rfl:k=xs.length:=by omega
   go_wp2
   go_ret
   exact ⟨_,rfl,hfill.new Xz Xu (by unfold maxLen;omega),hbw⟩
theorem szModeS_c (A:Option Addr) (n cap:Nat) (left:Int) (w:World) (hn:n≤9223372036854775807) (h0:0≤left) (h1:left≤1048576) :
 Calls Tryz.prog 15 #[.slice A n cap,.int .i64 left] w fun e w'=>e=.returned (.int .i64 (if left-n<0 then -1 else left-n))∧w=w':=by
 by_cases h:left-n<0
 all_goals
  go_enter Tryz.func15,Tryz.ntmps15
  go_wp2
  go_ret
  exact ⟨YF (by simp),rfl⟩
set_option maxRecDepth 100000 in
theorem eqModeS_t (A B:Option Addr) (xs:List ZJ) (c d:Nat) (w:World) (hn:xs.length≤1048576) (ha:Sl 2 ZD w A xs) (hb:Sl 2 ZD w B xs) :
 Calls Tryz.prog 25 #[.slice A xs.length c,.slice B xs.length d] w fun e w'=>e=.returned (.bool true)∧Below w.heap.size w w':=by
 go_enter Tryz.func25,Tryz.ntmps25
 go_wp2
 go_loopw [5] (fun i wr=>∃ k:Nat,k≤xs.length∧i=.int .i64 k∧Below w.heap.size w wr) (fun i _=>xs.length-(intOf i).toNat)
 case atStart=>exact ⟨0,Nat.zero_le _,rfl,Below.refl _ _⟩
 case round =>
  obtain ⟨k,hk,rfl,hbw⟩:=hrel
  by_cases hlt:k<xs.length
  ·obtain ⟨b,off,rfl,hblt,hc⟩:=(ha.below hbw).at_ hlt
   obtain ⟨b',off',rfl,hblt',hc'⟩:=(hb.below hbw).at_ hlt
   have g0:=hc 0 _ rfl
   have g1:=hc 1 _ rfl
   have g0':=hc' 0 _ rfl
   have g1':=hc' 1 _ rfl
   clear hc hc'
   simp only [Nat.add_zero] at g0 g0'
   generalize xs[k]=x at *
   go_wp2
   go_still_tail 8,(by kernel_rfl)
   change wpList _ _ _ _ _ wr.drew
   generalize hwr:wr.drew=w2
   have hb2:Below w.heap.size w w2:=by rw [← hwr];exact hbw.drew
   clear hwr
   go_wp2_with (fail)
   refine (eqMode_t x _).mono ?_
   rintro e w1 ⟨rfl,hb1⟩
   go_wp2
   go_roundw
   case rel=>exact ⟨k+1,by omega,by go_num,hb2.trans (hb1.mono hb2.size)⟩
   case measure=>simp [intOf];omega
  ·go_wp2
   go_ret
   exact ⟨rfl,hbw⟩
set_option maxRecDepth 100000 in
theorem JG (A:Option Addr) (xs:List ZJ) (cap:Nat) (w:World) (hn:xs.length≤1048576) (hs:Sl 2 ZD w A xs) :
 Calls Tryz.prog 19 #[.slice A xs.length cap] w fun e w'=>∃ v,e=.returned v∧XY 132 2 ZD w' w.heap.size v xs∧Below w.heap.size w w':=by
 obtain ⟨i0,hi0,hz0,hz1,hz2⟩:=info_parts (show (Tryz.prog.info? 132).map (fun i=>(i.zero,i.size,i.bytes))=some (some (.agg #[.int .i64 0,.int .i64 0]),2,16) by kernel_rfl)
 have hmk:∀ W:World,(Instr.makeSlice 41 (.int .i64 (xs.length:Int)) (.int .i64 (xs.length:Int))).run Tryz.prog W=.ok (.slice (some ⟨W.heap.size,0,none⟩) xs.length xs.length) (W.alloc (.cells (madeCells #[.int .i64 0,.int .i64 0] (xs.length*2)) 132)):=by
  intro W
  have h:=run_make (P:=Tryz.prog) W 41 132 i0 _ Tryz.underlying41 hi0 hz0 .i64 .i64 (xs.length:Int) (xs.length:Int) (by omega) (by omega) (by rw [hz2];omega) (by omega)
  rw [hz1] at h
  simpa [Value.cells] using h
 go_enter Tryz.func19,Tryz.ntmps19
 go_wp2
 go_loopw [4] (fun i wr=>∃ k:Nat,k≤xs.length∧i=.int .i64 k∧ZA 132 2 ZD wr w.heap.size (xs.length*2) xs k∧Below w.heap.size w wr) (fun i _=>xs.length-(intOf i).toNat)
 case atStart=>exact ⟨0,Nat.zero_le _,rfl,ZA.start (by simp [madeCells]) Xu,Xm bR _⟩
 case round =>
  obtain ⟨k,hk,rfl,hfill,hbw⟩:=hrel
  by_cases hlt:k<xs.length
  ·obtain ⟨b,off,rfl,hblt,hc⟩:=(hs.below hbw).at_ hlt
   have g0:=hc 0 _ rfl
   have g1:=hc 1 _ rfl
   clear hc
   simp only [Nat.add_zero] at g0
   have hx:xs[k]=xs[k]:=rfl
   generalize hxx:xs[k]=x at *
   have HX:=Lib.hid hxx
   clear hxx hx
   go_wp2_with (fail)
   refine (toMode_c x _).mono ?_
   rintro e w1 ⟨rfl,hb1⟩
   have hfill1:=hfill.below hb1
   have hbw1:=Xh hbw hb1
   have hm:=Nat.mul_le_mul_right 2 hlt
   obtain ⟨u0,c0⟩:=hfill1.cell (m:=k*2) (by omega)
   have f0:=hfill1.frozen (k*2)
   obtain ⟨u1,c1⟩:=hfill1.cell (m:=k*2+1) (by omega)
   have f1:=hfill1.frozen (k*2+1)
   clear hm
   have hst:=hfill1.stored Kl hlt (vs:=ZD x) (by rw [HX.out])
   have hst2:=below_setCells (Nat.le_refl w.heap.size) (ZD x) (k*2) _ hbw1
   go_wp2
   exact ⟨⟨k+1,by omega,by go_num,hst,hst2⟩,by simp [intOf];omega⟩
  ·obtain rfl:k=xs.length:=by omega
   go_wp2
   go_ret
   exact ⟨_,rfl,hfill.new Kl Xu (by unfold maxLen;omega),hbw⟩
end Go.Proofs.YtkjimfapbjdafaaGreat
end
section
namespace Go.Proofs.YtkjimfapbjdafaaGreat
open Go.RowKit
set_option maxRecDepth 100000 in
set_option maxHeartbeats 1000000 in
theorem ZS (x:List Half) (a:ZR) (left:Int) (w:World) (hn:List.length x≤9223372036854775807) (h0:0≤left) (h1:left≤1048576) :
 Calls Tryz.prog 16 #[Yu x a,.int .i64 left] w fun e w'=>e=.returned (.int .i64 (if left-Xf x<0 then -1 else left-Xf x))∧Below w.heap.size w w':=by
 have hn0:=hn
 have hlen:Hid (((Xf x:Nat):Int)=((List.length x:Nat):Int)):=by show _=_;simp only [Xf];(try omega)
 have p0:(0:Int)≤((List.length x:Nat):Int):=by omega
 by_cases c0:left-((List.length x:Nat):Int)<0
 ·have hfin:(if left-((Xf x:Nat):Int)<0 then (-1:Int) else left-((Xf x:Nat):Int)) = -1:=by have:=hlen.out;rw [if_pos (by omega)]
  rw [hfin]
  clear hfin
  go_enter Tryz.func16,Tryz.ntmps16
  go_wp2_with (fail)
  refine (szHalfS_c a.A (List.length x) a.c (left) _ hn0 (by omega) (by omega)).mono ?_
  rw [if_pos (by omega)]
  rintro e w' ⟨rfl,rfl⟩
  go_wp2
  go_ret
  refine ⟨rfl, ?_⟩
  exact Xo
 ·have hfin:(if left-((Xf x:Nat):Int)<0 then (-1:Int) else left-((Xf x:Nat):Int))=left-((List.length x:Nat):Int):=by have:=hlen.out;(rw [if_neg (by omega)];omega)
  rw [hfin]
  clear hfin
  go_enter Tryz.func16,Tryz.ntmps16
  go_wp2_with (fail)
  refine (szHalfS_c a.A (List.length x) a.c (left) _ hn0 (by omega) (by omega)).mono ?_
  rw [if_neg (by omega)]
  rintro e w' ⟨rfl,rfl⟩
  go_wp2
  go_ret
  refine ⟨rfl, ?_⟩
  exact Xo
set_option maxRecDepth 100000 in
set_option maxHeartbeats 1000000 in
theorem JN (x:List Half) (a b:ZR) (w:World) (hn:Xf x≤1048576) (ha:Zk w x a) (hb:Zk w x b) :
 Calls Tryz.prog 26 #[Yu x a,Yu x b] w fun e w'=>e=.returned (.bool true)∧Below w.heap.size w w':=by
 simp only [Xf] at hn
 go_enter Tryz.func26,Tryz.ntmps26
 go_wp2_with (fail)
 refine (eqHalfS_t a.A b.A x _ _ _ (by omega) (Sl.below ha.halves (by exact Xo)) (Sl.below hb.halves (by exact Xo))).mono ?_
 rintro e w0 ⟨rfl,hb0⟩
 have r0:=Xn hb0
 have l0:w.heap.size<w0.heap.size:=blt hb0 (by first|(simp;done)|(simp;omega)|omega)
 have m0:w.heap.size+1<w0.heap.size:=blt hb0 (by first|(simp;done)|(simp;omega)|omega)
 go_wp2
 go_ret
 refine ⟨rfl, ?_⟩
 exact Xo
set_option maxRecDepth 100000 in
set_option maxHeartbeats 2000000 in
theorem Zw (x:List Half) (a:ZR) (w:World) (hn:Xf x≤1048576) (hs:Zk w x a) :
 Calls Tryz.prog 20 #[Yu x a] w fun e w'=>∃ a',e=.returned (Yu x a')∧XL w' w.heap.size x a'∧Below w.heap.size w w':=by
 simp only [Xf] at hn
 go_enter Tryz.func20,Tryz.ntmps20
 go_wp2_with (fail)
 refine (toHalfS_c a.A x _ _ (by omega) (Sl.below hs.halves (by exact Xo))).mono ?_
 rintro e w0 ⟨v0,rfl,N0,hb0⟩
 obtain ⟨A0,k0,rfl,ho0⟩:=N0
 have N0:XY 175 3 Xr w0 _ (.slice A0 (List.length x) k0) x:=⟨A0,k0,rfl,ho0⟩
 clear ho0
 have K0:=N0.blk
 replace N0:=N0.mono (base':=w.heap.size+1+1+1) (by first|(simp;done)|(simp;omega)|omega)
 have r0:=Xn hb0
 have f0:=(bcell hb0).2
 have l0:w.heap.size<w0.heap.size:=blt hb0 (by first|(simp;done)|(simp;omega)|omega)
 have m0:w.heap.size+1<w0.heap.size:=blt hb0 (by first|(simp;done)|(simp;omega)|omega)
 have n0:w.heap.size+1+1<w0.heap.size:=blt hb0 (by first|(simp;done)|(simp;omega)|omega)
 have H:X3 w0 (w.heap.size+1) [.slice none 0 0]:=by
  exact Yy
 obtain ⟨cH_0,fH_0⟩:=H.2 0 _ rfl
 go_wp2
 refine bodyPost_ret (v:=Yu x ⟨A0,k0⟩) (by simp [results,Tryz.results20,go_sem,cH_0]) rfl ?_
 refine ⟨⟨A0,k0⟩,rfl,⟨?_⟩, ?_⟩
 ·refine XY.mono (base:=w.heap.size+1+1+1) ?_ (by omega)
  repeat (first|(with_reducible exact N0)|(with_reducible refine XY.low ?_ (by first|(simp;done)|(simp;omega)|omega) _)|(with_reducible refine XY.below ?_ (by assumption) Xu))
 ·exact Xo
set_option maxRecDepth 100000 in
set_option maxHeartbeats 1000000 in
theorem JX (x:XN) (a:Yr) (left:Int) (w:World) (hn:List.length x.map≤9223372036854775807∧List.length x.noise≤9223372036854775807∧List.length x.limits≤9223372036854775807) (h0:0≤left) (h1:left≤1048576) :
 Calls Tryz.prog 14 #[XH x a,.int .i64 left] w fun e w'=>e=.returned (.int .i64 (if left-Xk x<0 then -1 else left-Xk x))∧Below w.heap.size w w':=by
 obtain ⟨hn0,hn1,hn2⟩:=hn
 have hlen:Hid (((Xk x:Nat):Int)=((List.length x.map:Nat):Int)+((Xf x.noise:Nat):Int)+((Xf x.limits:Nat):Int)):=by show _=_;simp only [Xf,Xk];(try omega)
 have p0:(0:Int)≤((List.length x.map:Nat):Int):=by omega
 have p1:(0:Int)≤((Xf x.noise:Nat):Int):=by omega
 have p2:(0:Int)≤((Xf x.limits:Nat):Int):=by omega
 by_cases c0:left-((List.length x.map:Nat):Int)<0
 ·have hfin:(if left-((Xk x:Nat):Int)<0 then (-1:Int) else left-((Xk x:Nat):Int)) = -1:=by have:=hlen.out;rw [if_pos (by omega)]
  rw [hfin]
  clear hfin
  go_enter Tryz.func14,Tryz.ntmps14
  go_wp2_with (fail)
  refine (szIntS_c a.map.A (List.length x.map) a.map.c (left) _ hn0 (by omega) (by omega)).mono ?_
  rw [if_pos (by omega)]
  rintro e w' ⟨rfl,rfl⟩
  go_wp2
  go_ret
  refine ⟨rfl, ?_⟩
  exact Xo
 ·by_cases c1:left-((List.length x.map:Nat):Int)-((Xf x.noise:Nat):Int)<0
  ·have hfin:(if left-((Xk x:Nat):Int)<0 then (-1:Int) else left-((Xk x:Nat):Int)) = -1:=by have:=hlen.out;rw [if_pos (by omega)]
   rw [hfin]
   clear hfin
   go_enter Tryz.func14,Tryz.ntmps14
   go_wp2_with (fail)
   refine (szIntS_c a.map.A (List.length x.map) a.map.c (left) _ hn0 (by omega) (by omega)).mono ?_
   rw [if_neg (by omega)]
   rintro e w' ⟨rfl,rfl⟩
   go_wp2_with (fail)
   refine (ZS x.noise a.noise (left-((List.length x.map:Nat):Int)) _ hn1 (by omega) (by omega)).mono ?_
   rw [if_pos (by omega)]
   rintro e w1 ⟨rfl,hb1⟩
   have r1:=Xn hb1
   have l1:w.heap.size<w1.heap.size:=blt hb1 (by first|(simp;done)|(simp;omega)|omega)
   go_wp2
   go_ret
   refine ⟨rfl, ?_⟩
   exact Xo
  ·by_cases c2:left-((List.length x.map:Nat):Int)-((Xf x.noise:Nat):Int)-((Xf x.limits:Nat):Int)<0
   ·have hfin:(if left-((Xk x:Nat):Int)<0 then (-1:Int) else left-((Xk x:Nat):Int)) = -1:=by have:=hlen.out;rw [if_pos (by omega)]
    rw [hfin]
    clear hfin
    go_enter Tryz.func14,Tryz.ntmps14
    go_wp2_with (fail)
    refine (szIntS_c a.map.A (List.length x.map) a.map.c (left) _ hn0 (by omega) (by omega)).mono ?_
    rw [if_neg (by omega)]
    rintro e w' ⟨rfl,rfl⟩
    go_wp2_with (fail)
    refine (ZS x.noise a.noise (left-((List.length x.map:Nat):Int)) _ hn1 (by omega) (by omega)).mono ?_
    rw [if_neg (by omega)]
    rintro e w1 ⟨rfl,hb1⟩
    have r1:=Xn hb1
    have l1:w.heap.size<w1.heap.size:=blt hb1 (by first|(simp;done)|(simp;omega)|omega)
    go_wp2_with (fail)
    refine (ZS x.limits a.limits (left-((List.length x.map:Nat):Int)-((Xf x.noise:Nat):Int)) _ hn2 (by omega) (by omega)).mono ?_
    rw [if_pos (by omega)]
    rintro e w2 ⟨rfl,hb2⟩
    have r2:=Xn hb2
    have l2:w.heap.size<w2.heap.size:=blt hb2 (by first|(simp;done)|(simp;omega)|omega)
    go_wp2
    go_ret
    refine ⟨rfl, ?_⟩
    exact Xo
   ·have hfin:(if left-((Xk x:Nat):Int)<0 then (-1:Int) else left-((Xk x:Nat):Int))=left-((List.length x.map:Nat):Int)-((Xf x.noise:Nat):Int)-((Xf x.limits:Nat):Int):=by have:=hlen.out;(rw [if_neg (by omega)];omega)
    rw [hfin]
    clear hfin
    go_enter Tryz.func14,Tryz.ntmps14
    go_wp2_with (fail)
    refine (szIntS_c a.map.A (List.length x.map) a.map.c (left) _ hn0 (by omega) (by omega)).mono ?_
    rw [if_neg (by omega)]
    rintro e w' ⟨rfl,rfl⟩
    go_wp2_with (fail)
    refine (ZS x.noise a.noise (left-((List.length x.map:Nat):Int)) _ hn1 (by omega) (by omega)).mono ?_
    rw [if_neg (by omega)]
    rintro e w1 ⟨rfl,hb1⟩
    have r1:=Xn hb1
    have l1:w.heap.size<w1.heap.size:=blt hb1 (by first|(simp;done)|(simp;omega)|omega)
    go_wp2_with (fail)
    refine (ZS x.limits a.limits (left-((List.length x.map:Nat):Int)-((Xf x.noise:Nat):Int)) _ hn2 (by omega) (by omega)).mono ?_
    rw [if_neg (by omega)]
    rintro e w2 ⟨rfl,hb2⟩
    have r2:=Xn hb2
    have l2:w.heap.size<w2.heap.size:=blt hb2 (by first|(simp;done)|(simp;omega)|omega)
    go_wp2
    go_ret
    refine ⟨rfl, ?_⟩
    exact Xo
set_option maxRecDepth 100000 in
set_option maxHeartbeats 1000000 in
theorem eqRoom_t (x:XN) (a b:Yr) (w:World) (hn:Xk x≤1048576) (ha:Yo w x a) (hb:Yo w x b) :
 Calls Tryz.prog 24 #[XH x a,XH x b] w fun e w'=>e=.returned (.bool true)∧Below w.heap.size w w':=by
 simp only [Xk] at hn
 go_enter Tryz.func24,Tryz.ntmps24
 go_wp2_with (fail)
 refine (eqIntS_t a.map.A b.map.A x.map _ _ _ (by omega) (Sl.below ha.map (by exact Xo)) (Sl.below hb.map (by exact Xo))).mono ?_
 rintro e w0 ⟨rfl,hb0⟩
 have r0:=Xn hb0
 have l0:w.heap.size<w0.heap.size:=blt hb0 (by first|(simp;done)|(simp;omega)|omega)
 have m0:w.heap.size+1<w0.heap.size:=blt hb0 (by first|(simp;done)|(simp;omega)|omega)
 go_wp2_with (fail)
 refine (JN x.noise a.noise b.noise _ (by simp only [Xf];omega) (Zk.below ha.noise (by exact Xo)) (Zk.below hb.noise (by exact Xo))).mono ?_
 rintro e w1 ⟨rfl,hb1⟩
 have r1:=Xn hb1
 have l1:w.heap.size<w1.heap.size:=blt hb1 (by first|(simp;done)|(simp;omega)|omega)
 have m1:w.heap.size+1<w1.heap.size:=blt hb1 (by first|(simp;done)|(simp;omega)|omega)
 go_wp2_with (fail)
 refine (JN x.limits a.limits b.limits _ (by simp only [Xf];omega) (Zk.below ha.limits (by exact Xo)) (Zk.below hb.limits (by exact Xo))).mono ?_
 rintro e w2 ⟨rfl,hb2⟩
 have r2:=Xn hb2
 have l2:w.heap.size<w2.heap.size:=blt hb2 (by first|(simp;done)|(simp;omega)|omega)
 have m2:w.heap.size+1<w2.heap.size:=blt hb2 (by first|(simp;done)|(simp;omega)|omega)
 go_wp2
 go_ret
 refine ⟨rfl, ?_⟩
 exact Xo
set_option maxRecDepth 100000 in
set_option maxHeartbeats 2000000 in
theorem KE (x:XN) (a:Yr) (w:World) (hn:Xk x≤1048576) (hs:Yo w x a) :
 Calls Tryz.prog 18 #[XH x a] w fun e w'=>∃ a',e=.returned (XH x a')∧X0 w' w.heap.size x a'∧Below w.heap.size w w':=by
 simp only [Xk] at hn
 go_enter Tryz.func18,Tryz.ntmps18
 go_wp2_with (fail)
 refine (toIntS_c a.map.A x.map _ _ (by omega) (Sl.below hs.map (by exact Xo))).mono ?_
 rintro e w0 ⟨v0,rfl,N0,hb0⟩
 obtain ⟨A0,k0,rfl,ho0⟩:=N0
 have N0:XY 3 1 YP w0 _ (.slice A0 (List.length x.map) k0) x.map:=⟨A0,k0,rfl,ho0⟩
 clear ho0
 have K0:=N0.blk
 replace N0:=N0.mono (base':=w.heap.size+1+1+1) (by first|(simp;done)|(simp;omega)|omega)
 have r0:=Xn hb0
 have f0:=(bcell hb0).2
 have l0:w.heap.size<w0.heap.size:=blt hb0 (by first|(simp;done)|(simp;omega)|omega)
 have m0:w.heap.size+1<w0.heap.size:=blt hb0 (by first|(simp;done)|(simp;omega)|omega)
 have n0:w.heap.size+1+1<w0.heap.size:=blt hb0 (by first|(simp;done)|(simp;omega)|omega)
 go_wp2_with (fail)
 refine (Zw x.noise a.noise _ (by simp only [Xf];omega) (Zk.below hs.noise (by exact Xo))).mono ?_
 rintro e w1 ⟨a1,rfl,N1,hb1⟩
 have K1:=N1.blk
 replace N1:=N1.mono (base':=w.heap.size+1+1+1) (by first|(simp;done)|(simp;omega)|omega)
 have r1:=Xn hb1
 have f1:=(bcell hb1).2
 have s1:w0.heap.size≤w1.heap.size:=by simpa using hb1.size
 have l1:w.heap.size<w1.heap.size:=blt hb1 (by first|(simp;done)|(simp;omega)|omega)
 have m1:w.heap.size+1<w1.heap.size:=blt hb1 (by first|(simp;done)|(simp;omega)|omega)
 have n1:w.heap.size+1+1<w1.heap.size:=blt hb1 (by first|(simp;done)|(simp;omega)|omega)
 go_wp2_with (fail)
 refine (Zw x.limits a.limits _ (by simp only [Xf];omega) (Zk.below hs.limits (by exact Xo))).mono ?_
 rintro e w2 ⟨a2,rfl,N2,hb2⟩
 have K2:=N2.blk
 replace N2:=N2.mono (base':=w.heap.size+1+1+1) (by first|(simp;done)|(simp;omega)|omega)
 have r2:=Xn hb2
 have f2:=(bcell hb2).2
 have s2:w1.heap.size≤w2.heap.size:=by simpa using hb2.size
 have l2:w.heap.size<w2.heap.size:=blt hb2 (by first|(simp;done)|(simp;omega)|omega)
 have m2:w.heap.size+1<w2.heap.size:=blt hb2 (by first|(simp;done)|(simp;omega)|omega)
 have n2:w.heap.size+1+1<w2.heap.size:=blt hb2 (by first|(simp;done)|(simp;omega)|omega)
 have H:X3 w2 (w.heap.size+1) [.slice none 0 0,.int .i64 0,.int .i64 0,.int .i64 0,.int .i64 0,.int .i64 0,.slice none 0 0,.slice none 0 0]:=by
  exact Yy
 obtain ⟨cH_0,fH_0⟩:=H.2 0 _ rfl
 obtain ⟨cH_1,fH_1⟩:=H.2 1 _ rfl
 obtain ⟨cH_2,fH_2⟩:=H.2 2 _ rfl
 obtain ⟨cH_3,fH_3⟩:=H.2 3 _ rfl
 obtain ⟨cH_4,fH_4⟩:=H.2 4 _ rfl
 obtain ⟨cH_5,fH_5⟩:=H.2 5 _ rfl
 obtain ⟨cH_6,fH_6⟩:=H.2 6 _ rfl
 obtain ⟨cH_7,fH_7⟩:=H.2 7 _ rfl
 go_wp2
 refine bodyPost_ret (v:=XH x ⟨⟨A0,k0⟩,a1,a2⟩) (by simp [results,Tryz.results18,go_sem,cH_0,cH_1,cH_2,cH_3,cH_4,cH_5,cH_6,cH_7]) rfl ?_
 refine ⟨⟨⟨A0,k0⟩,a1,a2⟩,rfl,⟨?_, ?_, ?_, ?_⟩, ?_⟩
 ·refine XY.mono (base:=w.heap.size+1+1+1) ?_ (by omega)
  repeat (first|(with_reducible exact N0)|(with_reducible refine XY.low ?_ (by first|(simp;done)|(simp;omega)|omega) _)|(with_reducible refine XY.below ?_ (by assumption) Xu))
 ·refine XL.mono (base:=w.heap.size+1+1+1) ?_ (by omega)
  repeat (first|(with_reducible exact N1)|(with_reducible refine XL.low ?_ (by first|(simp;done)|(simp;omega)|omega) _)|(with_reducible refine XL.below ?_ (by assumption) Xu))
 ·refine XL.mono (base:=w.heap.size+1+1+1) ?_ (by omega)
  repeat (first|(with_reducible exact N2)|(with_reducible refine XL.low ?_ (by first|(simp;done)|(simp;omega)|omega) _)|(with_reducible refine XL.below ?_ (by assumption) Xu))
 ·simp only [List.pairwise_cons,List.mem_cons,List.not_mem_nil,or_false,forall_eq_or_imp,forall_eq,false_implies,implies_true,List.Pairwise.nil,and_true]
  exact ⟨⟨Blk.apart (K0) (K1) (by first|(simp;done)|(simp;omega)|omega),Blk.apart (K0) (K2) (by first|(simp;done)|(simp;omega)|omega)⟩,Blk.apart (K1) (K2) (by first|(simp;done)|(simp;omega)|omega)⟩
 ·exact Xo
end Go.Proofs.YtkjimfapbjdafaaGreat
end
