/-
 The functions on tables: what they return.
 Conditions: the slice of cells holds at most 2^20 ints.
-/
import Derived.StillTailTactics
import Derived.Test.YtkjimfapbjdafaaGreatGrN
set_option maxHeartbeats 2000000
namespace Go.Proofs.YtkjimfapbjdafaaGreat
open Go.RowKit
abbrev tabV (t:Jp) (A:Option Addr) (cap:Nat):Value:=.agg #[.int .i64 t.x0,.int .i64 t.y0,.int .i64 t.step,.int .i64 t.nx,.int .i64 t.ny,.slice A t.cells.length cap]
def ZI (t:Jp):Bool:=Zc t.x0 (-1000) 1000&&Zc t.y0 (-1000) 1000&&Zc t.step 1 100&&Zc t.nx 1 100&&Zc t.ny 1 100&&decide (t.nx*t.ny<=400)&&decide (t.x0+t.nx*t.step<=1000)&&decide (t.y0+t.ny*t.step<=1000)
def KF (n:Int):Bool:=n == -1000000||Zc n (-1000) 1000
def XQ (t:Jp):Bool:=ZI t&&decide ((t.cells.length:Int)=t.nx*t.ny)&&t.cells.all KF
theorem mul_bd {a b A B:Int} (ha : -A<=a/\a<=A) (hb : -B<=b/\b<=B) : -(A*B)<=a*b/\a*b<=A*B:=by
 have hA:a.natAbs<=A.natAbs:=by omega
 have hB:b.natAbs<=B.natAbs:=by omega
 have hm:=Nat.mul_le_mul hA hB;rw [<- Int.natAbs_mul,<- Int.natAbs_mul] at hm;have hAB:0<=A*B:=Int.mul_nonneg (by omega) (by omega);omega
theorem KL {t:Jp}:ZI t=true ↔ (-1000<=t.x0/\t.x0<=1000)/\(-1000<=t.y0/\t.y0<=1000)/\(1<=t.step/\t.step<=100)/\(1<=t.nx/\t.nx<=100)/\(1<=t.ny/\t.ny<=100)/\t.nx*t.ny<=400/\t.x0+t.nx*t.step<=1000/\t.y0+t.ny*t.step<=1000:=by
 simp only [ZI,Bool.and_eq_true,YT,decide_eq_true_eq,and_assoc]
theorem igridOk_c (t:Jp) (A:Option Addr) (cap:Nat) (w:World) (_:t.In) :
 Calls Tryz.prog 130 #[tabV t A cap] w λ e w'=>e=.returned (.bool (ZI t))/\Below w.heap.size w w':=by
 cases e1:Zc t.x0 (-1000) 1000
 ·go_enter Tryz.func130,Tryz.ntmps130
  go_wp2_with (first|(go_at_call 129;refine (Yr _ _ _ _).mono ?_;rintro e w' ⟨rfl,rfl⟩))
  go_ret
  refine ⟨Xi (by simp [ZI,e1]<;>omega), ?_⟩;exact Xo
 ·cases e2:Zc t.y0 (-1000) 1000
  ·go_enter Tryz.func130,Tryz.ntmps130
   go_wp2_with (first|(go_at_call 129;refine (Yr _ _ _ _).mono ?_;rintro e w' ⟨rfl,rfl⟩))
   go_ret
   refine ⟨Xi (by simp [ZI,e1,e2]<;>omega), ?_⟩;exact Xo
  ·cases e3:Zc t.step 1 100
   ·go_enter Tryz.func130,Tryz.ntmps130
    go_wp2_with (first|(go_at_call 129;refine (Yr _ _ _ _).mono ?_;rintro e w' ⟨rfl,rfl⟩))
    go_ret
    refine ⟨Xi (by simp [ZI,e1,e2,e3]<;>omega), ?_⟩;exact Xo
   ·cases e4:Zc t.nx 1 100
    ·go_enter Tryz.func130,Tryz.ntmps130
     go_wp2_with (first|(go_at_call 129;refine (Yr _ _ _ _).mono ?_;rintro e w' ⟨rfl,rfl⟩))
     go_ret
     refine ⟨Xi (by simp [ZI,e1,e2,e3,e4]<;>omega), ?_⟩;exact Xo
    ·cases e5:Zc t.ny 1 100
     ·go_enter Tryz.func130,Tryz.ntmps130
      go_wp2_with (first|(go_at_call 129;refine (Yr _ _ _ _).mono ?_;rintro e w' ⟨rfl,rfl⟩))
      go_ret
      refine ⟨Xi (by simp [ZI,e1,e2,e3,e4,e5]<;>omega), ?_⟩;exact Xo
     ·obtain ⟨a1,a2⟩:=YT.1 e1;obtain ⟨a3,a4⟩:=YT.1 e2;obtain ⟨a5,a6⟩:=YT.1 e3;obtain ⟨a7,a8⟩:=YT.1 e4;obtain ⟨a9,a10⟩:=YT.1 e5;obtain ⟨m1,m2⟩:=mul_bd (A:=100) (B:=100) (a:=t.nx) (b:=t.ny) (by omega) (by omega);obtain ⟨m3,m4⟩:=mul_bd (A:=100) (B:=100) (a:=t.nx) (b:=t.step) (by omega) (by omega);obtain ⟨m5,m6⟩:=mul_bd (A:=100) (B:=100) (a:=t.ny) (b:=t.step) (by omega) (by omega);by_cases e6:t.nx*t.ny<=400
      rotate_left
      ·go_enter Tryz.func130,Tryz.ntmps130
       go_wp2_with (first|(go_at_call 129;refine (Yr _ _ _ _).mono ?_;rintro e w' ⟨rfl,rfl⟩))
       go_ret
       refine ⟨Xi (by simp [ZI,e1,e2,e3,e4,e5]<;>omega), ?_⟩;exact Xo
      by_cases e7:t.x0+t.nx*t.step<=1000
      rotate_left
      ·go_enter Tryz.func130,Tryz.ntmps130
       go_wp2_with (first|(go_at_call 129;refine (Yr _ _ _ _).mono ?_;rintro e w' ⟨rfl,rfl⟩))
       go_ret
       refine ⟨Xi (by simp [ZI,e1,e2,e3,e4,e5,e6]<;>omega), ?_⟩;exact Xo
      by_cases e8:t.y0+t.ny*t.step<=1000
      rotate_left
      ·go_enter Tryz.func130,Tryz.ntmps130
       go_wp2_with (first|(go_at_call 129;refine (Yr _ _ _ _).mono ?_;rintro e w' ⟨rfl,rfl⟩))
       go_ret
       refine ⟨Xi (by simp [ZI,e1,e2,e3,e4,e5,e6,e7]<;>omega), ?_⟩;exact Xo
      go_enter Tryz.func130,Tryz.ntmps130
      go_wp2_with (first|(go_at_call 129;refine (Yr _ _ _ _).mono ?_;rintro e w' ⟨rfl,rfl⟩))
      go_ret
      refine ⟨Xi (by simp [ZI,e1,e2,e3,e4,e5,e6,e7]<;>omega), ?_⟩;exact Xo
theorem l16Frame_c (t:Jp) (A:Option Addr) (cap:Nat) (w:World) (_:t.In) :
 Calls Tryz.prog 126 #[tabV t A cap] w λ e w'=>e=.returned (.bool (ZI t))/\Below w.heap.size w w':=by
 cases e1:Zc t.x0 (-1000) 1000
 ·go_enter Tryz.func126,Tryz.ntmps126
  go_wp2_with (first|(go_at_call 127;refine (XS _ _ _ _).mono ?_;rintro e w' ⟨rfl,rfl⟩))
  go_ret
  refine ⟨Xi (by simp [ZI,e1]<;>omega), ?_⟩;exact Xo
 ·cases e2:Zc t.y0 (-1000) 1000
  ·go_enter Tryz.func126,Tryz.ntmps126
   go_wp2_with (first|(go_at_call 127;refine (XS _ _ _ _).mono ?_;rintro e w' ⟨rfl,rfl⟩))
   go_ret
   refine ⟨Xi (by simp [ZI,e1,e2]<;>omega), ?_⟩;exact Xo
  ·cases e3:Zc t.step 1 100
   ·go_enter Tryz.func126,Tryz.ntmps126
    go_wp2_with (first|(go_at_call 127;refine (XS _ _ _ _).mono ?_;rintro e w' ⟨rfl,rfl⟩))
    go_ret
    refine ⟨Xi (by simp [ZI,e1,e2,e3]<;>omega), ?_⟩;exact Xo
   ·cases e4:Zc t.nx 1 100
    ·go_enter Tryz.func126,Tryz.ntmps126
     go_wp2_with (first|(go_at_call 127;refine (XS _ _ _ _).mono ?_;rintro e w' ⟨rfl,rfl⟩))
     go_ret
     refine ⟨Xi (by simp [ZI,e1,e2,e3,e4]<;>omega), ?_⟩;exact Xo
    ·cases e5:Zc t.ny 1 100
     ·go_enter Tryz.func126,Tryz.ntmps126
      go_wp2_with (first|(go_at_call 127;refine (XS _ _ _ _).mono ?_;rintro e w' ⟨rfl,rfl⟩))
      go_ret
      refine ⟨Xi (by simp [ZI,e1,e2,e3,e4,e5]<;>omega), ?_⟩;exact Xo
     ·obtain ⟨a1,a2⟩:=YT.1 e1;obtain ⟨a3,a4⟩:=YT.1 e2;obtain ⟨a5,a6⟩:=YT.1 e3;obtain ⟨a7,a8⟩:=YT.1 e4;obtain ⟨a9,a10⟩:=YT.1 e5;obtain ⟨m1,m2⟩:=mul_bd (A:=100) (B:=100) (a:=t.nx) (b:=t.ny) (by omega) (by omega);obtain ⟨m3,m4⟩:=mul_bd (A:=100) (B:=100) (a:=t.nx) (b:=t.step) (by omega) (by omega);obtain ⟨m5,m6⟩:=mul_bd (A:=100) (B:=100) (a:=t.ny) (b:=t.step) (by omega) (by omega);by_cases e6:t.nx*t.ny<=400
      rotate_left
      ·go_enter Tryz.func126,Tryz.ntmps126
       go_wp2_with (first|(go_at_call 127;refine (XS _ _ _ _).mono ?_;rintro e w' ⟨rfl,rfl⟩))
       go_ret
       refine ⟨Xi (by simp [ZI,e1,e2,e3,e4,e5]<;>omega), ?_⟩;exact Xo
      by_cases e7:t.x0+t.nx*t.step<=1000
      rotate_left
      ·go_enter Tryz.func126,Tryz.ntmps126
       go_wp2_with (first|(go_at_call 127;refine (XS _ _ _ _).mono ?_;rintro e w' ⟨rfl,rfl⟩))
       go_ret
       refine ⟨Xi (by simp [ZI,e1,e2,e3,e4,e5,e6]<;>omega), ?_⟩;exact Xo
      by_cases e8:t.y0+t.ny*t.step<=1000
      rotate_left
      ·go_enter Tryz.func126,Tryz.ntmps126
       go_wp2_with (first|(go_at_call 127;refine (XS _ _ _ _).mono ?_;rintro e w' ⟨rfl,rfl⟩))
       go_ret
       refine ⟨Xi (by simp [ZI,e1,e2,e3,e4,e5,e6,e7]<;>omega), ?_⟩;exact Xo
      go_enter Tryz.func126,Tryz.ntmps126
      go_wp2_with (first|(go_at_call 127;refine (XS _ _ _ _).mono ?_;rintro e w' ⟨rfl,rfl⟩))
      go_ret
      refine ⟨Xi (by simp [ZI,e1,e2,e3,e4,e5,e6,e7]<;>omega), ?_⟩;exact Xo
theorem iTableOk_c (t:Jp) (A:Option Addr) (cap:Nat) (w:World) (ht:t.In) (hn:t.cells.length<=1048576) (hs:Sl 1 YQ w A t.cells) :
 Calls Tryz.prog 114 #[tabV t A cap] w λ e w'=>e=.returned (.bool (XQ t))/\Below w.heap.size w w':=by
 have c1:=λ W=>igridOk_c t A cap W ht;have HA:=X5.new w #[.int .i64 t.x0,.int .i64 t.y0,.int .i64 t.step,.int .i64 t.nx,.int .i64 t.ny,.slice A t.cells.length cap] 75;cases e1:ZI t
 ·rw [e1] at c1;have hfin:Hid (XQ t=false):=by simp [Hid,XQ,e1]
  go_enter Tryz.func114,Tryz.ntmps114
  go_wp2_with (fail)
  refine (c1 _).mono ?_;rintro e w1 ⟨rfl,hb1⟩;go_wp2
  go_ret
  refine ⟨Xi (by rw [hfin.out]), ?_⟩;exact Xo
 ·rw [e1] at c1;obtain ⟨_,_,_,g4,g5,g6,_,_⟩:=KL.1 e1;obtain ⟨m1,m2⟩:=mul_bd (A:=100) (B:=100) (a:=t.nx) (b:=t.ny) (by omega) (by omega);by_cases e2:(t.cells.length:Int)=t.nx*t.ny
  ·have hfin:Hid (XQ t=t.cells.all KF):=by simp [Hid,XQ,e1,e2]
   have e3:((t.cells.length:Int) != t.nx*t.ny)=false:=by simp [e2]
   have hmm:=Lib.hid e2;clear e2;go_enter Tryz.func114,Tryz.ntmps114
   go_wp2_with (fail)
   refine (c1 _).mono ?_;rintro e w1 ⟨rfl,hb1⟩;have H1:=HA.below hb1;have hbw:=Xh (Xm (Below.refl w.heap.size w) _) hb1;obtain ⟨cH1_0,fH1_0⟩:=H1.2 0 _ rfl;obtain ⟨cH1_1,fH1_1⟩:=H1.2 1 _ rfl;obtain ⟨cH1_2,fH1_2⟩:=H1.2 2 _ rfl;obtain ⟨cH1_3,fH1_3⟩:=H1.2 3 _ rfl;obtain ⟨cH1_4,fH1_4⟩:=H1.2 4 _ rfl;obtain ⟨cH1_5,fH1_5⟩:=H1.2 5 _ rfl;go_wp2
   go_loopw [4,22] (λ x i wr=>∃ k:Nat,k<=t.cells.length/\i=.int .i64 k/\(t.cells.take k).all KF=true/\Below w.heap.size w wr) (λ _ i _=>t.cells.length-(intOf i).toNat)
   case atStart=>exact ⟨0,Nat.zero_le _,rfl,rfl,hbw⟩
   case round =>
    obtain ⟨k,hk,rfl,hall,hbr⟩:=hrel;by_cases hlt:k<t.cells.length
    ·obtain ⟨b,off,rfl,hblt,hc⟩:=(hs.below hbr).at_ hlt;have g0:=hc 0 _ rfl;have Z1:KF t.cells[k]=false->t.cells.all KF=false:=λ h=>by
      rw [List.all_eq_false];exact ⟨_,List.getElem_mem hlt,by simp [h]⟩
     have Z2:KF t.cells[k]=true->(t.cells.take (k+1)).all KF=true:=λ h=>by
      rw [Y7 t.cells k hlt,List.all_append,hall];simp [h]
     have Y1:=Lib.hid Z1;have Y2:=Lib.hid Z2;clear hc hall Z1 Z2 m1 m2 g4 g5 g6;simp only [Nat.mul_one,Nat.add_zero] at g0;generalize t.cells[k]=n at *;cases q1:(n == -1000000)
     ·have q2:(n != -1000000)=true:=by simp [bne,q1]
      cases q3:Zc n (-1000) 1000
      ·go_wp2_with (first|(go_at_call 129;refine (Yr _ _ _ _).mono ?_;rintro e w' ⟨rfl,rfl⟩))
       go_ret
       exact ⟨Xi (by rw [hfin.out,Y1.out (by simp [KF,q1,q3])]),hbr⟩
      ·go_wp2_with (first|(go_at_call 129;refine (Yr _ _ _ _).mono ?_;rintro e w' ⟨rfl,rfl⟩))
       exact ⟨⟨k+1,by omega,by go_num,Y2.out (by simp [KF,q3]),hbr⟩,by simp [intOf];omega⟩
     ·have q2:(n != -1000000)=false:=by simp [bne,q1]
      go_wp2
      exact ⟨⟨k+1,by omega,by go_num,Y2.out (by simp [KF,q1]),hbr⟩,by simp [intOf];omega⟩
    ·obtain rfl:k=t.cells.length:=by omega
     have Y:=Lib.hid hall;clear hall;go_wp2
     go_ret
     exact ⟨Xi (by have:=Y.out;rw [List.take_length] at this;rw [hfin.out,this]),hbr⟩
  ·have hfin:Hid (XQ t=false):=by simp [Hid,XQ,e2]
   have e3:((t.cells.length:Int) != t.nx*t.ny)=true:=by simp [e2]
   clear e2;go_enter Tryz.func114,Tryz.ntmps114
   go_wp2_with (fail)
   refine (c1 _).mono ?_;rintro e w1 ⟨rfl,hb1⟩;have H1:=HA.below hb1;obtain ⟨cH1_0,fH1_0⟩:=H1.2 0 _ rfl;obtain ⟨cH1_1,fH1_1⟩:=H1.2 1 _ rfl;obtain ⟨cH1_2,fH1_2⟩:=H1.2 2 _ rfl;obtain ⟨cH1_3,fH1_3⟩:=H1.2 3 _ rfl;obtain ⟨cH1_4,fH1_4⟩:=H1.2 4 _ rfl;obtain ⟨cH1_5,fH1_5⟩:=H1.2 5 _ rfl;go_wp2
   go_ret
   refine ⟨Xi (by rw [hfin.out]), ?_⟩;exact Xo
theorem sTableOk_c (t:Jp) (A:Option Addr) (cap:Nat) (w:World) (ht:t.In) (hn:t.cells.length<=1048576) (hs:Sl 1 YQ w A t.cells) :
 Calls Tryz.prog 117 #[tabV t A cap] w λ e w'=>e=.returned (.bool (XQ t))/\Below w.heap.size w w':=by
 have c1:=λ W=>l16Frame_c t A cap W ht;have HA:=X5.new w #[.int .i64 t.x0,.int .i64 t.y0,.int .i64 t.step,.int .i64 t.nx,.int .i64 t.ny,.slice A t.cells.length cap] 75;cases e1:ZI t
 ·rw [e1] at c1;have hfin:Hid (XQ t=false):=by simp [Hid,XQ,e1]
  go_enter Tryz.func117,Tryz.ntmps117
  go_wp2_with (fail)
  refine (c1 _).mono ?_;rintro e w1 ⟨rfl,hb1⟩;go_wp2
  go_ret
  refine ⟨Xi (by rw [hfin.out]), ?_⟩;exact Xo
 ·rw [e1] at c1;obtain ⟨_,_,_,g4,g5,g6,_,_⟩:=KL.1 e1;obtain ⟨m1,m2⟩:=mul_bd (A:=100) (B:=100) (a:=t.nx) (b:=t.ny) (by omega) (by omega);by_cases e2:(t.cells.length:Int)=t.nx*t.ny
  ·have hfin:Hid (XQ t=t.cells.all KF):=by simp [Hid,XQ,e1,e2]
   have e3:((t.cells.length:Int) != t.nx*t.ny)=false:=by simp [e2]
   have hmm:=Lib.hid e2;clear e2;go_enter Tryz.func117,Tryz.ntmps117
   go_wp2_with (fail)
   refine (c1 _).mono ?_;rintro e w1 ⟨rfl,hb1⟩;have H1:=HA.below hb1;have hbw:=Xh (Xm (Below.refl w.heap.size w) _) hb1;obtain ⟨cH1_0,fH1_0⟩:=H1.2 0 _ rfl;obtain ⟨cH1_1,fH1_1⟩:=H1.2 1 _ rfl;obtain ⟨cH1_2,fH1_2⟩:=H1.2 2 _ rfl;obtain ⟨cH1_3,fH1_3⟩:=H1.2 3 _ rfl;obtain ⟨cH1_4,fH1_4⟩:=H1.2 4 _ rfl;obtain ⟨cH1_5,fH1_5⟩:=H1.2 5 _ rfl;go_wp2
   go_loopw [4,22] (λ x i wr=>∃ k:Nat,k<=t.cells.length/\i=.int .i64 k/\(t.cells.take k).all KF=true/\Below w.heap.size w wr) (λ _ i _=>t.cells.length-(intOf i).toNat)
   case atStart=>exact ⟨0,Nat.zero_le _,rfl,rfl,hbw⟩
   case round =>
    obtain ⟨k,hk,rfl,hall,hbr⟩:=hrel;by_cases hlt:k<t.cells.length
    ·obtain ⟨b,off,rfl,hblt,hc⟩:=(hs.below hbr).at_ hlt;have g0:=hc 0 _ rfl;have Z1:KF t.cells[k]=false->t.cells.all KF=false:=λ h=>by
      rw [List.all_eq_false];exact ⟨_,List.getElem_mem hlt,by simp [h]⟩
     have Z2:KF t.cells[k]=true->(t.cells.take (k+1)).all KF=true:=λ h=>by
      rw [Y7 t.cells k hlt,List.all_append,hall];simp [h]
     have Y1:=Lib.hid Z1;have Y2:=Lib.hid Z2;clear hc hall Z1 Z2 m1 m2 g4 g5 g6;simp only [Nat.mul_one,Nat.add_zero] at g0;generalize t.cells[k]=n at *;cases q1:(n == -1000000)
     ·have q2:(n != -1000000)=true:=by simp [bne,q1]
      cases q3:Zc n (-1000) 1000
      ·go_wp2_with (first|(go_at_call 127;refine (XS _ _ _ _).mono ?_;rintro e w' ⟨rfl,rfl⟩))
       go_ret
       exact ⟨Xi (by rw [hfin.out,Y1.out (by simp [KF,q1,q3])]),hbr⟩
      ·go_wp2_with (first|(go_at_call 127;refine (XS _ _ _ _).mono ?_;rintro e w' ⟨rfl,rfl⟩))
       exact ⟨⟨k+1,by omega,by go_num,Y2.out (by simp [KF,q3]),hbr⟩,by simp [intOf];omega⟩
     ·have q2:(n != -1000000)=false:=by simp [bne,q1]
      go_wp2
      exact ⟨⟨k+1,by omega,by go_num,Y2.out (by simp [KF,q1]),hbr⟩,by simp [intOf];omega⟩
    ·obtain rfl:k=t.cells.length:=by omega
     have Y:=Lib.hid hall;clear hall;go_wp2
     go_ret
     exact ⟨Xi (by have:=Y.out;rw [List.take_length] at this;rw [hfin.out,this]),hbr⟩
  ·have hfin:Hid (XQ t=false):=by simp [Hid,XQ,e2]
   have e3:((t.cells.length:Int) != t.nx*t.ny)=true:=by simp [e2]
   clear e2;go_enter Tryz.func117,Tryz.ntmps117
   go_wp2_with (fail)
   refine (c1 _).mono ?_;rintro e w1 ⟨rfl,hb1⟩;have H1:=HA.below hb1;obtain ⟨cH1_0,fH1_0⟩:=H1.2 0 _ rfl;obtain ⟨cH1_1,fH1_1⟩:=H1.2 1 _ rfl;obtain ⟨cH1_2,fH1_2⟩:=H1.2 2 _ rfl;obtain ⟨cH1_3,fH1_3⟩:=H1.2 3 _ rfl;obtain ⟨cH1_4,fH1_4⟩:=H1.2 4 _ rfl;obtain ⟨cH1_5,fH1_5⟩:=H1.2 5 _ rfl;go_wp2
   go_ret
   refine ⟨Xi (by rw [hfin.out]), ?_⟩;exact Xo
theorem szTable_c (t:Jp) (A:Option Addr) (cap:Nat) (left:Int) (w:World) (hn:t.cells.length<=9223372036854775807) (h0:0<=left) (h1:left<=1048576) :
 Calls Tryz.prog 42 #[tabV t A cap,.int .i64 left] w λ e w'=>e=.returned (.int .i64 (if left-t.cells.length<0 then -1 else left-t.cells.length))/\Below w.heap.size w w':=by
 have c1:=λ W=>szIntS_c A t.cells.length cap left W hn h0 h1;by_cases h:left-t.cells.length<0
 ·rw [if_pos h] at c1;rw [if_pos h];go_enter Tryz.func42,Tryz.ntmps42
  go_wp2_with (fail)
  refine (c1 _).mono ?_;rintro e w' ⟨rfl,rfl⟩;go_wp2
  go_ret
  refine ⟨rfl, ?_⟩;exact Xo
 ·rw [if_neg h] at c1;rw [if_neg h];go_enter Tryz.func42,Tryz.ntmps42
  go_wp2_with (fail)
  refine (c1 _).mono ?_;rintro e w' ⟨rfl,rfl⟩;go_wp2
  go_ret
  refine ⟨rfl, ?_⟩;exact Xo
theorem toTable_c (t:Jp) (A:Option Addr) (cap:Nat) (w:World) (hn:t.cells.length<=1048576) (hs:Sl 1 YQ w A t.cells) :
 Calls Tryz.prog 44 #[tabV t A cap] w λ e w'=>∃ A' cap',e=.returned (tabV t A' cap')/\XY 3 1 YQ w' w.heap.size (.slice A' t.cells.length cap') t.cells/\Below w.heap.size w w':=by
 go_enter Tryz.func44,Tryz.ntmps44
 go_wp2_with (fail)
 refine (toIntS_c A t.cells cap _ hn ?hsl).mono ?_
 case hsl =>
  refine hs.below ?_;exact Xo
 rintro e w1 ⟨v1,rfl,N1,hb1⟩;have hbw:=Xh (Xm (Xm (Xm (Below.refl w.heap.size w) _) _) _) hb1;have H1:X5 w1 (w.heap.size+1) [.int .i64 0,.int .i64 0,.int .i64 0,.int .i64 0,.int .i64 0,.slice none 0 0]:=by
  refine X5.below ?_ hb1;have:=X5.new (w.alloc (.cells #[.int .i64 t.x0,.int .i64 t.y0,.int .i64 t.step,.int .i64 t.nx,.int .i64 t.ny,.slice A t.cells.length cap] 67)) #[.int .i64 0,.int .i64 0,.int .i64 0,.int .i64 0,.int .i64 0,.slice none 0 0] 75;simp only [World.size_alloc] at this;exact this.alloc _
 have H2:X5 w1 (w.heap.size+1+1) [.int .i64 t.x0,.int .i64 t.y0,.int .i64 t.step,.int .i64 t.nx,.int .i64 t.ny,.slice none 0 0]:=by
  refine X5.below ?_ hb1;have:=X5.new ((w.alloc (.cells #[.int .i64 t.x0,.int .i64 t.y0,.int .i64 t.step,.int .i64 t.nx,.int .i64 t.ny,.slice A t.cells.length cap] 67)).alloc (.cells #[.int .i64 0,.int .i64 0,.int .i64 0,.int .i64 0,.int .i64 0,.slice none 0 0] 75)) #[.int .i64 t.x0,.int .i64 t.y0,.int .i64 t.step,.int .i64 t.nx,.int .i64 t.ny,.slice none 0 0] 75;simp only [World.size_alloc] at this;exact this
 obtain ⟨A1,k1,rfl,hown⟩:=N1;have N1':XY 3 1 YQ w1 (w.heap.size+1+1+1) (.slice A1 t.cells.length k1) t.cells:=XY.mono ⟨A1,k1,rfl,hown⟩ (by simp);have hz:w.heap.size+1+1<w1.heap.size:=H2.1;obtain ⟨cH1_0,fH1_0⟩:=H1.2 0 _ rfl;obtain ⟨cH1_1,fH1_1⟩:=H1.2 1 _ rfl;obtain ⟨cH1_2,fH1_2⟩:=H1.2 2 _ rfl;obtain ⟨cH1_3,fH1_3⟩:=H1.2 3 _ rfl;obtain ⟨cH1_4,fH1_4⟩:=H1.2 4 _ rfl;obtain ⟨cH1_5,fH1_5⟩:=H1.2 5 _ rfl;obtain ⟨cH2_0,fH2_0⟩:=H2.2 0 _ rfl;obtain ⟨cH2_1,fH2_1⟩:=H2.2 1 _ rfl;obtain ⟨cH2_2,fH2_2⟩:=H2.2 2 _ rfl;obtain ⟨cH2_3,fH2_3⟩:=H2.2 3 _ rfl;obtain ⟨cH2_4,fH2_4⟩:=H2.2 4 _ rfl;obtain ⟨cH2_5,fH2_5⟩:=H2.2 5 _ rfl;clear hown hs H1 H2 hb1;go_wp2
 clear fH1_0 fH1_1 fH1_2 fH1_3 fH1_4 fH1_5 fH2_0 fH2_1 fH2_2 fH2_3 fH2_4 fH2_5 cH2_0 cH2_1 cH2_2 cH2_3 cH2_4 cH2_5;refine bodyPost_ret (v:=.agg #[.int .i64 t.x0,.int .i64 t.y0,.int .i64 t.step,.int .i64 t.nx,.int .i64 t.ny,.slice A1 t.cells.length k1]) (by simp [results,Tryz.results44,go_sem,cH1_0,cH1_1,cH1_2,cH1_3,cH1_4,cH1_5]) rfl ?_;refine ⟨A1,k1,rfl, ?_, ?_⟩
 ·refine XY.mono (base:=w.heap.size+1+1+1) ?_ (by omega);repeat (first|(with_reducible exact N1')|(with_reducible refine XY.low ?_ ?_ _)|(focus (simp;done))|(focus (simp;omega)))
 ·exact Xo
theorem eqTable_t (t:Jp) (A B:Option Addr) (c d:Nat) (w:World) (hn:t.cells.length<=1048576) (ha:Sl 1 YQ w A t.cells) (hb:Sl 1 YQ w B t.cells) :
 Calls Tryz.prog 47 #[tabV t A c,tabV t B d] w λ e w'=>e=.returned (.bool true)/\Below w.heap.size w w':=by
 go_enter Tryz.func47,Tryz.ntmps47
 go_wp2_with (fail)
 refine (eqIntS_t A B t.cells c d _ hn ?ha ?hb).mono ?_
 case ha =>
  refine ha.below ?_;exact Xo
 case hb =>
  refine hb.below ?_;exact Xo
 rintro e w1 ⟨rfl,hb1⟩;have hbw:=Xh (Xm (Xm (Below.refl w.heap.size w) _) _) hb1;go_wp2
 go_ret
 exact ⟨rfl,hbw⟩
end Go.Proofs.YtkjimfapbjdafaaGreat
