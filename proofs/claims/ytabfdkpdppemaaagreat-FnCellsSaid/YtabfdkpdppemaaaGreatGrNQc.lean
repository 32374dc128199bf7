/-
 The functions on tables: what they return.
 Conditions: the slice of cells holds at most 2^20 ints.
-/
import Derived.StillTailTactics
import Derived.Test.YtabfdkpdppemaaaGreatCopyQe
set_option maxHeartbeats 2000000
namespace Go.Proofs.YtabfdkpdppemaaaGreat
open Go.RowKit
abbrev tabV (t:Tab) (A:Option Addr) (cap:Nat):Value:=.agg #[.int .i64 t.x0,.int .i64 t.y0,.int .i64 t.step,.int .i64 t.nx,.int .i64 t.ny,.slice A t.cells.length cap]
def YP (t:Tab):Bool:=Z7 t.x0 (-1000) 1000&&Z7 t.y0 (-1000) 1000&&Z7 t.step 1 100&&Z7 t.nx 1 100&&Z7 t.ny 1 100&&decide (t.nx*t.ny<=400)&&decide (t.x0+t.nx*t.step<=1000)&&decide (t.y0+t.ny*t.step<=1000)
def cellOk (n:Int):Bool:=n == -1000000||Z7 n (-1000) 1000
def ZG (t:Tab):Bool:=YP t&&decide ((t.cells.length:Int)=t.nx*t.ny)&&t.cells.all cellOk
theorem mul_bd {a b A B:Int} (ha : -A<=a/\a<=A) (hb : -B<=b/\b<=B) : -(A*B)<=a*b/\a*b<=A*B:=by
 have hA:a.natAbs<=A.natAbs:=by omega
 have hB:b.natAbs<=B.natAbs:=by omega
 have hm:=Nat.mul_le_mul hA hB;rw [<- Int.natAbs_mul,<- Int.natAbs_mul] at hm;have hAB:0<=A*B:=Int.mul_nonneg (by omega) (by omega);omega
theorem KO {t:Tab}:YP t=true ↔ (-1000<=t.x0/\t.x0<=1000)/\(-1000<=t.y0/\t.y0<=1000)/\(1<=t.step/\t.step<=100)/\(1<=t.nx/\t.nx<=100)/\(1<=t.ny/\t.ny<=100)/\t.nx*t.ny<=400/\t.x0+t.nx*t.step<=1000/\t.y0+t.ny*t.step<=1000:=by
 simp only [YP,Bool.and_eq_true,YX,decide_eq_true_eq,and_assoc]
theorem igridOk_c (t:Tab) (A:Option Addr) (cap:Nat) (w:World) (_:t.In) :
 Calls Tryz.prog 126 #[tabV t A cap] w λ e w'=>e=.returned (.bool (YP t))/\Below w.heap.size w w':=by
 cases e1:Z7 t.x0 (-1000) 1000
 ·go_enter Tryz.func126,Tryz.ntmps126
  go_wp2_with (first|(go_at_call 102;refine (Ye _ _ _ _).mono ?_;rintro e w' ⟨rfl,rfl⟩))
  go_ret
  refine ⟨Xm (by simp [YP,e1]<;>omega), ?_⟩;exact Xp
 ·cases e2:Z7 t.y0 (-1000) 1000
  ·go_enter Tryz.func126,Tryz.ntmps126
   go_wp2_with (first|(go_at_call 102;refine (Ye _ _ _ _).mono ?_;rintro e w' ⟨rfl,rfl⟩))
   go_ret
   refine ⟨Xm (by simp [YP,e1,e2]<;>omega), ?_⟩;exact Xp
  ·cases e3:Z7 t.step 1 100
   ·go_enter Tryz.func126,Tryz.ntmps126
    go_wp2_with (first|(go_at_call 102;refine (Ye _ _ _ _).mono ?_;rintro e w' ⟨rfl,rfl⟩))
    go_ret
    refine ⟨Xm (by simp [YP,e1,e2,e3]<;>omega), ?_⟩;exact Xp
   ·cases e4:Z7 t.nx 1 100
    ·go_enter Tryz.func126,Tryz.ntmps126
     go_wp2_with (first|(go_at_call 102;refine (Ye _ _ _ _).mono ?_;rintro e w' ⟨rfl,rfl⟩))
     go_ret
     refine ⟨Xm (by simp [YP,e1,e2,e3,e4]<;>omega), ?_⟩;exact Xp
    ·cases e5:Z7 t.ny 1 100
     ·go_enter Tryz.func126,Tryz.ntmps126
      go_wp2_with (first|(go_at_call 102;refine (Ye _ _ _ _).mono ?_;rintro e w' ⟨rfl,rfl⟩))
      go_ret
      refine ⟨Xm (by simp [YP,e1,e2,e3,e4,e5]<;>omega), ?_⟩;exact Xp
     ·obtain ⟨a1,a2⟩:=YX.1 e1;obtain ⟨a3,a4⟩:=YX.1 e2;obtain ⟨a5,a6⟩:=YX.1 e3;obtain ⟨a7,a8⟩:=YX.1 e4;obtain ⟨a9,a10⟩:=YX.1 e5;obtain ⟨m1,m2⟩:=mul_bd (A:=100) (B:=100) (a:=t.nx) (b:=t.ny) (by omega) (by omega);obtain ⟨m3,m4⟩:=mul_bd (A:=100) (B:=100) (a:=t.nx) (b:=t.step) (by omega) (by omega);obtain ⟨m5,m6⟩:=mul_bd (A:=100) (B:=100) (a:=t.ny) (b:=t.step) (by omega) (by omega);by_cases e6:t.nx*t.ny<=400
      rotate_left
      ·go_enter Tryz.func126,Tryz.ntmps126
       go_wp2_with (first|(go_at_call 102;refine (Ye _ _ _ _).mono ?_;rintro e w' ⟨rfl,rfl⟩))
       go_ret
       refine ⟨Xm (by simp [YP,e1,e2,e3,e4,e5]<;>omega), ?_⟩;exact Xp
      by_cases e7:t.x0+t.nx*t.step<=1000
      rotate_left
      ·go_enter Tryz.func126,Tryz.ntmps126
       go_wp2_with (first|(go_at_call 102;refine (Ye _ _ _ _).mono ?_;rintro e w' ⟨rfl,rfl⟩))
       go_ret
       refine ⟨Xm (by simp [YP,e1,e2,e3,e4,e5,e6]<;>omega), ?_⟩;exact Xp
      by_cases e8:t.y0+t.ny*t.step<=1000
      rotate_left
      ·go_enter Tryz.func126,Tryz.ntmps126
       go_wp2_with (first|(go_at_call 102;refine (Ye _ _ _ _).mono ?_;rintro e w' ⟨rfl,rfl⟩))
       go_ret
       refine ⟨Xm (by simp [YP,e1,e2,e3,e4,e5,e6,e7]<;>omega), ?_⟩;exact Xp
      go_enter Tryz.func126,Tryz.ntmps126
      go_wp2_with (first|(go_at_call 102;refine (Ye _ _ _ _).mono ?_;rintro e w' ⟨rfl,rfl⟩))
      go_ret
      refine ⟨Xm (by simp [YP,e1,e2,e3,e4,e5,e6,e7]<;>omega), ?_⟩;exact Xp
theorem iTableOk_c (t:Tab) (A:Option Addr) (cap:Nat) (w:World) (ht:t.In) (hn:t.cells.length<=1048576) (hs:Sl 1 Z6 w A t.cells) :
 Calls Tryz.prog 147 #[tabV t A cap] w λ e w'=>e=.returned (.bool (ZG t))/\Below w.heap.size w w':=by
 have c1:=λ W=>igridOk_c t A cap W ht;have HA:=Yk.new w #[.int .i64 t.x0,.int .i64 t.y0,.int .i64 t.step,.int .i64 t.nx,.int .i64 t.ny,.slice A t.cells.length cap] 79;cases e1:YP t
 ·rw [e1] at c1;have hfin:Hid (ZG t=false):=by simp [Hid,ZG,e1]
  go_enter Tryz.func147,Tryz.ntmps147
  go_wp2_with (fail)
  refine (c1 _).mono ?_;rintro e w1 ⟨rfl,hb1⟩;go_wp2
  go_ret
  refine ⟨Xm (by rw [hfin.out]), ?_⟩;exact Xp
 ·rw [e1] at c1;obtain ⟨_,_,_,g4,g5,g6,_,_⟩:=KO.1 e1;obtain ⟨m1,m2⟩:=mul_bd (A:=100) (B:=100) (a:=t.nx) (b:=t.ny) (by omega) (by omega);by_cases e2:(t.cells.length:Int)=t.nx*t.ny
  ·have hfin:Hid (ZG t=t.cells.all cellOk):=by simp [Hid,ZG,e1,e2]
   have e3:((t.cells.length:Int) != t.nx*t.ny)=false:=by simp [e2]
   have hmm:=Lib.hid e2;clear e2;go_enter Tryz.func147,Tryz.ntmps147
   go_wp2_with (fail)
   refine (c1 _).mono ?_;rintro e w1 ⟨rfl,hb1⟩;have H1:=HA.below hb1;have hbw:=Xf (Xc (Below.refl w.heap.size w) _) hb1;obtain ⟨cH1_0,fH1_0⟩:=H1.2 0 _ rfl;obtain ⟨cH1_1,fH1_1⟩:=H1.2 1 _ rfl;obtain ⟨cH1_2,fH1_2⟩:=H1.2 2 _ rfl;obtain ⟨cH1_3,fH1_3⟩:=H1.2 3 _ rfl;obtain ⟨cH1_4,fH1_4⟩:=H1.2 4 _ rfl;obtain ⟨cH1_5,fH1_5⟩:=H1.2 5 _ rfl;go_wp2
   go_loopw [4,22] (λ x i wr=>∃ k:Nat,k<=t.cells.length/\i=.int .i64 k/\(t.cells.take k).all cellOk=true/\Below w.heap.size w wr) (λ _ i _=>t.cells.length-(intOf i).toNat)
   case atStart=>exact ⟨0,Nat.zero_le _,rfl,rfl,hbw⟩
   case round =>
    obtain ⟨k,hk,rfl,hall,hbr⟩:=hrel;by_cases hlt:k<t.cells.length
    ·obtain ⟨b,off,rfl,hblt,hc⟩:=(hs.below hbr).at_ hlt;have g0:=hc 0 _ rfl;have Z1:cellOk t.cells[k]=false->t.cells.all cellOk=false:=λ h=>by
      rw [List.all_eq_false];exact ⟨_,List.getElem_mem hlt,by simp [h]⟩
     have Z2:cellOk t.cells[k]=true->(t.cells.take (k+1)).all cellOk=true:=λ h=>by
      rw [ZC t.cells k hlt,List.all_append,hall];simp [h]
     have Y1:=Lib.hid Z1;have Y2:=Lib.hid Z2;clear hc hall Z1 Z2 m1 m2 g4 g5 g6;simp only [Nat.mul_one,Nat.add_zero] at g0;generalize t.cells[k]=n at *;cases q1:(n == -1000000)
     ·have q2:(n != -1000000)=true:=by simp [bne,q1]
      cases q3:Z7 n (-1000) 1000
      ·go_wp2_with (first|(go_at_call 102;refine (Ye _ _ _ _).mono ?_;rintro e w' ⟨rfl,rfl⟩))
       go_ret
       exact ⟨Xm (by rw [hfin.out,Y1.out (by simp [cellOk,q1,q3])]),hbr⟩
      ·go_wp2_with (first|(go_at_call 102;refine (Ye _ _ _ _).mono ?_;rintro e w' ⟨rfl,rfl⟩))
       exact ⟨⟨k+1,by omega,by go_num,Y2.out (by simp [cellOk,q3]),hbr⟩,by simp [intOf];omega⟩
     ·have q2:(n != -1000000)=false:=by simp [bne,q1]
      go_wp2
      exact ⟨⟨k+1,by omega,by go_num,Y2.out (by simp [cellOk,q1]),hbr⟩,by simp [intOf];omega⟩
    ·obtain rfl:k=t.cells.length:=by omega
     have Y:=Lib.hid hall;clear hall;go_wp2
     go_ret
     exact ⟨Xm (by have:=Y.out;rw [List.take_length] at this;rw [hfin.out,this]),hbr⟩
  ·have hfin:Hid (ZG t=false):=by simp [Hid,ZG,e2]
   have e3:((t.cells.length:Int) != t.nx*t.ny)=true:=by simp [e2]
   clear e2;go_enter Tryz.func147,Tryz.ntmps147
   go_wp2_with (fail)
   refine (c1 _).mono ?_;rintro e w1 ⟨rfl,hb1⟩;have H1:=HA.below hb1;obtain ⟨cH1_0,fH1_0⟩:=H1.2 0 _ rfl;obtain ⟨cH1_1,fH1_1⟩:=H1.2 1 _ rfl;obtain ⟨cH1_2,fH1_2⟩:=H1.2 2 _ rfl;obtain ⟨cH1_3,fH1_3⟩:=H1.2 3 _ rfl;obtain ⟨cH1_4,fH1_4⟩:=H1.2 4 _ rfl;obtain ⟨cH1_5,fH1_5⟩:=H1.2 5 _ rfl;go_wp2
   go_ret
   refine ⟨Xm (by rw [hfin.out]), ?_⟩;exact Xp
theorem firstGo_bd {p:Nat->Bool}:∀ (f k:Nat),-1<=Kd p f k/\Kd p f k<(k+f:Nat)
 | 0,k=>by rw [Kd];omega
 | f+1,k=>by
  rw [Kd];split
  ·omega
  ·have:=firstGo_bd (p:=p) f (k+1);omega
theorem mulT {a d:Int} (ha : -1000<=a/\a<=1000) (hd:1<=d/\d<=5000000000) : -5000000000000<=a*d/\a*d<=5000000000000:=by
 have h1:(1000-a)*d ≥ 0:=Int.mul_nonneg (by omega) (by omega);have h2:(a+1000)*d ≥ 0:=Int.mul_nonneg (by omega) (by omega);rw [Int.sub_mul] at h1;rw [Int.add_mul] at h2;omega
structure StB (d start step:Int) (k:Nat):Prop where
 m:0<=(k:Int)*step/\(k:Int)*step<=10000
 e:((k:Int)+1)*step=(k:Int)*step+step
 x : -1000<=start+(k:Int)*step/\start+(k:Int)*step+step<=1000
 p : -5000000000000<=(start+(k:Int)*step)*d/\(start+(k:Int)*step)*d<=5000000000000
 q : -5000000000000<=(start+(k:Int)*step+step)*d/\(start+(k:Int)*step+step)*d<=5000000000000
theorem stB {d start step:Int} {k c:Nat} (hd:1<=d/\d<=5000000000) (hs : -1000<=start) (hp:1<=step/\step<=100) (hc:c<=100) (he:start+c*step<=1000) (hk:k<c):StB d start step k:=by
 have e:((k:Int)+1)*step=(k:Int)*step+step:=by rw [Int.add_mul,Int.one_mul]
 have h0:0<=(k:Int)*step:=Int.mul_nonneg (by omega) (by omega);have h1:((k:Int)+1)*step<=c*step:=Int.mul_le_mul_of_nonneg_right (by omega) (by omega);have h2:(k:Int)*step<=100*step:=Int.mul_le_mul_of_nonneg_right (by omega) (by omega);exact ⟨⟨h0,by omega⟩,e,⟨by omega,by omega⟩,mulT ⟨by omega,by omega⟩ hd,mulT ⟨by omega,by omega⟩ hd⟩
theorem stripOf_c (n d start step:Int) (c:Nat) (w:World) (hd:1<=d/\d<=5000000000) (hs : -1000<=start) (hp:1<=step/\step<=100) (hc:c<=100) (he:start+c*step<=1000) :
 Calls Tryz.prog 148 #[.int .i64 n,.int .i64 d,.int .i64 start,.int .i64 step,.int .i64 c] w λ e w'=>e=.returned (.int .i64 (Jl n d start step c))/\w=w':=by
 go_enter Tryz.func148,Tryz.ntmps148
 go_wp2
 go_loopw [11,12,14] (λ _ _ i wr=>∃ k:Nat,k<=c/\i=.int .i64 k/\Hid (Jl n d start step c=Kd (JQ n d start step) (c-k) k)/\w=wr) (λ _ _ i _=>c-(intOf i).toNat)
 case atStart=>exact ⟨0,Nat.zero_le _,rfl,rfl,rfl⟩
 case round =>
  obtain ⟨k,hk,rfl,hst,rfl⟩:=hrel;by_cases hlt:k<c
  ·obtain ⟨⟨m1,m2⟩,_,⟨x1,x2⟩,⟨p1,p2⟩,⟨q1,q2⟩⟩:=stB hd hs hp hc he hlt;by_cases h1:(start+(k:Int)*step)*d<=n
   ·by_cases h2:n<=(start+(k:Int)*step+step)*d
    ·have hfin:Hid (Jl n d start step c=k):=hst.out.trans (firstGo_hit hlt (by simp [JQ,h1,h2]));clear hst;go_wp2
     refine bodyPost_ret (v:=.int .i64 k) (by simp [results,Tryz.results148,go_sem]) rfl ?_;exact ⟨by rw [hfin.out],rfl⟩
    ·have hfin:Hid (Jl n d start step c=Kd (JQ n d start step) (c-(k+1)) (k+1)):=hst.out.trans (firstGo_miss hlt (by simp [JQ,h1];omega));clear hst;go_wp2
     go_roundw
     case rel=>exact ⟨k+1,by omega,by go_num,hfin,by first|rfl|trivial⟩
     case measure=>simp [intOf];omega
   ·have hfin:Hid (Jl n d start step c=Kd (JQ n d start step) (c-(k+1)) (k+1)):=hst.out.trans (firstGo_miss hlt (by simp [JQ,h1]));clear hst;go_wp2
    go_roundw
    case rel=>exact ⟨k+1,by omega,by go_num,hfin,by first|rfl|trivial⟩
    case measure=>simp [intOf];omega
  ·obtain rfl:k=c:=by omega
   have hfin:Hid (Jl n d start step k = -1):=hst.out.trans firstGo_end;clear hst;go_wp2
   refine bodyPost_ret (v:=.int .i64 (-1)) (by simp [results,Tryz.results148,go_sem]) rfl ?_;exact ⟨by rw [hfin.out],rfl⟩
def X1 (t:Tab) (s:XQ):Int × Int :=
 if ZG t=true/\Xv s=true then
  if Jl s.x s.d t.x0 t.step t.nx.toNat<0∨Jl s.y s.d t.y0 t.step t.ny.toNat<0 then (-1,-1)
  else (Jl s.x s.d t.x0 t.step t.nx.toNat,Jl s.y s.d t.y0 t.step t.ny.toNat)
 else (-1,-1)
theorem tableOk_grid {t:Tab} (h:ZG t=true):YP t=true:=by
 simp only [ZG,Bool.and_eq_true] at h;exact h.1.1
set_option maxRecDepth 100000 in
theorem iCellOf_c (t:Tab) (A:Option Addr) (cap:Nat) (s:XQ) (w:World) (ht:t.In) (hsi:s.In) (hn:t.cells.length<=1048576) (hs:Sl 1 Z6 w A t.cells) :
 Calls Tryz.prog 58 #[tabV t A cap,YQ s] w λ e w'=>e=.returned (.tuple #[.int .i64 (X1 t s).1,.int .i64 (X1 t s).2])/\Below w.heap.size w w':=by
 have c1:=λ W h=>iTableOk_c t A cap W ht hn h;have c2:=λ W=>Jj s W hsi;have HA:=(Yk.new w #[.int .i64 t.x0,.int .i64 t.y0,.int .i64 t.step,.int .i64 t.nx,.int .i64 t.ny,.slice A t.cells.length cap] 79).alloc (.cells #[.int .i64 s.x,.int .i64 s.y,.int .i64 s.d] 30);have HB:=Yk.new (w.alloc (.cells #[.int .i64 t.x0,.int .i64 t.y0,.int .i64 t.step,.int .i64 t.nx,.int .i64 t.ny,.slice A t.cells.length cap] 79)) #[.int .i64 s.x,.int .i64 s.y,.int .i64 s.d] 30;simp only [World.size_alloc] at HB;have hg:=λ h=>@tableOk_grid t h;have hq:=λ h=>(@ZL s).1 h;have hdef:Hid (X1 t s=if ZG t=true/\Xv s=true then (if Jl s.x s.d t.x0 t.step t.nx.toNat<0∨Jl s.y s.d t.y0 t.step t.ny.toNat<0 then (-1,-1) else (Jl s.x s.d t.x0 t.step t.nx.toNat,Jl s.y s.d t.y0 t.step t.ny.toNat)) else (-1,-1)):=rfl;generalize ZG t=b1 at *;generalize Xv s=b2 at *;cases b1
 ·have hfin:Hid (X1 t s=(-1,-1)):=hdef.out;clear hdef hg hq;go_enter Tryz.func58,Tryz.ntmps58
  go_wp2_with (fail)
  refine (c1 _ ((hs.alloc _).alloc _)).mono ?_;rintro e w1 ⟨rfl,hb1⟩;go_wp2
  refine bodyPost_ret (v:=.tuple #[.int .i64 (-1),.int .i64 (-1)]) (by simp [results,Tryz.results58,go_sem]) rfl ⟨by rw [hfin.out], ?_⟩;exact Xp
 ·cases b2
  ·have hfin:Hid (X1 t s=(-1,-1)):=hdef.out;clear hdef hg hq;go_enter Tryz.func58,Tryz.ntmps58
   go_wp2_with (fail)
   refine (c1 _ ((hs.alloc _).alloc _)).mono ?_;rintro e w1 ⟨rfl,hb1⟩;have H2:=HB.below hb1;have hbw:=Xf (Xc (Xc (Below.refl w.heap.size w) _) _) hb1;obtain ⟨cH2_0,fH2_0⟩:=H2.2 0 _ rfl;obtain ⟨cH2_1,fH2_1⟩:=H2.2 1 _ rfl;obtain ⟨cH2_2,fH2_2⟩:=H2.2 2 _ rfl;go_wp2_with (fail)
   refine (c2 _).mono ?_;rintro e w2 ⟨rfl,hb2⟩;have hbw2:=Xf hbw hb2;go_wp2
   refine bodyPost_ret (v:=.tuple #[.int .i64 (-1),.int .i64 (-1)]) (by simp [results,Tryz.results58,go_sem]) rfl ⟨by rw [hfin.out], ?_⟩;exact hbw2
  ·obtain ⟨⟨g1,g2⟩,⟨g3,g4⟩,⟨g5,g6⟩,⟨g7,g8⟩,⟨g9,g10⟩,g11,g12,g13⟩:=KO.1 (hg rfl);obtain ⟨⟨d1,d2⟩,_⟩:=hq rfl;have hfin:Hid (X1 t s=if Jl s.x s.d t.x0 t.step t.nx.toNat<0∨Jl s.y s.d t.y0 t.step t.ny.toNat<0 then (-1,-1) else (Jl s.x s.d t.x0 t.step t.nx.toNat,Jl s.y s.d t.y0 t.step t.ny.toNat)):=hdef.out;clear hdef hg hq;have e3:(t.nx.toNat:Int)=t.nx:=Int.toNat_of_nonneg (by omega);have e4:(t.ny.toNat:Int)=t.ny:=Int.toNat_of_nonneg (by omega);have c3:=λ W=>stripOf_c s.x s.d t.x0 t.step t.nx.toNat W ⟨d1,d2⟩ g1 ⟨g5,g6⟩ (by omega) (by rw [e3];exact g12);have c4:=λ W=>stripOf_c s.y s.d t.y0 t.step t.ny.toNat W ⟨d1,d2⟩ g3 ⟨g5,g6⟩ (by omega) (by rw [e4];exact g13);rw [e3] at c3;rw [e4] at c4;generalize Jl s.x s.d t.x0 t.step t.nx.toNat=i at *;generalize Jl s.y s.d t.y0 t.step t.ny.toNat=j at *;clear e3 e4;have hfin2:Hid (X1 t s=if i<0∨j<0 then (-1,-1) else (i,j)):=hfin;clear hfin;by_cases hi:i<0
   ·have hfin:Hid (X1 t s=(-1,-1)):=by have:=hfin2.out;rw [if_pos (.inl hi)] at this;exact this
    clear hfin2;go_enter Tryz.func58,Tryz.ntmps58
    go_wp2_with (fail)
    refine (c1 _ ((hs.alloc _).alloc _)).mono ?_;rintro e w1 ⟨rfl,hb1⟩;have H1:=HA.below hb1;have H2:=HB.below hb1;have hbw:=Xf (Xc (Xc (Below.refl w.heap.size w) _) _) hb1;obtain ⟨cH2_0,fH2_0⟩:=H2.2 0 _ rfl;obtain ⟨cH2_1,fH2_1⟩:=H2.2 1 _ rfl;obtain ⟨cH2_2,fH2_2⟩:=H2.2 2 _ rfl;go_wp2_with (fail)
    refine (c2 _).mono ?_;rintro e w2 ⟨rfl,hb2⟩;have H3:=H1.below hb2;have H4:=H2.below hb2;have hbw2:=Xf hbw hb2;clear cH2_0 cH2_1 cH2_2 fH2_0 fH2_1 fH2_2;obtain ⟨cH3_0,fH3_0⟩:=H3.2 0 _ rfl;obtain ⟨cH3_1,fH3_1⟩:=H3.2 1 _ rfl;obtain ⟨cH3_2,fH3_2⟩:=H3.2 2 _ rfl;obtain ⟨cH3_3,fH3_3⟩:=H3.2 3 _ rfl;obtain ⟨cH3_4,fH3_4⟩:=H3.2 4 _ rfl;obtain ⟨cH3_5,fH3_5⟩:=H3.2 5 _ rfl;obtain ⟨cH4_0,fH4_0⟩:=H4.2 0 _ rfl;obtain ⟨cH4_1,fH4_1⟩:=H4.2 1 _ rfl;obtain ⟨cH4_2,fH4_2⟩:=H4.2 2 _ rfl;go_wp2_with (fail)
    refine (c3 _).mono ?_;rintro e w' ⟨rfl,rfl⟩;go_wp2_with (fail)
    refine (c4 _).mono ?_;rintro e w' ⟨rfl,rfl⟩;go_wp2
    refine bodyPost_ret (v:=.tuple #[.int .i64 (-1),.int .i64 (-1)]) (by simp [results,Tryz.results58,go_sem]) rfl ⟨by rw [hfin.out], ?_⟩;exact hbw2
   ·by_cases hj:j<0
    ·have hfin:Hid (X1 t s=(-1,-1)):=by have:=hfin2.out;rw [if_pos (.inr hj)] at this;exact this
     clear hfin2;go_enter Tryz.func58,Tryz.ntmps58
     go_wp2_with (fail)
     refine (c1 _ ((hs.alloc _).alloc _)).mono ?_;rintro e w1 ⟨rfl,hb1⟩;have H1:=HA.below hb1;have H2:=HB.below hb1;have hbw:=Xf (Xc (Xc (Below.refl w.heap.size w) _) _) hb1;obtain ⟨cH2_0,fH2_0⟩:=H2.2 0 _ rfl;obtain ⟨cH2_1,fH2_1⟩:=H2.2 1 _ rfl;obtain ⟨cH2_2,fH2_2⟩:=H2.2 2 _ rfl;go_wp2_with (fail)
     refine (c2 _).mono ?_;rintro e w2 ⟨rfl,hb2⟩;have H3:=H1.below hb2;have H4:=H2.below hb2;have hbw2:=Xf hbw hb2;clear cH2_0 cH2_1 cH2_2 fH2_0 fH2_1 fH2_2;obtain ⟨cH3_0,fH3_0⟩:=H3.2 0 _ rfl;obtain ⟨cH3_1,fH3_1⟩:=H3.2 1 _ rfl;obtain ⟨cH3_2,fH3_2⟩:=H3.2 2 _ rfl;obtain ⟨cH3_3,fH3_3⟩:=H3.2 3 _ rfl;obtain ⟨cH3_4,fH3_4⟩:=H3.2 4 _ rfl;obtain ⟨cH3_5,fH3_5⟩:=H3.2 5 _ rfl;obtain ⟨cH4_0,fH4_0⟩:=H4.2 0 _ rfl;obtain ⟨cH4_1,fH4_1⟩:=H4.2 1 _ rfl;obtain ⟨cH4_2,fH4_2⟩:=H4.2 2 _ rfl;go_wp2_with (fail)
     refine (c3 _).mono ?_;rintro e w' ⟨rfl,rfl⟩;go_wp2_with (fail)
     refine (c4 _).mono ?_;rintro e w' ⟨rfl,rfl⟩;go_wp2
     refine bodyPost_ret (v:=.tuple #[.int .i64 (-1),.int .i64 (-1)]) (by simp [results,Tryz.results58,go_sem]) rfl ⟨by rw [hfin.out], ?_⟩;exact hbw2
    ·have hfin:Hid (X1 t s=(i,j)):=by have:=hfin2.out;rw [if_neg (by omega)] at this;exact this
     clear hfin2;go_enter Tryz.func58,Tryz.ntmps58
     go_wp2_with (fail)
     refine (c1 _ ((hs.alloc _).alloc _)).mono ?_;rintro e w1 ⟨rfl,hb1⟩;have H1:=HA.below hb1;have H2:=HB.below hb1;have hbw:=Xf (Xc (Xc (Below.refl w.heap.size w) _) _) hb1;obtain ⟨cH2_0,fH2_0⟩:=H2.2 0 _ rfl;obtain ⟨cH2_1,fH2_1⟩:=H2.2 1 _ rfl;obtain ⟨cH2_2,fH2_2⟩:=H2.2 2 _ rfl;go_wp2_with (fail)
     refine (c2 _).mono ?_;rintro e w2 ⟨rfl,hb2⟩;have H3:=H1.below hb2;have H4:=H2.below hb2;have hbw2:=Xf hbw hb2;clear cH2_0 cH2_1 cH2_2 fH2_0 fH2_1 fH2_2;obtain ⟨cH3_0,fH3_0⟩:=H3.2 0 _ rfl;obtain ⟨cH3_1,fH3_1⟩:=H3.2 1 _ rfl;obtain ⟨cH3_2,fH3_2⟩:=H3.2 2 _ rfl;obtain ⟨cH3_3,fH3_3⟩:=H3.2 3 _ rfl;obtain ⟨cH3_4,fH3_4⟩:=H3.2 4 _ rfl;obtain ⟨cH3_5,fH3_5⟩:=H3.2 5 _ rfl;obtain ⟨cH4_0,fH4_0⟩:=H4.2 0 _ rfl;obtain ⟨cH4_1,fH4_1⟩:=H4.2 1 _ rfl;obtain ⟨cH4_2,fH4_2⟩:=H4.2 2 _ rfl;go_wp2_with (fail)
     refine (c3 _).mono ?_;rintro e w' ⟨rfl,rfl⟩;go_wp2_with (fail)
     refine (c4 _).mono ?_;rintro e w' ⟨rfl,rfl⟩;go_wp2
     refine bodyPost_ret (v:=.tuple #[.int .i64 i,.int .i64 j]) (by simp [results,Tryz.results58,go_sem]) rfl ⟨by rw [hfin.out], ?_⟩;exact hbw2
end Go.Proofs.YtabfdkpdppemaaaGreat
