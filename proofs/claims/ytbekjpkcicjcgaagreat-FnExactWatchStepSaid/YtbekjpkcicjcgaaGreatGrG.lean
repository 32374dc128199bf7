/-
 How fractions are compared: of the program (products of 128 bits) and of the reference (continued remainders); the lesser and the greater one; spans.
 Conditions: the numbers are ints of the machine.
-/
import Derived.Shelf.Bits.Mul64
import Derived.Test.YtbekjpkcicjcgaaGreatGrD
set_option maxHeartbeats 4000000
set_option maxRecDepth 100000
namespace Go.Proofs.YtbekjpkcicjcgaaGreat
open Go.RowKit
def sgn (x:Int):Int:=if x<0 then -1 else if 0<x then 1 else 0
theorem sgn_neg (x:Int):sgn (-x) = -sgn x:=by unfold sgn;split<;>split<;>(try split)<;>(try split)<;>omega
theorem sgn_bd (x:Int) : -1<=sgn x/\sgn x<=1:=by unfold sgn;split<;>(try split)<;>omega
theorem sgn_of_neg {x:Int} (h:x<0):sgn x = -1:=by unfold sgn;rw [if_pos h]
theorem sgn_of_pos {x:Int} (h:0<x):sgn x=1:=by unfold sgn;rw [if_neg Oz,if_pos h]
theorem sgn_zero:sgn 0=0:=rfl
def ZR (a b c d:Int):Int:=sgn (a*d-c*b)
theorem cmpF_bd (a b c d:Int) : -1<=ZR a b c d/\ZR a b c d<=1:=sgn_bd _
theorem cmpF_neg_pos {a b c d:Int} (hb:0<b) (hd:0<d) (ha:a<0) (hc:0<=c):ZR a b c d = -1:=by
 apply sgn_of_neg;have h1:a*d<0:=Int.mul_neg_of_neg_of_pos ha hd;have h2:0<=c*b:=Int.mul_nonneg hc Oz;omega
theorem cmpF_pos_neg {a b c d:Int} (hb:0<b) (hd:0<d) (ha:0<=a) (hc:c<0):ZR a b c d=1:=by
 apply sgn_of_pos;have h1:c*b<0:=Int.mul_neg_of_neg_of_pos hc hb;have h2:0<=a*d:=Int.mul_nonneg ha Oz;omega
theorem absmul {a d:Int} (hd:0<d):((a.natAbs*d.natAbs:Nat):Int)=if a<0 then -(a*d) else a*d:=by
 rw [Int.natCast_mul];have e:(d.natAbs:Int)=d:=Oz
 rw [e];split
 ·have:(a.natAbs:Int) = -a:=Oz
  rw [this,Int.neg_mul]
 ·have:(a.natAbs:Int)=a:=Oz
  rw [this]
theorem cmpF_halves {a b c d:Int} (hb:0<b) (hd:0<d) (X Y:Nat) (hX:X=a.natAbs*d.natAbs) (hY:Y=c.natAbs*b.natAbs) (hs:(a<0/\c<0)∨(0<=a/\0<=c)) :
 ZR a b c d=if a<0 then -(if Y<X then 1 else if X<Y then -1 else 0) else (if Y<X then 1 else if X<Y then -1 else 0):=by
 have h1:=absmul (a:=a) hd;have h2:=absmul (a:=c) hb;rw [<- hX] at h1;rw [<- hY] at h2;unfold ZR sgn;generalize a*d=p at *;generalize c*b=q at *;rcases hs with ⟨ha,hc⟩|⟨ha,hc⟩
 ·rw [if_pos ha] at h1 ⊢;rw [if_pos hc] at h2;split<;>split<;>(try split)<;>(try split)<;>omega
 ·rw [if_neg (show ¬ a<0 by omega)] at h1 ⊢;rw [if_neg (show ¬ c<0 by omega)] at h2;split<;>split<;>(try split)<;>(try split)<;>omega
theorem mul64_c (x y:Nat) (hx:x<18446744073709551616) (hy:y<18446744073709551616) (w:World) :
 Calls Tryz.prog 148 #[.int .u64 x,.int .u64 y] w λ e w'=>e=.returned (.tuple #[.int .u64 ((x*y / 18446744073709551616:Nat):Int),.int .u64 ((x*y % 18446744073709551616:Nat):Int)])/\w=w':=by
 obtain ⟨bd,bt,bw,hhi⟩:=Lib.mul64_hi x y hx hy;have ba:=Lib.half_mul_le (a:=x / 4294967296) (b:=y / 4294967296) Oz Oz;have bb:=Lib.half_mul_le (a:=x / 4294967296) (b:=y % 4294967296) Oz Oz;have bc:=Lib.half_mul_le (a:=x % 4294967296) (b:=y / 4294967296) Oz Oz;have ba':x / 4294967296*(y / 4294967296)<18446744073709551616:=Oz
 have bb':x / 4294967296*(y % 4294967296)<18446744073709551616:=Oz
 have bc':x % 4294967296*(y / 4294967296)<18446744073709551616:=Oz
 have bh1:x / 4294967296*(y / 4294967296)+(x / 4294967296*(y % 4294967296)+x % 4294967296*(y % 4294967296) / 4294967296) / 4294967296<18446744073709551616:=Oz
 have bh:x / 4294967296*(y / 4294967296)+(x / 4294967296*(y % 4294967296)+x % 4294967296*(y % 4294967296) / 4294967296) / 4294967296+((x / 4294967296*(y % 4294967296)+x % 4294967296*(y % 4294967296) / 4294967296) % 4294967296+x % 4294967296*(y / 4294967296)) / 4294967296<18446744073709551616:=Oz
 go_enter Tryz.func148,Tryz.ntmps148
 go_wp2
 simp only [Mul64.maskN x hx,Mul64.maskN y hy,Mul64.divN,Mul64.mulN,Mul64.addN,Mul64.wrapN _ bd,Mul64.wrapN _ bb',Mul64.wrapN _ bt,Mul64.maskN _ bt,Mul64.wrapN _ bc',Mul64.wrapN _ bw,Mul64.wrapN _ ba',Mul64.wrapN _ bh1,Mul64.wrapN _ bh,Mul64.wrapM (x*y)];rw [hhi];go_ret2
 exact ⟨rfl,rfl⟩
theorem KB (a b c d:Int) (w:World) (ha:Yy a) (hb:Yy b) (hc:Yy c) (hd:Yy d) (hb0:0<b) (hd0:0<d) :
 Calls Tryz.prog 107 #[.int .i64 a,.int .i64 b,.int .i64 c,.int .i64 d] w λ e w'=>e=.returned (.int .i64 (ZR a b c d))/\w=w':=by
 have m1:=λ W=>Ki a W ha;have m2:=λ W=>Ki d W hd;have m3:=λ W=>Ki c W hc;have m4:=λ W=>Ki b W hb;have n1:=JC ha;have n2:=JC hb;have n3:=JC hc;have n4:=JC hd;have u1:=λ W=>mul64_c a.natAbs d.natAbs Oz Oz W;have u2:=λ W=>mul64_c c.natAbs b.natAbs Oz Oz W;have key:=λ hs=>Lib.hid (cmpF_halves hb0 hd0 (a.natAbs*d.natAbs) (c.natAbs*b.natAbs) rfl rfl hs);have k1:=λ h1 h2=>Lib.hid (cmpF_neg_pos (a:=a) (c:=c) hb0 hd0 h1 h2);have k2:=λ h1 h2=>Lib.hid (cmpF_pos_neg (a:=a) (c:=c) hb0 hd0 h1 h2);have K:=Lib.hid key;have K1:=Lib.hid k1;have K2:=Lib.hid k2;clear key k1 k2;generalize hX:a.natAbs*d.natAbs=X at *;generalize hY:c.natAbs*b.natAbs=Y at *;clear hX hY;by_cases a0:a<0
 ·by_cases c0:c<0
  ·have hk:=K.out (.inl ⟨a0,c0⟩);clear K K1 K2;go_enter Tryz.func107,Tryz.ntmps107
   go_wp2_with (first|(go_at_call 66;((with_reducible refine (m1 _).mono ?_);rintro e w' ⟨rfl,rfl⟩))|(go_at_call 66;((with_reducible refine (m2 _).mono ?_);rintro e w' ⟨rfl,rfl⟩))|(go_at_call 66;((with_reducible refine (m3 _).mono ?_);rintro e w' ⟨rfl,rfl⟩))|(go_at_call 66;((with_reducible refine (m4 _).mono ?_);rintro e w' ⟨rfl,rfl⟩))|(go_at_call 148;((with_reducible refine (u1 _).mono ?_);rintro e w' ⟨rfl,rfl⟩))|(go_at_call 148;((with_reducible refine (u2 _).mono ?_);rintro e w' ⟨rfl,rfl⟩)))
   all_goals
    go_ret
    refine ⟨YB ?_,rfl⟩;rw [hk.out,if_pos a0];split<;>(try split)<;>omega
  ·have hk:=K1.out a0 (by omega);clear K K1 K2;go_enter Tryz.func107,Tryz.ntmps107
   go_wp2
   go_ret
   exact ⟨YB hk.out.symm,rfl⟩
 ·by_cases c0:c<0
  ·have hk:=K2.out (by omega) c0;clear K K1 K2;go_enter Tryz.func107,Tryz.ntmps107
   go_wp2
   go_ret
   exact ⟨YB hk.out.symm,rfl⟩
  ·have hk:=K.out (.inr ⟨by omega,by omega⟩);clear K K1 K2;go_enter Tryz.func107,Tryz.ntmps107
   go_wp2_with (first|(go_at_call 66;((with_reducible refine (m1 _).mono ?_);rintro e w' ⟨rfl,rfl⟩))|(go_at_call 66;((with_reducible refine (m2 _).mono ?_);rintro e w' ⟨rfl,rfl⟩))|(go_at_call 66;((with_reducible refine (m3 _).mono ?_);rintro e w' ⟨rfl,rfl⟩))|(go_at_call 66;((with_reducible refine (m4 _).mono ?_);rintro e w' ⟨rfl,rfl⟩))|(go_at_call 148;((with_reducible refine (u1 _).mono ?_);rintro e w' ⟨rfl,rfl⟩))|(go_at_call 148;((with_reducible refine (u2 _).mono ?_);rintro e w' ⟨rfl,rfl⟩)))
   all_goals
    go_ret
    refine ⟨YB ?_,rfl⟩;rw [hk.out,if_neg (show ¬ a<0 by omega)];split<;>(try split)<;>omega
def Xp (r s:Yk):Int:=if Xn r=true/\Xn s=true then ZR r.n r.d s.n s.d else 0
theorem Kv (r s:Yk) : -1<=Xp r s/\Xp r s<=1:=by
 unfold Xp;split
 ·exact cmpF_bd _ _ _ _
 ·omega
theorem J5 {r:Yk} (h:Xn r=true):(1<=r.d/\r.d<=1000000000000000)/\(-1000000000000000000<=r.n/\r.n<=1000000000000000000):=by
 have:=Z6.1 h;exact ⟨this.1,this.2.1⟩
def Ye (r s:Yk):Yk:=if Xn r=true/\Xn s=true then (if Xp r s<=0 then r else s) else Y7
def Yf (r s:Yk):Yk:=if Xn r=true/\Xn s=true then (if 0<=Xp r s then r else s) else Y7
structure K4 where
 low:Yk
 high:Yk
 deriving DecidableEq
abbrev Z8 (w:K4):Value:=.agg #[.int .i64 w.low.n,.int .i64 w.low.d,.int .i64 w.high.n,.int .i64 w.high.d]
def K4.In (w:K4):Prop:=w.low.In/\w.high.In
def XQ (w:K4):Bool:=Xn w.low&&Xn w.high&&decide (Xp w.low w.high<=0)
def XF:K4:=⟨Y7,Y7⟩
theorem floor_neg {n d:Int} (hn:n<0) (hd:0<d):n / d=if n.tmod d<0 then n.tdiv d-1 else n.tdiv d:=by
 obtain ⟨m,hm⟩:∃ m:Int,m = -n:=⟨_,rfl⟩;obtain rfl:n = -m:=Oz
 have h1:(-m).tdiv d = -(m / d):=by rw [Int.neg_tdiv,Int.tdiv_eq_ediv_of_nonneg Oz]
 have h2:(-m).tmod d = -(m % d):=by rw [Int.neg_tmod,Int.tmod_eq_emod_of_nonneg Oz]
 have h3:=Int.mul_ediv_add_emod m d;have h4:=Int.emod_nonneg m (show d≠0 by omega);have h5:=Int.emod_lt_of_pos m hd;rw [h1,h2];split
 ·refine ((Int.ediv_emod_unique (r:=d-m % d) hd).2 ⟨?_,Oz,Oz⟩).1;rw [Int.mul_sub,Int.mul_neg,Int.mul_one];omega
 ·refine ((Int.ediv_emod_unique (r:=0) hd).2 ⟨?_,Oz,Oz⟩).1;rw [Int.mul_neg];omega
theorem floor_pos {n d:Int} (hn:0<=n):n.tdiv d=n / d:=Int.tdiv_eq_ediv_of_nonneg hn
theorem floor_le {n d:Int} (hd:0<d) (B:Int) (h1 : -B<=n) (h2:n<=B) (hB:0<=B) : -B<=n / d/\n / d<=B:=by
 constructor
 ·rw [Int.le_ediv_iff_mul_le hd];have:B*1<=B*d:=Int.mul_le_mul_of_nonneg_left Oz hB;rw [Int.neg_mul];omega
 ·exact Int.ediv_le_of_le_mul hd (by have:B*1<=B*d:=Int.mul_le_mul_of_nonneg_left Oz hB;omega)
theorem tdiv_bd {n d:Int} (hn:n<0) (hd:0<d):n<=n.tdiv d/\n.tdiv d<=0:=by
 obtain ⟨m,hm⟩:∃ m:Int,m = -n:=⟨_,rfl⟩;obtain rfl:n = -m:=Oz
 have h1:(-m).tdiv d = -(m / d):=by rw [Int.neg_tdiv,Int.tdiv_eq_ediv_of_nonneg Oz]
 have h2:0<=m / d:=Int.ediv_nonneg Oz Oz;have h3:=(floor_le hd m Oz (Int.le_refl _) Oz).2;omega
theorem l02Floor_c (n d:Int) (w:World) (h1 : -9223372036854775807<=n) (h2:n<=9223372036854775807) (hd:0<d) (hd2:d<=9223372036854775807) :
 Calls Tryz.prog 156 #[.int .i64 n,.int .i64 d] w λ e w'=>e=.returned (.int .i64 (n / d))/\∃ k,w'=w.drewN k:=by
 have d0:((d:Int) == 0)=false:=by simp;omega
 have d1:((d:Int) != 0)=true:=by simp;omega
 have d2:((d:Int) == -1)=false:=by simp;omega
 by_cases hn:n<0
 ·have hf:=Lib.hid (floor_neg hn hd);obtain ⟨t1,t2⟩:=tdiv_bd hn hd;go_enter Tryz.func156,Tryz.ntmps156
  go_wp2
  all_goals
   go_ret
   refine ⟨YB ?_,0,rfl⟩;rw [hf.out];first|rw [if_pos (by assumption)]|rw [if_neg (by omega)]
 ·have hf:=Lib.hid (floor_pos (n:=n) (d:=d) (by omega));have m0:=Int.emod_nonneg n (show d≠0 by omega);have q0:0<=n / d:=Int.ediv_nonneg (by omega) (by omega);have q1:=(floor_le (n:=n) hd 9223372036854775807 (by omega) (by omega) (by omega)).2;go_enter Tryz.func156,Tryz.ntmps156
  go_wp2
  go_ret
  exact ⟨rfl,0,rfl⟩
theorem step_lt {A B C D:Int} (hB:0<B) (hD:0<D) (h:A / B<C / D):ZR A B C D = -1:=by
 apply sgn_of_neg;have h1:=Int.emod_lt_of_pos A hB;have h2:=Int.mul_ediv_add_emod A B;have h3:=Int.emod_nonneg C (show D≠0 by omega);have h4:=Int.mul_ediv_add_emod C D;have h5:A<B*(C / D):=by
  have:B*(A / B+1)<=B*(C / D):=Int.mul_le_mul_of_nonneg_left Oz Oz;rw [Int.mul_add,Int.mul_one] at this;omega
 have h6:A*D<B*(C / D)*D:=Int.mul_lt_mul_of_pos_right h5 hD;have h7:D*(C / D)*B<=C*B:=Int.mul_le_mul_of_nonneg_right Oz Oz;have h8:B*(C / D)*D=D*(C / D)*B:=by rw [Int.mul_comm (B*(C / D)) D,Int.mul_comm B (C / D),<- Int.mul_assoc]
 omega
theorem cmpF_swap (A B C D:Int):ZR C D A B = -ZR A B C D:=by
 unfold ZR;rw [<- sgn_neg];congr 1;omega
theorem step_gt {A B C D:Int} (hB:0<B) (hD:0<D) (h:C / D<A / B):ZR A B C D=1:=by
 have:=step_lt hD hB h;rw [cmpF_swap] at this;omega
theorem step_sub {A B C D:Int} (h:A / B=C / D):ZR A B C D=ZR (A-A / B*B) B (C-C / D*D) D:=by
 unfold ZR;congr 1
 rw [Int.sub_mul,Int.sub_mul,h];have:C / D*B*D=C / D*D*B:=by rw [Int.mul_assoc,Int.mul_assoc,Int.mul_comm B D]
 omega
theorem step_turn (A B C D:Int):ZR A B C D = -ZR B A D C:=by
 unfold ZR;rw [<- sgn_neg];congr 1;rw [Int.mul_comm B C,Int.mul_comm D A];omega
theorem sub_mod (A B:Int):A-A / B*B=A % B:=by
 have:=Int.mul_ediv_add_emod A B;rw [Int.mul_comm] at this;omega
theorem cmpF_00 {B D:Int}:ZR 0 B 0 D=0:=by unfold ZR;rw [Int.zero_mul,Int.zero_mul];rfl
theorem cmpF_0p {B Y D:Int} (hB:0<B) (h:0<Y):ZR 0 B Y D = -1:=by
 apply sgn_of_neg;have:=Int.mul_pos h hB;rw [Int.zero_mul];omega
theorem cmpF_p0 {X B D:Int} (hD:0<D) (h:0<X):ZR X B 0 D=1:=by
 apply sgn_of_pos;have:=Int.mul_pos h hD;rw [Int.zero_mul];omega
theorem KO (r s:Yk) (w:World) (hr:r.In) (hs:s.In) :
 Calls Tryz.prog 124 #[Xv r,Xv s] w λ e w'=>e=.returned (.int .i64 (Xp r s))/\Below w.heap.size w w':=by
 have c0:=λ W=>Zs r W hr;have c1:=λ W=>Zs s W hs;cases e0:Xn r
 ·rw [e0] at c0;go_enter Tryz.func124,Tryz.ntmps124
  go_wp2_with (fail)
  refine (c0 _).mono ?_;rintro e w0 ⟨rfl,hb0⟩;go_wp2
  go_ret
  refine ⟨YB (by simp [Xp,e0]), ?_⟩;exact Xl
 ·rw [e0] at c0;cases e1:Xn s
  ·rw [e1] at c1;go_enter Tryz.func124,Tryz.ntmps124
   go_wp2_with (fail)
   refine (c0 _).mono ?_;rintro e w0 ⟨rfl,hb0⟩;have r0:=Xh hb0;have l0:w.heap.size<w0.heap.size:=Xo hb0;have m0:w.heap.size+1<w0.heap.size:=Xo hb0;go_wp2_with (fail)
   refine (c1 _).mono ?_;rintro e w1 ⟨rfl,hb1⟩;go_wp2
   go_ret
   refine ⟨YB (by simp [Xp,e1]), ?_⟩;exact Xl
  ·rw [e1] at c1;have hv:=Lib.hid (show Xp r s=ZR r.n r.d s.n s.d by simp [Xp,e0,e1]);obtain ⟨⟨b1,b2⟩,b3,b4⟩:=J5 e0;obtain ⟨⟨d1,d2⟩,d3,d4⟩:=J5 e1;clear e0 e1;go_enter Tryz.func124,Tryz.ntmps124
   go_wp2_with (fail)
   refine (c0 _).mono ?_;rintro e w0 ⟨rfl,hb0⟩;have r0:=Xh hb0;have l0:w.heap.size<w0.heap.size:=Xo hb0;have m0:w.heap.size+1<w0.heap.size:=Xo hb0;go_wp2_with (fail)
   refine (c1 _).mono ?_;rintro e w1 ⟨rfl,hb1⟩;have r1:=Xh hb1;have l1:w.heap.size<w1.heap.size:=Xo hb1;have m1:w.heap.size+1<w1.heap.size:=Xo hb1;go_wp2
   have hbs:Below w.heap.size w w1:=by
    exact Xl
   clear r0 r1 l0 m0 l1 m1 hb0 hb1 c0 c1;go_loopw [5,6,7,8,9] (λ a b c d g wr=>∃ A B C D G:Int,a=.int .i64 A/\b=.int .i64 B/\c=.int .i64 C/\d=.int .i64 D/\g=.int .i64 G/\(-1000000000000000000<=A/\A<=1000000000000000000)/\(0<B/\B<=1000000000000000)/\(-1000000000000000000<=C/\C<=1000000000000000000)/\(0<D/\D<=1000000000000000)/\(-1<=G/\G<=1)/\Hid (Xp r s=G*ZR A B C D)/\Below w.heap.size w wr) (λ _ b _ _ _ _=>(intOf b).toNat)
   case atStart=>exact ⟨_,_,_,_,1,rfl,rfl,rfl,rfl,rfl,⟨b3,b4⟩,⟨Oz,b2⟩,⟨d3,d4⟩,⟨Oz,d2⟩,Oz,hv.out.trans (by rw [Int.one_mul]),hbs⟩
   case round =>
    obtain ⟨A,B,C,D,G,rfl,rfl,rfl,rfl,rfl,⟨A1,A2⟩,⟨B1,B2⟩,⟨C1,C2⟩,⟨D1,D2⟩,⟨G1,G2⟩,hval,hbw⟩:=hrel;clear hv hbs;have f1:=λ W=>l02Floor_c A B W Oz Oz Oz Oz;have f2:=λ W=>l02Floor_c C D W Oz Oz Oz Oz;obtain ⟨p1,p2⟩:=floor_le (n:=A) (d:=B) B1 1000000000000000000 Oz Oz Oz;obtain ⟨q1,q2⟩:=floor_le (n:=C) (d:=D) D1 1000000000000000000 Oz Oz Oz;have SA:=sub_mod A B;have SC:=sub_mod C D;have M1:=Int.emod_nonneg A (show B≠0 by omega);have M2:=Int.emod_lt_of_pos A B1;have M3:=Int.emod_nonneg C (show D≠0 by omega);have M4:=Int.emod_lt_of_pos C D1;have LT:=Lib.hid (λ h=>@step_lt A B C D B1 D1 h);have GT:=Lib.hid (λ h=>@step_gt A B C D B1 D1 h);have EQ:=Lib.hid (λ h=>@step_sub A B C D h);obtain ⟨RB1,RB2⟩:0<=A-A / B*B/\A-A / B*B<B:=Oz
    obtain ⟨RD1,RD2⟩:0<=C-C / D*D/\C-C / D*D<D:=Oz
    obtain ⟨PA1,PA2⟩ : -1001000000000000000<=A / B*B/\A / B*B<=1001000000000000000:=Oz
    obtain ⟨PC1,PC2⟩ : -1001000000000000000<=C / D*D/\C / D*D<=1001000000000000000:=Oz
    clear SA SC M1 M2 M3 M4;generalize A / B=p at *;generalize C / D=q at *;by_cases hlt:p<q
    ·have hfin:Hid (Xp r s = -G):=hval.out.trans (by rw [LT.out hlt];omega);have hne:(p != q)=true:=by simp;omega
     clear hval LT GT EQ;go_wp2_with (fail)
     refine (f1 _).mono ?_;rintro e w' ⟨rfl,n1,rfl⟩;go_wp2_with (fail)
     refine (f2 _).mono ?_;rintro e w' ⟨rfl,n2,rfl⟩;go_wp2
     go_ret
     refine ⟨YB hfin.out.symm, ?_⟩;exact Xl
    ·by_cases hgt:q<p
     ·have hfin:Hid (Xp r s=G):=hval.out.trans (by rw [GT.out hgt];omega);have hne:(p != q)=true:=by simp;omega
      clear hval LT GT EQ;go_wp2_with (fail)
      refine (f1 _).mono ?_;rintro e w' ⟨rfl,n1,rfl⟩;go_wp2_with (fail)
      refine (f2 _).mono ?_;rintro e w' ⟨rfl,n2,rfl⟩;go_wp2
      go_ret
      refine ⟨YB hfin.out.symm, ?_⟩;exact Xl
     ·obtain rfl:p=q:=Oz
      have hval2:Hid (Xp r s=G*ZR (A-p*B) B (C-p*D) D):=hval.out.trans (by rw [EQ.out rfl]);have TU:=Lib.hid (step_turn (A-p*B) B (C-p*D) D);clear hval LT GT EQ hlt hgt;by_cases x0:A-p*B=0
      ·by_cases y0:C-p*D=0
       ·have hfin:Hid (Xp r s=0):=hval2.out.trans (by rw [x0,y0,cmpF_00];omega);clear hval2 TU;go_wp2_with (fail)
        refine (f1 _).mono ?_;rintro e w' ⟨rfl,n1,rfl⟩;go_wp2_with (fail)
        refine (f2 _).mono ?_;rintro e w' ⟨rfl,n2,rfl⟩;go_wp2
        go_ret
        refine ⟨YB hfin.out.symm, ?_⟩;exact Xl
       ·have hfin:Hid (Xp r s = -G):=hval2.out.trans (by rw [x0,cmpF_0p B1 Oz];omega);have y1:((C-p*D:Int) == 0)=false:=by simpa using y0
        clear hval2 TU;go_wp2_with (fail)
        refine (f1 _).mono ?_;rintro e w' ⟨rfl,n1,rfl⟩;go_wp2_with (fail)
        refine (f2 _).mono ?_;rintro e w' ⟨rfl,n2,rfl⟩;go_wp2
        go_ret
        refine ⟨YB hfin.out.symm, ?_⟩;exact Xl
      ·have x1:((A-p*B:Int) == 0)=false:=by simpa using x0
       by_cases y0:C-p*D=0
       ·have hfin:Hid (Xp r s=G):=hval2.out.trans (by rw [y0,cmpF_p0 D1 (by omega)];omega);clear hval2 TU;go_wp2_with (fail)
        refine (f1 _).mono ?_;rintro e w' ⟨rfl,n1,rfl⟩;go_wp2_with (fail)
        refine (f2 _).mono ?_;rintro e w' ⟨rfl,n2,rfl⟩;go_wp2
        go_ret
        refine ⟨YB hfin.out.symm, ?_⟩;exact Xl
       ·have hfin:Hid (Xp r s = -G*ZR B (A-p*B) D (C-p*D)):=hval2.out.trans (by rw [TU.out,Int.mul_neg,Int.neg_mul]);have y1:((C-p*D:Int) == 0)=false:=by simpa using y0
        clear hval2 TU;go_wp2_with (fail)
        refine (f1 _).mono ?_;rintro e w' ⟨rfl,n1,rfl⟩;go_wp2_with (fail)
        refine (f2 _).mono ?_;rintro e w' ⟨rfl,n2,rfl⟩;go_wp2
        go_roundw
        case rel =>
         refine ⟨_,_,_,_,_,rfl,rfl,rfl,rfl,rfl,⟨Oz,Oz⟩,⟨Oz,Oz⟩,⟨Oz,Oz⟩,⟨Oz,Oz⟩,⟨Oz,Oz⟩,hfin, ?_⟩;exact Xl
        case measure=>simp [intOf];omega
theorem sgn_scale {k x:Int} (hk:0<k):sgn (k*x)=sgn x:=by
 unfold sgn;rcases Int.lt_trichotomy x 0 with h|h|h
 ·have:=Int.mul_neg_of_pos_of_neg hk h;rw [if_pos this,if_pos h]
 ·subst h;simp
 ·have:=Int.mul_pos hk h;rw [if_neg (show ¬ k*x<0 by omega),if_neg (show ¬ x<0 by omega),if_pos this,if_pos h]
theorem cmpF_scale {k l a b c d:Int} (hk:0<k) (hl:0<l):ZR (k*a) (k*b) (l*c) (l*d)=ZR a b c d:=by
 unfold ZR;rw [<- sgn_scale (x:=a*d-c*b) (Int.mul_pos hk hl)];congr 1
 grind
theorem YP {n d:Int} (hn : -1000000000000000000<=n/\n<=1000000000000000000) (hd:1<=d/\d<=1000000000000000) :
 Xn (XD n d)=true/\∃ k:Int,0<k/\n=k*(XD n d).n/\d=k*(XD n d).d:=by
 have hg:Xm [n,d]=Nat.gcd n.natAbs d.natAbs:=Ka n d;have hpos:0<Xm [n,d]:=by rw [hg];exact Nat.gcd_pos_of_pos_right _ Oz
 have h1:Xm [n,d] ∣ n.natAbs:=by rw [hg];exact Nat.gcd_dvd_left _ _
 have h2:Xm [n,d] ∣ d.natAbs:=by rw [hg];exact Nat.gcd_dvd_right _ _
 have e1:=Nat.mul_div_cancel' h1;have e2:=Nat.mul_div_cancel' h2;have l1:=Nat.div_le_self n.natAbs (Xm [n,d]);have l2:=Nat.div_le_self d.natAbs (Xm [n,d]);have hdef:XD n d=if decide (n<0)=decide (d<0) then ⟨((n.natAbs / Xm [n,d]:Nat):Int),((d.natAbs / Xm [n,d]:Nat):Int)⟩ else ⟨-((n.natAbs / Xm [n,d]:Nat):Int),((d.natAbs / Xm [n,d]:Nat):Int)⟩:=by
  unfold XD;rw [if_neg (by rw [ZI Oz,ZI Oz];simp;omega),if_neg Oz]
 have hd0:¬ d<0:=Oz
 have hne:XD n d≠Y7:=by
  intro e;have hq:d.natAbs / Xm [n,d]=0:=by
   rw [hdef] at e;have:(Y7).d=0:=rfl;rw [<- e] at this;split at this<;>simp only at this<;>omega
  rw [hq] at e2;omega
 refine ⟨ratioOf_ok.2 hne,(Xm [n,d]:Int),Oz, ?_, ?_⟩
 ·rw [hdef];have e1':((Xm [n,d]:Nat):Int)*((n.natAbs / Xm [n,d]:Nat):Int)=(n.natAbs:Int):=by rw [<- Int.natCast_mul,e1]
  split
  ·rename_i h;simp [hd0] at h;simp only;rw [e1'];omega
  ·rename_i h;simp [hd0] at h;simp only;rw [Int.mul_neg,e1'];omega
 ·have e2':((Xm [n,d]:Nat):Int)*((d.natAbs / Xm [n,d]:Nat):Int)=(d.natAbs:Int):=by rw [<- Int.natCast_mul,e2]
  rw [hdef];split<;>(simp only;rw [e2'];omega)
theorem ratioCmp_of {a b c d:Int} (ha : -1000000000000000000<=a/\a<=1000000000000000000) (hb:1<=b/\b<=1000000000000000) (hc : -1000000000000000000<=c/\c<=1000000000000000000) (hd:1<=d/\d<=1000000000000000) :
 Xp (XD a b) (XD c d)=ZR a b c d:=by
 obtain ⟨h1,k,hk,e1,e2⟩:=YP ha hb;obtain ⟨h2,l,hl,e3,e4⟩:=YP hc hd;unfold Xp;rw [if_pos ⟨h1,h2⟩];generalize XD a b=r at *;generalize XD c d=s at *;rw [e1,e2,e3,e4,cmpF_scale hk hl]
theorem ratioOf_in {n d:Int} (hn : -1000000000000000000<=n/\n<=1000000000000000000) (hd:1<=d/\d<=1000000000000000):(XD n d).In:=by
 have:=J5 (YP hn hd).1;exact ⟨⟨Oz,Oz⟩,⟨Oz,Oz⟩⟩
theorem ratioMin_ok {r s:Yk} (hr:Xn r=true) (hs:Xn s=true):Xn (Ye r s)=true:=by
 unfold Ye;rw [if_pos ⟨hr,hs⟩];split<;>assumption
theorem ratioMax_ok {r s:Yk} (hr:Xn r=true) (hs:Xn s=true):Xn (Yf r s)=true:=by
 unfold Yf;rw [if_pos ⟨hr,hs⟩];split<;>assumption
theorem Jh (r s:Yk) (w:World) (hr:r.In) (hs:s.In) :
 Calls Tryz.prog 51 #[Xv r,Xv s] w λ e w'=>e=.returned (.int .i64 (Xp r s))/\Below w.heap.size w w':=by
 have c0:=λ W=>Km r W hr;have c1:=λ W=>Km s W hs;cases e0:Xn r
 ·rw [e0] at c0;go_enter Tryz.func51,Tryz.ntmps51
  go_wp2_with (fail)
  refine (c0 _).mono ?_;rintro e w0 ⟨rfl,hb0⟩;have r0:=Xh hb0;have l0_0:w.heap.size<w0.heap.size:=Xo hb0;have l0_1:w.heap.size+1<w0.heap.size:=Xo hb0;go_wp2
  go_ret
  refine ⟨YB (by simp [Xp,e0]), ?_⟩;exact Xl
 ·rw [e0] at c0;cases e1:Xn s
  ·rw [e1] at c1;go_enter Tryz.func51,Tryz.ntmps51
   go_wp2_with (fail)
   refine (c0 _).mono ?_;rintro e w0 ⟨rfl,hb0⟩;have r0:=Xh hb0;have l0_0:w.heap.size<w0.heap.size:=Xo hb0;have l0_1:w.heap.size+1<w0.heap.size:=Xo hb0;go_wp2_with (fail)
   refine (c1 _).mono ?_;rintro e w1 ⟨rfl,hb1⟩;have r1:=Xh hb1;have l1_0:w.heap.size<w1.heap.size:=Xo hb1;have l1_1:w.heap.size+1<w1.heap.size:=Xo hb1;go_wp2
   go_ret
   refine ⟨YB (by simp [Xp,e1]), ?_⟩;exact Xl
  ·rw [e1] at c1;have hv:=Lib.hid (show Xp r s=ZR r.n r.d s.n s.d by simp [Xp,e0,e1]);have c2:=λ W=>KB r.n r.d s.n s.d W hr.1 hr.2 hs.1 hs.2 (by have:=J5 e0;omega) (by have:=J5 e1;omega);go_enter Tryz.func51,Tryz.ntmps51
   go_wp2_with (fail)
   refine (c0 _).mono ?_;rintro e w0 ⟨rfl,hb0⟩;have r0:=Xh hb0;have l0_0:w.heap.size<w0.heap.size:=Xo hb0;have l0_1:w.heap.size+1<w0.heap.size:=Xo hb0;go_wp2_with (fail)
   refine (c1 _).mono ?_;rintro e w1 ⟨rfl,hb1⟩;have r1:=Xh hb1;have l1_0:w.heap.size<w1.heap.size:=Xo hb1;have l1_1:w.heap.size+1<w1.heap.size:=Xo hb1;go_wp2_with (fail)
   refine (c2 _).mono ?_;rintro e w' ⟨rfl,rfl⟩;go_wp2
   go_ret
   refine ⟨YB hv.out.symm, ?_⟩;exact Xl
theorem iRatioMin_c (r s:Yk) (w:World) (hr:r.In) (hs:s.In) :
 Calls Tryz.prog 105 #[Xv r,Xv s] w λ e w'=>e=.returned (Xv (Ye r s))/\Below w.heap.size w w':=by
 have c0:=λ W=>Km r W hr;have c1:=λ W=>Km s W hs;have c2:=λ W=>Jh r s W hr hs;cases e0:Xn r
 ·rw [e0] at c0;have hv:=Lib.hid (show Ye r s=Y7 by simp [Ye,e0]);go_enter Tryz.func105,Tryz.ntmps105
  go_wp2_with (fail)
  refine (c0 _).mono ?_;rintro e w0 ⟨rfl,hb0⟩;have r0:=Xh hb0;have l0_0:w.heap.size<w0.heap.size:=Xo hb0;have l0_1:w.heap.size+1<w0.heap.size:=Xo hb0;have l0_2:w.heap.size+1+1<w0.heap.size:=Xo hb0;have H:XV w0 (w.heap.size+1+1) [.int .i64 0,.int .i64 0]:=by
   exact Ys
  obtain ⟨cH_0,fH_0⟩:=H.2 0 _ rfl;obtain ⟨cH_1,fH_1⟩:=H.2 1 _ rfl;go_wp2
  refine bodyPost_ret (v:=.agg #[.int .i64 0,.int .i64 0]) (by simp [results,Tryz.results105,go_sem,cH_0,cH_1]) rfl ⟨by rw [hv.out];rfl, ?_⟩;exact Xl
 ·rw [e0] at c0;cases e1:Xn s
  ·rw [e1] at c1;have hv:=Lib.hid (show Ye r s=Y7 by simp [Ye,e1]);go_enter Tryz.func105,Tryz.ntmps105
   go_wp2_with (fail)
   refine (c0 _).mono ?_;rintro e w0 ⟨rfl,hb0⟩;have r0:=Xh hb0;have l0_0:w.heap.size<w0.heap.size:=Xo hb0;have l0_1:w.heap.size+1<w0.heap.size:=Xo hb0;have l0_2:w.heap.size+1+1<w0.heap.size:=Xo hb0;go_wp2_with (fail)
   refine (c1 _).mono ?_;rintro e w1 ⟨rfl,hb1⟩;have r1:=Xh hb1;have l1_0:w.heap.size<w1.heap.size:=Xo hb1;have l1_1:w.heap.size+1<w1.heap.size:=Xo hb1;have l1_2:w.heap.size+1+1<w1.heap.size:=Xo hb1;have H:XV w1 (w.heap.size+1+1) [.int .i64 0,.int .i64 0]:=by
    exact Ys
   obtain ⟨cH_0,fH_0⟩:=H.2 0 _ rfl;obtain ⟨cH_1,fH_1⟩:=H.2 1 _ rfl;go_wp2
   refine bodyPost_ret (v:=.agg #[.int .i64 0,.int .i64 0]) (by simp [results,Tryz.results105,go_sem,cH_0,cH_1]) rfl ⟨by rw [hv.out];rfl, ?_⟩;exact Xl
  ·rw [e1] at c1;have bd:=Kv r s;cases e2:decide (Xp r s<=0)
   ·have hv:=Lib.hid (show Ye r s=s by simp only [decide_eq_false_iff_not] at e2;simp [Ye,e0,e1,e2]);simp only [decide_eq_false_iff_not] at e2;clear e0 e1;generalize Xp r s=q at *;go_enter Tryz.func105,Tryz.ntmps105
    go_wp2_with (fail)
    refine (c0 _).mono ?_;rintro e w0 ⟨rfl,hb0⟩;have r0:=Xh hb0;have l0_0:w.heap.size<w0.heap.size:=Xo hb0;have l0_1:w.heap.size+1<w0.heap.size:=Xo hb0;have l0_2:w.heap.size+1+1<w0.heap.size:=Xo hb0;go_wp2_with (fail)
    refine (c1 _).mono ?_;rintro e w1 ⟨rfl,hb1⟩;have r1:=Xh hb1;have l1_0:w.heap.size<w1.heap.size:=Xo hb1;have l1_1:w.heap.size+1<w1.heap.size:=Xo hb1;have l1_2:w.heap.size+1+1<w1.heap.size:=Xo hb1;go_wp2_with (fail)
    refine (c2 _).mono ?_;rintro e w2 ⟨rfl,hb2⟩;have r2:=Xh hb2;have l2_0:w.heap.size<w2.heap.size:=Xo hb2;have l2_1:w.heap.size+1<w2.heap.size:=Xo hb2;have l2_2:w.heap.size+1+1<w2.heap.size:=Xo hb2;have H:XV w2 (w.heap.size+1+1) [.int .i64 0,.int .i64 0]:=by
     exact Ys
    obtain ⟨cH_0,fH_0⟩:=H.2 0 _ rfl;obtain ⟨cH_1,fH_1⟩:=H.2 1 _ rfl;go_wp2
    refine bodyPost_ret (v:=.agg #[.int .i64 s.n,.int .i64 s.d]) (by simp [results,Tryz.results105,go_sem,cH_0,cH_1]) rfl ⟨by rw [hv.out], ?_⟩;exact Xl
   ·have hv:=Lib.hid (show Ye r s=r by simp only [decide_eq_true_eq] at e2;simp [Ye,e0,e1,e2]);simp only [decide_eq_true_eq] at e2;clear e0 e1;generalize Xp r s=q at *;go_enter Tryz.func105,Tryz.ntmps105
    go_wp2_with (fail)
    refine (c0 _).mono ?_;rintro e w0 ⟨rfl,hb0⟩;have r0:=Xh hb0;have l0_0:w.heap.size<w0.heap.size:=Xo hb0;have l0_1:w.heap.size+1<w0.heap.size:=Xo hb0;have l0_2:w.heap.size+1+1<w0.heap.size:=Xo hb0;go_wp2_with (fail)
    refine (c1 _).mono ?_;rintro e w1 ⟨rfl,hb1⟩;have r1:=Xh hb1;have l1_0:w.heap.size<w1.heap.size:=Xo hb1;have l1_1:w.heap.size+1<w1.heap.size:=Xo hb1;have l1_2:w.heap.size+1+1<w1.heap.size:=Xo hb1;go_wp2_with (fail)
    refine (c2 _).mono ?_;rintro e w2 ⟨rfl,hb2⟩;have r2:=Xh hb2;have l2_0:w.heap.size<w2.heap.size:=Xo hb2;have l2_1:w.heap.size+1<w2.heap.size:=Xo hb2;have l2_2:w.heap.size+1+1<w2.heap.size:=Xo hb2;have H:XV w2 (w.heap.size+1+1) [.int .i64 0,.int .i64 0]:=by
     exact Ys
    obtain ⟨cH_0,fH_0⟩:=H.2 0 _ rfl;obtain ⟨cH_1,fH_1⟩:=H.2 1 _ rfl;go_wp2
    refine bodyPost_ret (v:=.agg #[.int .i64 r.n,.int .i64 r.d]) (by simp [results,Tryz.results105,go_sem,cH_0,cH_1]) rfl ⟨by rw [hv.out], ?_⟩;exact Xl
theorem iRatioMax_c (r s:Yk) (w:World) (hr:r.In) (hs:s.In) :
 Calls Tryz.prog 106 #[Xv r,Xv s] w λ e w'=>e=.returned (Xv (Yf r s))/\Below w.heap.size w w':=by
 have c0:=λ W=>Km r W hr;have c1:=λ W=>Km s W hs;have c2:=λ W=>Jh r s W hr hs;cases e0:Xn r
 ·rw [e0] at c0;have hv:=Lib.hid (show Yf r s=Y7 by simp [Yf,e0]);go_enter Tryz.func106,Tryz.ntmps106
  go_wp2_with (fail)
  refine (c0 _).mono ?_;rintro e w0 ⟨rfl,hb0⟩;have r0:=Xh hb0;have l0_0:w.heap.size<w0.heap.size:=Xo hb0;have l0_1:w.heap.size+1<w0.heap.size:=Xo hb0;have l0_2:w.heap.size+1+1<w0.heap.size:=Xo hb0;have H:XV w0 (w.heap.size+1+1) [.int .i64 0,.int .i64 0]:=by
   exact Ys
  obtain ⟨cH_0,fH_0⟩:=H.2 0 _ rfl;obtain ⟨cH_1,fH_1⟩:=H.2 1 _ rfl;go_wp2
  refine bodyPost_ret (v:=.agg #[.int .i64 0,.int .i64 0]) (by simp [results,Tryz.results106,go_sem,cH_0,cH_1]) rfl ⟨by rw [hv.out];rfl, ?_⟩;exact Xl
 ·rw [e0] at c0;cases e1:Xn s
  ·rw [e1] at c1;have hv:=Lib.hid (show Yf r s=Y7 by simp [Yf,e1]);go_enter Tryz.func106,Tryz.ntmps106
   go_wp2_with (fail)
   refine (c0 _).mono ?_;rintro e w0 ⟨rfl,hb0⟩;have r0:=Xh hb0;have l0_0:w.heap.size<w0.heap.size:=Xo hb0;have l0_1:w.heap.size+1<w0.heap.size:=Xo hb0;have l0_2:w.heap.size+1+1<w0.heap.size:=Xo hb0;go_wp2_with (fail)
   refine (c1 _).mono ?_;rintro e w1 ⟨rfl,hb1⟩;have r1:=Xh hb1;have l1_0:w.heap.size<w1.heap.size:=Xo hb1;have l1_1:w.heap.size+1<w1.heap.size:=Xo hb1;have l1_2:w.heap.size+1+1<w1.heap.size:=Xo hb1;have H:XV w1 (w.heap.size+1+1) [.int .i64 0,.int .i64 0]:=by
    exact Ys
   obtain ⟨cH_0,fH_0⟩:=H.2 0 _ rfl;obtain ⟨cH_1,fH_1⟩:=H.2 1 _ rfl;go_wp2
   refine bodyPost_ret (v:=.agg #[.int .i64 0,.int .i64 0]) (by simp [results,Tryz.results106,go_sem,cH_0,cH_1]) rfl ⟨by rw [hv.out];rfl, ?_⟩;exact Xl
  ·rw [e1] at c1;have bd:=Kv r s;cases e2:decide (0<=Xp r s)
   ·have hv:=Lib.hid (show Yf r s=s by simp only [decide_eq_false_iff_not] at e2;simp [Yf,e0,e1,e2]);simp only [decide_eq_false_iff_not] at e2;clear e0 e1;generalize Xp r s=q at *;go_enter Tryz.func106,Tryz.ntmps106
    go_wp2_with (fail)
    refine (c0 _).mono ?_;rintro e w0 ⟨rfl,hb0⟩;have r0:=Xh hb0;have l0_0:w.heap.size<w0.heap.size:=Xo hb0;have l0_1:w.heap.size+1<w0.heap.size:=Xo hb0;have l0_2:w.heap.size+1+1<w0.heap.size:=Xo hb0;go_wp2_with (fail)
    refine (c1 _).mono ?_;rintro e w1 ⟨rfl,hb1⟩;have r1:=Xh hb1;have l1_0:w.heap.size<w1.heap.size:=Xo hb1;have l1_1:w.heap.size+1<w1.heap.size:=Xo hb1;have l1_2:w.heap.size+1+1<w1.heap.size:=Xo hb1;go_wp2_with (fail)
    refine (c2 _).mono ?_;rintro e w2 ⟨rfl,hb2⟩;have r2:=Xh hb2;have l2_0:w.heap.size<w2.heap.size:=Xo hb2;have l2_1:w.heap.size+1<w2.heap.size:=Xo hb2;have l2_2:w.heap.size+1+1<w2.heap.size:=Xo hb2;have H:XV w2 (w.heap.size+1+1) [.int .i64 0,.int .i64 0]:=by
     exact Ys
    obtain ⟨cH_0,fH_0⟩:=H.2 0 _ rfl;obtain ⟨cH_1,fH_1⟩:=H.2 1 _ rfl;go_wp2
    refine bodyPost_ret (v:=.agg #[.int .i64 s.n,.int .i64 s.d]) (by simp [results,Tryz.results106,go_sem,cH_0,cH_1]) rfl ⟨by rw [hv.out], ?_⟩;exact Xl
   ·have hv:=Lib.hid (show Yf r s=r by simp only [decide_eq_true_eq] at e2;simp [Yf,e0,e1,e2]);simp only [decide_eq_true_eq] at e2;clear e0 e1;generalize Xp r s=q at *;go_enter Tryz.func106,Tryz.ntmps106
    go_wp2_with (fail)
    refine (c0 _).mono ?_;rintro e w0 ⟨rfl,hb0⟩;have r0:=Xh hb0;have l0_0:w.heap.size<w0.heap.size:=Xo hb0;have l0_1:w.heap.size+1<w0.heap.size:=Xo hb0;have l0_2:w.heap.size+1+1<w0.heap.size:=Xo hb0;go_wp2_with (fail)
    refine (c1 _).mono ?_;rintro e w1 ⟨rfl,hb1⟩;have r1:=Xh hb1;have l1_0:w.heap.size<w1.heap.size:=Xo hb1;have l1_1:w.heap.size+1<w1.heap.size:=Xo hb1;have l1_2:w.heap.size+1+1<w1.heap.size:=Xo hb1;go_wp2_with (fail)
    refine (c2 _).mono ?_;rintro e w2 ⟨rfl,hb2⟩;have r2:=Xh hb2;have l2_0:w.heap.size<w2.heap.size:=Xo hb2;have l2_1:w.heap.size+1<w2.heap.size:=Xo hb2;have l2_2:w.heap.size+1+1<w2.heap.size:=Xo hb2;have H:XV w2 (w.heap.size+1+1) [.int .i64 0,.int .i64 0]:=by
     exact Ys
    obtain ⟨cH_0,fH_0⟩:=H.2 0 _ rfl;obtain ⟨cH_1,fH_1⟩:=H.2 1 _ rfl;go_wp2
    refine bodyPost_ret (v:=.agg #[.int .i64 r.n,.int .i64 r.d]) (by simp [results,Tryz.results106,go_sem,cH_0,cH_1]) rfl ⟨by rw [hv.out], ?_⟩;exact Xl
theorem iSpanOk_c (x:K4) (w:World) (hx:x.In) :
 Calls Tryz.prog 49 #[Z8 x] w λ e w'=>e=.returned (.bool (XQ x))/\Below w.heap.size w w':=by
 have c0:=λ W=>Km x.low W hx.1;have c1:=λ W=>Km x.high W hx.2;have c2:=λ W=>Jh x.low x.high W hx.1 hx.2;cases e0:Xn x.low
 ·rw [e0] at c0;have hv:=Lib.hid (show XQ x=false by simp [XQ,e0]);go_enter Tryz.func49,Tryz.ntmps49
  go_wp2_with (fail)
  refine (c0 _).mono ?_;rintro e w0 ⟨rfl,hb0⟩;have r0:=Xh hb0;have l0_0:w.heap.size<w0.heap.size:=Xo hb0;go_wp2
  go_ret
  refine ⟨?_, ?_⟩
  ·first
   | exact Xi hv.out.symm
   | exact Xi (by rw [hv.out];simp;omega)
  ·exact Xl
 ·rw [e0] at c0;cases e1:Xn x.high
  ·rw [e1] at c1;have hv:=Lib.hid (show XQ x=false by simp [XQ,e1]);go_enter Tryz.func49,Tryz.ntmps49
   go_wp2_with (fail)
   refine (c0 _).mono ?_;rintro e w0 ⟨rfl,hb0⟩;have r0:=Xh hb0;have l0_0:w.heap.size<w0.heap.size:=Xo hb0;go_wp2_with (fail)
   refine (c1 _).mono ?_;rintro e w1 ⟨rfl,hb1⟩;have r1:=Xh hb1;have l1_0:w.heap.size<w1.heap.size:=Xo hb1;go_wp2
   go_ret
   refine ⟨?_, ?_⟩
   ·first
    | exact Xi hv.out.symm
    | exact Xi (by rw [hv.out];simp;omega)
   ·exact Xl
  ·rw [e1] at c1;cases e2:decide (Xp x.low x.high<=0)
   ·have hv:=Lib.hid (show XQ x=false by simp only [XQ,e0,e1,e2];rfl);simp only [decide_eq_false_iff_not] at e2;have bd:=Kv x.low x.high;generalize Xp x.low x.high=q at *;go_enter Tryz.func49,Tryz.ntmps49
    go_wp2_with (fail)
    refine (c0 _).mono ?_;rintro e w0 ⟨rfl,hb0⟩;have r0:=Xh hb0;have l0_0:w.heap.size<w0.heap.size:=Xo hb0;go_wp2_with (fail)
    refine (c1 _).mono ?_;rintro e w1 ⟨rfl,hb1⟩;have r1:=Xh hb1;have l1_0:w.heap.size<w1.heap.size:=Xo hb1;go_wp2_with (fail)
    refine (c2 _).mono ?_;rintro e w2 ⟨rfl,hb2⟩;have r2:=Xh hb2;have l2_0:w.heap.size<w2.heap.size:=Xo hb2;go_wp2
    go_ret
    refine ⟨?_, ?_⟩
    ·first
     | exact Xi hv.out.symm
     | exact Xi (by rw [hv.out];simp;omega)
    ·exact Xl
   ·have hv:=Lib.hid (show XQ x=true by simp only [XQ,e0,e1,e2];rfl);simp only [decide_eq_true_eq] at e2;have bd:=Kv x.low x.high;generalize Xp x.low x.high=q at *;go_enter Tryz.func49,Tryz.ntmps49
    go_wp2_with (fail)
    refine (c0 _).mono ?_;rintro e w0 ⟨rfl,hb0⟩;have r0:=Xh hb0;have l0_0:w.heap.size<w0.heap.size:=Xo hb0;go_wp2_with (fail)
    refine (c1 _).mono ?_;rintro e w1 ⟨rfl,hb1⟩;have r1:=Xh hb1;have l1_0:w.heap.size<w1.heap.size:=Xo hb1;go_wp2_with (fail)
    refine (c2 _).mono ?_;rintro e w2 ⟨rfl,hb2⟩;have r2:=Xh hb2;have l2_0:w.heap.size<w2.heap.size:=Xo hb2;go_wp2
    go_ret
    refine ⟨?_, ?_⟩
    ·first
     | exact Xi hv.out.symm
     | exact Xi (by rw [hv.out];simp;omega)
    ·exact Xl
theorem sRatioMin_c (r s:Yk) (w:World) (hr:r.In) (hs:s.In) :
 Calls Tryz.prog 178 #[Xv r,Xv s] w λ e w'=>e=.returned (Xv (Ye r s))/\Below w.heap.size w w':=by
 have c0:=λ W=>Zs r W hr;have c1:=λ W=>Zs s W hs;have c2:=λ W=>KO r s W hr hs;cases e0:Xn r
 ·rw [e0] at c0;have hv:=Lib.hid (show Ye r s=Y7 by simp [Ye,e0]);go_enter Tryz.func178,Tryz.ntmps178
  go_wp2_with (fail)
  refine (c0 _).mono ?_;rintro e w0 ⟨rfl,hb0⟩;have r0:=Xh hb0;have l0_0:w.heap.size<w0.heap.size:=Xo hb0;have l0_1:w.heap.size+1<w0.heap.size:=Xo hb0;have l0_2:w.heap.size+1+1<w0.heap.size:=Xo hb0;have H:XV w0 (w.heap.size+1+1) [.int .i64 0,.int .i64 0]:=by
   exact Ys
  obtain ⟨cH_0,fH_0⟩:=H.2 0 _ rfl;obtain ⟨cH_1,fH_1⟩:=H.2 1 _ rfl;go_wp2
  refine bodyPost_ret (v:=.agg #[.int .i64 0,.int .i64 0]) (by simp [results,Tryz.results178,go_sem,cH_0,cH_1]) rfl ⟨by rw [hv.out];rfl, ?_⟩;exact Xl
 ·rw [e0] at c0;cases e1:Xn s
  ·rw [e1] at c1;have hv:=Lib.hid (show Ye r s=Y7 by simp [Ye,e1]);go_enter Tryz.func178,Tryz.ntmps178
   go_wp2_with (fail)
   refine (c0 _).mono ?_;rintro e w0 ⟨rfl,hb0⟩;have r0:=Xh hb0;have l0_0:w.heap.size<w0.heap.size:=Xo hb0;have l0_1:w.heap.size+1<w0.heap.size:=Xo hb0;have l0_2:w.heap.size+1+1<w0.heap.size:=Xo hb0;go_wp2_with (fail)
   refine (c1 _).mono ?_;rintro e w1 ⟨rfl,hb1⟩;have r1:=Xh hb1;have l1_0:w.heap.size<w1.heap.size:=Xo hb1;have l1_1:w.heap.size+1<w1.heap.size:=Xo hb1;have l1_2:w.heap.size+1+1<w1.heap.size:=Xo hb1;have H:XV w1 (w.heap.size+1+1) [.int .i64 0,.int .i64 0]:=by
    exact Ys
   obtain ⟨cH_0,fH_0⟩:=H.2 0 _ rfl;obtain ⟨cH_1,fH_1⟩:=H.2 1 _ rfl;go_wp2
   refine bodyPost_ret (v:=.agg #[.int .i64 0,.int .i64 0]) (by simp [results,Tryz.results178,go_sem,cH_0,cH_1]) rfl ⟨by rw [hv.out];rfl, ?_⟩;exact Xl
  ·rw [e1] at c1;have bd:=Kv r s;cases e2:decide (Xp r s<=0)
   ·have hv:=Lib.hid (show Ye r s=s by simp only [decide_eq_false_iff_not] at e2;simp [Ye,e0,e1,e2]);simp only [decide_eq_false_iff_not] at e2;clear e0 e1;generalize Xp r s=q at *;go_enter Tryz.func178,Tryz.ntmps178
    go_wp2_with (fail)
    refine (c0 _).mono ?_;rintro e w0 ⟨rfl,hb0⟩;have r0:=Xh hb0;have l0_0:w.heap.size<w0.heap.size:=Xo hb0;have l0_1:w.heap.size+1<w0.heap.size:=Xo hb0;have l0_2:w.heap.size+1+1<w0.heap.size:=Xo hb0;go_wp2_with (fail)
    refine (c1 _).mono ?_;rintro e w1 ⟨rfl,hb1⟩;have r1:=Xh hb1;have l1_0:w.heap.size<w1.heap.size:=Xo hb1;have l1_1:w.heap.size+1<w1.heap.size:=Xo hb1;have l1_2:w.heap.size+1+1<w1.heap.size:=Xo hb1;go_wp2_with (fail)
    refine (c2 _).mono ?_;rintro e w2 ⟨rfl,hb2⟩;have r2:=Xh hb2;have l2_0:w.heap.size<w2.heap.size:=Xo hb2;have l2_1:w.heap.size+1<w2.heap.size:=Xo hb2;have l2_2:w.heap.size+1+1<w2.heap.size:=Xo hb2;have H:XV w2 (w.heap.size+1+1) [.int .i64 0,.int .i64 0]:=by
     exact Ys
    obtain ⟨cH_0,fH_0⟩:=H.2 0 _ rfl;obtain ⟨cH_1,fH_1⟩:=H.2 1 _ rfl;go_wp2
    refine bodyPost_ret (v:=.agg #[.int .i64 s.n,.int .i64 s.d]) (by simp [results,Tryz.results178,go_sem,cH_0,cH_1]) rfl ⟨by rw [hv.out], ?_⟩;exact Xl
   ·have hv:=Lib.hid (show Ye r s=r by simp only [decide_eq_true_eq] at e2;simp [Ye,e0,e1,e2]);simp only [decide_eq_true_eq] at e2;clear e0 e1;generalize Xp r s=q at *;go_enter Tryz.func178,Tryz.ntmps178
    go_wp2_with (fail)
    refine (c0 _).mono ?_;rintro e w0 ⟨rfl,hb0⟩;have r0:=Xh hb0;have l0_0:w.heap.size<w0.heap.size:=Xo hb0;have l0_1:w.heap.size+1<w0.heap.size:=Xo hb0;have l0_2:w.heap.size+1+1<w0.heap.size:=Xo hb0;go_wp2_with (fail)
    refine (c1 _).mono ?_;rintro e w1 ⟨rfl,hb1⟩;have r1:=Xh hb1;have l1_0:w.heap.size<w1.heap.size:=Xo hb1;have l1_1:w.heap.size+1<w1.heap.size:=Xo hb1;have l1_2:w.heap.size+1+1<w1.heap.size:=Xo hb1;go_wp2_with (fail)
    refine (c2 _).mono ?_;rintro e w2 ⟨rfl,hb2⟩;have r2:=Xh hb2;have l2_0:w.heap.size<w2.heap.size:=Xo hb2;have l2_1:w.heap.size+1<w2.heap.size:=Xo hb2;have l2_2:w.heap.size+1+1<w2.heap.size:=Xo hb2;have H:XV w2 (w.heap.size+1+1) [.int .i64 0,.int .i64 0]:=by
     exact Ys
    obtain ⟨cH_0,fH_0⟩:=H.2 0 _ rfl;obtain ⟨cH_1,fH_1⟩:=H.2 1 _ rfl;go_wp2
    refine bodyPost_ret (v:=.agg #[.int .i64 r.n,.int .i64 r.d]) (by simp [results,Tryz.results178,go_sem,cH_0,cH_1]) rfl ⟨by rw [hv.out], ?_⟩;exact Xl
theorem sRatioMax_c (r s:Yk) (w:World) (hr:r.In) (hs:s.In) :
 Calls Tryz.prog 179 #[Xv r,Xv s] w λ e w'=>e=.returned (Xv (Yf r s))/\Below w.heap.size w w':=by
 have c0:=λ W=>Zs r W hr;have c1:=λ W=>Zs s W hs;have c2:=λ W=>KO r s W hr hs;cases e0:Xn r
 ·rw [e0] at c0;have hv:=Lib.hid (show Yf r s=Y7 by simp [Yf,e0]);go_enter Tryz.func179,Tryz.ntmps179
  go_wp2_with (fail)
  refine (c0 _).mono ?_;rintro e w0 ⟨rfl,hb0⟩;have r0:=Xh hb0;have l0_0:w.heap.size<w0.heap.size:=Xo hb0;have l0_1:w.heap.size+1<w0.heap.size:=Xo hb0;have l0_2:w.heap.size+1+1<w0.heap.size:=Xo hb0;have H:XV w0 (w.heap.size+1+1) [.int .i64 0,.int .i64 0]:=by
   exact Ys
  obtain ⟨cH_0,fH_0⟩:=H.2 0 _ rfl;obtain ⟨cH_1,fH_1⟩:=H.2 1 _ rfl;go_wp2
  refine bodyPost_ret (v:=.agg #[.int .i64 0,.int .i64 0]) (by simp [results,Tryz.results179,go_sem,cH_0,cH_1]) rfl ⟨by rw [hv.out];rfl, ?_⟩;exact Xl
 ·rw [e0] at c0;cases e1:Xn s
  ·rw [e1] at c1;have hv:=Lib.hid (show Yf r s=Y7 by simp [Yf,e1]);go_enter Tryz.func179,Tryz.ntmps179
   go_wp2_with (fail)
   refine (c0 _).mono ?_;rintro e w0 ⟨rfl,hb0⟩;have r0:=Xh hb0;have l0_0:w.heap.size<w0.heap.size:=Xo hb0;have l0_1:w.heap.size+1<w0.heap.size:=Xo hb0;have l0_2:w.heap.size+1+1<w0.heap.size:=Xo hb0;go_wp2_with (fail)
   refine (c1 _).mono ?_;rintro e w1 ⟨rfl,hb1⟩;have r1:=Xh hb1;have l1_0:w.heap.size<w1.heap.size:=Xo hb1;have l1_1:w.heap.size+1<w1.heap.size:=Xo hb1;have l1_2:w.heap.size+1+1<w1.heap.size:=Xo hb1;have H:XV w1 (w.heap.size+1+1) [.int .i64 0,.int .i64 0]:=by
    exact Ys
   obtain ⟨cH_0,fH_0⟩:=H.2 0 _ rfl;obtain ⟨cH_1,fH_1⟩:=H.2 1 _ rfl;go_wp2
   refine bodyPost_ret (v:=.agg #[.int .i64 0,.int .i64 0]) (by simp [results,Tryz.results179,go_sem,cH_0,cH_1]) rfl ⟨by rw [hv.out];rfl, ?_⟩;exact Xl
  ·rw [e1] at c1;have bd:=Kv r s;cases e2:decide (0<=Xp r s)
   ·have hv:=Lib.hid (show Yf r s=s by simp only [decide_eq_false_iff_not] at e2;simp [Yf,e0,e1,e2]);simp only [decide_eq_false_iff_not] at e2;clear e0 e1;generalize Xp r s=q at *;go_enter Tryz.func179,Tryz.ntmps179
    go_wp2_with (fail)
    refine (c0 _).mono ?_;rintro e w0 ⟨rfl,hb0⟩;have r0:=Xh hb0;have l0_0:w.heap.size<w0.heap.size:=Xo hb0;have l0_1:w.heap.size+1<w0.heap.size:=Xo hb0;have l0_2:w.heap.size+1+1<w0.heap.size:=Xo hb0;go_wp2_with (fail)
    refine (c1 _).mono ?_;rintro e w1 ⟨rfl,hb1⟩;have r1:=Xh hb1;have l1_0:w.heap.size<w1.heap.size:=Xo hb1;have l1_1:w.heap.size+1<w1.heap.size:=Xo hb1;have l1_2:w.heap.size+1+1<w1.heap.size:=Xo hb1;go_wp2_with (fail)
    refine (c2 _).mono ?_;rintro e w2 ⟨rfl,hb2⟩;have r2:=Xh hb2;have l2_0:w.heap.size<w2.heap.size:=Xo hb2;have l2_1:w.heap.size+1<w2.heap.size:=Xo hb2;have l2_2:w.heap.size+1+1<w2.heap.size:=Xo hb2;have H:XV w2 (w.heap.size+1+1) [.int .i64 0,.int .i64 0]:=by
     exact Ys
    obtain ⟨cH_0,fH_0⟩:=H.2 0 _ rfl;obtain ⟨cH_1,fH_1⟩:=H.2 1 _ rfl;go_wp2
    refine bodyPost_ret (v:=.agg #[.int .i64 s.n,.int .i64 s.d]) (by simp [results,Tryz.results179,go_sem,cH_0,cH_1]) rfl ⟨by rw [hv.out], ?_⟩;exact Xl
   ·have hv:=Lib.hid (show Yf r s=r by simp only [decide_eq_true_eq] at e2;simp [Yf,e0,e1,e2]);simp only [decide_eq_true_eq] at e2;clear e0 e1;generalize Xp r s=q at *;go_enter Tryz.func179,Tryz.ntmps179
    go_wp2_with (fail)
    refine (c0 _).mono ?_;rintro e w0 ⟨rfl,hb0⟩;have r0:=Xh hb0;have l0_0:w.heap.size<w0.heap.size:=Xo hb0;have l0_1:w.heap.size+1<w0.heap.size:=Xo hb0;have l0_2:w.heap.size+1+1<w0.heap.size:=Xo hb0;go_wp2_with (fail)
    refine (c1 _).mono ?_;rintro e w1 ⟨rfl,hb1⟩;have r1:=Xh hb1;have l1_0:w.heap.size<w1.heap.size:=Xo hb1;have l1_1:w.heap.size+1<w1.heap.size:=Xo hb1;have l1_2:w.heap.size+1+1<w1.heap.size:=Xo hb1;go_wp2_with (fail)
    refine (c2 _).mono ?_;rintro e w2 ⟨rfl,hb2⟩;have r2:=Xh hb2;have l2_0:w.heap.size<w2.heap.size:=Xo hb2;have l2_1:w.heap.size+1<w2.heap.size:=Xo hb2;have l2_2:w.heap.size+1+1<w2.heap.size:=Xo hb2;have H:XV w2 (w.heap.size+1+1) [.int .i64 0,.int .i64 0]:=by
     exact Ys
    obtain ⟨cH_0,fH_0⟩:=H.2 0 _ rfl;obtain ⟨cH_1,fH_1⟩:=H.2 1 _ rfl;go_wp2
    refine bodyPost_ret (v:=.agg #[.int .i64 r.n,.int .i64 r.d]) (by simp [results,Tryz.results179,go_sem,cH_0,cH_1]) rfl ⟨by rw [hv.out], ?_⟩;exact Xl
theorem sSpanOk_c (x:K4) (w:World) (hx:x.In) :
 Calls Tryz.prog 155 #[Z8 x] w λ e w'=>e=.returned (.bool (XQ x))/\Below w.heap.size w w':=by
 have c0:=λ W=>Zs x.low W hx.1;have c1:=λ W=>Zs x.high W hx.2;have c2:=λ W=>KO x.low x.high W hx.1 hx.2;cases e0:Xn x.low
 ·rw [e0] at c0;have hv:=Lib.hid (show XQ x=false by simp [XQ,e0]);go_enter Tryz.func155,Tryz.ntmps155
  go_wp2_with (fail)
  refine (c0 _).mono ?_;rintro e w0 ⟨rfl,hb0⟩;have r0:=Xh hb0;have l0_0:w.heap.size<w0.heap.size:=Xo hb0;go_wp2
  go_ret
  refine ⟨?_, ?_⟩
  ·first
   | exact Xi hv.out.symm
   | exact Xi (by rw [hv.out];simp;omega)
  ·exact Xl
 ·rw [e0] at c0;cases e1:Xn x.high
  ·rw [e1] at c1;have hv:=Lib.hid (show XQ x=false by simp [XQ,e1]);go_enter Tryz.func155,Tryz.ntmps155
   go_wp2_with (fail)
   refine (c0 _).mono ?_;rintro e w0 ⟨rfl,hb0⟩;have r0:=Xh hb0;have l0_0:w.heap.size<w0.heap.size:=Xo hb0;go_wp2_with (fail)
   refine (c1 _).mono ?_;rintro e w1 ⟨rfl,hb1⟩;have r1:=Xh hb1;have l1_0:w.heap.size<w1.heap.size:=Xo hb1;go_wp2
   go_ret
   refine ⟨?_, ?_⟩
   ·first
    | exact Xi hv.out.symm
    | exact Xi (by rw [hv.out];simp;omega)
   ·exact Xl
  ·rw [e1] at c1;cases e2:decide (Xp x.low x.high<=0)
   ·have hv:=Lib.hid (show XQ x=false by simp only [XQ,e0,e1,e2];rfl);simp only [decide_eq_false_iff_not] at e2;have bd:=Kv x.low x.high;generalize Xp x.low x.high=q at *;go_enter Tryz.func155,Tryz.ntmps155
    go_wp2_with (fail)
    refine (c0 _).mono ?_;rintro e w0 ⟨rfl,hb0⟩;have r0:=Xh hb0;have l0_0:w.heap.size<w0.heap.size:=Xo hb0;go_wp2_with (fail)
    refine (c1 _).mono ?_;rintro e w1 ⟨rfl,hb1⟩;have r1:=Xh hb1;have l1_0:w.heap.size<w1.heap.size:=Xo hb1;go_wp2_with (fail)
    refine (c2 _).mono ?_;rintro e w2 ⟨rfl,hb2⟩;have r2:=Xh hb2;have l2_0:w.heap.size<w2.heap.size:=Xo hb2;go_wp2
    go_ret
    refine ⟨?_, ?_⟩
    ·first
     | exact Xi hv.out.symm
     | exact Xi (by rw [hv.out];simp;omega)
    ·exact Xl
   ·have hv:=Lib.hid (show XQ x=true by simp only [XQ,e0,e1,e2];rfl);simp only [decide_eq_true_eq] at e2;have bd:=Kv x.low x.high;generalize Xp x.low x.high=q at *;go_enter Tryz.func155,Tryz.ntmps155
    go_wp2_with (fail)
    refine (c0 _).mono ?_;rintro e w0 ⟨rfl,hb0⟩;have r0:=Xh hb0;have l0_0:w.heap.size<w0.heap.size:=Xo hb0;go_wp2_with (fail)
    refine (c1 _).mono ?_;rintro e w1 ⟨rfl,hb1⟩;have r1:=Xh hb1;have l1_0:w.heap.size<w1.heap.size:=Xo hb1;go_wp2_with (fail)
    refine (c2 _).mono ?_;rintro e w2 ⟨rfl,hb2⟩;have r2:=Xh hb2;have l2_0:w.heap.size<w2.heap.size:=Xo hb2;go_wp2
    go_ret
    refine ⟨?_, ?_⟩
    ·first
     | exact Xi hv.out.symm
     | exact Xi (by rw [hv.out];simp;omega)
    ·exact Xl
end Go.Proofs.YtbekjpkcicjcgaaGreat
