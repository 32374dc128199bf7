/-
 How fractions are compared: of the program (products of 128 bits) and of the reference (continued remainders); the lesser and the greater one; spans.
 Conditions: the numbers are ints of the machine.
-/
import Derived.Shelf.Bits.Mul64
import Derived.Test.YtkjimfapbjdafaaGreatGrD
set_option maxHeartbeats 4000000
namespace Go.Proofs.YtkjimfapbjdafaaGreat
open Go.RowKit
def sgn (x:Int):Int:=if x<0 then -1 else if 0<x then 1 else 0
theorem sgn_neg (x:Int):sgn (-x) = -sgn x:=by unfold sgn;split<;>split<;>(try split)<;>(try split)<;>omega
theorem sgn_bd (x:Int) : -1<=sgn x/\sgn x<=1:=by unfold sgn;split<;>(try split)<;>omega
theorem sgn_of_neg {x:Int} (h:x<0):sgn x = -1:=by unfold sgn;rw [if_pos h]
theorem sgn_of_pos {x:Int} (h:0<x):sgn x=1:=by unfold sgn;rw [if_neg (by omega),if_pos h]
def KY (a b c d:Int):Int:=sgn (a*d-c*b)
theorem cmpF_bd (a b c d:Int) : -1<=KY a b c d/\KY a b c d<=1:=sgn_bd _
theorem cmpF_neg_pos {a b c d:Int} (hb:0<b) (hd:0<d) (ha:a<0) (hc:0<=c):KY a b c d = -1:=by
 apply sgn_of_neg;have h1:a*d<0:=Int.mul_neg_of_neg_of_pos ha hd;have h2:0<=c*b:=Int.mul_nonneg hc (by omega);omega
theorem cmpF_pos_neg {a b c d:Int} (hb:0<b) (hd:0<d) (ha:0<=a) (hc:c<0):KY a b c d=1:=by
 apply sgn_of_pos;have h1:c*b<0:=Int.mul_neg_of_neg_of_pos hc hb;have h2:0<=a*d:=Int.mul_nonneg ha (by omega);omega
theorem absmul {a d:Int} (hd:0<d):((a.natAbs*d.natAbs:Nat):Int)=if a<0 then -(a*d) else a*d:=by
 rw [Int.natCast_mul];have e:(d.natAbs:Int)=d:=by omega
 rw [e];split
 ·have:(a.natAbs:Int) = -a:=by omega
  rw [this,Int.neg_mul]
 ·have:(a.natAbs:Int)=a:=by omega
  rw [this]
theorem cmpF_halves {a b c d:Int} (hb:0<b) (hd:0<d) (X Y:Nat) (hX:X=a.natAbs*d.natAbs) (hY:Y=c.natAbs*b.natAbs) (hs:(a<0/\c<0)∨(0<=a/\0<=c)) :
 KY a b c d=if a<0 then -(if Y<X then 1 else if X<Y then -1 else 0) else (if Y<X then 1 else if X<Y then -1 else 0):=by
 have h1:=absmul (a:=a) hd;have h2:=absmul (a:=c) hb;rw [<- hX] at h1;rw [<- hY] at h2;unfold KY sgn;generalize a*d=p at *;generalize c*b=q at *;rcases hs with ⟨ha,hc⟩|⟨ha,hc⟩
 ·rw [if_pos ha] at h1 ⊢;rw [if_pos hc] at h2;split<;>split<;>(try split)<;>(try split)<;>omega
 ·rw [if_neg (show ¬ a<0 by omega)] at h1 ⊢;rw [if_neg (show ¬ c<0 by omega)] at h2;split<;>split<;>(try split)<;>(try split)<;>omega
theorem mul64_c (x y:Nat) (hx:x<18446744073709551616) (hy:y<18446744073709551616) (w:World) :
 Calls Tryz.prog 248 #[.int .u64 x,.int .u64 y] w λ e w'=>e=.returned (.tuple #[.int .u64 ((x*y / 18446744073709551616:Nat):Int),.int .u64 ((x*y % 18446744073709551616:Nat):Int)])/\w=w':=by
 obtain ⟨bd,bt,bw,hhi⟩:=Lib.mul64_hi x y hx hy;have ba:=Lib.half_mul_le (a:=x / 4294967296) (b:=y / 4294967296) (by omega) (by omega);have bb:=Lib.half_mul_le (a:=x / 4294967296) (b:=y % 4294967296) (by omega) (by omega);have bc:=Lib.half_mul_le (a:=x % 4294967296) (b:=y / 4294967296) (by omega) (by omega);have ba':x / 4294967296*(y / 4294967296)<18446744073709551616:=by omega
 have bb':x / 4294967296*(y % 4294967296)<18446744073709551616:=by omega
 have bc':x % 4294967296*(y / 4294967296)<18446744073709551616:=by omega
 have bh1:x / 4294967296*(y / 4294967296)+(x / 4294967296*(y % 4294967296)+x % 4294967296*(y % 4294967296) / 4294967296) / 4294967296<18446744073709551616:=by omega
 have bh:x / 4294967296*(y / 4294967296)+(x / 4294967296*(y % 4294967296)+x % 4294967296*(y % 4294967296) / 4294967296) / 4294967296+((x / 4294967296*(y % 4294967296)+x % 4294967296*(y % 4294967296) / 4294967296) % 4294967296+x % 4294967296*(y / 4294967296)) / 4294967296<18446744073709551616:=by omega
 go_enter Tryz.func248,Tryz.ntmps248
 go_wp2
 simp only [Mul64.maskN x hx,Mul64.maskN y hy,Mul64.divN,Mul64.mulN,Mul64.addN,Mul64.wrapN _ bd,Mul64.wrapN _ bb',Mul64.wrapN _ bt,Mul64.maskN _ bt,Mul64.wrapN _ bc',Mul64.wrapN _ bw,Mul64.wrapN _ ba',Mul64.wrapN _ bh1,Mul64.wrapN _ bh,Mul64.wrapM (x*y)];rw [hhi];go_ret2
 exact ⟨rfl,rfl⟩
theorem J4 (a b c d:Int) (w:World) (ha:Zv a) (hb:Zv b) (hc:Zv c) (hd:Zv d) (hb0:0<b) (hd0:0<d) :
 Calls Tryz.prog 199 #[.int .i64 a,.int .i64 b,.int .i64 c,.int .i64 d] w λ e w'=>e=.returned (.int .i64 (KY a b c d))/\w=w':=by
 have m1:=λ W=>JG a W ha;have m2:=λ W=>JG d W hd;have m3:=λ W=>JG c W hc;have m4:=λ W=>JG b W hb;have n1:=natAbs_le ha;have n2:=natAbs_le hb;have n3:=natAbs_le hc;have n4:=natAbs_le hd;have u1:=λ W=>mul64_c a.natAbs d.natAbs (by omega) (by omega) W;have u2:=λ W=>mul64_c c.natAbs b.natAbs (by omega) (by omega) W;have key:=λ hs=>Lib.hid (cmpF_halves hb0 hd0 (a.natAbs*d.natAbs) (c.natAbs*b.natAbs) rfl rfl hs);have k1:=λ h1 h2=>Lib.hid (cmpF_neg_pos (a:=a) (c:=c) hb0 hd0 h1 h2);have k2:=λ h1 h2=>Lib.hid (cmpF_pos_neg (a:=a) (c:=c) hb0 hd0 h1 h2);have K:=Lib.hid key;have K1:=Lib.hid k1;have K2:=Lib.hid k2;clear key k1 k2;generalize hX:a.natAbs*d.natAbs=X at *;generalize hY:c.natAbs*b.natAbs=Y at *;clear hX hY;by_cases a0:a<0
 ·by_cases c0:c<0
  ·have hk:=K.out (.inl ⟨a0,c0⟩);clear K K1 K2;go_enter Tryz.func199,Tryz.ntmps199
   go_wp2_with (first|(go_at_call 249;((with_reducible refine (m1 _).mono ?_);rintro e w' ⟨rfl,rfl⟩))|(go_at_call 249;((with_reducible refine (m2 _).mono ?_);rintro e w' ⟨rfl,rfl⟩))|(go_at_call 249;((with_reducible refine (m3 _).mono ?_);rintro e w' ⟨rfl,rfl⟩))|(go_at_call 249;((with_reducible refine (m4 _).mono ?_);rintro e w' ⟨rfl,rfl⟩))|(go_at_call 248;((with_reducible refine (u1 _).mono ?_);rintro e w' ⟨rfl,rfl⟩))|(go_at_call 248;((with_reducible refine (u2 _).mono ?_);rintro e w' ⟨rfl,rfl⟩)))
   all_goals
    go_ret
    refine ⟨Zo ?_,rfl⟩;rw [hk.out,if_pos a0];split<;>(try split)<;>omega
  ·have hk:=K1.out a0 (by omega);clear K K1 K2;go_enter Tryz.func199,Tryz.ntmps199
   go_wp2
   go_ret
   exact ⟨Zo hk.out.symm,rfl⟩
 ·by_cases c0:c<0
  ·have hk:=K2.out (by omega) c0;clear K K1 K2;go_enter Tryz.func199,Tryz.ntmps199
   go_wp2
   go_ret
   exact ⟨Zo hk.out.symm,rfl⟩
  ·have hk:=K.out (.inr ⟨by omega,by omega⟩);clear K K1 K2;go_enter Tryz.func199,Tryz.ntmps199
   go_wp2_with (first|(go_at_call 249;((with_reducible refine (m1 _).mono ?_);rintro e w' ⟨rfl,rfl⟩))|(go_at_call 249;((with_reducible refine (m2 _).mono ?_);rintro e w' ⟨rfl,rfl⟩))|(go_at_call 249;((with_reducible refine (m3 _).mono ?_);rintro e w' ⟨rfl,rfl⟩))|(go_at_call 249;((with_reducible refine (m4 _).mono ?_);rintro e w' ⟨rfl,rfl⟩))|(go_at_call 248;((with_reducible refine (u1 _).mono ?_);rintro e w' ⟨rfl,rfl⟩))|(go_at_call 248;((with_reducible refine (u2 _).mono ?_);rintro e w' ⟨rfl,rfl⟩)))
   all_goals
    go_ret
    refine ⟨Zo ?_,rfl⟩;rw [hk.out,if_neg (show ¬ a<0 by omega)];split<;>(try split)<;>omega
def XC (r s:YA):Int:=if Xr r=true/\Xr s=true then KY r.n r.d s.n s.d else 0
theorem ratioOk_bd {r:YA} (h:Xr r=true):(1<=r.d/\r.d<=1000000000000000)/\(-1000000000000000000<=r.n/\r.n<=1000000000000000000):=by
 have:=ZJ.1 h;exact ⟨this.1,this.2.1⟩
def Yw (r s:YA):YA:=if Xr r=true/\Xr s=true then (if XC r s<=0 then r else s) else Z8
def Yp (r s:YA):YA:=if Xr r=true/\Xr s=true then (if 0<=XC r s then r else s) else Z8
structure ZP where
 low:YA
 high:YA
 deriving DecidableEq
def ZP.In (w:ZP):Prop:=w.low.In/\w.high.In
def Yg (w:ZP):Bool:=Xr w.low&&Xr w.high&&decide (XC w.low w.high<=0)
theorem floor_neg {n d:Int} (hn:n<0) (hd:0<d):n / d=if n.tmod d<0 then n.tdiv d-1 else n.tdiv d:=by
 obtain ⟨m,hm⟩:∃ m:Int,m = -n:=⟨_,rfl⟩;obtain rfl:n = -m:=by omega
 have h1:(-m).tdiv d = -(m / d):=by rw [Int.neg_tdiv,Int.tdiv_eq_ediv_of_nonneg (by omega)]
 have h2:(-m).tmod d = -(m % d):=by rw [Int.neg_tmod,Int.tmod_eq_emod_of_nonneg (by omega)]
 have h3:=Int.mul_ediv_add_emod m d;have h4:=Int.emod_nonneg m (show d≠0 by omega);have h5:=Int.emod_lt_of_pos m hd;rw [h1,h2];split
 ·refine ((Int.ediv_emod_unique (r:=d-m % d) hd).2 ⟨?_,by omega,by omega⟩).1;rw [Int.mul_sub,Int.mul_neg,Int.mul_one];omega
 ·refine ((Int.ediv_emod_unique (r:=0) hd).2 ⟨?_,by omega,by omega⟩).1;rw [Int.mul_neg];omega
theorem floor_pos {n d:Int} (hn:0<=n):n.tdiv d=n / d:=Int.tdiv_eq_ediv_of_nonneg hn
theorem floor_le {n d:Int} (hd:0<d) (B:Int) (h1 : -B<=n) (h2:n<=B) (hB:0<=B) : -B<=n / d/\n / d<=B:=by
 constructor
 ·rw [Int.le_ediv_iff_mul_le hd];have:B*1<=B*d:=Int.mul_le_mul_of_nonneg_left (by omega) hB;rw [Int.neg_mul];omega
 ·exact Int.ediv_le_of_le_mul hd (by have:B*1<=B*d:=Int.mul_le_mul_of_nonneg_left (by omega) hB;omega)
theorem tdiv_bd {n d:Int} (hn:n<0) (hd:0<d):n<=n.tdiv d/\n.tdiv d<=0:=by
 obtain ⟨m,hm⟩:∃ m:Int,m = -n:=⟨_,rfl⟩;obtain rfl:n = -m:=by omega
 have h1:(-m).tdiv d = -(m / d):=by rw [Int.neg_tdiv,Int.tdiv_eq_ediv_of_nonneg (by omega)]
 have h2:0<=m / d:=Int.ediv_nonneg (by omega) (by omega);have h3:=(floor_le hd m (by omega) (Int.le_refl _) (by omega)).2;omega
theorem l02Floor_c (n d:Int) (w:World) (h1 : -9223372036854775807<=n) (h2:n<=9223372036854775807) (hd:0<d) (hd2:d<=9223372036854775807) :
 Calls Tryz.prog 197 #[.int .i64 n,.int .i64 d] w λ e w'=>e=.returned (.int .i64 (n / d))/\∃ k,w'=w.drewN k:=by
 have d0:((d:Int) == 0)=false:=by simp;omega
 have d1:((d:Int) != 0)=true:=by simp;omega
 have d2:((d:Int) == -1)=false:=by simp;omega
 by_cases hn:n<0
 ·have hf:=Lib.hid (floor_neg hn hd);obtain ⟨t1,t2⟩:=tdiv_bd hn hd;go_enter Tryz.func197,Tryz.ntmps197
  go_wp2
  all_goals
   go_ret
   refine ⟨Zo ?_,0,rfl⟩;rw [hf.out];first|rw [if_pos (by assumption)]|rw [if_neg (by omega)]
 ·have hf:=Lib.hid (floor_pos (n:=n) (d:=d) (by omega));have m0:=Int.emod_nonneg n (show d≠0 by omega);have q0:0<=n / d:=Int.ediv_nonneg (by omega) (by omega);have q1:=(floor_le (n:=n) hd 9223372036854775807 (by omega) (by omega) (by omega)).2;go_enter Tryz.func197,Tryz.ntmps197
  go_wp2
  go_ret
  exact ⟨rfl,0,rfl⟩
theorem step_lt {A B C D:Int} (hB:0<B) (hD:0<D) (h:A / B<C / D):KY A B C D = -1:=by
 apply sgn_of_neg;have h1:=Int.emod_lt_of_pos A hB;have h2:=Int.mul_ediv_add_emod A B;have h3:=Int.emod_nonneg C (show D≠0 by omega);have h4:=Int.mul_ediv_add_emod C D;have h5:A<B*(C / D):=by
  have:B*(A / B+1)<=B*(C / D):=Int.mul_le_mul_of_nonneg_left (by omega) (by omega);rw [Int.mul_add,Int.mul_one] at this;omega
 have h6:A*D<B*(C / D)*D:=Int.mul_lt_mul_of_pos_right h5 hD;have h7:D*(C / D)*B<=C*B:=Int.mul_le_mul_of_nonneg_right (by omega) (by omega);have h8:B*(C / D)*D=D*(C / D)*B:=by rw [Int.mul_comm (B*(C / D)) D,Int.mul_comm B (C / D),<- Int.mul_assoc]
 omega
theorem cmpF_swap (A B C D:Int):KY C D A B = -KY A B C D:=by
 unfold KY;rw [<- sgn_neg];congr 1;omega
theorem step_gt {A B C D:Int} (hB:0<B) (hD:0<D) (h:C / D<A / B):KY A B C D=1:=by
 have:=step_lt hD hB h;rw [cmpF_swap] at this;omega
theorem step_sub {A B C D:Int} (h:A / B=C / D):KY A B C D=KY (A-A / B*B) B (C-C / D*D) D:=by
 unfold KY;congr 1
 rw [Int.sub_mul,Int.sub_mul,h];have:C / D*B*D=C / D*D*B:=by rw [Int.mul_assoc,Int.mul_assoc,Int.mul_comm B D]
 omega
theorem step_turn (A B C D:Int):KY A B C D = -KY B A D C:=by
 unfold KY;rw [<- sgn_neg];congr 1;rw [Int.mul_comm B C,Int.mul_comm D A];omega
theorem sub_mod (A B:Int):A-A / B*B=A % B:=by
 have:=Int.mul_ediv_add_emod A B;rw [Int.mul_comm] at this;omega
theorem cmpF_00 {B D:Int}:KY 0 B 0 D=0:=by unfold KY;rw [Int.zero_mul,Int.zero_mul];rfl
theorem cmpF_0p {B Y D:Int} (hB:0<B) (h:0<Y):KY 0 B Y D = -1:=by
 apply sgn_of_neg;have:=Int.mul_pos h hB;rw [Int.zero_mul];omega
theorem cmpF_p0 {X B D:Int} (hD:0<D) (h:0<X):KY X B 0 D=1:=by
 apply sgn_of_pos;have:=Int.mul_pos h hD;rw [Int.zero_mul];omega
theorem sRatioCmp_c (r s:YA) (w:World) (hr:r.In) (hs:s.In) :
 Calls Tryz.prog 134 #[X7 r,X7 s] w λ e w'=>e=.returned (.int .i64 (XC r s))/\Below w.heap.size w w':=by
 have c0:=λ W=>Z6 r W hr;have c1:=λ W=>Z6 s W hs;cases e0:Xr r
 ·rw [e0] at c0;go_enter Tryz.func134,Tryz.ntmps134
  go_wp2_with (fail)
  refine (c0 _).mono ?_;rintro e w0 ⟨rfl,hb0⟩;go_wp2
  go_ret
  refine ⟨Zo (by simp [XC,e0]), ?_⟩;exact XA
 ·rw [e0] at c0;cases e1:Xr s
  ·rw [e1] at c1;go_enter Tryz.func134,Tryz.ntmps134
   go_wp2_with (fail)
   refine (c0 _).mono ?_;rintro e w0 ⟨rfl,hb0⟩;have r0:=Xz hb0;have l0:w.heap.size<w0.heap.size:=XO hb0;have m0:w.heap.size+1<w0.heap.size:=XO hb0;go_wp2_with (fail)
   refine (c1 _).mono ?_;rintro e w1 ⟨rfl,hb1⟩;go_wp2
   go_ret
   refine ⟨Zo (by simp [XC,e1]), ?_⟩;exact XA
  ·rw [e1] at c1;have hv:=Lib.hid (show XC r s=KY r.n r.d s.n s.d by simp [XC,e0,e1]);obtain ⟨⟨b1,b2⟩,b3,b4⟩:=ratioOk_bd e0;obtain ⟨⟨d1,d2⟩,d3,d4⟩:=ratioOk_bd e1;clear e0 e1;go_enter Tryz.func134,Tryz.ntmps134
   go_wp2_with (fail)
   refine (c0 _).mono ?_;rintro e w0 ⟨rfl,hb0⟩;have r0:=Xz hb0;have l0:w.heap.size<w0.heap.size:=XO hb0;have m0:w.heap.size+1<w0.heap.size:=XO hb0;go_wp2_with (fail)
   refine (c1 _).mono ?_;rintro e w1 ⟨rfl,hb1⟩;have r1:=Xz hb1;have l1:w.heap.size<w1.heap.size:=XO hb1;have m1:w.heap.size+1<w1.heap.size:=XO hb1;go_wp2
   have hbs:Below w.heap.size w w1:=by
    exact XA
   clear r0 r1 l0 m0 l1 m1 hb0 hb1 c0 c1;go_loopw [5,6,7,8,9] (λ a b c d g wr=>∃ A B C D G:Int,a=.int .i64 A/\b=.int .i64 B/\c=.int .i64 C/\d=.int .i64 D/\g=.int .i64 G/\(-1000000000000000000<=A/\A<=1000000000000000000)/\(0<B/\B<=1000000000000000)/\(-1000000000000000000<=C/\C<=1000000000000000000)/\(0<D/\D<=1000000000000000)/\(-1<=G/\G<=1)/\Hid (XC r s=G*KY A B C D)/\Below w.heap.size w wr) (λ _ b _ _ _ _=>(intOf b).toNat)
   case atStart=>exact ⟨_,_,_,_,1,rfl,rfl,rfl,rfl,rfl,⟨b3,b4⟩,⟨by omega,b2⟩,⟨d3,d4⟩,⟨by omega,d2⟩,by omega,hv.out.trans (by rw [Int.one_mul]),hbs⟩
   case round =>
    obtain ⟨A,B,C,D,G,rfl,rfl,rfl,rfl,rfl,⟨A1,A2⟩,⟨B1,B2⟩,⟨C1,C2⟩,⟨D1,D2⟩,⟨G1,G2⟩,hval,hbw⟩:=hrel;clear hv hbs;have f1:=λ W=>l02Floor_c A B W (by omega) (by omega) (by omega) (by omega);have f2:=λ W=>l02Floor_c C D W (by omega) (by omega) (by omega) (by omega);obtain ⟨p1,p2⟩:=floor_le (n:=A) (d:=B) B1 1000000000000000000 (by omega) (by omega) (by omega);obtain ⟨q1,q2⟩:=floor_le (n:=C) (d:=D) D1 1000000000000000000 (by omega) (by omega) (by omega);have SA:=sub_mod A B;have SC:=sub_mod C D;have M1:=Int.emod_nonneg A (show B≠0 by omega);have M2:=Int.emod_lt_of_pos A B1;have M3:=Int.emod_nonneg C (show D≠0 by omega);have M4:=Int.emod_lt_of_pos C D1;have LT:=Lib.hid (λ h=>@step_lt A B C D B1 D1 h);have GT:=Lib.hid (λ h=>@step_gt A B C D B1 D1 h);have EQ:=Lib.hid (λ h=>@step_sub A B C D h);obtain ⟨RB1,RB2⟩:0<=A-A / B*B/\A-A / B*B<B:=by omega
    obtain ⟨RD1,RD2⟩:0<=C-C / D*D/\C-C / D*D<D:=by omega
    obtain ⟨PA1,PA2⟩ : -1001000000000000000<=A / B*B/\A / B*B<=1001000000000000000:=by omega
    obtain ⟨PC1,PC2⟩ : -1001000000000000000<=C / D*D/\C / D*D<=1001000000000000000:=by omega
    clear SA SC M1 M2 M3 M4;generalize A / B=p at *;generalize C / D=q at *;by_cases hlt:p<q
    ·have hfin:Hid (XC r s = -G):=hval.out.trans (by rw [LT.out hlt];omega);have hne:(p != q)=true:=by simp;omega
     clear hval LT GT EQ;go_wp2_with (fail)
     refine (f1 _).mono ?_;rintro e w' ⟨rfl,n1,rfl⟩;go_wp2_with (fail)
     refine (f2 _).mono ?_;rintro e w' ⟨rfl,n2,rfl⟩;go_wp2
     go_ret
     refine ⟨Zo hfin.out.symm, ?_⟩;exact XA
    ·by_cases hgt:q<p
     ·have hfin:Hid (XC r s=G):=hval.out.trans (by rw [GT.out hgt];omega);have hne:(p != q)=true:=by simp;omega
      clear hval LT GT EQ;go_wp2_with (fail)
      refine (f1 _).mono ?_;rintro e w' ⟨rfl,n1,rfl⟩;go_wp2_with (fail)
      refine (f2 _).mono ?_;rintro e w' ⟨rfl,n2,rfl⟩;go_wp2
      go_ret
      refine ⟨Zo hfin.out.symm, ?_⟩;exact XA
     ·obtain rfl:p=q:=by omega
      have hval2:Hid (XC r s=G*KY (A-p*B) B (C-p*D) D):=hval.out.trans (by rw [EQ.out rfl]);have TU:=Lib.hid (step_turn (A-p*B) B (C-p*D) D);clear hval LT GT EQ hlt hgt;by_cases x0:A-p*B=0
      ·by_cases y0:C-p*D=0
       ·have hfin:Hid (XC r s=0):=hval2.out.trans (by rw [x0,y0,cmpF_00];omega);clear hval2 TU;go_wp2_with (fail)
        refine (f1 _).mono ?_;rintro e w' ⟨rfl,n1,rfl⟩;go_wp2_with (fail)
        refine (f2 _).mono ?_;rintro e w' ⟨rfl,n2,rfl⟩;go_wp2
        go_ret
        refine ⟨Zo hfin.out.symm, ?_⟩;exact XA
       ·have hfin:Hid (XC r s = -G):=hval2.out.trans (by rw [x0,cmpF_0p B1 (by omega)];omega);have y1:((C-p*D:Int) == 0)=false:=by simpa using y0
        clear hval2 TU;go_wp2_with (fail)
        refine (f1 _).mono ?_;rintro e w' ⟨rfl,n1,rfl⟩;go_wp2_with (fail)
        refine (f2 _).mono ?_;rintro e w' ⟨rfl,n2,rfl⟩;go_wp2
        go_ret
        refine ⟨Zo hfin.out.symm, ?_⟩;exact XA
      ·have x1:((A-p*B:Int) == 0)=false:=by simpa using x0
       by_cases y0:C-p*D=0
       ·have hfin:Hid (XC r s=G):=hval2.out.trans (by rw [y0,cmpF_p0 D1 (by omega)];omega);clear hval2 TU;go_wp2_with (fail)
        refine (f1 _).mono ?_;rintro e w' ⟨rfl,n1,rfl⟩;go_wp2_with (fail)
        refine (f2 _).mono ?_;rintro e w' ⟨rfl,n2,rfl⟩;go_wp2
        go_ret
        refine ⟨Zo hfin.out.symm, ?_⟩;exact XA
       ·have hfin:Hid (XC r s = -G*KY B (A-p*B) D (C-p*D)):=hval2.out.trans (by rw [TU.out,Int.mul_neg,Int.neg_mul]);have y1:((C-p*D:Int) == 0)=false:=by simpa using y0
        clear hval2 TU;go_wp2_with (fail)
        refine (f1 _).mono ?_;rintro e w' ⟨rfl,n1,rfl⟩;go_wp2_with (fail)
        refine (f2 _).mono ?_;rintro e w' ⟨rfl,n2,rfl⟩;go_wp2
        go_roundw
        case rel =>
         refine ⟨_,_,_,_,_,rfl,rfl,rfl,rfl,rfl,⟨by omega,by omega⟩,⟨by omega,by omega⟩,⟨by omega,by omega⟩,⟨by omega,by omega⟩,⟨by omega,by omega⟩,hfin, ?_⟩;exact XA
        case measure=>simp [intOf];omega
theorem sgn_scale {k x:Int} (hk:0<k):sgn (k*x)=sgn x:=by
 unfold sgn;rcases Int.lt_trichotomy x 0 with h|h|h
 ·have:=Int.mul_neg_of_pos_of_neg hk h;rw [if_pos this,if_pos h]
 ·subst h;simp
 ·have:=Int.mul_pos hk h;rw [if_neg (show ¬ k*x<0 by omega),if_neg (show ¬ x<0 by omega),if_pos this,if_pos h]
theorem cmpF_scale {k l a b c d:Int} (hk:0<k) (hl:0<l):KY (k*a) (k*b) (l*c) (l*d)=KY a b c d:=by
 unfold KY;rw [<- sgn_scale (x:=a*d-c*b) (Int.mul_pos hk hl)];congr 1
 grind
theorem ZF {n d:Int} (hn : -1000000000000000000<=n/\n<=1000000000000000000) (hd:1<=d/\d<=1000000000000000) :
 Xr (Yh n d)=true/\∃ k:Int,0<k/\n=k*(Yh n d).n/\d=k*(Yh n d).d:=by
 have hg:XJ [n,d]=Nat.gcd n.natAbs d.natAbs:=JA n d;have hpos:0<XJ [n,d]:=by rw [hg];exact Nat.gcd_pos_of_pos_right _ (by omega)
 have h1:XJ [n,d] ∣ n.natAbs:=by rw [hg];exact Nat.gcd_dvd_left _ _
 have h2:XJ [n,d] ∣ d.natAbs:=by rw [hg];exact Nat.gcd_dvd_right _ _
 have e1:=Nat.mul_div_cancel' h1;have e2:=Nat.mul_div_cancel' h2;have l1:=Nat.div_le_self n.natAbs (XJ [n,d]);have l2:=Nat.div_le_self d.natAbs (XJ [n,d]);have hdef:Yh n d=if decide (n<0)=decide (d<0) then ⟨((n.natAbs / XJ [n,d]:Nat):Int),((d.natAbs / XJ [n,d]:Nat):Int)⟩ else ⟨-((n.natAbs / XJ [n,d]:Nat):Int),((d.natAbs / XJ [n,d]:Nat):Int)⟩:=by
  unfold Yh;rw [if_neg (by rw [ZR (by omega),ZR (by omega)];simp;omega),if_neg (by omega)]
 have hd0:¬ d<0:=by omega
 have hne:Yh n d≠Z8:=by
  intro e;have hq:d.natAbs / XJ [n,d]=0:=by
   rw [hdef] at e;have:(Z8).d=0:=rfl;rw [<- e] at this;split at this<;>simp only at this<;>omega
  rw [hq] at e2;omega
 refine ⟨ratioOf_ok.2 hne,(XJ [n,d]:Int),by omega, ?_, ?_⟩
 ·rw [hdef];have e1':((XJ [n,d]:Nat):Int)*((n.natAbs / XJ [n,d]:Nat):Int)=(n.natAbs:Int):=by rw [<- Int.natCast_mul,e1]
  split
  ·rename_i h;simp [hd0] at h;simp only;rw [e1'];omega
  ·rename_i h;simp [hd0] at h;simp only;rw [Int.mul_neg,e1'];omega
 ·have e2':((XJ [n,d]:Nat):Int)*((d.natAbs / XJ [n,d]:Nat):Int)=(d.natAbs:Int):=by rw [<- Int.natCast_mul,e2]
  rw [hdef];split<;>(simp only;rw [e2'];omega)
theorem ratioCmp_of {a b c d:Int} (ha : -1000000000000000000<=a/\a<=1000000000000000000) (hb:1<=b/\b<=1000000000000000) (hc : -1000000000000000000<=c/\c<=1000000000000000000) (hd:1<=d/\d<=1000000000000000) :
 XC (Yh a b) (Yh c d)=KY a b c d:=by
 obtain ⟨h1,k,hk,e1,e2⟩:=ZF ha hb;obtain ⟨h2,l,hl,e3,e4⟩:=ZF hc hd;unfold XC;rw [if_pos ⟨h1,h2⟩];generalize Yh a b=r at *;generalize Yh c d=s at *;rw [e1,e2,e3,e4,cmpF_scale hk hl]
theorem ratioOf_in {n d:Int} (hn : -1000000000000000000<=n/\n<=1000000000000000000) (hd:1<=d/\d<=1000000000000000):(Yh n d).In:=by
 have:=ratioOk_bd (ZF hn hd).1;exact ⟨⟨by omega,by omega⟩,⟨by omega,by omega⟩⟩
end Go.Proofs.YtkjimfapbjdafaaGreat
