/-
 How fractions are compared: of the program (products of 128 bits) and of the reference (continued remainders); the lesser and the greater one; spans.
 Conditions: the numbers are ints of the machine.
-/
import Derived.Shelf.Bits.Mul64
import Derived.Test.YtbekjpkcicjcgaaGreatGrD
set_option maxHeartbeats 2000000
set_option maxRecDepth 100000
namespace Go.Proofs.YtbekjpkcicjcgaaGreat
open Go.RowKit
def sgn (x:Int):Int:=if x<0 then -1 else if 0<x then 1 else 0
theorem sgn_bd (x:Int) : -1<=sgn x/\sgn x<=1:=by unfold sgn;split<;>(try split)<;>omega
theorem sgn_of_neg {x:Int} (h:x<0):sgn x = -1:=by unfold sgn;rw [if_pos h]
theorem sgn_of_pos {x:Int} (h:0<x):sgn x=1:=by unfold sgn;rw [if_neg Oz,if_pos h]
theorem sgn_zero:sgn 0=0:=rfl
def Ju (a b c d:Int):Int:=sgn (a*d-c*b)
theorem cmpF_bd (a b c d:Int) : -1<=Ju a b c d/\Ju a b c d<=1:=sgn_bd _
theorem cmpF_neg_pos {a b c d:Int} (hb:0<b) (hd:0<d) (ha:a<0) (hc:0<=c):Ju a b c d = -1:=by
 apply sgn_of_neg;have h1:a*d<0:=Int.mul_neg_of_neg_of_pos ha hd;have h2:0<=c*b:=Int.mul_nonneg hc Oz;omega
theorem cmpF_pos_neg {a b c d:Int} (hb:0<b) (hd:0<d) (ha:0<=a) (hc:c<0):Ju a b c d=1:=by
 apply sgn_of_pos;have h1:c*b<0:=Int.mul_neg_of_neg_of_pos hc hb;have h2:0<=a*d:=Int.mul_nonneg ha Oz;omega
theorem absmul {a d:Int} (hd:0<d):((a.natAbs*d.natAbs:Nat):Int)=if a<0 then -(a*d) else a*d:=by
 rw [Int.natCast_mul];have e:(d.natAbs:Int)=d:=Oz
 rw [e];split
 ·have:(a.natAbs:Int) = -a:=Oz
  rw [this,Int.neg_mul]
 ·have:(a.natAbs:Int)=a:=Oz
  rw [this]
theorem cmpF_halves {a b c d:Int} (hb:0<b) (hd:0<d) (X Y:Nat) (hX:X=a.natAbs*d.natAbs) (hY:Y=c.natAbs*b.natAbs) (hs:(a<0/\c<0)∨(0<=a/\0<=c)) :
 Ju a b c d=if a<0 then -(if Y<X then 1 else if X<Y then -1 else 0) else (if Y<X then 1 else if X<Y then -1 else 0):=by
 have h1:=absmul (a:=a) hd;have h2:=absmul (a:=c) hb;rw [<- hX] at h1;rw [<- hY] at h2;unfold Ju sgn;generalize a*d=p at *;generalize c*b=q at *;rcases hs with ⟨ha,hc⟩|⟨ha,hc⟩
 ·rw [if_pos ha] at h1 ⊢;rw [if_pos hc] at h2;split<;>split<;>(try split)<;>(try split)<;>omega
 ·rw [if_neg (show ¬ a<0 by omega)] at h1 ⊢;rw [if_neg (show ¬ c<0 by omega)] at h2;split<;>split<;>(try split)<;>(try split)<;>omega
theorem mul64_c (x y:Nat) (hx:x<18446744073709551616) (hy:y<18446744073709551616) (w:World) :
 Calls Tryz.prog 148 #[.int .u64 x,.int .u64 y] w λ e w'=>e=.returned (.tuple #[.int .u64 ((x*y / 18446744073709551616:Nat):Int),.int .u64 ((x*y % 18446744073709551616:Nat):Int)])/\w=w':=by
 obtain ⟨bd,bt,bw,hhi⟩:=Lib.mul64_hi x y hx hy;have ba:=Lib.half_mul_le (a:=x / 4294967296) (b:=y / 4294967296) Oz Oz;have bb:=Lib.half_mul_le (a:=x / 4294967296) (b:=y % 4294967296) Oz Oz;have bc:=Lib.half_mul_le (a:=x % 4294967296) (b:=y / 4294967296) Oz Oz;have ba':x / 4294967296*(y / 4294967296)<18446744073709551616:=Oz
 have bb':x / 4294967296*(y % 4294967296)<18446744073709551616:=Oz
 have bc':x % 4294967296*(y / 4294967296)<18446744073709551616:=Oz
 have bh1:x / 4294967296*(y / 4294967296)+(x / 4294967296*(y % 4294967296)+x % 4294967296*(y % 4294967296) / 4294967296) / 4294967296<18446744073709551616:=Oz
 have bh:x / 4294967296*(y / 4294967296)+(x / 4294967296*(y % 4294967296)+x % 4294967296*(y % 4294967296) / 4294967296) / 4294967296+((x / 4294967296*(y % 4294967296)+x % 4294967296*(y % 4294967296) / 4294967296) % 4294967296+x % 4294967296*(y / 4294967296)) / 4294967296<18446744073709551616:=Oz
 go_enter Tryz.func148,Tryz.ntmps148
 go_wp2
 simp only [Mul64.maskN x hx,Mul64.maskN y hy,Mul64.divN,Mul64.mulN,Mul64.addN,Mul64.wrapN _ bd,Mul64.wrapN _ bb',Mul64.wrapN _ bt,Mul64.maskN _ bt,Mul64.wrapN _ bc',Mul64.wrapN _ bw,Mul64.wrapN _ ba',Mul64.wrapN _ bh1,Mul64.wrapN _ bh,Mul64.wrapM (x*y)];rw [hhi];go_ret2
 exact ⟨rfl,rfl⟩
theorem K6 (a b c d:Int) (w:World) (ha:YU a) (hb:YU b) (hc:YU c) (hd:YU d) (hb0:0<b) (hd0:0<d) :
 Calls Tryz.prog 107 #[.int .i64 a,.int .i64 b,.int .i64 c,.int .i64 d] w λ e w'=>e=.returned (.int .i64 (Ju a b c d))/\w=w':=by
 have m1:=λ W=>KD a W ha;have m2:=λ W=>KD d W hd;have m3:=λ W=>KD c W hc;have m4:=λ W=>KD b W hb;have n1:=natAbs_le ha;have n2:=natAbs_le hb;have n3:=natAbs_le hc;have n4:=natAbs_le hd;have u1:=λ W=>mul64_c a.natAbs d.natAbs Oz Oz W;have u2:=λ W=>mul64_c c.natAbs b.natAbs Oz Oz W;have key:=λ hs=>Lib.hid (cmpF_halves hb0 hd0 (a.natAbs*d.natAbs) (c.natAbs*b.natAbs) rfl rfl hs);have k1:=λ h1 h2=>Lib.hid (cmpF_neg_pos (a:=a) (c:=c) hb0 hd0 h1 h2);have k2:=λ h1 h2=>Lib.hid (cmpF_pos_neg (a:=a) (c:=c) hb0 hd0 h1 h2);have K:=Lib.hid key;have K1:=Lib.hid k1;have K2:=Lib.hid k2;clear key k1 k2;generalize hX:a.natAbs*d.natAbs=X at *;generalize hY:c.natAbs*b.natAbs=Y at *;clear hX hY;by_cases a0:a<0
 ·by_cases c0:c<0
  ·have hk:=K.out (.inl ⟨a0,c0⟩);clear K K1 K2;go_enter Tryz.func107,Tryz.ntmps107
   go_wp2_with (first|(go_at_call 66;((with_reducible refine (m1 _).mono ?_);rintro e w' ⟨rfl,rfl⟩))|(go_at_call 66;((with_reducible refine (m2 _).mono ?_);rintro e w' ⟨rfl,rfl⟩))|(go_at_call 66;((with_reducible refine (m3 _).mono ?_);rintro e w' ⟨rfl,rfl⟩))|(go_at_call 66;((with_reducible refine (m4 _).mono ?_);rintro e w' ⟨rfl,rfl⟩))|(go_at_call 148;((with_reducible refine (u1 _).mono ?_);rintro e w' ⟨rfl,rfl⟩))|(go_at_call 148;((with_reducible refine (u2 _).mono ?_);rintro e w' ⟨rfl,rfl⟩)))
   all_goals
    go_ret
    refine ⟨ZG ?_,rfl⟩;rw [hk.out,if_pos a0];split<;>(try split)<;>omega
  ·have hk:=K1.out a0 (by omega);clear K K1 K2;go_enter Tryz.func107,Tryz.ntmps107
   go_wp2
   go_ret
   exact ⟨ZG hk.out.symm,rfl⟩
 ·by_cases c0:c<0
  ·have hk:=K2.out (by omega) c0;clear K K1 K2;go_enter Tryz.func107,Tryz.ntmps107
   go_wp2
   go_ret
   exact ⟨ZG hk.out.symm,rfl⟩
  ·have hk:=K.out (.inr ⟨by omega,by omega⟩);clear K K1 K2;go_enter Tryz.func107,Tryz.ntmps107
   go_wp2_with (first|(go_at_call 66;((with_reducible refine (m1 _).mono ?_);rintro e w' ⟨rfl,rfl⟩))|(go_at_call 66;((with_reducible refine (m2 _).mono ?_);rintro e w' ⟨rfl,rfl⟩))|(go_at_call 66;((with_reducible refine (m3 _).mono ?_);rintro e w' ⟨rfl,rfl⟩))|(go_at_call 66;((with_reducible refine (m4 _).mono ?_);rintro e w' ⟨rfl,rfl⟩))|(go_at_call 148;((with_reducible refine (u1 _).mono ?_);rintro e w' ⟨rfl,rfl⟩))|(go_at_call 148;((with_reducible refine (u2 _).mono ?_);rintro e w' ⟨rfl,rfl⟩)))
   all_goals
    go_ret
    refine ⟨ZG ?_,rfl⟩;rw [hk.out,if_neg (show ¬ a<0 by omega)];split<;>(try split)<;>omega
def XF (r s:XW):Int:=if Xh r=true/\Xh s=true then Ju r.n r.d s.n s.d else 0
theorem ratioCmp_bd (r s:XW) : -1<=XF r s/\XF r s<=1:=by
 unfold XF;split
 ·exact cmpF_bd _ _ _ _
 ·omega
theorem ratioOk_bd {r:XW} (h:Xh r=true):(1<=r.d/\r.d<=1000000000000000)/\(-1000000000000000000<=r.n/\r.n<=1000000000000000000):=by
 have:=Km.1 h;exact ⟨this.1,this.2.1⟩
def Yr (r s:XW):XW:=if Xh r=true/\Xh s=true then (if XF r s<=0 then r else s) else Ke
def Ys (r s:XW):XW:=if Xh r=true/\Xh s=true then (if 0<=XF r s then r else s) else Ke
structure YQ where
 low:XW
 high:XW
 deriving DecidableEq
abbrev ZC (w:YQ):Value:=.agg #[.int .i64 w.low.n,.int .i64 w.low.d,.int .i64 w.high.n,.int .i64 w.high.d]
def YQ.In (w:YQ):Prop:=w.low.In/\w.high.In
def XN (w:YQ):Bool:=Xh w.low&&Xh w.high&&decide (XF w.low w.high<=0)
def Xu:YQ:=⟨Ke,Ke⟩
theorem floor_neg {n d:Int} (hn:n<0) (hd:0<d):n / d=if n.tmod d<0 then n.tdiv d-1 else n.tdiv d:=by
 obtain ⟨m,hm⟩:∃ m:Int,m = -n:=⟨_,rfl⟩;obtain rfl:n = -m:=Oz
 have h1:(-m).tdiv d = -(m / d):=by rw [Int.neg_tdiv,Int.tdiv_eq_ediv_of_nonneg Oz]
 have h2:(-m).tmod d = -(m % d):=by rw [Int.neg_tmod,Int.tmod_eq_emod_of_nonneg Oz]
 have h3:=Int.mul_ediv_add_emod m d;have h4:=Int.emod_nonneg m (show d≠0 by omega);have h5:=Int.emod_lt_of_pos m hd;rw [h1,h2];split
 ·refine ((Int.ediv_emod_unique (r:=d-m % d) hd).2 ⟨?_,Oz,Oz⟩).1;rw [Int.mul_sub,Int.mul_neg,Int.mul_one];omega
 ·refine ((Int.ediv_emod_unique (r:=0) hd).2 ⟨?_,Oz,Oz⟩).1;rw [Int.mul_neg];omega
theorem floor_pos {n d:Int} (hn:0<=n):n.tdiv d=n / d:=Int.tdiv_eq_ediv_of_nonneg hn
theorem floor_le {n d:Int} (hd:0<d) (B:Int) (h1 : -B<=n) (h2:n<=B) (hB:0<=B) : -B<=n / d/\n / d<=B:=by
 constructor
 ·rw [Int.le_ediv_iff_mul_le hd];have:B*1<=B*d:=Int.mul_le_mul_of_nonneg_left Oz hB;rw [Int.neg_mul];omega
 ·exact Int.ediv_le_of_le_mul hd (by have:B*1<=B*d:=Int.mul_le_mul_of_nonneg_left Oz hB;omega)
theorem tdiv_bd {n d:Int} (hn:n<0) (hd:0<d):n<=n.tdiv d/\n.tdiv d<=0:=by
 obtain ⟨m,hm⟩:∃ m:Int,m = -n:=⟨_,rfl⟩;obtain rfl:n = -m:=Oz
 have h1:(-m).tdiv d = -(m / d):=by rw [Int.neg_tdiv,Int.tdiv_eq_ediv_of_nonneg Oz]
 have h2:0<=m / d:=Int.ediv_nonneg Oz Oz;have h3:=(floor_le hd m Oz (Int.le_refl _) Oz).2;omega
theorem floorDiv_c (n d:Int) (w:World) (h1 : -9223372036854775807<=n) (h2:n<=9223372036854775807) (hd:0<d) (hd2:d<=9223372036854775807) :
 Calls Tryz.prog 109 #[.int .i64 n,.int .i64 d] w λ e w'=>e=.returned (.int .i64 (n / d))/\∃ k,w'=w.drewN k:=by
 have d0:((d:Int) == 0)=false:=by simp;omega
 have d1:((d:Int) != 0)=true:=by simp;omega
 have d2:((d:Int) == -1)=false:=by simp;omega
 by_cases hn:n<0
 ·have hf:=Lib.hid (floor_neg hn hd);obtain ⟨t1,t2⟩:=tdiv_bd hn hd;go_enter Tryz.func109,Tryz.ntmps109
  go_wp2
  all_goals
   go_ret
   refine ⟨ZG ?_,0,rfl⟩;rw [hf.out];first|rw [if_pos (by assumption)]|rw [if_neg (by omega)]
 ·have hf:=Lib.hid (floor_pos (n:=n) (d:=d) (by omega));have m0:=Int.emod_nonneg n (show d≠0 by omega);have q0:0<=n / d:=Int.ediv_nonneg (by omega) (by omega);have q1:=(floor_le (n:=n) hd 9223372036854775807 (by omega) (by omega) (by omega)).2;go_enter Tryz.func109,Tryz.ntmps109
  go_wp2
  go_ret
  exact ⟨rfl,0,rfl⟩
theorem ZE {n d:Int} (hn : -1000000000000000000<=n/\n<=1000000000000000000) (hd:1<=d/\d<=1000000000000000) :
 Xh (XT n d)=true/\∃ k:Int,0<k/\n=k*(XT n d).n/\d=k*(XT n d).d:=by
 have hg:Xn [n,d]=Nat.gcd n.natAbs d.natAbs:=Jp n d;have hpos:0<Xn [n,d]:=by rw [hg];exact Nat.gcd_pos_of_pos_right _ Oz
 have h1:Xn [n,d] ∣ n.natAbs:=by rw [hg];exact Nat.gcd_dvd_left _ _
 have h2:Xn [n,d] ∣ d.natAbs:=by rw [hg];exact Nat.gcd_dvd_right _ _
 have e1:=Nat.mul_div_cancel' h1;have e2:=Nat.mul_div_cancel' h2;have l1:=Nat.div_le_self n.natAbs (Xn [n,d]);have l2:=Nat.div_le_self d.natAbs (Xn [n,d]);have hdef:XT n d=if decide (n<0)=decide (d<0) then ⟨((n.natAbs / Xn [n,d]:Nat):Int),((d.natAbs / Xn [n,d]:Nat):Int)⟩ else ⟨-((n.natAbs / Xn [n,d]:Nat):Int),((d.natAbs / Xn [n,d]:Nat):Int)⟩:=by
  unfold XT;rw [if_neg (by rw [ZQ Oz,ZQ Oz];simp;omega),if_neg Oz]
 have hd0:¬ d<0:=Oz
 have hne:XT n d≠Ke:=by
  intro e;have hq:d.natAbs / Xn [n,d]=0:=by
   rw [hdef] at e;have:(Ke).d=0:=rfl;rw [<- e] at this;split at this<;>simp only at this<;>omega
  rw [hq] at e2;omega
 refine ⟨ratioOf_ok.2 hne,(Xn [n,d]:Int),Oz, ?_, ?_⟩
 ·rw [hdef];have e1':((Xn [n,d]:Nat):Int)*((n.natAbs / Xn [n,d]:Nat):Int)=(n.natAbs:Int):=by rw [<- Int.natCast_mul,e1]
  split
  ·rename_i h;simp [hd0] at h;simp only;rw [e1'];omega
  ·rename_i h;simp [hd0] at h;simp only;rw [Int.mul_neg,e1'];omega
 ·have e2':((Xn [n,d]:Nat):Int)*((d.natAbs / Xn [n,d]:Nat):Int)=(d.natAbs:Int):=by rw [<- Int.natCast_mul,e2]
  rw [hdef];split<;>(simp only;rw [e2'];omega)
theorem ratioMin_in {r s:XW} (hr:r.In) (hs:s.In):(Yr r s).In:=by
 unfold Yr;split
 ·split<;>assumption
 ·exact ⟨⟨Dz,Dz⟩,⟨Dz,Dz⟩⟩
theorem ratioMax_in {r s:XW} (hr:r.In) (hs:s.In):(Ys r s).In:=by
 unfold Ys;split
 ·split<;>assumption
 ·exact ⟨⟨Dz,Dz⟩,⟨Dz,Dz⟩⟩
theorem ratioMin_ok {r s:XW} (hr:Xh r=true) (hs:Xh s=true):Xh (Yr r s)=true:=by
 unfold Yr;rw [if_pos ⟨hr,hs⟩];split<;>assumption
theorem ratioMax_ok {r s:XW} (hr:Xh r=true) (hs:Xh s=true):Xh (Ys r s)=true:=by
 unfold Ys;rw [if_pos ⟨hr,hs⟩];split<;>assumption
theorem Kn (r s:XW) (w:World) (hr:r.In) (hs:s.In) :
 Calls Tryz.prog 51 #[X0 r,X0 s] w λ e w'=>e=.returned (.int .i64 (XF r s))/\Below w.heap.size w w':=by
 have c0:=λ W=>ZV r W hr;have c1:=λ W=>ZV s W hs;cases e0:Xh r
 ·rw [e0] at c0;go_enter Tryz.func51,Tryz.ntmps51
  go_wp2_with (fail)
  refine (c0 _).mono ?_;rintro e w0 ⟨rfl,hb0⟩;have r0:=XA hb0;have l0_0:w.heap.size<w0.heap.size:=XM hb0;have l0_1:w.heap.size+1<w0.heap.size:=XM hb0;go_wp2
  go_ret
  refine ⟨ZG (by simp [XF,e0]), ?_⟩;exact Xw
 ·rw [e0] at c0;cases e1:Xh s
  ·rw [e1] at c1;go_enter Tryz.func51,Tryz.ntmps51
   go_wp2_with (fail)
   refine (c0 _).mono ?_;rintro e w0 ⟨rfl,hb0⟩;have r0:=XA hb0;have l0_0:w.heap.size<w0.heap.size:=XM hb0;have l0_1:w.heap.size+1<w0.heap.size:=XM hb0;go_wp2_with (fail)
   refine (c1 _).mono ?_;rintro e w1 ⟨rfl,hb1⟩;have r1:=XA hb1;have l1_0:w.heap.size<w1.heap.size:=XM hb1;have l1_1:w.heap.size+1<w1.heap.size:=XM hb1;go_wp2
   go_ret
   refine ⟨ZG (by simp [XF,e1]), ?_⟩;exact Xw
  ·rw [e1] at c1;have hv:=Lib.hid (show XF r s=Ju r.n r.d s.n s.d by simp [XF,e0,e1]);have c2:=λ W=>K6 r.n r.d s.n s.d W hr.1 hr.2 hs.1 hs.2 (by have:=ratioOk_bd e0;omega) (by have:=ratioOk_bd e1;omega);go_enter Tryz.func51,Tryz.ntmps51
   go_wp2_with (fail)
   refine (c0 _).mono ?_;rintro e w0 ⟨rfl,hb0⟩;have r0:=XA hb0;have l0_0:w.heap.size<w0.heap.size:=XM hb0;have l0_1:w.heap.size+1<w0.heap.size:=XM hb0;go_wp2_with (fail)
   refine (c1 _).mono ?_;rintro e w1 ⟨rfl,hb1⟩;have r1:=XA hb1;have l1_0:w.heap.size<w1.heap.size:=XM hb1;have l1_1:w.heap.size+1<w1.heap.size:=XM hb1;go_wp2_with (fail)
   refine (c2 _).mono ?_;rintro e w' ⟨rfl,rfl⟩;go_wp2
   go_ret
   refine ⟨ZG hv.out.symm, ?_⟩;exact Xw
theorem iRatioMin_c (r s:XW) (w:World) (hr:r.In) (hs:s.In) :
 Calls Tryz.prog 105 #[X0 r,X0 s] w λ e w'=>e=.returned (X0 (Yr r s))/\Below w.heap.size w w':=by
 have c0:=λ W=>ZV r W hr;have c1:=λ W=>ZV s W hs;have c2:=λ W=>Kn r s W hr hs;cases e0:Xh r
 ·rw [e0] at c0;have hv:=Lib.hid (show Yr r s=Ke by simp [Yr,e0]);go_enter Tryz.func105,Tryz.ntmps105
  go_wp2_with (fail)
  refine (c0 _).mono ?_;rintro e w0 ⟨rfl,hb0⟩;have r0:=XA hb0;have l0_0:w.heap.size<w0.heap.size:=XM hb0;have l0_1:w.heap.size+1<w0.heap.size:=XM hb0;have l0_2:w.heap.size+1+1<w0.heap.size:=XM hb0;have H:Yd w0 (w.heap.size+1+1) [.int .i64 0,.int .i64 0]:=by
   exact ZK
  obtain ⟨cH_0,fH_0⟩:=H.2 0 _ rfl;obtain ⟨cH_1,fH_1⟩:=H.2 1 _ rfl;go_wp2
  refine bodyPost_ret (v:=.agg #[.int .i64 0,.int .i64 0]) (by simp [results,Tryz.results105,go_sem,cH_0,cH_1]) rfl ⟨by rw [hv.out];rfl, ?_⟩;exact Xw
 ·rw [e0] at c0;cases e1:Xh s
  ·rw [e1] at c1;have hv:=Lib.hid (show Yr r s=Ke by simp [Yr,e1]);go_enter Tryz.func105,Tryz.ntmps105
   go_wp2_with (fail)
   refine (c0 _).mono ?_;rintro e w0 ⟨rfl,hb0⟩;have r0:=XA hb0;have l0_0:w.heap.size<w0.heap.size:=XM hb0;have l0_1:w.heap.size+1<w0.heap.size:=XM hb0;have l0_2:w.heap.size+1+1<w0.heap.size:=XM hb0;go_wp2_with (fail)
   refine (c1 _).mono ?_;rintro e w1 ⟨rfl,hb1⟩;have r1:=XA hb1;have l1_0:w.heap.size<w1.heap.size:=XM hb1;have l1_1:w.heap.size+1<w1.heap.size:=XM hb1;have l1_2:w.heap.size+1+1<w1.heap.size:=XM hb1;have H:Yd w1 (w.heap.size+1+1) [.int .i64 0,.int .i64 0]:=by
    exact ZK
   obtain ⟨cH_0,fH_0⟩:=H.2 0 _ rfl;obtain ⟨cH_1,fH_1⟩:=H.2 1 _ rfl;go_wp2
   refine bodyPost_ret (v:=.agg #[.int .i64 0,.int .i64 0]) (by simp [results,Tryz.results105,go_sem,cH_0,cH_1]) rfl ⟨by rw [hv.out];rfl, ?_⟩;exact Xw
  ·rw [e1] at c1;have bd:=ratioCmp_bd r s;cases e2:decide (XF r s<=0)
   ·have hv:=Lib.hid (show Yr r s=s by simp only [decide_eq_false_iff_not] at e2;simp [Yr,e0,e1,e2]);simp only [decide_eq_false_iff_not] at e2;clear e0 e1;generalize XF r s=q at *;go_enter Tryz.func105,Tryz.ntmps105
    go_wp2_with (fail)
    refine (c0 _).mono ?_;rintro e w0 ⟨rfl,hb0⟩;have r0:=XA hb0;have l0_0:w.heap.size<w0.heap.size:=XM hb0;have l0_1:w.heap.size+1<w0.heap.size:=XM hb0;have l0_2:w.heap.size+1+1<w0.heap.size:=XM hb0;go_wp2_with (fail)
    refine (c1 _).mono ?_;rintro e w1 ⟨rfl,hb1⟩;have r1:=XA hb1;have l1_0:w.heap.size<w1.heap.size:=XM hb1;have l1_1:w.heap.size+1<w1.heap.size:=XM hb1;have l1_2:w.heap.size+1+1<w1.heap.size:=XM hb1;go_wp2_with (fail)
    refine (c2 _).mono ?_;rintro e w2 ⟨rfl,hb2⟩;have r2:=XA hb2;have l2_0:w.heap.size<w2.heap.size:=XM hb2;have l2_1:w.heap.size+1<w2.heap.size:=XM hb2;have l2_2:w.heap.size+1+1<w2.heap.size:=XM hb2;have H:Yd w2 (w.heap.size+1+1) [.int .i64 0,.int .i64 0]:=by
     exact ZK
    obtain ⟨cH_0,fH_0⟩:=H.2 0 _ rfl;obtain ⟨cH_1,fH_1⟩:=H.2 1 _ rfl;go_wp2
    refine bodyPost_ret (v:=.agg #[.int .i64 s.n,.int .i64 s.d]) (by simp [results,Tryz.results105,go_sem,cH_0,cH_1]) rfl ⟨by rw [hv.out], ?_⟩;exact Xw
   ·have hv:=Lib.hid (show Yr r s=r by simp only [decide_eq_true_eq] at e2;simp [Yr,e0,e1,e2]);simp only [decide_eq_true_eq] at e2;clear e0 e1;generalize XF r s=q at *;go_enter Tryz.func105,Tryz.ntmps105
    go_wp2_with (fail)
    refine (c0 _).mono ?_;rintro e w0 ⟨rfl,hb0⟩;have r0:=XA hb0;have l0_0:w.heap.size<w0.heap.size:=XM hb0;have l0_1:w.heap.size+1<w0.heap.size:=XM hb0;have l0_2:w.heap.size+1+1<w0.heap.size:=XM hb0;go_wp2_with (fail)
    refine (c1 _).mono ?_;rintro e w1 ⟨rfl,hb1⟩;have r1:=XA hb1;have l1_0:w.heap.size<w1.heap.size:=XM hb1;have l1_1:w.heap.size+1<w1.heap.size:=XM hb1;have l1_2:w.heap.size+1+1<w1.heap.size:=XM hb1;go_wp2_with (fail)
    refine (c2 _).mono ?_;rintro e w2 ⟨rfl,hb2⟩;have r2:=XA hb2;have l2_0:w.heap.size<w2.heap.size:=XM hb2;have l2_1:w.heap.size+1<w2.heap.size:=XM hb2;have l2_2:w.heap.size+1+1<w2.heap.size:=XM hb2;have H:Yd w2 (w.heap.size+1+1) [.int .i64 0,.int .i64 0]:=by
     exact ZK
    obtain ⟨cH_0,fH_0⟩:=H.2 0 _ rfl;obtain ⟨cH_1,fH_1⟩:=H.2 1 _ rfl;go_wp2
    refine bodyPost_ret (v:=.agg #[.int .i64 r.n,.int .i64 r.d]) (by simp [results,Tryz.results105,go_sem,cH_0,cH_1]) rfl ⟨by rw [hv.out], ?_⟩;exact Xw
theorem iRatioMax_c (r s:XW) (w:World) (hr:r.In) (hs:s.In) :
 Calls Tryz.prog 106 #[X0 r,X0 s] w λ e w'=>e=.returned (X0 (Ys r s))/\Below w.heap.size w w':=by
 have c0:=λ W=>ZV r W hr;have c1:=λ W=>ZV s W hs;have c2:=λ W=>Kn r s W hr hs;cases e0:Xh r
 ·rw [e0] at c0;have hv:=Lib.hid (show Ys r s=Ke by simp [Ys,e0]);go_enter Tryz.func106,Tryz.ntmps106
  go_wp2_with (fail)
  refine (c0 _).mono ?_;rintro e w0 ⟨rfl,hb0⟩;have r0:=XA hb0;have l0_0:w.heap.size<w0.heap.size:=XM hb0;have l0_1:w.heap.size+1<w0.heap.size:=XM hb0;have l0_2:w.heap.size+1+1<w0.heap.size:=XM hb0;have H:Yd w0 (w.heap.size+1+1) [.int .i64 0,.int .i64 0]:=by
   exact ZK
  obtain ⟨cH_0,fH_0⟩:=H.2 0 _ rfl;obtain ⟨cH_1,fH_1⟩:=H.2 1 _ rfl;go_wp2
  refine bodyPost_ret (v:=.agg #[.int .i64 0,.int .i64 0]) (by simp [results,Tryz.results106,go_sem,cH_0,cH_1]) rfl ⟨by rw [hv.out];rfl, ?_⟩;exact Xw
 ·rw [e0] at c0;cases e1:Xh s
  ·rw [e1] at c1;have hv:=Lib.hid (show Ys r s=Ke by simp [Ys,e1]);go_enter Tryz.func106,Tryz.ntmps106
   go_wp2_with (fail)
   refine (c0 _).mono ?_;rintro e w0 ⟨rfl,hb0⟩;have r0:=XA hb0;have l0_0:w.heap.size<w0.heap.size:=XM hb0;have l0_1:w.heap.size+1<w0.heap.size:=XM hb0;have l0_2:w.heap.size+1+1<w0.heap.size:=XM hb0;go_wp2_with (fail)
   refine (c1 _).mono ?_;rintro e w1 ⟨rfl,hb1⟩;have r1:=XA hb1;have l1_0:w.heap.size<w1.heap.size:=XM hb1;have l1_1:w.heap.size+1<w1.heap.size:=XM hb1;have l1_2:w.heap.size+1+1<w1.heap.size:=XM hb1;have H:Yd w1 (w.heap.size+1+1) [.int .i64 0,.int .i64 0]:=by
    exact ZK
   obtain ⟨cH_0,fH_0⟩:=H.2 0 _ rfl;obtain ⟨cH_1,fH_1⟩:=H.2 1 _ rfl;go_wp2
   refine bodyPost_ret (v:=.agg #[.int .i64 0,.int .i64 0]) (by simp [results,Tryz.results106,go_sem,cH_0,cH_1]) rfl ⟨by rw [hv.out];rfl, ?_⟩;exact Xw
  ·rw [e1] at c1;have bd:=ratioCmp_bd r s;cases e2:decide (0<=XF r s)
   ·have hv:=Lib.hid (show Ys r s=s by simp only [decide_eq_false_iff_not] at e2;simp [Ys,e0,e1,e2]);simp only [decide_eq_false_iff_not] at e2;clear e0 e1;generalize XF r s=q at *;go_enter Tryz.func106,Tryz.ntmps106
    go_wp2_with (fail)
    refine (c0 _).mono ?_;rintro e w0 ⟨rfl,hb0⟩;have r0:=XA hb0;have l0_0:w.heap.size<w0.heap.size:=XM hb0;have l0_1:w.heap.size+1<w0.heap.size:=XM hb0;have l0_2:w.heap.size+1+1<w0.heap.size:=XM hb0;go_wp2_with (fail)
    refine (c1 _).mono ?_;rintro e w1 ⟨rfl,hb1⟩;have r1:=XA hb1;have l1_0:w.heap.size<w1.heap.size:=XM hb1;have l1_1:w.heap.size+1<w1.heap.size:=XM hb1;have l1_2:w.heap.size+1+1<w1.heap.size:=XM hb1;go_wp2_with (fail)
    refine (c2 _).mono ?_;rintro e w2 ⟨rfl,hb2⟩;have r2:=XA hb2;have l2_0:w.heap.size<w2.heap.size:=XM hb2;have l2_1:w.heap.size+1<w2.heap.size:=XM hb2;have l2_2:w.heap.size+1+1<w2.heap.size:=XM hb2;have H:Yd w2 (w.heap.size+1+1) [.int .i64 0,.int .i64 0]:=by
     exact ZK
    obtain ⟨cH_0,fH_0⟩:=H.2 0 _ rfl;obtain ⟨cH_1,fH_1⟩:=H.2 1 _ rfl;go_wp2
    refine bodyPost_ret (v:=.agg #[.int .i64 s.n,.int .i64 s.d]) (by simp [results,Tryz.results106,go_sem,cH_0,cH_1]) rfl ⟨by rw [hv.out], ?_⟩;exact Xw
   ·have hv:=Lib.hid (show Ys r s=r by simp only [decide_eq_true_eq] at e2;simp [Ys,e0,e1,e2]);simp only [decide_eq_true_eq] at e2;clear e0 e1;generalize XF r s=q at *;go_enter Tryz.func106,Tryz.ntmps106
    go_wp2_with (fail)
    refine (c0 _).mono ?_;rintro e w0 ⟨rfl,hb0⟩;have r0:=XA hb0;have l0_0:w.heap.size<w0.heap.size:=XM hb0;have l0_1:w.heap.size+1<w0.heap.size:=XM hb0;have l0_2:w.heap.size+1+1<w0.heap.size:=XM hb0;go_wp2_with (fail)
    refine (c1 _).mono ?_;rintro e w1 ⟨rfl,hb1⟩;have r1:=XA hb1;have l1_0:w.heap.size<w1.heap.size:=XM hb1;have l1_1:w.heap.size+1<w1.heap.size:=XM hb1;have l1_2:w.heap.size+1+1<w1.heap.size:=XM hb1;go_wp2_with (fail)
    refine (c2 _).mono ?_;rintro e w2 ⟨rfl,hb2⟩;have r2:=XA hb2;have l2_0:w.heap.size<w2.heap.size:=XM hb2;have l2_1:w.heap.size+1<w2.heap.size:=XM hb2;have l2_2:w.heap.size+1+1<w2.heap.size:=XM hb2;have H:Yd w2 (w.heap.size+1+1) [.int .i64 0,.int .i64 0]:=by
     exact ZK
    obtain ⟨cH_0,fH_0⟩:=H.2 0 _ rfl;obtain ⟨cH_1,fH_1⟩:=H.2 1 _ rfl;go_wp2
    refine bodyPost_ret (v:=.agg #[.int .i64 r.n,.int .i64 r.d]) (by simp [results,Tryz.results106,go_sem,cH_0,cH_1]) rfl ⟨by rw [hv.out], ?_⟩;exact Xw
theorem iSpanOk_c (x:YQ) (w:World) (hx:x.In) :
 Calls Tryz.prog 49 #[ZC x] w λ e w'=>e=.returned (.bool (XN x))/\Below w.heap.size w w':=by
 have c0:=λ W=>ZV x.low W hx.1;have c1:=λ W=>ZV x.high W hx.2;have c2:=λ W=>Kn x.low x.high W hx.1 hx.2;cases e0:Xh x.low
 ·rw [e0] at c0;have hv:=Lib.hid (show XN x=false by simp [XN,e0]);go_enter Tryz.func49,Tryz.ntmps49
  go_wp2_with (fail)
  refine (c0 _).mono ?_;rintro e w0 ⟨rfl,hb0⟩;have r0:=XA hb0;have l0_0:w.heap.size<w0.heap.size:=XM hb0;go_wp2
  go_ret
  refine ⟨?_, ?_⟩
  ·first
   | exact Xm hv.out.symm
   | exact Xm (by rw [hv.out];simp;omega)
  ·exact Xw
 ·rw [e0] at c0;cases e1:Xh x.high
  ·rw [e1] at c1;have hv:=Lib.hid (show XN x=false by simp [XN,e1]);go_enter Tryz.func49,Tryz.ntmps49
   go_wp2_with (fail)
   refine (c0 _).mono ?_;rintro e w0 ⟨rfl,hb0⟩;have r0:=XA hb0;have l0_0:w.heap.size<w0.heap.size:=XM hb0;go_wp2_with (fail)
   refine (c1 _).mono ?_;rintro e w1 ⟨rfl,hb1⟩;have r1:=XA hb1;have l1_0:w.heap.size<w1.heap.size:=XM hb1;go_wp2
   go_ret
   refine ⟨?_, ?_⟩
   ·first
    | exact Xm hv.out.symm
    | exact Xm (by rw [hv.out];simp;omega)
   ·exact Xw
  ·rw [e1] at c1;cases e2:decide (XF x.low x.high<=0)
   ·have hv:=Lib.hid (show XN x=false by simp only [XN,e0,e1,e2];rfl);simp only [decide_eq_false_iff_not] at e2;have bd:=ratioCmp_bd x.low x.high;generalize XF x.low x.high=q at *;go_enter Tryz.func49,Tryz.ntmps49
    go_wp2_with (fail)
    refine (c0 _).mono ?_;rintro e w0 ⟨rfl,hb0⟩;have r0:=XA hb0;have l0_0:w.heap.size<w0.heap.size:=XM hb0;go_wp2_with (fail)
    refine (c1 _).mono ?_;rintro e w1 ⟨rfl,hb1⟩;have r1:=XA hb1;have l1_0:w.heap.size<w1.heap.size:=XM hb1;go_wp2_with (fail)
    refine (c2 _).mono ?_;rintro e w2 ⟨rfl,hb2⟩;have r2:=XA hb2;have l2_0:w.heap.size<w2.heap.size:=XM hb2;go_wp2
    go_ret
    refine ⟨?_, ?_⟩
    ·first
     | exact Xm hv.out.symm
     | exact Xm (by rw [hv.out];simp;omega)
    ·exact Xw
   ·have hv:=Lib.hid (show XN x=true by simp only [XN,e0,e1,e2];rfl);simp only [decide_eq_true_eq] at e2;have bd:=ratioCmp_bd x.low x.high;generalize XF x.low x.high=q at *;go_enter Tryz.func49,Tryz.ntmps49
    go_wp2_with (fail)
    refine (c0 _).mono ?_;rintro e w0 ⟨rfl,hb0⟩;have r0:=XA hb0;have l0_0:w.heap.size<w0.heap.size:=XM hb0;go_wp2_with (fail)
    refine (c1 _).mono ?_;rintro e w1 ⟨rfl,hb1⟩;have r1:=XA hb1;have l1_0:w.heap.size<w1.heap.size:=XM hb1;go_wp2_with (fail)
    refine (c2 _).mono ?_;rintro e w2 ⟨rfl,hb2⟩;have r2:=XA hb2;have l2_0:w.heap.size<w2.heap.size:=XM hb2;go_wp2
    go_ret
    refine ⟨?_, ?_⟩
    ·first
     | exact Xm hv.out.symm
     | exact Xm (by rw [hv.out];simp;omega)
    ·exact Xw
end Go.Proofs.YtbekjpkcicjcgaaGreat
