/-
 How fractions are compared: of the program (products of 128 bits) and of the reference (continued remainders); the lesser and the greater one; spans.
 Conditions: the numbers are ints of the machine.
-/
import Derived.Shelf.Bits.Mul64
import Derived.Test.YtabfdkpdppemaaaGreatGrD
set_option maxHeartbeats 2000000
set_option maxRecDepth 100000
namespace Go.Proofs.YtabfdkpdppemaaaGreat
open Go.RowKit
def sgn (x:Int):Int:=if x<0 then -1 else if 0<x then 1 else 0
theorem sgn_bd (x:Int) : -1<=sgn x/\sgn x<=1:=by unfold sgn;split<;>(try split)<;>omega
theorem sgn_of_neg {x:Int} (h:x<0):sgn x = -1:=by unfold sgn;rw [if_pos h]
theorem sgn_of_pos {x:Int} (h:0<x):sgn x=1:=by unfold sgn;rw [if_neg (by omega),if_pos h]
theorem sgn_zero:sgn 0=0:=rfl
def J3 (a b c d:Int):Int:=sgn (a*d-c*b)
theorem cmpF_bd (a b c d:Int) : -1<=J3 a b c d/\J3 a b c d<=1:=sgn_bd _
theorem cmpF_neg_pos {a b c d:Int} (hb:0<b) (hd:0<d) (ha:a<0) (hc:0<=c):J3 a b c d = -1:=by
 apply sgn_of_neg;have h1:a*d<0:=Int.mul_neg_of_neg_of_pos ha hd;have h2:0<=c*b:=Int.mul_nonneg hc (by omega);omega
theorem cmpF_pos_neg {a b c d:Int} (hb:0<b) (hd:0<d) (ha:0<=a) (hc:c<0):J3 a b c d=1:=by
 apply sgn_of_pos;have h1:c*b<0:=Int.mul_neg_of_neg_of_pos hc hb;have h2:0<=a*d:=Int.mul_nonneg ha (by omega);omega
theorem absmul {a d:Int} (hd:0<d):((a.natAbs*d.natAbs:Nat):Int)=if a<0 then -(a*d) else a*d:=by
 rw [Int.natCast_mul];have e:(d.natAbs:Int)=d:=by omega
 rw [e];split
 ·have:(a.natAbs:Int) = -a:=by omega
  rw [this,Int.neg_mul]
 ·have:(a.natAbs:Int)=a:=by omega
  rw [this]
theorem cmpF_halves {a b c d:Int} (hb:0<b) (hd:0<d) (X Y:Nat) (hX:X=a.natAbs*d.natAbs) (hY:Y=c.natAbs*b.natAbs) (hs:(a<0/\c<0)∨(0<=a/\0<=c)) :
 J3 a b c d=if a<0 then -(if Y<X then 1 else if X<Y then -1 else 0) else (if Y<X then 1 else if X<Y then -1 else 0):=by
 have h1:=absmul (a:=a) hd;have h2:=absmul (a:=c) hb;rw [<- hX] at h1;rw [<- hY] at h2;unfold J3 sgn;generalize a*d=p at *;generalize c*b=q at *;rcases hs with ⟨ha,hc⟩|⟨ha,hc⟩
 ·rw [if_pos ha] at h1 ⊢;rw [if_pos hc] at h2;split<;>split<;>(try split)<;>(try split)<;>omega
 ·rw [if_neg (show ¬ a<0 by omega)] at h1 ⊢;rw [if_neg (show ¬ c<0 by omega)] at h2;split<;>split<;>(try split)<;>(try split)<;>omega
theorem mul64_c (x y:Nat) (hx:x<18446744073709551616) (hy:y<18446744073709551616) (w:World) :
 Calls Tryz.prog 210 #[.int .u64 x,.int .u64 y] w λ e w'=>e=.returned (.tuple #[.int .u64 ((x*y / 18446744073709551616:Nat):Int),.int .u64 ((x*y % 18446744073709551616:Nat):Int)])/\w=w':=by
 obtain ⟨bd,bt,bw,hhi⟩:=Lib.mul64_hi x y hx hy;have ba:=Lib.half_mul_le (a:=x / 4294967296) (b:=y / 4294967296) (by omega) (by omega);have bb:=Lib.half_mul_le (a:=x / 4294967296) (b:=y % 4294967296) (by omega) (by omega);have bc:=Lib.half_mul_le (a:=x % 4294967296) (b:=y / 4294967296) (by omega) (by omega);have ba':x / 4294967296*(y / 4294967296)<18446744073709551616:=by omega
 have bb':x / 4294967296*(y % 4294967296)<18446744073709551616:=by omega
 have bc':x % 4294967296*(y / 4294967296)<18446744073709551616:=by omega
 have bh1:x / 4294967296*(y / 4294967296)+(x / 4294967296*(y % 4294967296)+x % 4294967296*(y % 4294967296) / 4294967296) / 4294967296<18446744073709551616:=by omega
 have bh:x / 4294967296*(y / 4294967296)+(x / 4294967296*(y % 4294967296)+x % 4294967296*(y % 4294967296) / 4294967296) / 4294967296+((x / 4294967296*(y % 4294967296)+x % 4294967296*(y % 4294967296) / 4294967296) % 4294967296+x % 4294967296*(y / 4294967296)) / 4294967296<18446744073709551616:=by omega
 go_enter Tryz.func210,Tryz.ntmps210
 go_wp2
 simp only [Mul64.maskN x hx,Mul64.maskN y hy,Mul64.divN,Mul64.mulN,Mul64.addN,Mul64.wrapN _ bd,Mul64.wrapN _ bb',Mul64.wrapN _ bt,Mul64.maskN _ bt,Mul64.wrapN _ bc',Mul64.wrapN _ bw,Mul64.wrapN _ ba',Mul64.wrapN _ bh1,Mul64.wrapN _ bh,Mul64.wrapM (x*y)];rw [hhi];go_ret2
 exact ⟨rfl,rfl⟩
theorem JC (a b c d:Int) (w:World) (ha:Zg a) (hb:Zg b) (hc:Zg c) (hd:Zg d) (hb0:0<b) (hd0:0<d) :
 Calls Tryz.prog 140 #[.int .i64 a,.int .i64 b,.int .i64 c,.int .i64 d] w λ e w'=>e=.returned (.int .i64 (J3 a b c d))/\w=w':=by
 have m1:=λ W=>Jb a W ha;have m2:=λ W=>Jb d W hd;have m3:=λ W=>Jb c W hc;have m4:=λ W=>Jb b W hb;have n1:=natAbs_le ha;have n2:=natAbs_le hb;have n3:=natAbs_le hc;have n4:=natAbs_le hd;have u1:=λ W=>mul64_c a.natAbs d.natAbs (by omega) (by omega) W;have u2:=λ W=>mul64_c c.natAbs b.natAbs (by omega) (by omega) W;have key:=λ hs=>Lib.hid (cmpF_halves hb0 hd0 (a.natAbs*d.natAbs) (c.natAbs*b.natAbs) rfl rfl hs);have k1:=λ h1 h2=>Lib.hid (cmpF_neg_pos (a:=a) (c:=c) hb0 hd0 h1 h2);have k2:=λ h1 h2=>Lib.hid (cmpF_pos_neg (a:=a) (c:=c) hb0 hd0 h1 h2);have K:=Lib.hid key;have K1:=Lib.hid k1;have K2:=Lib.hid k2;clear key k1 k2;generalize hX:a.natAbs*d.natAbs=X at *;generalize hY:c.natAbs*b.natAbs=Y at *;clear hX hY;by_cases a0:a<0
 ·by_cases c0:c<0
  ·have hk:=K.out (.inl ⟨a0,c0⟩);clear K K1 K2;go_enter Tryz.func140,Tryz.ntmps140
   go_wp2_with (first|(go_at_call 131;((with_reducible refine (m1 _).mono ?_);rintro e w' ⟨rfl,rfl⟩))|(go_at_call 131;((with_reducible refine (m2 _).mono ?_);rintro e w' ⟨rfl,rfl⟩))|(go_at_call 131;((with_reducible refine (m3 _).mono ?_);rintro e w' ⟨rfl,rfl⟩))|(go_at_call 131;((with_reducible refine (m4 _).mono ?_);rintro e w' ⟨rfl,rfl⟩))|(go_at_call 210;((with_reducible refine (u1 _).mono ?_);rintro e w' ⟨rfl,rfl⟩))|(go_at_call 210;((with_reducible refine (u2 _).mono ?_);rintro e w' ⟨rfl,rfl⟩)))
   all_goals
    go_ret
    refine ⟨Z4 ?_,rfl⟩;rw [hk.out,if_pos a0];split<;>(try split)<;>omega
  ·have hk:=K1.out a0 (by omega);clear K K1 K2;go_enter Tryz.func140,Tryz.ntmps140
   go_wp2
   go_ret
   exact ⟨Z4 hk.out.symm,rfl⟩
 ·by_cases c0:c<0
  ·have hk:=K2.out (by omega) c0;clear K K1 K2;go_enter Tryz.func140,Tryz.ntmps140
   go_wp2
   go_ret
   exact ⟨Z4 hk.out.symm,rfl⟩
  ·have hk:=K.out (.inr ⟨by omega,by omega⟩);clear K K1 K2;go_enter Tryz.func140,Tryz.ntmps140
   go_wp2_with (first|(go_at_call 131;((with_reducible refine (m1 _).mono ?_);rintro e w' ⟨rfl,rfl⟩))|(go_at_call 131;((with_reducible refine (m2 _).mono ?_);rintro e w' ⟨rfl,rfl⟩))|(go_at_call 131;((with_reducible refine (m3 _).mono ?_);rintro e w' ⟨rfl,rfl⟩))|(go_at_call 131;((with_reducible refine (m4 _).mono ?_);rintro e w' ⟨rfl,rfl⟩))|(go_at_call 210;((with_reducible refine (u1 _).mono ?_);rintro e w' ⟨rfl,rfl⟩))|(go_at_call 210;((with_reducible refine (u2 _).mono ?_);rintro e w' ⟨rfl,rfl⟩)))
   all_goals
    go_ret
    refine ⟨Z4 ?_,rfl⟩;rw [hk.out,if_neg (show ¬ a<0 by omega)];split<;>(try split)<;>omega
def XM (r s:Ya):Int:=if Xm r=true/\Xm s=true then J3 r.n r.d s.n s.d else 0
theorem ratioCmp_bd (r s:Ya) : -1<=XM r s/\XM r s<=1:=by
 unfold XM;split
 ·exact cmpF_bd _ _ _ _
 ·omega
theorem ratioOk_bd {r:Ya} (h:Xm r=true):(1<=r.d/\r.d<=1000000000000000)/\(-1000000000000000000<=r.n/\r.n<=1000000000000000000):=by
 have:=KI.1 h;exact ⟨this.1,this.2.1⟩
def YL (r s:Ya):Ya:=if Xm r=true/\Xm s=true then (if XM r s<=0 then r else s) else KB
def YM (r s:Ya):Ya:=if Xm r=true/\Xm s=true then (if 0<=XM r s then r else s) else KB
structure YY where
 low:Ya
 high:Ya
 deriving DecidableEq
abbrev Zk (w:YY):Value:=.agg #[.int .i64 w.low.n,.int .i64 w.low.d,.int .i64 w.high.n,.int .i64 w.high.d]
def YY.In (w:YY):Prop:=w.low.In/\w.high.In
def XO (w:YY):Bool:=Xm w.low&&Xm w.high&&decide (XM w.low w.high<=0)
def Xp:YY:=⟨KB,KB⟩
theorem floor_neg {n d:Int} (hn:n<0) (hd:0<d):n / d=if n.tmod d<0 then n.tdiv d-1 else n.tdiv d:=by
 obtain ⟨m,hm⟩:∃ m:Int,m = -n:=⟨_,rfl⟩;obtain rfl:n = -m:=by omega
 have h1:(-m).tdiv d = -(m / d):=by rw [Int.neg_tdiv,Int.tdiv_eq_ediv_of_nonneg (by omega)]
 have h2:(-m).tmod d = -(m % d):=by rw [Int.neg_tmod,Int.tmod_eq_emod_of_nonneg (by omega)]
 have h3:=Int.mul_ediv_add_emod m d;have h4:=Int.emod_nonneg m (show d≠0 by omega);have h5:=Int.emod_lt_of_pos m hd;rw [h1,h2];split
 ·refine ((Int.ediv_emod_unique (r:=d-m % d) hd).2 ⟨?_,by omega,by omega⟩).1;rw [Int.mul_sub,Int.mul_neg,Int.mul_one];omega
 ·refine ((Int.ediv_emod_unique (r:=0) hd).2 ⟨?_,by omega,by omega⟩).1;rw [Int.mul_neg];omega
theorem floor_pos {n d:Int} (hn:0<=n):n.tdiv d=n / d:=Int.tdiv_eq_ediv_of_nonneg hn
theorem floor_le {n d:Int} (hd:0<d) (B:Int) (h1 : -B<=n) (h2:n<=B) (hB:0<=B) : -B<=n / d/\n / d<=B:=by
 constructor
 ·rw [Int.le_ediv_iff_mul_le hd];have:B*1<=B*d:=Int.mul_le_mul_of_nonneg_left (by omega) hB;rw [Int.neg_mul];omega
 ·exact Int.ediv_le_of_le_mul hd (by have:B*1<=B*d:=Int.mul_le_mul_of_nonneg_left (by omega) hB;omega)
theorem tdiv_bd {n d:Int} (hn:n<0) (hd:0<d):n<=n.tdiv d/\n.tdiv d<=0:=by
 obtain ⟨m,hm⟩:∃ m:Int,m = -n:=⟨_,rfl⟩;obtain rfl:n = -m:=by omega
 have h1:(-m).tdiv d = -(m / d):=by rw [Int.neg_tdiv,Int.tdiv_eq_ediv_of_nonneg (by omega)]
 have h2:0<=m / d:=Int.ediv_nonneg (by omega) (by omega);have h3:=(floor_le hd m (by omega) (Int.le_refl _) (by omega)).2;omega
theorem floorDiv_c (n d:Int) (w:World) (h1 : -9223372036854775807<=n) (h2:n<=9223372036854775807) (hd:0<d) (hd2:d<=9223372036854775807) :
 Calls Tryz.prog 202 #[.int .i64 n,.int .i64 d] w λ e w'=>e=.returned (.int .i64 (n / d))/\∃ k,w'=w.drewN k:=by
 have d0:((d:Int) == 0)=false:=by simp;omega
 have d1:((d:Int) != 0)=true:=by simp;omega
 have d2:((d:Int) == -1)=false:=by simp;omega
 by_cases hn:n<0
 ·have hf:=Lib.hid (floor_neg hn hd);obtain ⟨t1,t2⟩:=tdiv_bd hn hd;go_enter Tryz.func202,Tryz.ntmps202
  go_wp2
  all_goals
   go_ret
   refine ⟨Z4 ?_,0,rfl⟩;rw [hf.out];first|rw [if_pos (by assumption)]|rw [if_neg (by omega)]
 ·have hf:=Lib.hid (floor_pos (n:=n) (d:=d) (by omega));have m0:=Int.emod_nonneg n (show d≠0 by omega);have q0:0<=n / d:=Int.ediv_nonneg (by omega) (by omega);have q1:=(floor_le (n:=n) hd 9223372036854775807 (by omega) (by omega) (by omega)).2;go_enter Tryz.func202,Tryz.ntmps202
  go_wp2
  go_ret
  exact ⟨rfl,0,rfl⟩
theorem ZZ {n d:Int} (hn : -1000000000000000000<=n/\n<=1000000000000000000) (hd:1<=d/\d<=1000000000000000) :
 Xm (X6 n d)=true/\∃ k:Int,0<k/\n=k*(X6 n d).n/\d=k*(X6 n d).d:=by
 have hg:Xu [n,d]=Nat.gcd n.natAbs d.natAbs:=JW n d;have hpos:0<Xu [n,d]:=by rw [hg];exact Nat.gcd_pos_of_pos_right _ (by omega)
 have h1:Xu [n,d] ∣ n.natAbs:=by rw [hg];exact Nat.gcd_dvd_left _ _
 have h2:Xu [n,d] ∣ d.natAbs:=by rw [hg];exact Nat.gcd_dvd_right _ _
 have e1:=Nat.mul_div_cancel' h1;have e2:=Nat.mul_div_cancel' h2;have l1:=Nat.div_le_self n.natAbs (Xu [n,d]);have l2:=Nat.div_le_self d.natAbs (Xu [n,d]);have hdef:X6 n d=if decide (n<0)=decide (d<0) then ⟨((n.natAbs / Xu [n,d]:Nat):Int),((d.natAbs / Xu [n,d]:Nat):Int)⟩ else ⟨-((n.natAbs / Xu [n,d]:Nat):Int),((d.natAbs / Xu [n,d]:Nat):Int)⟩:=by
  unfold X6;rw [if_neg (by rw [Ke (by omega),Ke (by omega)];simp;omega),if_neg (by omega)]
 have hd0:¬ d<0:=by omega
 have hne:X6 n d≠KB:=by
  intro e;have hq:d.natAbs / Xu [n,d]=0:=by
   rw [hdef] at e;have:(KB).d=0:=rfl;rw [<- e] at this;split at this<;>simp only at this<;>omega
  rw [hq] at e2;omega
 refine ⟨ratioOf_ok.2 hne,(Xu [n,d]:Int),by omega, ?_, ?_⟩
 ·rw [hdef];have e1':((Xu [n,d]:Nat):Int)*((n.natAbs / Xu [n,d]:Nat):Int)=(n.natAbs:Int):=by rw [<- Int.natCast_mul,e1]
  split
  ·rename_i h;simp [hd0] at h;simp only;rw [e1'];omega
  ·rename_i h;simp [hd0] at h;simp only;rw [Int.mul_neg,e1'];omega
 ·have e2':((Xu [n,d]:Nat):Int)*((d.natAbs / Xu [n,d]:Nat):Int)=(d.natAbs:Int):=by rw [<- Int.natCast_mul,e2]
  rw [hdef];split<;>(simp only;rw [e2'];omega)
theorem ratioMin_ok {r s:Ya} (hr:Xm r=true) (hs:Xm s=true):Xm (YL r s)=true:=by
 unfold YL;rw [if_pos ⟨hr,hs⟩];split<;>assumption
theorem ratioMax_ok {r s:Ya} (hr:Xm r=true) (hs:Xm s=true):Xm (YM r s)=true:=by
 unfold YM;rw [if_pos ⟨hr,hs⟩];split<;>assumption
theorem KJ (r s:Ya) (w:World) (hr:r.In) (hs:s.In) :
 Calls Tryz.prog 54 #[Yc r,Yc s] w λ e w'=>e=.returned (.int .i64 (XM r s))/\Below w.heap.size w w':=by
 have c0:=λ W=>Kl r W hr;have c1:=λ W=>Kl s W hs;cases e0:Xm r
 ·rw [e0] at c0;go_enter Tryz.func54,Tryz.ntmps54
  go_wp2_with (fail)
  refine (c0 _).mono ?_;rintro e w0 ⟨rfl,hb0⟩;have r0:=XI hb0;have l0_0:w.heap.size<w0.heap.size:=XT hb0;have l0_1:w.heap.size+1<w0.heap.size:=XT hb0;go_wp2
  go_ret
  refine ⟨Z4 (by simp [XM,e0]), ?_⟩;exact XF
 ·rw [e0] at c0;cases e1:Xm s
  ·rw [e1] at c1;go_enter Tryz.func54,Tryz.ntmps54
   go_wp2_with (fail)
   refine (c0 _).mono ?_;rintro e w0 ⟨rfl,hb0⟩;have r0:=XI hb0;have l0_0:w.heap.size<w0.heap.size:=XT hb0;have l0_1:w.heap.size+1<w0.heap.size:=XT hb0;go_wp2_with (fail)
   refine (c1 _).mono ?_;rintro e w1 ⟨rfl,hb1⟩;have r1:=XI hb1;have l1_0:w.heap.size<w1.heap.size:=XT hb1;have l1_1:w.heap.size+1<w1.heap.size:=XT hb1;go_wp2
   go_ret
   refine ⟨Z4 (by simp [XM,e1]), ?_⟩;exact XF
  ·rw [e1] at c1;have hv:=Lib.hid (show XM r s=J3 r.n r.d s.n s.d by simp [XM,e0,e1]);have c2:=λ W=>JC r.n r.d s.n s.d W hr.1 hr.2 hs.1 hs.2 (by have:=ratioOk_bd e0;omega) (by have:=ratioOk_bd e1;omega);go_enter Tryz.func54,Tryz.ntmps54
   go_wp2_with (fail)
   refine (c0 _).mono ?_;rintro e w0 ⟨rfl,hb0⟩;have r0:=XI hb0;have l0_0:w.heap.size<w0.heap.size:=XT hb0;have l0_1:w.heap.size+1<w0.heap.size:=XT hb0;go_wp2_with (fail)
   refine (c1 _).mono ?_;rintro e w1 ⟨rfl,hb1⟩;have r1:=XI hb1;have l1_0:w.heap.size<w1.heap.size:=XT hb1;have l1_1:w.heap.size+1<w1.heap.size:=XT hb1;go_wp2_with (fail)
   refine (c2 _).mono ?_;rintro e w' ⟨rfl,rfl⟩;go_wp2
   go_ret
   refine ⟨Z4 hv.out.symm, ?_⟩;exact XF
theorem iRatioMin_c (r s:Ya) (w:World) (hr:r.In) (hs:s.In) :
 Calls Tryz.prog 193 #[Yc r,Yc s] w λ e w'=>e=.returned (Yc (YL r s))/\Below w.heap.size w w':=by
 have c0:=λ W=>Kl r W hr;have c1:=λ W=>Kl s W hs;have c2:=λ W=>KJ r s W hr hs;cases e0:Xm r
 ·rw [e0] at c0;have hv:=Lib.hid (show YL r s=KB by simp [YL,e0]);go_enter Tryz.func193,Tryz.ntmps193
  go_wp2_with (fail)
  refine (c0 _).mono ?_;rintro e w0 ⟨rfl,hb0⟩;have r0:=XI hb0;have l0_0:w.heap.size<w0.heap.size:=XT hb0;have l0_1:w.heap.size+1<w0.heap.size:=XT hb0;have l0_2:w.heap.size+1+1<w0.heap.size:=XT hb0;have H:Yi w0 (w.heap.size+1+1) [.int .i64 0,.int .i64 0]:=by
   exact ZC
  obtain ⟨cH_0,fH_0⟩:=H.2 0 _ rfl;obtain ⟨cH_1,fH_1⟩:=H.2 1 _ rfl;go_wp2
  refine bodyPost_ret (v:=.agg #[.int .i64 0,.int .i64 0]) (by simp [results,Tryz.results193,go_sem,cH_0,cH_1]) rfl ⟨by rw [hv.out];rfl, ?_⟩;exact XF
 ·rw [e0] at c0;cases e1:Xm s
  ·rw [e1] at c1;have hv:=Lib.hid (show YL r s=KB by simp [YL,e1]);go_enter Tryz.func193,Tryz.ntmps193
   go_wp2_with (fail)
   refine (c0 _).mono ?_;rintro e w0 ⟨rfl,hb0⟩;have r0:=XI hb0;have l0_0:w.heap.size<w0.heap.size:=XT hb0;have l0_1:w.heap.size+1<w0.heap.size:=XT hb0;have l0_2:w.heap.size+1+1<w0.heap.size:=XT hb0;go_wp2_with (fail)
   refine (c1 _).mono ?_;rintro e w1 ⟨rfl,hb1⟩;have r1:=XI hb1;have l1_0:w.heap.size<w1.heap.size:=XT hb1;have l1_1:w.heap.size+1<w1.heap.size:=XT hb1;have l1_2:w.heap.size+1+1<w1.heap.size:=XT hb1;have H:Yi w1 (w.heap.size+1+1) [.int .i64 0,.int .i64 0]:=by
    exact ZC
   obtain ⟨cH_0,fH_0⟩:=H.2 0 _ rfl;obtain ⟨cH_1,fH_1⟩:=H.2 1 _ rfl;go_wp2
   refine bodyPost_ret (v:=.agg #[.int .i64 0,.int .i64 0]) (by simp [results,Tryz.results193,go_sem,cH_0,cH_1]) rfl ⟨by rw [hv.out];rfl, ?_⟩;exact XF
  ·rw [e1] at c1;have bd:=ratioCmp_bd r s;cases e2:decide (XM r s<=0)
   ·have hv:=Lib.hid (show YL r s=s by simp only [decide_eq_false_iff_not] at e2;simp [YL,e0,e1,e2]);simp only [decide_eq_false_iff_not] at e2;clear e0 e1;generalize XM r s=q at *;go_enter Tryz.func193,Tryz.ntmps193
    go_wp2_with (fail)
    refine (c0 _).mono ?_;rintro e w0 ⟨rfl,hb0⟩;have r0:=XI hb0;have l0_0:w.heap.size<w0.heap.size:=XT hb0;have l0_1:w.heap.size+1<w0.heap.size:=XT hb0;have l0_2:w.heap.size+1+1<w0.heap.size:=XT hb0;go_wp2_with (fail)
    refine (c1 _).mono ?_;rintro e w1 ⟨rfl,hb1⟩;have r1:=XI hb1;have l1_0:w.heap.size<w1.heap.size:=XT hb1;have l1_1:w.heap.size+1<w1.heap.size:=XT hb1;have l1_2:w.heap.size+1+1<w1.heap.size:=XT hb1;go_wp2_with (fail)
    refine (c2 _).mono ?_;rintro e w2 ⟨rfl,hb2⟩;have r2:=XI hb2;have l2_0:w.heap.size<w2.heap.size:=XT hb2;have l2_1:w.heap.size+1<w2.heap.size:=XT hb2;have l2_2:w.heap.size+1+1<w2.heap.size:=XT hb2;have H:Yi w2 (w.heap.size+1+1) [.int .i64 0,.int .i64 0]:=by
     exact ZC
    obtain ⟨cH_0,fH_0⟩:=H.2 0 _ rfl;obtain ⟨cH_1,fH_1⟩:=H.2 1 _ rfl;go_wp2
    refine bodyPost_ret (v:=.agg #[.int .i64 s.n,.int .i64 s.d]) (by simp [results,Tryz.results193,go_sem,cH_0,cH_1]) rfl ⟨by rw [hv.out], ?_⟩;exact XF
   ·have hv:=Lib.hid (show YL r s=r by simp only [decide_eq_true_eq] at e2;simp [YL,e0,e1,e2]);simp only [decide_eq_true_eq] at e2;clear e0 e1;generalize XM r s=q at *;go_enter Tryz.func193,Tryz.ntmps193
    go_wp2_with (fail)
    refine (c0 _).mono ?_;rintro e w0 ⟨rfl,hb0⟩;have r0:=XI hb0;have l0_0:w.heap.size<w0.heap.size:=XT hb0;have l0_1:w.heap.size+1<w0.heap.size:=XT hb0;have l0_2:w.heap.size+1+1<w0.heap.size:=XT hb0;go_wp2_with (fail)
    refine (c1 _).mono ?_;rintro e w1 ⟨rfl,hb1⟩;have r1:=XI hb1;have l1_0:w.heap.size<w1.heap.size:=XT hb1;have l1_1:w.heap.size+1<w1.heap.size:=XT hb1;have l1_2:w.heap.size+1+1<w1.heap.size:=XT hb1;go_wp2_with (fail)
    refine (c2 _).mono ?_;rintro e w2 ⟨rfl,hb2⟩;have r2:=XI hb2;have l2_0:w.heap.size<w2.heap.size:=XT hb2;have l2_1:w.heap.size+1<w2.heap.size:=XT hb2;have l2_2:w.heap.size+1+1<w2.heap.size:=XT hb2;have H:Yi w2 (w.heap.size+1+1) [.int .i64 0,.int .i64 0]:=by
     exact ZC
    obtain ⟨cH_0,fH_0⟩:=H.2 0 _ rfl;obtain ⟨cH_1,fH_1⟩:=H.2 1 _ rfl;go_wp2
    refine bodyPost_ret (v:=.agg #[.int .i64 r.n,.int .i64 r.d]) (by simp [results,Tryz.results193,go_sem,cH_0,cH_1]) rfl ⟨by rw [hv.out], ?_⟩;exact XF
theorem iRatioMax_c (r s:Ya) (w:World) (hr:r.In) (hs:s.In) :
 Calls Tryz.prog 194 #[Yc r,Yc s] w λ e w'=>e=.returned (Yc (YM r s))/\Below w.heap.size w w':=by
 have c0:=λ W=>Kl r W hr;have c1:=λ W=>Kl s W hs;have c2:=λ W=>KJ r s W hr hs;cases e0:Xm r
 ·rw [e0] at c0;have hv:=Lib.hid (show YM r s=KB by simp [YM,e0]);go_enter Tryz.func194,Tryz.ntmps194
  go_wp2_with (fail)
  refine (c0 _).mono ?_;rintro e w0 ⟨rfl,hb0⟩;have r0:=XI hb0;have l0_0:w.heap.size<w0.heap.size:=XT hb0;have l0_1:w.heap.size+1<w0.heap.size:=XT hb0;have l0_2:w.heap.size+1+1<w0.heap.size:=XT hb0;have H:Yi w0 (w.heap.size+1+1) [.int .i64 0,.int .i64 0]:=by
   exact ZC
  obtain ⟨cH_0,fH_0⟩:=H.2 0 _ rfl;obtain ⟨cH_1,fH_1⟩:=H.2 1 _ rfl;go_wp2
  refine bodyPost_ret (v:=.agg #[.int .i64 0,.int .i64 0]) (by simp [results,Tryz.results194,go_sem,cH_0,cH_1]) rfl ⟨by rw [hv.out];rfl, ?_⟩;exact XF
 ·rw [e0] at c0;cases e1:Xm s
  ·rw [e1] at c1;have hv:=Lib.hid (show YM r s=KB by simp [YM,e1]);go_enter Tryz.func194,Tryz.ntmps194
   go_wp2_with (fail)
   refine (c0 _).mono ?_;rintro e w0 ⟨rfl,hb0⟩;have r0:=XI hb0;have l0_0:w.heap.size<w0.heap.size:=XT hb0;have l0_1:w.heap.size+1<w0.heap.size:=XT hb0;have l0_2:w.heap.size+1+1<w0.heap.size:=XT hb0;go_wp2_with (fail)
   refine (c1 _).mono ?_;rintro e w1 ⟨rfl,hb1⟩;have r1:=XI hb1;have l1_0:w.heap.size<w1.heap.size:=XT hb1;have l1_1:w.heap.size+1<w1.heap.size:=XT hb1;have l1_2:w.heap.size+1+1<w1.heap.size:=XT hb1;have H:Yi w1 (w.heap.size+1+1) [.int .i64 0,.int .i64 0]:=by
    exact ZC
   obtain ⟨cH_0,fH_0⟩:=H.2 0 _ rfl;obtain ⟨cH_1,fH_1⟩:=H.2 1 _ rfl;go_wp2
   refine bodyPost_ret (v:=.agg #[.int .i64 0,.int .i64 0]) (by simp [results,Tryz.results194,go_sem,cH_0,cH_1]) rfl ⟨by rw [hv.out];rfl, ?_⟩;exact XF
  ·rw [e1] at c1;have bd:=ratioCmp_bd r s;cases e2:decide (0<=XM r s)
   ·have hv:=Lib.hid (show YM r s=s by simp only [decide_eq_false_iff_not] at e2;simp [YM,e0,e1,e2]);simp only [decide_eq_false_iff_not] at e2;clear e0 e1;generalize XM r s=q at *;go_enter Tryz.func194,Tryz.ntmps194
    go_wp2_with (fail)
    refine (c0 _).mono ?_;rintro e w0 ⟨rfl,hb0⟩;have r0:=XI hb0;have l0_0:w.heap.size<w0.heap.size:=XT hb0;have l0_1:w.heap.size+1<w0.heap.size:=XT hb0;have l0_2:w.heap.size+1+1<w0.heap.size:=XT hb0;go_wp2_with (fail)
    refine (c1 _).mono ?_;rintro e w1 ⟨rfl,hb1⟩;have r1:=XI hb1;have l1_0:w.heap.size<w1.heap.size:=XT hb1;have l1_1:w.heap.size+1<w1.heap.size:=XT hb1;have l1_2:w.heap.size+1+1<w1.heap.size:=XT hb1;go_wp2_with (fail)
    refine (c2 _).mono ?_;rintro e w2 ⟨rfl,hb2⟩;have r2:=XI hb2;have l2_0:w.heap.size<w2.heap.size:=XT hb2;have l2_1:w.heap.size+1<w2.heap.size:=XT hb2;have l2_2:w.heap.size+1+1<w2.heap.size:=XT hb2;have H:Yi w2 (w.heap.size+1+1) [.int .i64 0,.int .i64 0]:=by
     exact ZC
    obtain ⟨cH_0,fH_0⟩:=H.2 0 _ rfl;obtain ⟨cH_1,fH_1⟩:=H.2 1 _ rfl;go_wp2
    refine bodyPost_ret (v:=.agg #[.int .i64 s.n,.int .i64 s.d]) (by simp [results,Tryz.results194,go_sem,cH_0,cH_1]) rfl ⟨by rw [hv.out], ?_⟩;exact XF
   ·have hv:=Lib.hid (show YM r s=r by simp only [decide_eq_true_eq] at e2;simp [YM,e0,e1,e2]);simp only [decide_eq_true_eq] at e2;clear e0 e1;generalize XM r s=q at *;go_enter Tryz.func194,Tryz.ntmps194
    go_wp2_with (fail)
    refine (c0 _).mono ?_;rintro e w0 ⟨rfl,hb0⟩;have r0:=XI hb0;have l0_0:w.heap.size<w0.heap.size:=XT hb0;have l0_1:w.heap.size+1<w0.heap.size:=XT hb0;have l0_2:w.heap.size+1+1<w0.heap.size:=XT hb0;go_wp2_with (fail)
    refine (c1 _).mono ?_;rintro e w1 ⟨rfl,hb1⟩;have r1:=XI hb1;have l1_0:w.heap.size<w1.heap.size:=XT hb1;have l1_1:w.heap.size+1<w1.heap.size:=XT hb1;have l1_2:w.heap.size+1+1<w1.heap.size:=XT hb1;go_wp2_with (fail)
    refine (c2 _).mono ?_;rintro e w2 ⟨rfl,hb2⟩;have r2:=XI hb2;have l2_0:w.heap.size<w2.heap.size:=XT hb2;have l2_1:w.heap.size+1<w2.heap.size:=XT hb2;have l2_2:w.heap.size+1+1<w2.heap.size:=XT hb2;have H:Yi w2 (w.heap.size+1+1) [.int .i64 0,.int .i64 0]:=by
     exact ZC
    obtain ⟨cH_0,fH_0⟩:=H.2 0 _ rfl;obtain ⟨cH_1,fH_1⟩:=H.2 1 _ rfl;go_wp2
    refine bodyPost_ret (v:=.agg #[.int .i64 r.n,.int .i64 r.d]) (by simp [results,Tryz.results194,go_sem,cH_0,cH_1]) rfl ⟨by rw [hv.out], ?_⟩;exact XF
theorem iSpanOk_c (x:YY) (w:World) (hx:x.In) :
 Calls Tryz.prog 111 #[Zk x] w λ e w'=>e=.returned (.bool (XO x))/\Below w.heap.size w w':=by
 have c0:=λ W=>Kl x.low W hx.1;have c1:=λ W=>Kl x.high W hx.2;have c2:=λ W=>KJ x.low x.high W hx.1 hx.2;cases e0:Xm x.low
 ·rw [e0] at c0;have hv:=Lib.hid (show XO x=false by simp [XO,e0]);go_enter Tryz.func111,Tryz.ntmps111
  go_wp2_with (fail)
  refine (c0 _).mono ?_;rintro e w0 ⟨rfl,hb0⟩;have r0:=XI hb0;have l0_0:w.heap.size<w0.heap.size:=XT hb0;go_wp2
  go_ret
  refine ⟨?_, ?_⟩
  ·first
   | exact Xo hv.out.symm
   | exact Xo (by rw [hv.out];simp;omega)
  ·exact XF
 ·rw [e0] at c0;cases e1:Xm x.high
  ·rw [e1] at c1;have hv:=Lib.hid (show XO x=false by simp [XO,e1]);go_enter Tryz.func111,Tryz.ntmps111
   go_wp2_with (fail)
   refine (c0 _).mono ?_;rintro e w0 ⟨rfl,hb0⟩;have r0:=XI hb0;have l0_0:w.heap.size<w0.heap.size:=XT hb0;go_wp2_with (fail)
   refine (c1 _).mono ?_;rintro e w1 ⟨rfl,hb1⟩;have r1:=XI hb1;have l1_0:w.heap.size<w1.heap.size:=XT hb1;go_wp2
   go_ret
   refine ⟨?_, ?_⟩
   ·first
    | exact Xo hv.out.symm
    | exact Xo (by rw [hv.out];simp;omega)
   ·exact XF
  ·rw [e1] at c1;cases e2:decide (XM x.low x.high<=0)
   ·have hv:=Lib.hid (show XO x=false by simp only [XO,e0,e1,e2];rfl);simp only [decide_eq_false_iff_not] at e2;have bd:=ratioCmp_bd x.low x.high;generalize XM x.low x.high=q at *;go_enter Tryz.func111,Tryz.ntmps111
    go_wp2_with (fail)
    refine (c0 _).mono ?_;rintro e w0 ⟨rfl,hb0⟩;have r0:=XI hb0;have l0_0:w.heap.size<w0.heap.size:=XT hb0;go_wp2_with (fail)
    refine (c1 _).mono ?_;rintro e w1 ⟨rfl,hb1⟩;have r1:=XI hb1;have l1_0:w.heap.size<w1.heap.size:=XT hb1;go_wp2_with (fail)
    refine (c2 _).mono ?_;rintro e w2 ⟨rfl,hb2⟩;have r2:=XI hb2;have l2_0:w.heap.size<w2.heap.size:=XT hb2;go_wp2
    go_ret
    refine ⟨?_, ?_⟩
    ·first
     | exact Xo hv.out.symm
     | exact Xo (by rw [hv.out];simp;omega)
    ·exact XF
   ·have hv:=Lib.hid (show XO x=true by simp only [XO,e0,e1,e2];rfl);simp only [decide_eq_true_eq] at e2;have bd:=ratioCmp_bd x.low x.high;generalize XM x.low x.high=q at *;go_enter Tryz.func111,Tryz.ntmps111
    go_wp2_with (fail)
    refine (c0 _).mono ?_;rintro e w0 ⟨rfl,hb0⟩;have r0:=XI hb0;have l0_0:w.heap.size<w0.heap.size:=XT hb0;go_wp2_with (fail)
    refine (c1 _).mono ?_;rintro e w1 ⟨rfl,hb1⟩;have r1:=XI hb1;have l1_0:w.heap.size<w1.heap.size:=XT hb1;go_wp2_with (fail)
    refine (c2 _).mono ?_;rintro e w2 ⟨rfl,hb2⟩;have r2:=XI hb2;have l2_0:w.heap.size<w2.heap.size:=XT hb2;go_wp2
    go_ret
    refine ⟨?_, ?_⟩
    ·first
     | exact Xo hv.out.symm
     | exact Xo (by rw [hv.out];simp;omega)
    ·exact XF
end Go.Proofs.YtabfdkpdppemaaaGreat
