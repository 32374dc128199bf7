/-
 How fractions are compared: of the program (products of 128 bits) and of the reference (continued remainders); the lesser and the greater one; spans.
 Conditions: the numbers are ints of the machine.
-/
import Derived.Shelf.Bits.Mul64
import Derived.Test.YtabfdkpdppemaaaGreatGrD
set_option maxHeartbeats 2000000
set_option maxRecDepth 100000
namespace Go.Proofs.YtabfdkpdppemaaaGreat
open Go.RowKit
def sgn (x:Int):Int:=if x<0 then -1 else if 0<x then 1 else 0
theorem sgn_bd (x:Int) : -1<=sgn x/\sgn x<=1:=by unfold sgn;split<;>(try split)<;>omega
theorem sgn_of_neg {x:Int} (h:x<0):sgn x = -1:=by unfold sgn;rw [if_pos h]
theorem sgn_of_pos {x:Int} (h:0<x):sgn x=1:=by unfold sgn;rw [if_neg (by omega),if_pos h]
theorem sgn_zero:sgn 0=0:=rfl
def cmpF (a b c d:Int):Int:=sgn (a*d-c*b)
theorem cmpF_bd (a b c d:Int) : -1<=cmpF a b c d/\cmpF a b c d<=1:=sgn_bd _
theorem cmpF_neg_pos {a b c d:Int} (hb:0<b) (hd:0<d) (ha:a<0) (hc:0<=c):cmpF a b c d = -1:=by
 apply sgn_of_neg;have h1:a*d<0:=Int.mul_neg_of_neg_of_pos ha hd;have h2:0<=c*b:=Int.mul_nonneg hc (by omega);omega
theorem cmpF_pos_neg {a b c d:Int} (hb:0<b) (hd:0<d) (ha:0<=a) (hc:c<0):cmpF a b c d=1:=by
 apply sgn_of_pos;have h1:c*b<0:=Int.mul_neg_of_neg_of_pos hc hb;have h2:0<=a*d:=Int.mul_nonneg ha (by omega);omega
theorem absmul {a d:Int} (hd:0<d):((a.natAbs*d.natAbs:Nat):Int)=if a<0 then -(a*d) else a*d:=by
 rw [Int.natCast_mul];have e:(d.natAbs:Int)=d:=by omega
 rw [e];split
 ·have:(a.natAbs:Int) = -a:=by omega
  rw [this,Int.neg_mul]
 ·have:(a.natAbs:Int)=a:=by omega
  rw [this]
theorem cmpF_halves {a b c d:Int} (hb:0<b) (hd:0<d) (X Y:Nat) (hX:X=a.natAbs*d.natAbs) (hY:Y=c.natAbs*b.natAbs) (hs:(a<0/\c<0)∨(0<=a/\0<=c)) :
 cmpF a b c d=if a<0 then -(if Y<X then 1 else if X<Y then -1 else 0) else (if Y<X then 1 else if X<Y then -1 else 0):=by
 have h1:=absmul (a:=a) hd;have h2:=absmul (a:=c) hb;rw [<- hX] at h1;rw [<- hY] at h2;unfold cmpF sgn;generalize a*d=p at *;generalize c*b=q at *;rcases hs with ⟨ha,hc⟩|⟨ha,hc⟩
 ·rw [if_pos ha] at h1 ⊢;rw [if_pos hc] at h2;split<;>split<;>(try split)<;>(try split)<;>omega
 ·rw [if_neg (show ¬ a<0 by omega)] at h1 ⊢;rw [if_neg (show ¬ c<0 by omega)] at h2;split<;>split<;>(try split)<;>(try split)<;>omega
theorem mul64_c (x y:Nat) (hx:x<18446744073709551616) (hy:y<18446744073709551616) (w:World) :
 Calls Tryz.prog 210 #[.int .u64 x,.int .u64 y] w λ e w'=>e=.returned (.tuple #[.int .u64 ((x*y / 18446744073709551616:Nat):Int),.int .u64 ((x*y % 18446744073709551616:Nat):Int)])/\w=w':=by
 obtain ⟨bd,bt,bw,hhi⟩:=Lib.mul64_hi x y hx hy;have ba:=Lib.half_mul_le (a:=x / 4294967296) (b:=y / 4294967296) (by omega) (by omega);have bb:=Lib.half_mul_le (a:=x / 4294967296) (b:=y % 4294967296) (by omega) (by omega);have bc:=Lib.half_mul_le (a:=x % 4294967296) (b:=y / 4294967296) (by omega) (by omega);have ba':x / 4294967296*(y / 4294967296)<18446744073709551616:=by omega
 have bb':x / 4294967296*(y % 4294967296)<18446744073709551616:=by omega
 have bc':x % 4294967296*(y / 4294967296)<18446744073709551616:=by omega
 have bh1:x / 4294967296*(y / 4294967296)+(x / 4294967296*(y % 4294967296)+x % 4294967296*(y % 4294967296) / 4294967296) / 4294967296<18446744073709551616:=by omega
 have bh:x / 4294967296*(y / 4294967296)+(x / 4294967296*(y % 4294967296)+x % 4294967296*(y % 4294967296) / 4294967296) / 4294967296+((x / 4294967296*(y % 4294967296)+x % 4294967296*(y % 4294967296) / 4294967296) % 4294967296+x % 4294967296*(y / 4294967296)) / 4294967296<18446744073709551616:=by omega
 go_enter Tryz.func210,Tryz.ntmps210
 go_wp2
 simp only [Mul64.maskN x hx,Mul64.maskN y hy,Mul64.divN,Mul64.mulN,Mul64.addN,Mul64.wrapN _ bd,Mul64.wrapN _ bb',Mul64.wrapN _ bt,Mul64.maskN _ bt,Mul64.wrapN _ bc',Mul64.wrapN _ bw,Mul64.wrapN _ ba',Mul64.wrapN _ bh1,Mul64.wrapN _ bh,Mul64.wrapM (x*y)];rw [hhi];go_ret2
 exact ⟨rfl,rfl⟩
theorem JT (a b c d:Int) (w:World) (ha:Zi a) (hb:Zi b) (hc:Zi c) (hd:Zi d) (hb0:0<b) (hd0:0<d) :
 Calls Tryz.prog 140 #[.int .i64 a,.int .i64 b,.int .i64 c,.int .i64 d] w λ e w'=>e=.returned (.int .i64 (cmpF a b c d))/\w=w':=by
 have m1:=λ W=>Jm a W ha;have m2:=λ W=>Jm d W hd;have m3:=λ W=>Jm c W hc;have m4:=λ W=>Jm b W hb;have n1:=natAbs_le ha;have n2:=natAbs_le hb;have n3:=natAbs_le hc;have n4:=natAbs_le hd;have u1:=λ W=>mul64_c a.natAbs d.natAbs (by omega) (by omega) W;have u2:=λ W=>mul64_c c.natAbs b.natAbs (by omega) (by omega) W;have key:=λ hs=>Lib.hid (cmpF_halves hb0 hd0 (a.natAbs*d.natAbs) (c.natAbs*b.natAbs) rfl rfl hs);have k1:=λ h1 h2=>Lib.hid (cmpF_neg_pos (a:=a) (c:=c) hb0 hd0 h1 h2);have k2:=λ h1 h2=>Lib.hid (cmpF_pos_neg (a:=a) (c:=c) hb0 hd0 h1 h2);have K:=Lib.hid key;have K1:=Lib.hid k1;have K2:=Lib.hid k2;clear key k1 k2;generalize hX:a.natAbs*d.natAbs=X at *;generalize hY:c.natAbs*b.natAbs=Y at *;clear hX hY;by_cases a0:a<0
 ·by_cases c0:c<0
  ·have hk:=K.out (.inl ⟨a0,c0⟩);clear K K1 K2;go_enter Tryz.func140,Tryz.ntmps140
   go_wp2_with (first|(go_at_call 131;((with_reducible refine (m1 _).mono ?_);rintro e w' ⟨rfl,rfl⟩))|(go_at_call 131;((with_reducible refine (m2 _).mono ?_);rintro e w' ⟨rfl,rfl⟩))|(go_at_call 131;((with_reducible refine (m3 _).mono ?_);rintro e w' ⟨rfl,rfl⟩))|(go_at_call 131;((with_reducible refine (m4 _).mono ?_);rintro e w' ⟨rfl,rfl⟩))|(go_at_call 210;((with_reducible refine (u1 _).mono ?_);rintro e w' ⟨rfl,rfl⟩))|(go_at_call 210;((with_reducible refine (u2 _).mono ?_);rintro e w' ⟨rfl,rfl⟩)))
   all_goals
    go_ret
    refine ⟨Zr ?_,rfl⟩;rw [hk.out,if_pos a0];split<;>(try split)<;>omega
  ·have hk:=K1.out a0 (by omega);clear K K1 K2;go_enter Tryz.func140,Tryz.ntmps140
   go_wp2
   go_ret
   exact ⟨Zr hk.out.symm,rfl⟩
 ·by_cases c0:c<0
  ·have hk:=K2.out (by omega) c0;clear K K1 K2;go_enter Tryz.func140,Tryz.ntmps140
   go_wp2
   go_ret
   exact ⟨Zr hk.out.symm,rfl⟩
  ·have hk:=K.out (.inr ⟨by omega,by omega⟩);clear K K1 K2;go_enter Tryz.func140,Tryz.ntmps140
   go_wp2_with (first|(go_at_call 131;((with_reducible refine (m1 _).mono ?_);rintro e w' ⟨rfl,rfl⟩))|(go_at_call 131;((with_reducible refine (m2 _).mono ?_);rintro e w' ⟨rfl,rfl⟩))|(go_at_call 131;((with_reducible refine (m3 _).mono ?_);rintro e w' ⟨rfl,rfl⟩))|(go_at_call 131;((with_reducible refine (m4 _).mono ?_);rintro e w' ⟨rfl,rfl⟩))|(go_at_call 210;((with_reducible refine (u1 _).mono ?_);rintro e w' ⟨rfl,rfl⟩))|(go_at_call 210;((with_reducible refine (u2 _).mono ?_);rintro e w' ⟨rfl,rfl⟩)))
   all_goals
    go_ret
    refine ⟨Zr ?_,rfl⟩;rw [hk.out,if_neg (show ¬ a<0 by omega)];split<;>(try split)<;>omega
def Xu (r s:X5):Int:=if Xe r=true/\Xe s=true then cmpF r.n r.d s.n s.d else 0
theorem ratioCmp_bd (r s:X5) : -1<=Xu r s/\Xu r s<=1:=by
 unfold Xu;split
 ·exact cmpF_bd _ _ _ _
 ·omega
theorem ratioOk_bd {r:X5} (h:Xe r=true):(1<=r.d/\r.d<=1000000000000000)/\(-1000000000000000000<=r.n/\r.n<=1000000000000000000):=by
 have:=ZO.1 h;exact ⟨this.1,this.2.1⟩
def YL (r s:X5):X5:=if Xe r=true/\Xe s=true then (if Xu r s<=0 then r else s) else Y3
def YM (r s:X5):X5:=if Xe r=true/\Xe s=true then (if 0<=Xu r s then r else s) else Y3
structure Zg where
 low:X5
 high:X5
 deriving DecidableEq
abbrev Zm (w:Zg):Value:=.agg #[.int .i64 w.low.n,.int .i64 w.low.d,.int .i64 w.high.n,.int .i64 w.high.d]
def Zg.In (w:Zg):Prop:=w.low.In/\w.high.In
def X6 (w:Zg):Bool:=Xe w.low&&Xe w.high&&decide (Xu w.low w.high<=0)
def Xw:Zg:=⟨Y3,Y3⟩
theorem Ke {n d:Int} (hn : -1000000000000000000<=n/\n<=1000000000000000000) (hd:1<=d/\d<=1000000000000000) :
 Xe (X7 n d)=true/\∃ k:Int,0<k/\n=k*(X7 n d).n/\d=k*(X7 n d).d:=by
 have hg:Xl [n,d]=Nat.gcd n.natAbs d.natAbs:=Jb n d;have hpos:0<Xl [n,d]:=by rw [hg];exact Nat.gcd_pos_of_pos_right _ (by omega)
 have h1:Xl [n,d] ∣ n.natAbs:=by rw [hg];exact Nat.gcd_dvd_left _ _
 have h2:Xl [n,d] ∣ d.natAbs:=by rw [hg];exact Nat.gcd_dvd_right _ _
 have e1:=Nat.mul_div_cancel' h1;have e2:=Nat.mul_div_cancel' h2;have l1:=Nat.div_le_self n.natAbs (Xl [n,d]);have l2:=Nat.div_le_self d.natAbs (Xl [n,d]);have hdef:X7 n d=if decide (n<0)=decide (d<0) then ⟨((n.natAbs / Xl [n,d]:Nat):Int),((d.natAbs / Xl [n,d]:Nat):Int)⟩ else ⟨-((n.natAbs / Xl [n,d]:Nat):Int),((d.natAbs / Xl [n,d]:Nat):Int)⟩:=by
  unfold X7;rw [if_neg (by rw [Kt (by omega),Kt (by omega)];simp;omega),if_neg (by omega)]
 have hd0:¬ d<0:=by omega
 have hne:X7 n d≠Y3:=by
  intro e;have hq:d.natAbs / Xl [n,d]=0:=by
   rw [hdef] at e;have:(Y3).d=0:=rfl;rw [<- e] at this;split at this<;>simp only at this<;>omega
  rw [hq] at e2;omega
 refine ⟨ratioOf_ok.2 hne,(Xl [n,d]:Int),by omega, ?_, ?_⟩
 ·rw [hdef];have e1':((Xl [n,d]:Nat):Int)*((n.natAbs / Xl [n,d]:Nat):Int)=(n.natAbs:Int):=by rw [<- Int.natCast_mul,e1]
  split
  ·rename_i h;simp [hd0] at h;simp only;rw [e1'];omega
  ·rename_i h;simp [hd0] at h;simp only;rw [Int.mul_neg,e1'];omega
 ·have e2':((Xl [n,d]:Nat):Int)*((d.natAbs / Xl [n,d]:Nat):Int)=(d.natAbs:Int):=by rw [<- Int.natCast_mul,e2]
  rw [hdef];split<;>(simp only;rw [e2'];omega)
theorem ratioMin_ok {r s:X5} (hr:Xe r=true) (hs:Xe s=true):Xe (YL r s)=true:=by
 unfold YL;rw [if_pos ⟨hr,hs⟩];split<;>assumption
theorem ratioMax_ok {r s:X5} (hr:Xe r=true) (hs:Xe s=true):Xe (YM r s)=true:=by
 unfold YM;rw [if_pos ⟨hr,hs⟩];split<;>assumption
theorem Z8 (r s:X5) (w:World) (hr:r.In) (hs:s.In) :
 Calls Tryz.prog 54 #[XO r,XO s] w λ e w'=>e=.returned (.int .i64 (Xu r s))/\Below w.heap.size w w':=by
 have c0:=λ W=>Z3 r W hr;have c1:=λ W=>Z3 s W hs;cases e0:Xe r
 ·rw [e0] at c0;go_enter Tryz.func54,Tryz.ntmps54
  go_wp2_with (fail)
  refine (c0 _).mono ?_;rintro e w0 ⟨rfl,hb0⟩;have r0:=XD hb0;have l0_0:w.heap.size<w0.heap.size:=XL hb0;have l0_1:w.heap.size+1<w0.heap.size:=XL hb0;go_wp2
  go_ret
  refine ⟨Zr (by simp [Xu,e0]), ?_⟩;exact Xp
 ·rw [e0] at c0;cases e1:Xe s
  ·rw [e1] at c1;go_enter Tryz.func54,Tryz.ntmps54
   go_wp2_with (fail)
   refine (c0 _).mono ?_;rintro e w0 ⟨rfl,hb0⟩;have r0:=XD hb0;have l0_0:w.heap.size<w0.heap.size:=XL hb0;have l0_1:w.heap.size+1<w0.heap.size:=XL hb0;go_wp2_with (fail)
   refine (c1 _).mono ?_;rintro e w1 ⟨rfl,hb1⟩;have r1:=XD hb1;have l1_0:w.heap.size<w1.heap.size:=XL hb1;have l1_1:w.heap.size+1<w1.heap.size:=XL hb1;go_wp2
   go_ret
   refine ⟨Zr (by simp [Xu,e1]), ?_⟩;exact Xp
  ·rw [e1] at c1;have hv:=Lib.hid (show Xu r s=cmpF r.n r.d s.n s.d by simp [Xu,e0,e1]);have c2:=λ W=>JT r.n r.d s.n s.d W hr.1 hr.2 hs.1 hs.2 (by have:=ratioOk_bd e0;omega) (by have:=ratioOk_bd e1;omega);go_enter Tryz.func54,Tryz.ntmps54
   go_wp2_with (fail)
   refine (c0 _).mono ?_;rintro e w0 ⟨rfl,hb0⟩;have r0:=XD hb0;have l0_0:w.heap.size<w0.heap.size:=XL hb0;have l0_1:w.heap.size+1<w0.heap.size:=XL hb0;go_wp2_with (fail)
   refine (c1 _).mono ?_;rintro e w1 ⟨rfl,hb1⟩;have r1:=XD hb1;have l1_0:w.heap.size<w1.heap.size:=XL hb1;have l1_1:w.heap.size+1<w1.heap.size:=XL hb1;go_wp2_with (fail)
   refine (c2 _).mono ?_;rintro e w' ⟨rfl,rfl⟩;go_wp2
   go_ret
   refine ⟨Zr hv.out.symm, ?_⟩;exact Xp
theorem iRatioMin_c (r s:X5) (w:World) (hr:r.In) (hs:s.In) :
 Calls Tryz.prog 193 #[XO r,XO s] w λ e w'=>e=.returned (XO (YL r s))/\Below w.heap.size w w':=by
 have c0:=λ W=>Z3 r W hr;have c1:=λ W=>Z3 s W hs;have c2:=λ W=>Z8 r s W hr hs;cases e0:Xe r
 ·rw [e0] at c0;have hv:=Lib.hid (show YL r s=Y3 by simp [YL,e0]);go_enter Tryz.func193,Tryz.ntmps193
  go_wp2_with (fail)
  refine (c0 _).mono ?_;rintro e w0 ⟨rfl,hb0⟩;have r0:=XD hb0;have l0_0:w.heap.size<w0.heap.size:=XL hb0;have l0_1:w.heap.size+1<w0.heap.size:=XL hb0;have l0_2:w.heap.size+1+1<w0.heap.size:=XL hb0;have H:Yk w0 (w.heap.size+1+1) [.int .i64 0,.int .i64 0]:=by
   exact ZK
  obtain ⟨cH_0,fH_0⟩:=H.2 0 _ rfl;obtain ⟨cH_1,fH_1⟩:=H.2 1 _ rfl;go_wp2
  refine bodyPost_ret (v:=.agg #[.int .i64 0,.int .i64 0]) (by simp [results,Tryz.results193,go_sem,cH_0,cH_1]) rfl ⟨by rw [hv.out];rfl, ?_⟩;exact Xp
 ·rw [e0] at c0;cases e1:Xe s
  ·rw [e1] at c1;have hv:=Lib.hid (show YL r s=Y3 by simp [YL,e1]);go_enter Tryz.func193,Tryz.ntmps193
   go_wp2_with (fail)
   refine (c0 _).mono ?_;rintro e w0 ⟨rfl,hb0⟩;have r0:=XD hb0;have l0_0:w.heap.size<w0.heap.size:=XL hb0;have l0_1:w.heap.size+1<w0.heap.size:=XL hb0;have l0_2:w.heap.size+1+1<w0.heap.size:=XL hb0;go_wp2_with (fail)
   refine (c1 _).mono ?_;rintro e w1 ⟨rfl,hb1⟩;have r1:=XD hb1;have l1_0:w.heap.size<w1.heap.size:=XL hb1;have l1_1:w.heap.size+1<w1.heap.size:=XL hb1;have l1_2:w.heap.size+1+1<w1.heap.size:=XL hb1;have H:Yk w1 (w.heap.size+1+1) [.int .i64 0,.int .i64 0]:=by
    exact ZK
   obtain ⟨cH_0,fH_0⟩:=H.2 0 _ rfl;obtain ⟨cH_1,fH_1⟩:=H.2 1 _ rfl;go_wp2
   refine bodyPost_ret (v:=.agg #[.int .i64 0,.int .i64 0]) (by simp [results,Tryz.results193,go_sem,cH_0,cH_1]) rfl ⟨by rw [hv.out];rfl, ?_⟩;exact Xp
  ·rw [e1] at c1;have bd:=ratioCmp_bd r s;cases e2:decide (Xu r s<=0)
   ·have hv:=Lib.hid (show YL r s=s by simp only [decide_eq_false_iff_not] at e2;simp [YL,e0,e1,e2]);simp only [decide_eq_false_iff_not] at e2;clear e0 e1;generalize Xu r s=q at *;go_enter Tryz.func193,Tryz.ntmps193
    go_wp2_with (fail)
    refine (c0 _).mono ?_;rintro e w0 ⟨rfl,hb0⟩;have r0:=XD hb0;have l0_0:w.heap.size<w0.heap.size:=XL hb0;have l0_1:w.heap.size+1<w0.heap.size:=XL hb0;have l0_2:w.heap.size+1+1<w0.heap.size:=XL hb0;go_wp2_with (fail)
    refine (c1 _).mono ?_;rintro e w1 ⟨rfl,hb1⟩;have r1:=XD hb1;have l1_0:w.heap.size<w1.heap.size:=XL hb1;have l1_1:w.heap.size+1<w1.heap.size:=XL hb1;have l1_2:w.heap.size+1+1<w1.heap.size:=XL hb1;go_wp2_with (fail)
    refine (c2 _).mono ?_;rintro e w2 ⟨rfl,hb2⟩;have r2:=XD hb2;have l2_0:w.heap.size<w2.heap.size:=XL hb2;have l2_1:w.heap.size+1<w2.heap.size:=XL hb2;have l2_2:w.heap.size+1+1<w2.heap.size:=XL hb2;have H:Yk w2 (w.heap.size+1+1) [.int .i64 0,.int .i64 0]:=by
     exact ZK
    obtain ⟨cH_0,fH_0⟩:=H.2 0 _ rfl;obtain ⟨cH_1,fH_1⟩:=H.2 1 _ rfl;go_wp2
    refine bodyPost_ret (v:=.agg #[.int .i64 s.n,.int .i64 s.d]) (by simp [results,Tryz.results193,go_sem,cH_0,cH_1]) rfl ⟨by rw [hv.out], ?_⟩;exact Xp
   ·have hv:=Lib.hid (show YL r s=r by simp only [decide_eq_true_eq] at e2;simp [YL,e0,e1,e2]);simp only [decide_eq_true_eq] at e2;clear e0 e1;generalize Xu r s=q at *;go_enter Tryz.func193,Tryz.ntmps193
    go_wp2_with (fail)
    refine (c0 _).mono ?_;rintro e w0 ⟨rfl,hb0⟩;have r0:=XD hb0;have l0_0:w.heap.size<w0.heap.size:=XL hb0;have l0_1:w.heap.size+1<w0.heap.size:=XL hb0;have l0_2:w.heap.size+1+1<w0.heap.size:=XL hb0;go_wp2_with (fail)
    refine (c1 _).mono ?_;rintro e w1 ⟨rfl,hb1⟩;have r1:=XD hb1;have l1_0:w.heap.size<w1.heap.size:=XL hb1;have l1_1:w.heap.size+1<w1.heap.size:=XL hb1;have l1_2:w.heap.size+1+1<w1.heap.size:=XL hb1;go_wp2_with (fail)
    refine (c2 _).mono ?_;rintro e w2 ⟨rfl,hb2⟩;have r2:=XD hb2;have l2_0:w.heap.size<w2.heap.size:=XL hb2;have l2_1:w.heap.size+1<w2.heap.size:=XL hb2;have l2_2:w.heap.size+1+1<w2.heap.size:=XL hb2;have H:Yk w2 (w.heap.size+1+1) [.int .i64 0,.int .i64 0]:=by
     exact ZK
    obtain ⟨cH_0,fH_0⟩:=H.2 0 _ rfl;obtain ⟨cH_1,fH_1⟩:=H.2 1 _ rfl;go_wp2
    refine bodyPost_ret (v:=.agg #[.int .i64 r.n,.int .i64 r.d]) (by simp [results,Tryz.results193,go_sem,cH_0,cH_1]) rfl ⟨by rw [hv.out], ?_⟩;exact Xp
theorem iRatioMax_c (r s:X5) (w:World) (hr:r.In) (hs:s.In) :
 Calls Tryz.prog 194 #[XO r,XO s] w λ e w'=>e=.returned (XO (YM r s))/\Below w.heap.size w w':=by
 have c0:=λ W=>Z3 r W hr;have c1:=λ W=>Z3 s W hs;have c2:=λ W=>Z8 r s W hr hs;cases e0:Xe r
 ·rw [e0] at c0;have hv:=Lib.hid (show YM r s=Y3 by simp [YM,e0]);go_enter Tryz.func194,Tryz.ntmps194
  go_wp2_with (fail)
  refine (c0 _).mono ?_;rintro e w0 ⟨rfl,hb0⟩;have r0:=XD hb0;have l0_0:w.heap.size<w0.heap.size:=XL hb0;have l0_1:w.heap.size+1<w0.heap.size:=XL hb0;have l0_2:w.heap.size+1+1<w0.heap.size:=XL hb0;have H:Yk w0 (w.heap.size+1+1) [.int .i64 0,.int .i64 0]:=by
   exact ZK
  obtain ⟨cH_0,fH_0⟩:=H.2 0 _ rfl;obtain ⟨cH_1,fH_1⟩:=H.2 1 _ rfl;go_wp2
  refine bodyPost_ret (v:=.agg #[.int .i64 0,.int .i64 0]) (by simp [results,Tryz.results194,go_sem,cH_0,cH_1]) rfl ⟨by rw [hv.out];rfl, ?_⟩;exact Xp
 ·rw [e0] at c0;cases e1:Xe s
  ·rw [e1] at c1;have hv:=Lib.hid (show YM r s=Y3 by simp [YM,e1]);go_enter Tryz.func194,Tryz.ntmps194
   go_wp2_with (fail)
   refine (c0 _).mono ?_;rintro e w0 ⟨rfl,hb0⟩;have r0:=XD hb0;have l0_0:w.heap.size<w0.heap.size:=XL hb0;have l0_1:w.heap.size+1<w0.heap.size:=XL hb0;have l0_2:w.heap.size+1+1<w0.heap.size:=XL hb0;go_wp2_with (fail)
   refine (c1 _).mono ?_;rintro e w1 ⟨rfl,hb1⟩;have r1:=XD hb1;have l1_0:w.heap.size<w1.heap.size:=XL hb1;have l1_1:w.heap.size+1<w1.heap.size:=XL hb1;have l1_2:w.heap.size+1+1<w1.heap.size:=XL hb1;have H:Yk w1 (w.heap.size+1+1) [.int .i64 0,.int .i64 0]:=by
    exact ZK
   obtain ⟨cH_0,fH_0⟩:=H.2 0 _ rfl;obtain ⟨cH_1,fH_1⟩:=H.2 1 _ rfl;go_wp2
   refine bodyPost_ret (v:=.agg #[.int .i64 0,.int .i64 0]) (by simp [results,Tryz.results194,go_sem,cH_0,cH_1]) rfl ⟨by rw [hv.out];rfl, ?_⟩;exact Xp
  ·rw [e1] at c1;have bd:=ratioCmp_bd r s;cases e2:decide (0<=Xu r s)
   ·have hv:=Lib.hid (show YM r s=s by simp only [decide_eq_false_iff_not] at e2;simp [YM,e0,e1,e2]);simp only [decide_eq_false_iff_not] at e2;clear e0 e1;generalize Xu r s=q at *;go_enter Tryz.func194,Tryz.ntmps194
    go_wp2_with (fail)
    refine (c0 _).mono ?_;rintro e w0 ⟨rfl,hb0⟩;have r0:=XD hb0;have l0_0:w.heap.size<w0.heap.size:=XL hb0;have l0_1:w.heap.size+1<w0.heap.size:=XL hb0;have l0_2:w.heap.size+1+1<w0.heap.size:=XL hb0;go_wp2_with (fail)
    refine (c1 _).mono ?_;rintro e w1 ⟨rfl,hb1⟩;have r1:=XD hb1;have l1_0:w.heap.size<w1.heap.size:=XL hb1;have l1_1:w.heap.size+1<w1.heap.size:=XL hb1;have l1_2:w.heap.size+1+1<w1.heap.size:=XL hb1;go_wp2_with (fail)
    refine (c2 _).mono ?_;rintro e w2 ⟨rfl,hb2⟩;have r2:=XD hb2;have l2_0:w.heap.size<w2.heap.size:=XL hb2;have l2_1:w.heap.size+1<w2.heap.size:=XL hb2;have l2_2:w.heap.size+1+1<w2.heap.size:=XL hb2;have H:Yk w2 (w.heap.size+1+1) [.int .i64 0,.int .i64 0]:=by
     exact ZK
    obtain ⟨cH_0,fH_0⟩:=H.2 0 _ rfl;obtain ⟨cH_1,fH_1⟩:=H.2 1 _ rfl;go_wp2
    refine bodyPost_ret (v:=.agg #[.int .i64 s.n,.int .i64 s.d]) (by simp [results,Tryz.results194,go_sem,cH_0,cH_1]) rfl ⟨by rw [hv.out], ?_⟩;exact Xp
   ·have hv:=Lib.hid (show YM r s=r by simp only [decide_eq_true_eq] at e2;simp [YM,e0,e1,e2]);simp only [decide_eq_true_eq] at e2;clear e0 e1;generalize Xu r s=q at *;go_enter Tryz.func194,Tryz.ntmps194
    go_wp2_with (fail)
    refine (c0 _).mono ?_;rintro e w0 ⟨rfl,hb0⟩;have r0:=XD hb0;have l0_0:w.heap.size<w0.heap.size:=XL hb0;have l0_1:w.heap.size+1<w0.heap.size:=XL hb0;have l0_2:w.heap.size+1+1<w0.heap.size:=XL hb0;go_wp2_with (fail)
    refine (c1 _).mono ?_;rintro e w1 ⟨rfl,hb1⟩;have r1:=XD hb1;have l1_0:w.heap.size<w1.heap.size:=XL hb1;have l1_1:w.heap.size+1<w1.heap.size:=XL hb1;have l1_2:w.heap.size+1+1<w1.heap.size:=XL hb1;go_wp2_with (fail)
    refine (c2 _).mono ?_;rintro e w2 ⟨rfl,hb2⟩;have r2:=XD hb2;have l2_0:w.heap.size<w2.heap.size:=XL hb2;have l2_1:w.heap.size+1<w2.heap.size:=XL hb2;have l2_2:w.heap.size+1+1<w2.heap.size:=XL hb2;have H:Yk w2 (w.heap.size+1+1) [.int .i64 0,.int .i64 0]:=by
     exact ZK
    obtain ⟨cH_0,fH_0⟩:=H.2 0 _ rfl;obtain ⟨cH_1,fH_1⟩:=H.2 1 _ rfl;go_wp2
    refine bodyPost_ret (v:=.agg #[.int .i64 r.n,.int .i64 r.d]) (by simp [results,Tryz.results194,go_sem,cH_0,cH_1]) rfl ⟨by rw [hv.out], ?_⟩;exact Xp
theorem iSpanOk_c (x:Zg) (w:World) (hx:x.In) :
 Calls Tryz.prog 111 #[Zm x] w λ e w'=>e=.returned (.bool (X6 x))/\Below w.heap.size w w':=by
 have c0:=λ W=>Z3 x.low W hx.1;have c1:=λ W=>Z3 x.high W hx.2;have c2:=λ W=>Z8 x.low x.high W hx.1 hx.2;cases e0:Xe x.low
 ·rw [e0] at c0;have hv:=Lib.hid (show X6 x=false by simp [X6,e0]);go_enter Tryz.func111,Tryz.ntmps111
  go_wp2_with (fail)
  refine (c0 _).mono ?_;rintro e w0 ⟨rfl,hb0⟩;have r0:=XD hb0;have l0_0:w.heap.size<w0.heap.size:=XL hb0;go_wp2
  go_ret
  refine ⟨?_, ?_⟩
  ·first
   | exact Xm hv.out.symm
   | exact Xm (by rw [hv.out];simp;omega)
  ·exact Xp
 ·rw [e0] at c0;cases e1:Xe x.high
  ·rw [e1] at c1;have hv:=Lib.hid (show X6 x=false by simp [X6,e1]);go_enter Tryz.func111,Tryz.ntmps111
   go_wp2_with (fail)
   refine (c0 _).mono ?_;rintro e w0 ⟨rfl,hb0⟩;have r0:=XD hb0;have l0_0:w.heap.size<w0.heap.size:=XL hb0;go_wp2_with (fail)
   refine (c1 _).mono ?_;rintro e w1 ⟨rfl,hb1⟩;have r1:=XD hb1;have l1_0:w.heap.size<w1.heap.size:=XL hb1;go_wp2
   go_ret
   refine ⟨?_, ?_⟩
   ·first
    | exact Xm hv.out.symm
    | exact Xm (by rw [hv.out];simp;omega)
   ·exact Xp
  ·rw [e1] at c1;cases e2:decide (Xu x.low x.high<=0)
   ·have hv:=Lib.hid (show X6 x=false by simp only [X6,e0,e1,e2];rfl);simp only [decide_eq_false_iff_not] at e2;have bd:=ratioCmp_bd x.low x.high;generalize Xu x.low x.high=q at *;go_enter Tryz.func111,Tryz.ntmps111
    go_wp2_with (fail)
    refine (c0 _).mono ?_;rintro e w0 ⟨rfl,hb0⟩;have r0:=XD hb0;have l0_0:w.heap.size<w0.heap.size:=XL hb0;go_wp2_with (fail)
    refine (c1 _).mono ?_;rintro e w1 ⟨rfl,hb1⟩;have r1:=XD hb1;have l1_0:w.heap.size<w1.heap.size:=XL hb1;go_wp2_with (fail)
    refine (c2 _).mono ?_;rintro e w2 ⟨rfl,hb2⟩;have r2:=XD hb2;have l2_0:w.heap.size<w2.heap.size:=XL hb2;go_wp2
    go_ret
    refine ⟨?_, ?_⟩
    ·first
     | exact Xm hv.out.symm
     | exact Xm (by rw [hv.out];simp;omega)
    ·exact Xp
   ·have hv:=Lib.hid (show X6 x=true by simp only [X6,e0,e1,e2];rfl);simp only [decide_eq_true_eq] at e2;have bd:=ratioCmp_bd x.low x.high;generalize Xu x.low x.high=q at *;go_enter Tryz.func111,Tryz.ntmps111
    go_wp2_with (fail)
    refine (c0 _).mono ?_;rintro e w0 ⟨rfl,hb0⟩;have r0:=XD hb0;have l0_0:w.heap.size<w0.heap.size:=XL hb0;go_wp2_with (fail)
    refine (c1 _).mono ?_;rintro e w1 ⟨rfl,hb1⟩;have r1:=XD hb1;have l1_0:w.heap.size<w1.heap.size:=XL hb1;go_wp2_with (fail)
    refine (c2 _).mono ?_;rintro e w2 ⟨rfl,hb2⟩;have r2:=XD hb2;have l2_0:w.heap.size<w2.heap.size:=XL hb2;go_wp2
    go_ret
    refine ⟨?_, ?_⟩
    ·first
     | exact Xm hv.out.symm
     | exact Xm (by rw [hv.out];simp;omega)
    ·exact Xp
end Go.Proofs.YtabfdkpdppemaaaGreat
