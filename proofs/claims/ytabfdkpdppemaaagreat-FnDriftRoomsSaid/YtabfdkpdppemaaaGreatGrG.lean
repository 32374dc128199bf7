/-
 How fractions are compared: of the program (products of 128 bits) and of the reference (continued remainders); the lesser and the greater one; spans.
 Conditions: the numbers are ints of the machine.
-/
import Derived.Shelf.Bits.Mul64
import Derived.Test.YtabfdkpdppemaaaGreatGrD
set_option maxHeartbeats 2000000
namespace Go.Proofs.YtabfdkpdppemaaaGreat
open Go.RowKit
def sgn (x:Int):Int:=if x<0 then -1 else if 0<x then 1 else 0
theorem sgn_bd (x:Int) : -1<=sgn x/\sgn x<=1:=by unfold sgn;split<;>(try split)<;>omega
theorem sgn_of_neg {x:Int} (h:x<0):sgn x = -1:=by unfold sgn;rw [if_pos h]
theorem sgn_of_pos {x:Int} (h:0<x):sgn x=1:=by unfold sgn;rw [if_neg (by omega),if_pos h]
def KH (a b c d:Int):Int:=sgn (a*d-c*b)
theorem cmpF_bd (a b c d:Int) : -1<=KH a b c d/\KH a b c d<=1:=sgn_bd _
theorem cmpF_neg_pos {a b c d:Int} (hb:0<b) (hd:0<d) (ha:a<0) (hc:0<=c):KH a b c d = -1:=by
 apply sgn_of_neg;have h1:a*d<0:=Int.mul_neg_of_neg_of_pos ha hd;have h2:0<=c*b:=Int.mul_nonneg hc (by omega);omega
theorem cmpF_pos_neg {a b c d:Int} (hb:0<b) (hd:0<d) (ha:0<=a) (hc:c<0):KH a b c d=1:=by
 apply sgn_of_pos;have h1:c*b<0:=Int.mul_neg_of_neg_of_pos hc hb;have h2:0<=a*d:=Int.mul_nonneg ha (by omega);omega
theorem absmul {a d:Int} (hd:0<d):((a.natAbs*d.natAbs:Nat):Int)=if a<0 then -(a*d) else a*d:=by
 rw [Int.natCast_mul];have e:(d.natAbs:Int)=d:=by omega
 rw [e];split
 ·have:(a.natAbs:Int) = -a:=by omega
  rw [this,Int.neg_mul]
 ·have:(a.natAbs:Int)=a:=by omega
  rw [this]
theorem cmpF_halves {a b c d:Int} (hb:0<b) (hd:0<d) (X Y:Nat) (hX:X=a.natAbs*d.natAbs) (hY:Y=c.natAbs*b.natAbs) (hs:(a<0/\c<0)∨(0<=a/\0<=c)) :
 KH a b c d=if a<0 then -(if Y<X then 1 else if X<Y then -1 else 0) else (if Y<X then 1 else if X<Y then -1 else 0):=by
 have h1:=absmul (a:=a) hd;have h2:=absmul (a:=c) hb;rw [<- hX] at h1;rw [<- hY] at h2;unfold KH sgn;generalize a*d=p at *;generalize c*b=q at *;rcases hs with ⟨ha,hc⟩|⟨ha,hc⟩
 ·rw [if_pos ha] at h1 ⊢;rw [if_pos hc] at h2;split<;>split<;>(try split)<;>(try split)<;>omega
 ·rw [if_neg (show ¬ a<0 by omega)] at h1 ⊢;rw [if_neg (show ¬ c<0 by omega)] at h2;split<;>split<;>(try split)<;>(try split)<;>omega
theorem mul64_c (x y:Nat) (hx:x<18446744073709551616) (hy:y<18446744073709551616) (w:World) :
 Calls Tryz.prog 210 #[.int .u64 x,.int .u64 y] w λ e w'=>e=.returned (.tuple #[.int .u64 ((x*y / 18446744073709551616:Nat):Int),.int .u64 ((x*y % 18446744073709551616:Nat):Int)])/\w=w':=by
 obtain ⟨bd,bt,bw,hhi⟩:=Lib.mul64_hi x y hx hy;have ba:=Lib.half_mul_le (a:=x / 4294967296) (b:=y / 4294967296) (by omega) (by omega);have bb:=Lib.half_mul_le (a:=x / 4294967296) (b:=y % 4294967296) (by omega) (by omega);have bc:=Lib.half_mul_le (a:=x % 4294967296) (b:=y / 4294967296) (by omega) (by omega);have ba':x / 4294967296*(y / 4294967296)<18446744073709551616:=by omega
 have bb':x / 4294967296*(y % 4294967296)<18446744073709551616:=by omega
 have bc':x % 4294967296*(y / 4294967296)<18446744073709551616:=by omega
 have bh1:x / 4294967296*(y / 4294967296)+(x / 4294967296*(y % 4294967296)+x % 4294967296*(y % 4294967296) / 4294967296) / 4294967296<18446744073709551616:=by omega
 have bh:x / 4294967296*(y / 4294967296)+(x / 4294967296*(y % 4294967296)+x % 4294967296*(y % 4294967296) / 4294967296) / 4294967296+((x / 4294967296*(y % 4294967296)+x % 4294967296*(y % 4294967296) / 4294967296) % 4294967296+x % 4294967296*(y / 4294967296)) / 4294967296<18446744073709551616:=by omega
 go_enter Tryz.func210,Tryz.ntmps210
 go_wp2
 simp only [Mul64.maskN x hx,Mul64.maskN y hy,Mul64.divN,Mul64.mulN,Mul64.addN,Mul64.wrapN _ bd,Mul64.wrapN _ bb',Mul64.wrapN _ bt,Mul64.maskN _ bt,Mul64.wrapN _ bc',Mul64.wrapN _ bw,Mul64.wrapN _ ba',Mul64.wrapN _ bh1,Mul64.wrapN _ bh,Mul64.wrapM (x*y)];rw [hhi];go_ret2
 exact ⟨rfl,rfl⟩
theorem Kb (a b c d:Int) (w:World) (ha:Yn a) (hb:Yn b) (hc:Yn c) (hd:Yn d) (hb0:0<b) (hd0:0<d) :
 Calls Tryz.prog 140 #[.int .i64 a,.int .i64 b,.int .i64 c,.int .i64 d] w λ e w'=>e=.returned (.int .i64 (KH a b c d))/\w=w':=by
 have m1:=λ W=>ZO a W ha;have m2:=λ W=>ZO d W hd;have m3:=λ W=>ZO c W hc;have m4:=λ W=>ZO b W hb;have n1:=Jd ha;have n2:=Jd hb;have n3:=Jd hc;have n4:=Jd hd;have u1:=λ W=>mul64_c a.natAbs d.natAbs (by omega) (by omega) W;have u2:=λ W=>mul64_c c.natAbs b.natAbs (by omega) (by omega) W;have key:=λ hs=>Lib.hid (cmpF_halves hb0 hd0 (a.natAbs*d.natAbs) (c.natAbs*b.natAbs) rfl rfl hs);have k1:=λ h1 h2=>Lib.hid (cmpF_neg_pos (a:=a) (c:=c) hb0 hd0 h1 h2);have k2:=λ h1 h2=>Lib.hid (cmpF_pos_neg (a:=a) (c:=c) hb0 hd0 h1 h2);have K:=Lib.hid key;have K1:=Lib.hid k1;have K2:=Lib.hid k2;clear key k1 k2;generalize hX:a.natAbs*d.natAbs=X at *;generalize hY:c.natAbs*b.natAbs=Y at *;clear hX hY;by_cases a0:a<0
 ·by_cases c0:c<0
  ·have hk:=K.out (.inl ⟨a0,c0⟩);clear K K1 K2;go_enter Tryz.func140,Tryz.ntmps140
   go_wp2_with (first|(go_at_call 131;((with_reducible refine (m1 _).mono ?_);rintro e w' ⟨rfl,rfl⟩))|(go_at_call 131;((with_reducible refine (m2 _).mono ?_);rintro e w' ⟨rfl,rfl⟩))|(go_at_call 131;((with_reducible refine (m3 _).mono ?_);rintro e w' ⟨rfl,rfl⟩))|(go_at_call 131;((with_reducible refine (m4 _).mono ?_);rintro e w' ⟨rfl,rfl⟩))|(go_at_call 210;((with_reducible refine (u1 _).mono ?_);rintro e w' ⟨rfl,rfl⟩))|(go_at_call 210;((with_reducible refine (u2 _).mono ?_);rintro e w' ⟨rfl,rfl⟩)))
   all_goals
    go_ret
    refine ⟨Y0 ?_,rfl⟩;rw [hk.out,if_pos a0];split<;>(try split)<;>omega
  ·have hk:=K1.out a0 (by omega);clear K K1 K2;go_enter Tryz.func140,Tryz.ntmps140
   go_wp2
   go_ret
   exact ⟨Y0 hk.out.symm,rfl⟩
 ·by_cases c0:c<0
  ·have hk:=K2.out (by omega) c0;clear K K1 K2;go_enter Tryz.func140,Tryz.ntmps140
   go_wp2
   go_ret
   exact ⟨Y0 hk.out.symm,rfl⟩
  ·have hk:=K.out (.inr ⟨by omega,by omega⟩);clear K K1 K2;go_enter Tryz.func140,Tryz.ntmps140
   go_wp2_with (first|(go_at_call 131;((with_reducible refine (m1 _).mono ?_);rintro e w' ⟨rfl,rfl⟩))|(go_at_call 131;((with_reducible refine (m2 _).mono ?_);rintro e w' ⟨rfl,rfl⟩))|(go_at_call 131;((with_reducible refine (m3 _).mono ?_);rintro e w' ⟨rfl,rfl⟩))|(go_at_call 131;((with_reducible refine (m4 _).mono ?_);rintro e w' ⟨rfl,rfl⟩))|(go_at_call 210;((with_reducible refine (u1 _).mono ?_);rintro e w' ⟨rfl,rfl⟩))|(go_at_call 210;((with_reducible refine (u2 _).mono ?_);rintro e w' ⟨rfl,rfl⟩)))
   all_goals
    go_ret
    refine ⟨Y0 ?_,rfl⟩;rw [hk.out,if_neg (show ¬ a<0 by omega)];split<;>(try split)<;>omega
def XK (r s:Y3):Int:=if Xy r=true/\Xy s=true then KH r.n r.d s.n s.d else 0
structure YT where
 low:Y3
 high:Y3
 deriving DecidableEq
def YT.In (w:YT):Prop:=w.low.In/\w.high.In
def XQ (w:YT):Bool:=Xy w.low&&Xy w.high&&decide (XK w.low w.high<=0)
theorem ZR {n d:Int} (hn : -1000000000000000000<=n/\n<=1000000000000000000) (hd:1<=d/\d<=1000000000000000) :
 Xy (XG n d)=true/\∃ k:Int,0<k/\n=k*(XG n d).n/\d=k*(XG n d).d:=by
 have hg:Xk [n,d]=Nat.gcd n.natAbs d.natAbs:=KU n d;have hpos:0<Xk [n,d]:=by rw [hg];exact Nat.gcd_pos_of_pos_right _ (by omega)
 have h1:Xk [n,d] ∣ n.natAbs:=by rw [hg];exact Nat.gcd_dvd_left _ _
 have h2:Xk [n,d] ∣ d.natAbs:=by rw [hg];exact Nat.gcd_dvd_right _ _
 have e1:=Nat.mul_div_cancel' h1;have e2:=Nat.mul_div_cancel' h2;have l1:=Nat.div_le_self n.natAbs (Xk [n,d]);have l2:=Nat.div_le_self d.natAbs (Xk [n,d]);have hdef:XG n d=if decide (n<0)=decide (d<0) then ⟨((n.natAbs / Xk [n,d]:Nat):Int),((d.natAbs / Xk [n,d]:Nat):Int)⟩ else ⟨-((n.natAbs / Xk [n,d]:Nat):Int),((d.natAbs / Xk [n,d]:Nat):Int)⟩:=by
  unfold XG;rw [if_neg (by rw [Za (by omega),Za (by omega)];simp;omega),if_neg (by omega)]
 have hd0:¬ d<0:=by omega
 have hne:XG n d≠ZS:=by
  intro e;have hq:d.natAbs / Xk [n,d]=0:=by
   rw [hdef] at e;have:(ZS).d=0:=rfl;rw [<- e] at this;split at this<;>simp only at this<;>omega
  rw [hq] at e2;omega
 refine ⟨ratioOf_ok.2 hne,(Xk [n,d]:Int),by omega, ?_, ?_⟩
 ·rw [hdef];have e1':((Xk [n,d]:Nat):Int)*((n.natAbs / Xk [n,d]:Nat):Int)=(n.natAbs:Int):=by rw [<- Int.natCast_mul,e1]
  split
  ·rename_i h;simp [hd0] at h;simp only;rw [e1'];omega
  ·rename_i h;simp [hd0] at h;simp only;rw [Int.mul_neg,e1'];omega
 ·have e2':((Xk [n,d]:Nat):Int)*((d.natAbs / Xk [n,d]:Nat):Int)=(d.natAbs:Int):=by rw [<- Int.natCast_mul,e2]
  rw [hdef];split<;>(simp only;rw [e2'];omega)
end Go.Proofs.YtabfdkpdppemaaaGreat
