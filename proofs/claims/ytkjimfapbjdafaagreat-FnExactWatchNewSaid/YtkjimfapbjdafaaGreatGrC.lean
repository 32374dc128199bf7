/-
 What the functions on numbers return: ranges, magnitudes, divisors, fractions.
 Conditions: the arguments are ints of the machine.
-/
import Derived.Test.YtkjimfapbjdafaaGreatGrA
import Derived.Deep.QuietTactic
import Derived.BigQuiet
set_option maxHeartbeats 1000000
namespace Go.Proofs.YtkjimfapbjdafaaGreat
open Go.RowKit
theorem Zj (a b c:Int) (w:World) :
 Calls Tryz.prog 129 #[.int .i64 a,.int .i64 b,.int .i64 c] w λ e w'=>e=.returned (.bool (ZD a b c))/\w=w':=by
 go_enter Tryz.func129,Tryz.ntmps129
 go_wp2
 all_goals
  go_ret
  refine ⟨?_,rfl⟩;simp [ZD, *]<;>omega
theorem Yo (a b c:Int) (w:World) :
 Calls Tryz.prog 127 #[.int .i64 a,.int .i64 b,.int .i64 c] w λ e w'=>e=.returned (.bool (ZD a b c))/\w=w':=by
 go_enter Tryz.func127,Tryz.ntmps127
 go_wp2
 all_goals
  go_ret
  refine ⟨?_,rfl⟩;simp [ZD, *]<;>omega
theorem JG (a:Int) (w:World) (ha:Zv a) :
 Calls Tryz.prog 249 #[.int .i64 a] w λ e w'=>e=.returned (.int .u64 (a.natAbs:Nat))/\w=w':=by
 obtain ⟨h1,h2⟩:=ha;go_enter Tryz.func249,Tryz.ntmps249
 go_wp2
 all_goals
  go_ret
  refine ⟨Zo ?_,rfl⟩;first|omega|(simp only [IntKind.wrap_u64];omega)
theorem gcdOfAll_c (A:Option Addr) (xs:List Int) (cap:Nat) (w:World) (hl:xs.length<=64) (hx:∀ n∈xs,Zv n) (hs:Sl 1 Y6 w A xs) :
 Calls Tryz.prog 219 #[.slice A xs.length cap] w λ e w'=>e=.returned (.int .u64 (XJ xs:Nat))/\Below w.heap.size w w':=by
 go_enter Tryz.func219,Tryz.ntmps219
 go_wp2
 go_loopw [3,5,6,9] (λ g _ _ i wr=>∃ k:Nat,k<=xs.length/\i=.int .i64 k/\g=.int .u64 (XJ (xs.take k):Nat)/\Below w.heap.size w wr) (λ _ _ _ i _=>xs.length-(intOf i).toNat)
 case atStart=>exact ⟨0,Nat.zero_le _,rfl,rfl,Below.refl _ _⟩
 case round =>
  obtain ⟨k,hk,rfl,rfl,hbw⟩:=hrel;by_cases hlt:k<xs.length
  ·obtain ⟨b,off,rfl,hblt,hc⟩:=(hs.below hbw).at_ hlt;have g0:=hc 0 _ rfl;have hn:Zv xs[k]:=hx _ (List.getElem_mem hlt);have hG:XJ (xs.take k)<=9223372036854775808:=gcdAll_le _ (λ m hm=>hx m (List.mem_of_mem_take hm));have hsn:Hid (XJ (xs.take (k+1))=Nat.gcd (XJ (xs.take k)) xs[k].natAbs):=by rw [Kn xs k hlt,gcdAll_snoc];rfl
   clear hc;simp only [Nat.mul_one,Nat.add_zero] at g0;generalize xs[k]=n at *;generalize XJ (xs.take k)=G at *;go_wp2_with (go_at_call 249;refine (JG _ _ hn).mono ?_;rintro e w' ⟨rfl,rfl⟩)
   obtain ⟨wo,rfl⟩:∃ wo:World,wo=wr:=⟨_,rfl⟩;have hnn:=natAbs_le hn;go_loopw [3,6] (λ g m wr=>∃ a c:Nat,g=.int .u64 a/\m=.int .u64 c/\a<=9223372036854775808/\c<=9223372036854775808/\Hid (Nat.gcd a c=Nat.gcd G n.natAbs)/\Below w.heap.size w wr) (λ _ m _=>(intOf m).toNat)
   case atStart=>exact ⟨G,n.natAbs,rfl,rfl,hG,hnn,rfl,hbw⟩
   case round =>
    obtain ⟨a,c,rfl,rfl,ha,hc,hgcd,hbw'⟩:=hrel;by_cases h0:c=0
    ·subst h0;go_wp2
     go_roundw
     case rel=>exact ⟨k+1,by omega,by go_num,by have e:=hsn.out;have e2:=hgcd.out;rw [Nat.gcd_zero_right] at e2;rw [e,e2],hbw'⟩
     case measure=>simp [intOf];omega
    ·have hb0:((c:Int) != 0)=true:=by simp;omega
     have hp:0<c:=by omega
     go_wp2
     go_quiet (fail)
     go_wp2
     have hm:=Nat.mod_lt a hp;refine ⟨⟨c,a % c,rfl,by go_num,hc,by omega, ?_,Zn hbw' _⟩,by simp [intOf];omega⟩;show Nat.gcd c (a % c)=_;rw [<- hgcd.out,Nat.gcd_comm a c,Nat.gcd_rec c a,Nat.gcd_comm]
  ·obtain rfl:k=xs.length:=by omega
   go_wp2
   go_ret
   refine ⟨?_,hbw⟩;rw [List.take_length];rfl
theorem isLeast_c (a:Int) (w:World) (ha:Zv a) :
 Calls Tryz.prog 247 #[.int .i64 a] w λ e w'=>e=.returned (.bool (Zi a))/\w=w':=by
 have hd:((a.natAbs:Int) == 9223372036854775808)=Zi a:=by
  obtain ⟨h1,h2⟩:=ha;unfold Zi;rw [Bool.eq_iff_iff];simp;omega
 go_enter Tryz.func247,Tryz.ntmps247
 go_wp2_with (go_at_call 249;refine (JG _ _ ha).mono ?_;rintro e w' ⟨rfl,rfl⟩)
 go_ret
 exact ⟨by simp,rfl⟩
theorem divided_c (a:Int) (g:Nat) (w:World) (ha:Zv a) (hm:Zi a=false) (hg:0<g) (hg2:g<=9223372036854775808) :
 Calls Tryz.prog 276 #[.int .i64 a,.int .u64 (g:Nat)] w λ e w'=>e=.returned (.int .i64 (a.tdiv g))/\w=w':=by
 have hmag:=JG a w ha;have hr:=JH ha hm;have q0:=div_nonneg a.natAbs g;have q1:=div_le a.natAbs g 9223372036854775807 (by omega);clear hm ha;go_enter Tryz.func276,Tryz.ntmps276
 go_wp2_with (go_at_call 249;refine hmag.mono ?_;rintro e w' ⟨rfl,rfl⟩)
 ·have hneg:a<0:=by assumption
  go_ret
  exact ⟨Zo (by rw [tdiv_of_neg hneg];simp),rfl⟩
 ·have hpos:0<=a:=by assumption
  go_ret
  exact ⟨Zo (by rw [tdiv_of_nonneg hpos];simp),rfl⟩
def Drawn (w w':World):Prop:=∃ n,w'=w.drewN n
theorem Drawn.refl (w:World):Drawn w w:=⟨0,rfl⟩
theorem Drawn.drewN {w w':World} (h:Drawn w w') (n:Nat):Drawn w (w'.drewN n):=by
 obtain ⟨m,rfl⟩:=h;exact ⟨m+n,by rw [World.drewN_drewN]⟩
theorem Drawn.out {w w':World} (h:Drawn w w'):∃ n,w'=w.drewN n:=h
theorem l02Turn_c (a b:Int) (w:World) (ha:0<=a) (hb:0<b) (h1:a<=9223372036854775807) (h2:b<=9223372036854775807) :
 Calls Tryz.prog 244 #[.int .i64 a,.int .i64 b] w λ e w'=>e=.returned (.tuple #[.int .i64 b,.int .i64 (a % b)])/\∃ n,w'=w.drewN n:=by
 go_enter Tryz.func244,Tryz.ntmps244
 go_wp2
 go_quiet (fail)
 go_wp2
 go_ret2
 exact ⟨rfl,_,rfl⟩
theorem Z7 (a b:Int) (w:World) (ha:Zv a) (hb:Zv b) :
 Calls Tryz.prog 191 #[.int .i64 a,.int .i64 b] w λ e w'=>e=.returned (.int .i64 (Zq a b))/\∃ n,w'=w.drewN n:=by
 have hG:=gcdOf_eq a b;cases ma:Zi a
 ·cases mb:Zi b
  ·have ra:=JH ha ma;have rb:=JH hb mb;have HA:=Lib.hid ma;have HB:=Lib.hid mb;have HG:=Lib.hid hG;clear ma mb hG ha hb;obtain ⟨ra1,ra2⟩:=ra;obtain ⟨rb1,rb2⟩:=rb;have hfin:Hid (Zq a b=((Nat.gcd a.natAbs b.natAbs:Nat):Int)):=by
    show _=_;rw [HG.out,HA.out,HB.out,JA];rfl
   clear HG;go_enter Tryz.func191,Tryz.ntmps191
   go_wp2
   all_goals
    go_loopw [0,1] (λ x y wr=>∃ m n:Nat,x=.int .i64 m/\y=.int .i64 n/\m<=9223372036854775807/\n<=9223372036854775807/\Hid (Nat.gcd m n=Nat.gcd a.natAbs b.natAbs)/\Drawn w wr) (λ _ y _=>(intOf y).toNat)
    case atStart=>exact ⟨a.natAbs,b.natAbs,by congr 1;omega,by congr 1;omega,by omega,by omega,rfl,Drawn.refl _⟩
    case round =>
     obtain ⟨m,n,rfl,rfl,hm,hn,hgcd,hbw⟩:=hrel;by_cases h0:n=0
     ·subst h0;go_wp2
      go_ret
      refine ⟨?_,hbw.out⟩;have e:=hgcd.out;rw [Nat.gcd_zero_right] at e;rw [hfin.out,<- e];rfl
     ·have hb0:((n:Int) != 0)=true:=by simp;omega
      have hp:0<n:=by omega
      go_wp2_with (fail)
      refine (l02Turn_c _ _ _ (by omega) (by omega) (by omega) (by omega)).mono ?_;rintro e w' ⟨rfl,nd,rfl⟩;go_wp2
      have hmod:=Nat.mod_lt m hp;refine ⟨⟨n,m % n,rfl,by go_num,by omega,by omega, ?_,hbw.drewN _⟩,by simp [intOf];omega⟩;show Nat.gcd n (m % n)=_;rw [<- hgcd.out,Nat.gcd_comm m n,Nat.gcd_rec n m,Nat.gcd_comm]
  ·rw [ma,mb] at hG;obtain ⟨ra1,ra2⟩:=JH ha ma;simp [Zi] at mb;subst mb;have HG:=Lib.hid hG;clear hG ma;go_enter Tryz.func191,Tryz.ntmps191
   go_wp2
   all_goals
    go_ret
    exact ⟨Zo (by rw [HG.out];rfl),0,rfl⟩
 ·rw [ma] at hG;simp [Zi] at ma;subst ma;have HG:=Lib.hid hG;clear hG;go_enter Tryz.func191,Tryz.ntmps191
  go_wp2
  all_goals
   go_ret
   exact ⟨Zo (by rw [HG.out];rfl),0,rfl⟩
theorem Zc {P:Program} {f:FuncId} {args:Array Value} {w:World} {n:Nat} {v:Value}
 (h:Calls P f args (w.drewN n) λ e w'=>e=.returned v/\w.drewN n=w'):Calls P f args (w.drewN n) λ e w''=>e=.returned v/\∃ m,w''=w.drewN m :=
 h.mono λ _ _ ⟨he,hm⟩=>⟨he,n,hm.symm⟩
theorem quiet_n {P:Program} {f:FuncId} {args:Array Value} {w:World} {n:Nat} {v:Value}
 (h:Calls P f args (w.drewN n) λ e w'=>e=.returned v/\∃ m,w'=(w.drewN n).drewN m):Calls P f args (w.drewN n) λ e w''=>e=.returned v/\∃ m,w''=w.drewN m :=
 h.mono λ _ _ ⟨he,m,hm⟩=>⟨he,n+m,by rw [hm,World.drewN_drewN]⟩
theorem l01In_v (a b c:Int) (v:Bool) (h:ZD a b c=v) (w:World) :
 Calls Tryz.prog 127 #[.int .i64 a,.int .i64 b,.int .i64 c] w λ e w'=>e=.returned (.bool v)/\w=w':=by
 rw [<- h];exact Yo a b c w
theorem isLeast_v (a:Int) (v:Bool) (h:Zi a=v) (ha:Zv a) (w:World) :
 Calls Tryz.prog 247 #[.int .i64 a] w λ e w'=>e=.returned (.bool v)/\w=w':=by
 rw [<- h];exact isLeast_c a w ha
theorem Z6 (r:YA) (w:World) (hr:r.In) :
 Calls Tryz.prog 133 #[X7 r] w λ e w'=>e=.returned (.bool (Xr r))/\Below w.heap.size w w':=by
 obtain ⟨h1,h2⟩:=hr;cases e1:ZD r.d 1 1000000000000000
 ·go_enter Tryz.func133,Tryz.ntmps133
  go_wp2_with (first|(go_at_call 127;refine (Yo _ _ _ _).mono ?_;rintro e w' ⟨rfl,rfl⟩))
  go_ret
  refine ⟨Xx (by simp [Xr,e1]), ?_⟩;exact XA
 ·cases e2:ZD r.n (-1000000000000000000) 1000000000000000000
  ·go_enter Tryz.func133,Tryz.ntmps133
   go_wp2_with (first|(go_at_call 127;refine (Yo _ _ _ _).mono ?_;rintro e w' ⟨rfl,rfl⟩))
   go_ret
   refine ⟨Xx (by simp [Xr,e1,e2]), ?_⟩;exact XA
  ·cases e3:(Zq r.n r.d == 1);all_goals
    go_enter Tryz.func133,Tryz.ntmps133
    go_wp2_with (go_at_call 127;refine (Yo _ _ _ _).mono ?_;rintro e w' ⟨rfl,rfl⟩)
    refine (Z7 _ _ _ h1 h2).mono ?_;rintro e w1 ⟨rfl,nd,rfl⟩;go_wp2
    go_ret
    refine ⟨Xx (by rw [Bool.eq_iff_iff];simp [Xr,e1,e2] at e3 ⊢;exact e3), ?_⟩;exact Zn (Xd bR _) _
theorem iSpotOk_c (s:Ya) (w:World) (hs:s.In) :
 Calls Tryz.prog 162 #[Yj s] w λ e w'=>e=.returned (.bool (Xu s))/\Below w.heap.size w w':=by
 cases e1:ZD s.d 1 5000000000
 ·go_enter Tryz.func162,Tryz.ntmps162
  go_wp2_with (first|(go_at_call 129;refine (Zj _ _ _ _).mono ?_;rintro e w' ⟨rfl,rfl⟩))
  go_ret
  refine ⟨Xx (by simp [Xu,e1]), ?_⟩;exact XA
 ·obtain ⟨d1,d2⟩:=ZG.1 e1;cases e2:ZD s.x (-1000*s.d) (1000*s.d)
  ·go_enter Tryz.func162,Tryz.ntmps162
   go_wp2_with (first|(go_at_call 129;refine (Zj _ _ _ _).mono ?_;rintro e w' ⟨rfl,rfl⟩))
   go_ret
   refine ⟨Xx (by simp [Xu,e1,e2]), ?_⟩;exact XA
  ·cases e3:ZD s.y (-1000*s.d) (1000*s.d)
   ·go_enter Tryz.func162,Tryz.ntmps162
    go_wp2_with (first|(go_at_call 129;refine (Zj _ _ _ _).mono ?_;rintro e w' ⟨rfl,rfl⟩))
    go_ret
    refine ⟨Xx (by simp [Xu,e1,e2,e3]), ?_⟩;exact XA
   ·have hall:∀ n∈[s.x,s.y,s.d],Zv n:=by simpa [Ya.In] using hs
    have hfin:Hid (Xu s=decide (XJ [s.x,s.y,s.d]=1)):=by simp [Hid,Xu,e1,e2,e3]
    have hg:=gcdOfAll_c (some ⟨w.heap.size+1,0,none⟩) [s.x,s.y,s.d] 3 _ (by simp) hall (sl_new_at (T:=3) YQ (w.alloc (.cells #[.int .i64 s.x,.int .i64 s.y,.int .i64 s.d] 44)) [s.x,s.y,s.d] #[.int .i64 s.x,.int .i64 s.y,.int .i64 s.d] rfl (by simp));have hle:=gcdAll_le [s.x,s.y,s.d] hall;generalize XJ [s.x,s.y,s.d]=G at *;cases e4:((G:Int) == 1);all_goals
     go_enter Tryz.func162,Tryz.ntmps162
     go_wp2_with (go_at_call 129;refine (Zj _ _ _ _).mono ?_;rintro e w' ⟨rfl,rfl⟩)
     refine hg.mono ?_;rintro e w1 ⟨rfl,hb1⟩;go_wp2
     go_ret
     refine ⟨Xx (by rw [hfin.out,Bool.eq_iff_iff];simp at e4 ⊢;omega), ?_⟩;exact Xn (Xd (Xd bR _) _) hb1
theorem sSpotOk_c (s:Ya) (w:World) (hs:s.In) :
 Calls Tryz.prog 159 #[Yj s] w λ e w'=>e=.returned (.bool (Xu s))/\Below w.heap.size w w':=by
 obtain ⟨h1,h2,h3⟩:=hs;cases e1:ZD s.d 1 5000000000
 ·go_enter Tryz.func159,Tryz.ntmps159
  go_wp2_with (first|(go_at_call 127;refine (Yo _ _ _ _).mono ?_;rintro e w' ⟨rfl,rfl⟩))
  go_ret
  refine ⟨Xx (by simp [Xu,e1]), ?_⟩;exact XA
 ·obtain ⟨d1,d2⟩:=ZG.1 e1;cases e2:ZD s.x (-(1000*s.d)) (1000*s.d)
  ·have HW:=Lib.hid (IntWalk.i64_in (-(1000*s.d)) (by omega));go_enter Tryz.func159,Tryz.ntmps159
   go_wp2_with (first|(go_at_call 127;refine (Yo _ _ _ _).mono ?_;rintro e w' ⟨rfl,rfl⟩))
   go_big_quiet ((go_at_call 127;(try rw [HW.out]);exact Zc (l01In_v _ _ _ _ (by assumption) _)))
   go_wp2
   go_ret
   refine ⟨Xx (by rw [show -(1000*s.d) = -1000*s.d from by omega] at e2;simp [Xu,e1,e2]), ?_⟩;exact XA
  ·cases e3:ZD s.y (-(1000*s.d)) (1000*s.d)
   ·have HW:=Lib.hid (IntWalk.i64_in (-(1000*s.d)) (by omega));go_enter Tryz.func159,Tryz.ntmps159
    go_wp2_with (first|(go_at_call 127;refine (Yo _ _ _ _).mono ?_;rintro e w' ⟨rfl,rfl⟩))
    go_big_quiet ((go_at_call 127;(try rw [HW.out]);exact Zc (l01In_v _ _ _ _ (by assumption) _)))
    go_wp2
    go_ret
    refine ⟨Xx (by rw [show -(1000*s.d) = -1000*s.d from by omega] at e2 e3;simp [Xu,e1,e2,e3]), ?_⟩;exact XA
   ·have hxy:=gcdOf_In64 h1 h2;obtain ⟨x1,x2⟩:=ZG.1 e2;obtain ⟨y1,y2⟩:=ZG.1 e3;have hfin:Hid (Xu s=(Zq (Zq s.x s.y) s.d == 1)):=by
     have m1:=ZR (a:=s.x) (by omega);have m2:=ZR (a:=s.y) (by omega);have m3:=ZR (a:=s.d) (by omega);have:=gcdOf_in h1 h2;have m4:=ZR (a:=Zq s.x s.y) (by omega);show _=_;rw [Jl m4 m3,Jl m1 m2];rw [show -(1000*s.d) = -1000*s.d from by omega] at e2 e3;rw [Bool.eq_iff_iff];simp [Xu,e1,e2,e3,gcd3];omega
    have HW:=Lib.hid (IntWalk.i64_in (-(1000*s.d)) (by omega));cases e4:(Zq (Zq s.x s.y) s.d == 1);all_goals
     go_enter Tryz.func159,Tryz.ntmps159
     go_wp2_with (first|(go_at_call 127;refine (Yo _ _ _ _).mono ?_;rintro e w' ⟨rfl,rfl⟩))
     go_big_quiet ((first|(go_at_call 127;(try rw [HW.out]);exact Zc (l01In_v _ _ _ _ (by assumption) _))|(go_at_call 191;exact quiet_n (Z7 _ _ _ (by assumption) (by assumption)))))
     go_wp2
     go_ret
     refine ⟨Xx (by rw [hfin.out,e4]), ?_⟩;exact XA
theorem isCoef_c (a:Int) (w:World) :
 Calls Tryz.prog 289 #[.int .i64 a] w λ e w'=>e=.returned (.bool (ZD a (-50000) 50000))/\w=w':=by
 go_enter Tryz.func289,Tryz.ntmps289
 go_wp2_with (first|(go_at_call 129;refine (Zj _ _ _ _).mono ?_;rintro e w' ⟨rfl,rfl⟩))
 go_ret
 exact ⟨rfl,rfl⟩
theorem iHalfOk_c (h:Half) (w:World) (hh:h.In) :
 Calls Tryz.prog 274 #[YW h] w λ e w'=>e=.returned (.bool (XW h))/\Below w.heap.size w w':=by
 cases e1:ZD h.a (-50000) 50000
 ·go_enter Tryz.func274,Tryz.ntmps274
  go_wp2_with (first|(go_at_call 289;refine (isCoef_c _ _).mono ?_;rintro e w' ⟨rfl,rfl⟩))
  go_ret
  refine ⟨Xx (by simp [XW,e1]), ?_⟩;exact XA
 ·cases e2:ZD h.b (-50000) 50000
  ·go_enter Tryz.func274,Tryz.ntmps274
   go_wp2_with (first|(go_at_call 289;refine (isCoef_c _ _).mono ?_;rintro e w' ⟨rfl,rfl⟩))
   go_ret
   refine ⟨Xx (by simp [XW,e1,e2]), ?_⟩;exact XA
  ·cases e3:ZD h.c (-100000000) 100000000
   ·go_enter Tryz.func274,Tryz.ntmps274
    go_wp2_with (first|(go_at_call 289;refine (isCoef_c _ _).mono ?_;rintro e w' ⟨rfl,rfl⟩)|(go_at_call 129;refine (Zj _ _ _ _).mono ?_;rintro e w' ⟨rfl,rfl⟩))
    go_ret
    refine ⟨Xx (by simp [XW,e1,e2,e3]), ?_⟩;exact XA
   ·have hall:∀ n∈[h.a,h.b,h.c],Zv n:=by simpa [Half.In] using hh
    have hfin:Hid (XW h=(!(h.a == 0&&h.b == 0)&&decide (XJ [h.a,h.b,h.c]=1))):=by simp [Hid,XW,e1,e2,e3];rfl
    have hg:=gcdOfAll_c (some ⟨w.heap.size+1,0,none⟩) [h.a,h.b,h.c] 3 _ (by simp) hall (sl_new_at (T:=3) YQ (w.alloc (.cells #[.int .i64 h.a,.int .i64 h.b,.int .i64 h.c] 175)) [h.a,h.b,h.c] #[.int .i64 h.a,.int .i64 h.b,.int .i64 h.c] rfl (by simp));have hle:=gcdAll_le [h.a,h.b,h.c] hall;generalize XJ [h.a,h.b,h.c]=G at *;cases za:(h.a == 0)
    ·cases e4:((G:Int) == 1);all_goals
      go_enter Tryz.func274,Tryz.ntmps274
      go_wp2_with (first|(go_at_call 289;refine (isCoef_c _ _).mono ?_;rintro e w' ⟨rfl,rfl⟩)|(go_at_call 129;refine (Zj _ _ _ _).mono ?_;rintro e w' ⟨rfl,rfl⟩))
      refine hg.mono ?_;rintro e w1 ⟨rfl,hb1⟩;go_wp2
      go_ret
      refine ⟨Xx (by rw [hfin.out,za,Bool.eq_iff_iff];simp at e4 ⊢;omega), ?_⟩;exact Xn (Xd (Xd bR _) _) hb1
    ·cases zb:(h.b == 0)
     ·cases e4:((G:Int) == 1);all_goals
       go_enter Tryz.func274,Tryz.ntmps274
       go_wp2_with (first|(go_at_call 289;refine (isCoef_c _ _).mono ?_;rintro e w' ⟨rfl,rfl⟩)|(go_at_call 129;refine (Zj _ _ _ _).mono ?_;rintro e w' ⟨rfl,rfl⟩))
       refine hg.mono ?_;rintro e w1 ⟨rfl,hb1⟩;go_wp2
       go_ret
       refine ⟨Xx (by rw [hfin.out,za,zb,Bool.eq_iff_iff];simp at e4 ⊢;omega), ?_⟩;exact Xn (Xd (Xd bR _) _) hb1
     ·go_enter Tryz.func274,Tryz.ntmps274
      go_wp2_with (first|(go_at_call 289;refine (isCoef_c _ _).mono ?_;rintro e w' ⟨rfl,rfl⟩)|(go_at_call 129;refine (Zj _ _ _ _).mono ?_;rintro e w' ⟨rfl,rfl⟩))
      go_ret
      refine ⟨Xx (by rw [hfin.out,za,zb];rfl), ?_⟩;exact XA
end Go.Proofs.YtkjimfapbjdafaaGreat
