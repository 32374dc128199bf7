/-
 What the functions on numbers return: ranges, magnitudes, divisors, fractions.
 Conditions: the arguments are ints of the machine.
-/
import Derived.Test.YtabfdkpdppemaaaGreatGrA
import Derived.Deep.QuietTactic
import Derived.BigQuiet
set_option maxHeartbeats 1000000
namespace Go.Proofs.YtabfdkpdppemaaaGreat
open Go.RowKit
theorem YC (a b c:Int) (w:World) :
 Calls Tryz.prog 102 #[.int .i64 a,.int .i64 b,.int .i64 c] w λ e w'=>e=.returned (.bool (ZH a b c))/\w=w':=by
 go_enter Tryz.func102,Tryz.ntmps102
 go_wp2
 all_goals
  go_ret
  refine ⟨?_,rfl⟩;simp [ZH, *]<;>omega
theorem l01In_c (a b c:Int) (w:World) :
 Calls Tryz.prog 217 #[.int .i64 a,.int .i64 b,.int .i64 c] w λ e w'=>e=.returned (.bool (ZH a b c))/\w=w':=by
 go_enter Tryz.func217,Tryz.ntmps217
 go_wp2
 all_goals
  go_ret
  refine ⟨?_,rfl⟩;simp [ZH, *]<;>omega
theorem ZO (a:Int) (w:World) (ha:Yn a) :
 Calls Tryz.prog 131 #[.int .i64 a] w λ e w'=>e=.returned (.int .u64 (a.natAbs:Nat))/\w=w':=by
 obtain ⟨h1,h2⟩:=ha;go_enter Tryz.func131,Tryz.ntmps131
 go_wp2
 all_goals
  go_ret
  refine ⟨Y0 ?_,rfl⟩;first|omega|(simp only [IntKind.wrap_u64];omega)
theorem Jj (A:Option Addr) (xs:List Int) (cap:Nat) (w:World) (hl:xs.length<=64) (hx:∀ n∈xs,Yn n) (hs:Sl 1 JA w A xs) :
 Calls Tryz.prog 130 #[.slice A xs.length cap] w λ e w'=>e=.returned (.int .u64 (Xk xs:Nat))/\Below w.heap.size w w':=by
 go_enter Tryz.func130,Tryz.ntmps130
 go_wp2
 go_loopw [3,5,6,9] (λ g _ _ i wr=>∃ k:Nat,k<=xs.length/\i=.int .i64 k/\g=.int .u64 (Xk (xs.take k):Nat)/\Below w.heap.size w wr) (λ _ _ _ i _=>xs.length-(intOf i).toNat)
 case atStart=>exact ⟨0,Nat.zero_le _,rfl,rfl,Below.refl _ _⟩
 case round =>
  obtain ⟨k,hk,rfl,rfl,hbw⟩:=hrel;by_cases hlt:k<xs.length
  ·obtain ⟨b,off,rfl,hblt,hc⟩:=(hs.below hbw).at_ hlt;have g0:=hc 0 _ rfl;have hn:Yn xs[k]:=hx _ (List.getElem_mem hlt);have hG:Xk (xs.take k)<=9223372036854775808:=Jk _ (λ m hm=>hx m (List.mem_of_mem_take hm));have hsn:Hid (Xk (xs.take (k+1))=Nat.gcd (Xk (xs.take k)) xs[k].natAbs):=by rw [YY xs k hlt,gcdAll_snoc];rfl
   clear hc;simp only [Nat.mul_one,Nat.add_zero] at g0;generalize xs[k]=n at *;generalize Xk (xs.take k)=G at *;go_wp2_with (go_at_call 131;refine (ZO _ _ hn).mono ?_;rintro e w' ⟨rfl,rfl⟩)
   obtain ⟨wo,rfl⟩:∃ wo:World,wo=wr:=⟨_,rfl⟩;have hnn:=Jd hn;go_loopw [3,6] (λ g m wr=>∃ a c:Nat,g=.int .u64 a/\m=.int .u64 c/\a<=9223372036854775808/\c<=9223372036854775808/\Hid (Nat.gcd a c=Nat.gcd G n.natAbs)/\Below w.heap.size w wr) (λ _ m _=>(intOf m).toNat)
   case atStart=>exact ⟨G,n.natAbs,rfl,rfl,hG,hnn,rfl,hbw⟩
   case round =>
    obtain ⟨a,c,rfl,rfl,ha,hc,hgcd,hbw'⟩:=hrel;by_cases h0:c=0
    ·subst h0;go_wp2
     go_roundw
     case rel=>exact ⟨k+1,by omega,by go_num,by have e:=hsn.out;have e2:=hgcd.out;rw [Nat.gcd_zero_right] at e2;rw [e,e2],hbw'⟩
     case measure=>simp [intOf];omega
    ·have hb0:((c:Int) != 0)=true:=by simp;omega
     have hp:0<c:=by omega
     go_wp2
     go_quiet (fail)
     go_wp2
     have hm:=Nat.mod_lt a hp;refine ⟨⟨c,a % c,rfl,by go_num,hc,by omega, ?_,Yz hbw' _⟩,by simp [intOf];omega⟩;show Nat.gcd c (a % c)=_;rw [<- hgcd.out,Nat.gcd_comm a c,Nat.gcd_rec c a,Nat.gcd_comm]
  ·obtain rfl:k=xs.length:=by omega
   go_wp2
   go_ret
   refine ⟨?_,hbw⟩;rw [List.take_length];rfl
theorem isLeast_c (a:Int) (w:World) (ha:Yn a) :
 Calls Tryz.prog 129 #[.int .i64 a] w λ e w'=>e=.returned (.bool (Yd a))/\w=w':=by
 have hd:((a.natAbs:Int) == 9223372036854775808)=Yd a:=by
  obtain ⟨h1,h2⟩:=ha;unfold Yd;rw [Bool.eq_iff_iff];simp;omega
 go_enter Tryz.func129,Tryz.ntmps129
 go_wp2_with (go_at_call 131;refine (ZO _ _ ha).mono ?_;rintro e w' ⟨rfl,rfl⟩)
 go_ret
 exact ⟨by simp,rfl⟩
theorem JF (a:Int) (g:Nat) (w:World) (ha:Yn a) (hm:Yd a=false) (hg:0<g) (hg2:g<=9223372036854775808) :
 Calls Tryz.prog 209 #[.int .i64 a,.int .u64 (g:Nat)] w λ e w'=>e=.returned (.int .i64 (a.tdiv g))/\w=w':=by
 have hmag:=ZO a w ha;have hr:=Kw ha hm;have q0:=div_nonneg a.natAbs g;have q1:=div_le a.natAbs g 9223372036854775807 (by omega);clear hm ha;go_enter Tryz.func209,Tryz.ntmps209
 go_wp2_with (go_at_call 131;refine hmag.mono ?_;rintro e w' ⟨rfl,rfl⟩)
 ·have hneg:a<0:=by assumption
  go_ret
  exact ⟨Y0 (by rw [tdiv_of_neg hneg];simp),rfl⟩
 ·have hpos:0<=a:=by assumption
  go_ret
  exact ⟨Y0 (by rw [tdiv_of_nonneg hpos];simp),rfl⟩
def KZ (w w':World):Prop:=∃ n,w'=w.drewN n
theorem KZ.refl (w:World):KZ w w:=⟨0,rfl⟩
theorem KZ.drewN {w w':World} (h:KZ w w') (n:Nat):KZ w (w'.drewN n):=by
 obtain ⟨m,rfl⟩:=h;exact ⟨m+n,by rw [World.drewN_drewN]⟩
theorem KZ.out {w w':World} (h:KZ w w'):∃ n,w'=w.drewN n:=h
theorem l02Turn_c (a b:Int) (w:World) (ha:0<=a) (hb:0<b) (h1:a<=9223372036854775807) (h2:b<=9223372036854775807) :
 Calls Tryz.prog 264 #[.int .i64 a,.int .i64 b] w λ e w'=>e=.returned (.tuple #[.int .i64 b,.int .i64 (a % b)])/\∃ n,w'=w.drewN n:=by
 go_enter Tryz.func264,Tryz.ntmps264
 go_wp2
 go_quiet (fail)
 go_wp2
 go_ret2
 exact ⟨rfl,_,rfl⟩
theorem Zw (a b:Int) (w:World) (ha:Yn a) (hb:Yn b) :
 Calls Tryz.prog 236 #[.int .i64 a,.int .i64 b] w λ e w'=>e=.returned (.int .i64 (Y5 a b))/\∃ n,w'=w.drewN n:=by
 have hG:=gcdOf_eq a b;cases ma:Yd a
 ·cases mb:Yd b
  ·have ra:=Kw ha ma;have rb:=Kw hb mb;have HA:=Lib.hid ma;have HB:=Lib.hid mb;have HG:=Lib.hid hG;clear ma mb hG ha hb;obtain ⟨ra1,ra2⟩:=ra;obtain ⟨rb1,rb2⟩:=rb;have hfin:Hid (Y5 a b=((Nat.gcd a.natAbs b.natAbs:Nat):Int)):=by
    show _=_;rw [HG.out,HA.out,HB.out,KU];rfl
   clear HG;go_enter Tryz.func236,Tryz.ntmps236
   go_wp2
   all_goals
    go_loopw [0,1] (λ x y wr=>∃ m n:Nat,x=.int .i64 m/\y=.int .i64 n/\m<=9223372036854775807/\n<=9223372036854775807/\Hid (Nat.gcd m n=Nat.gcd a.natAbs b.natAbs)/\KZ w wr) (λ _ y _=>(intOf y).toNat)
    case atStart=>exact ⟨a.natAbs,b.natAbs,by congr 1;omega,by congr 1;omega,by omega,by omega,rfl,KZ.refl _⟩
    case round =>
     obtain ⟨m,n,rfl,rfl,hm,hn,hgcd,hbw⟩:=hrel;by_cases h0:n=0
     ·subst h0;go_wp2
      go_ret
      refine ⟨?_,hbw.out⟩;have e:=hgcd.out;rw [Nat.gcd_zero_right] at e;rw [hfin.out,<- e];rfl
     ·have hb0:((n:Int) != 0)=true:=by simp;omega
      have hp:0<n:=by omega
      go_wp2_with (fail)
      refine (l02Turn_c _ _ _ (by omega) (by omega) (by omega) (by omega)).mono ?_;rintro e w' ⟨rfl,nd,rfl⟩;go_wp2
      have hmod:=Nat.mod_lt m hp;refine ⟨⟨n,m % n,rfl,by go_num,by omega,by omega, ?_,hbw.drewN _⟩,by simp [intOf];omega⟩;show Nat.gcd n (m % n)=_;rw [<- hgcd.out,Nat.gcd_comm m n,Nat.gcd_rec n m,Nat.gcd_comm]
  ·rw [ma,mb] at hG;obtain ⟨ra1,ra2⟩:=Kw ha ma;simp [Yd] at mb;subst mb;have HG:=Lib.hid hG;clear hG ma;go_enter Tryz.func236,Tryz.ntmps236
   go_wp2
   all_goals
    go_ret
    exact ⟨Y0 (by rw [HG.out];rfl),0,rfl⟩
 ·rw [ma] at hG;simp [Yd] at ma;subst ma;have HG:=Lib.hid hG;clear hG;go_enter Tryz.func236,Tryz.ntmps236
  go_wp2
  all_goals
   go_ret
   exact ⟨Y0 (by rw [HG.out];rfl),0,rfl⟩
theorem ZG {P:Program} {f:FuncId} {args:Array Value} {w:World} {n:Nat} {v:Value}
 (h:Calls P f args (w.drewN n) λ e w'=>e=.returned v/\w.drewN n=w'):Calls P f args (w.drewN n) λ e w''=>e=.returned v/\∃ m,w''=w.drewN m :=
 h.mono λ _ _ ⟨he,hm⟩=>⟨he,n,hm.symm⟩
theorem JZ {P:Program} {f:FuncId} {args:Array Value} {w:World} {n:Nat} {v:Value}
 (h:Calls P f args (w.drewN n) λ e w'=>e=.returned v/\∃ m,w'=(w.drewN n).drewN m):Calls P f args (w.drewN n) λ e w''=>e=.returned v/\∃ m,w''=w.drewN m :=
 h.mono λ _ _ ⟨he,m,hm⟩=>⟨he,n+m,by rw [hm,World.drewN_drewN]⟩
theorem Kr (a b c:Int) (v:Bool) (h:ZH a b c=v) (w:World) :
 Calls Tryz.prog 217 #[.int .i64 a,.int .i64 b,.int .i64 c] w λ e w'=>e=.returned (.bool v)/\w=w':=by
 rw [<- h];exact l01In_c a b c w
theorem Kk (a:Int) (v:Bool) (h:Yd a=v) (ha:Yn a) (w:World) :
 Calls Tryz.prog 129 #[.int .i64 a] w λ e w'=>e=.returned (.bool v)/\w=w':=by
 rw [<- h];exact isLeast_c a w ha
theorem iSpotOk_c (s:Xz) (w:World) (hs:s.In) :
 Calls Tryz.prog 106 #[Y4 s] w λ e w'=>e=.returned (.bool (XA s))/\Below w.heap.size w w':=by
 cases e1:ZH s.d 1 5000000000
 ·go_enter Tryz.func106,Tryz.ntmps106
  go_wp2_with (first|(go_at_call 102;refine (YC _ _ _ _).mono ?_;rintro e w' ⟨rfl,rfl⟩))
  go_ret
  refine ⟨Xg (by simp [XA,e1]), ?_⟩;exact Xi
 ·obtain ⟨d1,d2⟩:=XY.1 e1;cases e2:ZH s.x (-1000*s.d) (1000*s.d)
  ·go_enter Tryz.func106,Tryz.ntmps106
   go_wp2_with (first|(go_at_call 102;refine (YC _ _ _ _).mono ?_;rintro e w' ⟨rfl,rfl⟩))
   go_ret
   refine ⟨Xg (by simp [XA,e1,e2]), ?_⟩;exact Xi
  ·cases e3:ZH s.y (-1000*s.d) (1000*s.d)
   ·go_enter Tryz.func106,Tryz.ntmps106
    go_wp2_with (first|(go_at_call 102;refine (YC _ _ _ _).mono ?_;rintro e w' ⟨rfl,rfl⟩))
    go_ret
    refine ⟨Xg (by simp [XA,e1,e2,e3]), ?_⟩;exact Xi
   ·have hall:∀ n∈[s.x,s.y,s.d],Yn n:=by simpa [Xz.In] using hs
    have hfin:Hid (XA s=decide (Xk [s.x,s.y,s.d]=1)):=by simp [Hid,XA,e1,e2,e3]
    have hg:=Jj (some ⟨w.heap.size+1,0,none⟩) [s.x,s.y,s.d] 3 _ (by simp) hall (K9 (T:=3) ZY (w.alloc (.cells #[.int .i64 s.x,.int .i64 s.y,.int .i64 s.d] 30)) [s.x,s.y,s.d] #[.int .i64 s.x,.int .i64 s.y,.int .i64 s.d] rfl (by simp));have hle:=Jk [s.x,s.y,s.d] hall;generalize Xk [s.x,s.y,s.d]=G at *;cases e4:((G:Int) == 1);all_goals
     go_enter Tryz.func106,Tryz.ntmps106
     go_wp2_with (go_at_call 102;refine (YC _ _ _ _).mono ?_;rintro e w' ⟨rfl,rfl⟩)
     refine hg.mono ?_;rintro e w1 ⟨rfl,hb1⟩;go_wp2
     go_ret
     refine ⟨Xg (by rw [hfin.out,Bool.eq_iff_iff];simp at e4 ⊢;omega), ?_⟩;exact Xf (Xc (Xc bR _) _) hb1
theorem sSpotOk_c (s:Xz) (w:World) (hs:s.In) :
 Calls Tryz.prog 259 #[Y4 s] w λ e w'=>e=.returned (.bool (XA s))/\Below w.heap.size w w':=by
 obtain ⟨h1,h2,h3⟩:=hs;cases e1:ZH s.d 1 5000000000
 ·go_enter Tryz.func259,Tryz.ntmps259
  go_wp2_with (first|(go_at_call 217;refine (l01In_c _ _ _ _).mono ?_;rintro e w' ⟨rfl,rfl⟩))
  go_ret
  refine ⟨Xg (by simp [XA,e1]), ?_⟩;exact Xi
 ·obtain ⟨d1,d2⟩:=XY.1 e1;cases e2:ZH s.x (-(1000*s.d)) (1000*s.d)
  ·have HW:=Lib.hid (IntWalk.i64_in (-(1000*s.d)) (by omega));go_enter Tryz.func259,Tryz.ntmps259
   go_wp2_with (first|(go_at_call 217;refine (l01In_c _ _ _ _).mono ?_;rintro e w' ⟨rfl,rfl⟩))
   go_big_quiet ((go_at_call 217;(try rw [HW.out]);exact ZG (Kr _ _ _ _ (by assumption) _)))
   go_wp2
   go_ret
   refine ⟨Xg (by rw [show -(1000*s.d) = -1000*s.d from by omega] at e2;simp [XA,e1,e2]), ?_⟩;exact Xi
  ·cases e3:ZH s.y (-(1000*s.d)) (1000*s.d)
   ·have HW:=Lib.hid (IntWalk.i64_in (-(1000*s.d)) (by omega));go_enter Tryz.func259,Tryz.ntmps259
    go_wp2_with (first|(go_at_call 217;refine (l01In_c _ _ _ _).mono ?_;rintro e w' ⟨rfl,rfl⟩))
    go_big_quiet ((go_at_call 217;(try rw [HW.out]);exact ZG (Kr _ _ _ _ (by assumption) _)))
    go_wp2
    go_ret
    refine ⟨Xg (by rw [show -(1000*s.d) = -1000*s.d from by omega] at e2 e3;simp [XA,e1,e2,e3]), ?_⟩;exact Xi
   ·have hxy:=gcdOf_In64 h1 h2;obtain ⟨x1,x2⟩:=XY.1 e2;obtain ⟨y1,y2⟩:=XY.1 e3;have hfin:Hid (XA s=(Y5 (Y5 s.x s.y) s.d == 1)):=by
     have m1:=Za (a:=s.x) (by omega);have m2:=Za (a:=s.y) (by omega);have m3:=Za (a:=s.d) (by omega);have:=JN h1 h2;have m4:=Za (a:=Y5 s.x s.y) (by omega);show _=_;rw [Z0 m4 m3,Z0 m1 m2];rw [show -(1000*s.d) = -1000*s.d from by omega] at e2 e3;rw [Bool.eq_iff_iff];simp [XA,e1,e2,e3,gcd3];omega
    have HW:=Lib.hid (IntWalk.i64_in (-(1000*s.d)) (by omega));cases e4:(Y5 (Y5 s.x s.y) s.d == 1);all_goals
     go_enter Tryz.func259,Tryz.ntmps259
     go_wp2_with (first|(go_at_call 217;refine (l01In_c _ _ _ _).mono ?_;rintro e w' ⟨rfl,rfl⟩))
     go_big_quiet ((first|(go_at_call 217;(try rw [HW.out]);exact ZG (Kr _ _ _ _ (by assumption) _))|(go_at_call 236;exact JZ (Zw _ _ _ (by assumption) (by assumption)))))
     go_wp2
     go_ret
     refine ⟨Xg (by rw [hfin.out,e4]), ?_⟩;exact Xi
theorem isCoef_c (a:Int) (w:World) :
 Calls Tryz.prog 266 #[.int .i64 a] w λ e w'=>e=.returned (.bool (ZH a (-50000) 50000))/\w=w':=by
 go_enter Tryz.func266,Tryz.ntmps266
 go_wp2_with (first|(go_at_call 102;refine (YC _ _ _ _).mono ?_;rintro e w' ⟨rfl,rfl⟩))
 go_ret
 exact ⟨rfl,rfl⟩
theorem Jg (h:Half) (w:World) (hh:h.In) :
 Calls Tryz.prog 242 #[Zb h] w λ e w'=>e=.returned (.bool (Xn h))/\Below w.heap.size w w':=by
 cases e1:ZH h.a (-50000) 50000
 ·go_enter Tryz.func242,Tryz.ntmps242
  go_wp2_with (first|(go_at_call 266;refine (isCoef_c _ _).mono ?_;rintro e w' ⟨rfl,rfl⟩))
  go_ret
  refine ⟨Xg (by simp [Xn,e1]), ?_⟩;exact Xi
 ·cases e2:ZH h.b (-50000) 50000
  ·go_enter Tryz.func242,Tryz.ntmps242
   go_wp2_with (first|(go_at_call 266;refine (isCoef_c _ _).mono ?_;rintro e w' ⟨rfl,rfl⟩))
   go_ret
   refine ⟨Xg (by simp [Xn,e1,e2]), ?_⟩;exact Xi
  ·cases e3:ZH h.c (-100000000) 100000000
   ·go_enter Tryz.func242,Tryz.ntmps242
    go_wp2_with (first|(go_at_call 266;refine (isCoef_c _ _).mono ?_;rintro e w' ⟨rfl,rfl⟩)|(go_at_call 102;refine (YC _ _ _ _).mono ?_;rintro e w' ⟨rfl,rfl⟩))
    go_ret
    refine ⟨Xg (by simp [Xn,e1,e2,e3]), ?_⟩;exact Xi
   ·have hall:∀ n∈[h.a,h.b,h.c],Yn n:=by simpa [Half.In] using hh
    have hfin:Hid (Xn h=(!(h.a == 0&&h.b == 0)&&decide (Xk [h.a,h.b,h.c]=1))):=by simp [Hid,Xn,e1,e2,e3];rfl
    have hg:=Jj (some ⟨w.heap.size+1,0,none⟩) [h.a,h.b,h.c] 3 _ (by simp) hall (K9 (T:=3) ZY (w.alloc (.cells #[.int .i64 h.a,.int .i64 h.b,.int .i64 h.c] 174)) [h.a,h.b,h.c] #[.int .i64 h.a,.int .i64 h.b,.int .i64 h.c] rfl (by simp));have hle:=Jk [h.a,h.b,h.c] hall;generalize Xk [h.a,h.b,h.c]=G at *;cases za:(h.a == 0)
    ·cases e4:((G:Int) == 1);all_goals
      go_enter Tryz.func242,Tryz.ntmps242
      go_wp2_with (first|(go_at_call 266;refine (isCoef_c _ _).mono ?_;rintro e w' ⟨rfl,rfl⟩)|(go_at_call 102;refine (YC _ _ _ _).mono ?_;rintro e w' ⟨rfl,rfl⟩))
      refine hg.mono ?_;rintro e w1 ⟨rfl,hb1⟩;go_wp2
      go_ret
      refine ⟨Xg (by rw [hfin.out,za,Bool.eq_iff_iff];simp at e4 ⊢;omega), ?_⟩;exact Xf (Xc (Xc bR _) _) hb1
    ·cases zb:(h.b == 0)
     ·cases e4:((G:Int) == 1);all_goals
       go_enter Tryz.func242,Tryz.ntmps242
       go_wp2_with (first|(go_at_call 266;refine (isCoef_c _ _).mono ?_;rintro e w' ⟨rfl,rfl⟩)|(go_at_call 102;refine (YC _ _ _ _).mono ?_;rintro e w' ⟨rfl,rfl⟩))
       refine hg.mono ?_;rintro e w1 ⟨rfl,hb1⟩;go_wp2
       go_ret
       refine ⟨Xg (by rw [hfin.out,za,zb,Bool.eq_iff_iff];simp at e4 ⊢;omega), ?_⟩;exact Xf (Xc (Xc bR _) _) hb1
     ·go_enter Tryz.func242,Tryz.ntmps242
      go_wp2_with (first|(go_at_call 266;refine (isCoef_c _ _).mono ?_;rintro e w' ⟨rfl,rfl⟩)|(go_at_call 102;refine (YC _ _ _ _).mono ?_;rintro e w' ⟨rfl,rfl⟩))
      go_ret
      refine ⟨Xg (by rw [hfin.out,za,zb];rfl), ?_⟩;exact Xi
end Go.Proofs.YtabfdkpdppemaaaGreat
