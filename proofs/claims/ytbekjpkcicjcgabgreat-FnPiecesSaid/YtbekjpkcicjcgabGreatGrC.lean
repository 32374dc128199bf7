/-
 What the functions on numbers return: ranges, magnitudes, divisors, fractions.
 Conditions: the arguments are ints of the machine.
-/
import Derived.Test.YtbekjpkcicjcgabGreatGrA
import Derived.Deep.QuietTactic
import Derived.BigQuiet
set_option maxHeartbeats 1000000
namespace Go.Proofs.YtbekjpkcicjcgabGreat
open Go.RowKit
theorem Yt (a b c:Int) (w:World) :
 Calls Tryz.prog 77 #[.int .i64 a,.int .i64 b,.int .i64 c] w λ e w'=>e=.returned (.bool (Zo a b c))/\w=w':=by
 go_enter Tryz.func77,Tryz.ntmps77
 go_wp2
 all_goals
  go_ret
  refine ⟨?_,rfl⟩;simp [Zo, *]<;>omega
theorem XQ (a b c:Int) (w:World) :
 Calls Tryz.prog 96 #[.int .i64 a,.int .i64 b,.int .i64 c] w λ e w'=>e=.returned (.bool (Zo a b c))/\w=w':=by
 go_enter Tryz.func96,Tryz.ntmps96
 go_wp2
 all_goals
  go_ret
  refine ⟨?_,rfl⟩;simp [Zo, *]<;>omega
theorem Kb (a:Int) (w:World) (ha:Yo a) :
 Calls Tryz.prog 94 #[.int .i64 a] w λ e w'=>e=.returned (.int .u64 (a.natAbs:Nat))/\w=w':=by
 obtain ⟨h1,h2⟩:=ha;go_enter Tryz.func94,Tryz.ntmps94
 go_wp2
 all_goals
  go_ret
  refine ⟨YH ?_,rfl⟩;first|omega|(simp only [IntKind.wrap_u64];omega)
theorem Ks (A:Option Addr) (xs:List Int) (cap:Nat) (w:World) (hl:xs.length<=64) (hx:∀ n∈xs,Yo n) (hs:Sl 1 KX w A xs) :
 Calls Tryz.prog 81 #[.slice A xs.length cap] w λ e w'=>e=.returned (.int .u64 (Xh xs:Nat))/\Below w.heap.size w w':=by
 go_enter Tryz.func81,Tryz.ntmps81
 go_wp2
 go_loopw [3,5,6,9] (λ g _ _ i wr=>∃ k:Nat,k<=xs.length/\i=.int .i64 k/\g=.int .u64 (Xh (xs.take k):Nat)/\Below w.heap.size w wr) (λ _ _ _ i _=>xs.length-(intOf i).toNat)
 case atStart=>exact ⟨0,Nat.zero_le _,rfl,rfl,Below.refl _ _⟩
 case round =>
  obtain ⟨k,hk,rfl,rfl,hbw⟩:=hrel;by_cases hlt:k<xs.length
  ·obtain ⟨b,off,rfl,hblt,hc⟩:=(hs.below hbw).at_ hlt;have g0:=hc 0 _ rfl;have hn:Yo xs[k]:=hx _ (List.getElem_mem hlt);have hG:Xh (xs.take k)<=9223372036854775808:=Jd _ (λ m hm=>hx m (List.mem_of_mem_take hm));have hsn:Hid (Xh (xs.take (k+1))=Nat.gcd (Xh (xs.take k)) xs[k].natAbs):=by rw [Y8 xs k hlt,gcdAll_snoc];rfl
   clear hc;simp only [Nat.mul_one,Nat.add_zero] at g0;generalize xs[k]=n at *;generalize Xh (xs.take k)=G at *;go_wp2_with (go_at_call 94;refine (Kb _ _ hn).mono ?_;rintro e w' ⟨rfl,rfl⟩)
   obtain ⟨wo,rfl⟩:∃ wo:World,wo=wr:=⟨_,rfl⟩;have hnn:=JD hn;go_loopw [3,6] (λ g m wr=>∃ a c:Nat,g=.int .u64 a/\m=.int .u64 c/\a<=9223372036854775808/\c<=9223372036854775808/\Hid (Nat.gcd a c=Nat.gcd G n.natAbs)/\Below w.heap.size w wr) (λ _ m _=>(intOf m).toNat)
   case atStart=>exact ⟨G,n.natAbs,rfl,rfl,hG,hnn,rfl,hbw⟩
   case round =>
    obtain ⟨a,c,rfl,rfl,ha,hc,hgcd,hbw'⟩:=hrel;by_cases h0:c=0
    ·subst h0;go_wp2
     go_roundw
     case rel=>exact ⟨k+1,by omega,by go_num,by have e:=hsn.out;have e2:=hgcd.out;rw [Nat.gcd_zero_right] at e2;rw [e,e2],hbw'⟩
     case measure=>simp [intOf];omega
    ·have hb0:((c:Int) != 0)=true:=by simp;omega
     have hp:0<c:=by omega
     go_wp2
     go_quiet (fail)
     go_wp2
     have hm:=Nat.mod_lt a hp;refine ⟨⟨c,a % c,rfl,by go_num,hc,by omega, ?_,Zf hbw' _⟩,by simp [intOf];omega⟩;show Nat.gcd c (a % c)=_;rw [<- hgcd.out,Nat.gcd_comm a c,Nat.gcd_rec c a,Nat.gcd_comm]
  ·obtain rfl:k=xs.length:=by omega
   go_wp2
   go_ret
   refine ⟨?_,hbw⟩;rw [List.take_length];rfl
theorem isLeast_c (a:Int) (w:World) (ha:Yo a) :
 Calls Tryz.prog 113 #[.int .i64 a] w λ e w'=>e=.returned (.bool (Yn a))/\w=w':=by
 have hd:((a.natAbs:Int) == 9223372036854775808)=Yn a:=by
  obtain ⟨h1,h2⟩:=ha;unfold Yn;rw [Bool.eq_iff_iff];simp;omega
 go_enter Tryz.func113,Tryz.ntmps113
 go_wp2_with (go_at_call 94;refine (Kb _ _ ha).mono ?_;rintro e w' ⟨rfl,rfl⟩)
 go_ret
 exact ⟨by simp,rfl⟩
theorem divided_c (a:Int) (g:Nat) (w:World) (ha:Yo a) (hm:Yn a=false) (hg:0<g) (hg2:g<=9223372036854775808) :
 Calls Tryz.prog 114 #[.int .i64 a,.int .u64 (g:Nat)] w λ e w'=>e=.returned (.int .i64 (a.tdiv g))/\w=w':=by
 have hmag:=Kb a w ha;have hr:=KK ha hm;have q0:=div_nonneg a.natAbs g;have q1:=div_le a.natAbs g 9223372036854775807 (by omega);clear hm ha;go_enter Tryz.func114,Tryz.ntmps114
 go_wp2_with (go_at_call 94;refine hmag.mono ?_;rintro e w' ⟨rfl,rfl⟩)
 ·have hneg:a<0:=by assumption
  go_ret
  exact ⟨YH (by rw [tdiv_of_neg hneg];simp),rfl⟩
 ·have hpos:0<=a:=by assumption
  go_ret
  exact ⟨YH (by rw [tdiv_of_nonneg hpos];simp),rfl⟩
def Drawn (w w':World):Prop:=∃ n,w'=w.drewN n
theorem Drawn.refl (w:World):Drawn w w:=⟨0,rfl⟩
theorem Drawn.drewN {w w':World} (h:Drawn w w') (n:Nat):Drawn w (w'.drewN n):=by
 obtain ⟨m,rfl⟩:=h;exact ⟨m+n,by rw [World.drewN_drewN]⟩
theorem Drawn.out {w w':World} (h:Drawn w w'):∃ n,w'=w.drewN n:=h
theorem l02Turn_c (a b:Int) (w:World) (ha:0<=a) (hb:0<b) (h1:a<=9223372036854775807) (h2:b<=9223372036854775807) :
 Calls Tryz.prog 131 #[.int .i64 a,.int .i64 b] w λ e w'=>e=.returned (.tuple #[.int .i64 b,.int .i64 (a % b)])/\∃ n,w'=w.drewN n:=by
 go_enter Tryz.func131,Tryz.ntmps131
 go_wp2
 go_quiet (fail)
 go_wp2
 go_ret2
 exact ⟨rfl,_,rfl⟩
theorem Y1 (a b:Int) (w:World) (ha:Yo a) (hb:Yo b) :
 Calls Tryz.prog 108 #[.int .i64 a,.int .i64 b] w λ e w'=>e=.returned (.int .i64 (YO a b))/\∃ n,w'=w.drewN n:=by
 have hG:=gcdOf_eq a b;cases ma:Yn a
 ·cases mb:Yn b
  ·have ra:=KK ha ma;have rb:=KK hb mb;have HA:=Lib.hid ma;have HB:=Lib.hid mb;have HG:=Lib.hid hG;clear ma mb hG ha hb;obtain ⟨ra1,ra2⟩:=ra;obtain ⟨rb1,rb2⟩:=rb;have hfin:Hid (YO a b=((Nat.gcd a.natAbs b.natAbs:Nat):Int)):=by
    show _=_;rw [HG.out,HA.out,HB.out,Jm];rfl
   clear HG;go_enter Tryz.func108,Tryz.ntmps108
   go_wp2
   all_goals
    go_loopw [0,1] (λ x y wr=>∃ m n:Nat,x=.int .i64 m/\y=.int .i64 n/\m<=9223372036854775807/\n<=9223372036854775807/\Hid (Nat.gcd m n=Nat.gcd a.natAbs b.natAbs)/\Drawn w wr) (λ _ y _=>(intOf y).toNat)
    case atStart=>exact ⟨a.natAbs,b.natAbs,by congr 1;omega,by congr 1;omega,by omega,by omega,rfl,Drawn.refl _⟩
    case round =>
     obtain ⟨m,n,rfl,rfl,hm,hn,hgcd,hbw⟩:=hrel;by_cases h0:n=0
     ·subst h0;go_wp2
      go_ret
      refine ⟨?_,hbw.out⟩;have e:=hgcd.out;rw [Nat.gcd_zero_right] at e;rw [hfin.out,<- e];rfl
     ·have hb0:((n:Int) != 0)=true:=by simp;omega
      have hp:0<n:=by omega
      go_wp2_with (fail)
      refine (l02Turn_c _ _ _ (by omega) (by omega) (by omega) (by omega)).mono ?_;rintro e w' ⟨rfl,nd,rfl⟩;go_wp2
      have hmod:=Nat.mod_lt m hp;refine ⟨⟨n,m % n,rfl,by go_num,by omega,by omega, ?_,hbw.drewN _⟩,by simp [intOf];omega⟩;show Nat.gcd n (m % n)=_;rw [<- hgcd.out,Nat.gcd_comm m n,Nat.gcd_rec n m,Nat.gcd_comm]
  ·rw [ma,mb] at hG;obtain ⟨ra1,ra2⟩:=KK ha ma;simp [Yn] at mb;subst mb;have HG:=Lib.hid hG;clear hG ma;go_enter Tryz.func108,Tryz.ntmps108
   go_wp2
   all_goals
    go_ret
    exact ⟨YH (by rw [HG.out];rfl),0,rfl⟩
 ·rw [ma] at hG;simp [Yn] at ma;subst ma;have HG:=Lib.hid hG;clear hG;go_enter Tryz.func108,Tryz.ntmps108
  go_wp2
  all_goals
   go_ret
   exact ⟨YH (by rw [HG.out];rfl),0,rfl⟩
theorem XT {P:Program} {f:FuncId} {args:Array Value} {w:World} {n:Nat} {v:Value}
 (h:Calls P f args (w.drewN n) λ e w'=>e=.returned v/\w.drewN n=w'):Calls P f args (w.drewN n) λ e w''=>e=.returned v/\∃ m,w''=w.drewN m :=
 h.mono λ _ _ ⟨he,hm⟩=>⟨he,n,hm.symm⟩
theorem KQ {P:Program} {f:FuncId} {args:Array Value} {w:World} {n:Nat} {v:Value}
 (h:Calls P f args (w.drewN n) λ e w'=>e=.returned v/\∃ m,w'=(w.drewN n).drewN m):Calls P f args (w.drewN n) λ e w''=>e=.returned v/\∃ m,w''=w.drewN m :=
 h.mono λ _ _ ⟨he,m,hm⟩=>⟨he,n+m,by rw [hm,World.drewN_drewN]⟩
theorem ZW (a b c:Int) (v:Bool) (h:Zo a b c=v) (w:World) :
 Calls Tryz.prog 96 #[.int .i64 a,.int .i64 b,.int .i64 c] w λ e w'=>e=.returned (.bool v)/\w=w':=by
 rw [<- h];exact XQ a b c w
theorem Ky (a:Int) (v:Bool) (h:Yn a=v) (ha:Yo a) (w:World) :
 Calls Tryz.prog 113 #[.int .i64 a] w λ e w'=>e=.returned (.bool v)/\w=w':=by
 rw [<- h];exact isLeast_c a w ha
theorem sSpotOk_c (s:XW) (w:World) (hs:s.In) :
 Calls Tryz.prog 154 #[spotV s] w λ e w'=>e=.returned (.bool (XP s))/\Below w.heap.size w w':=by
 obtain ⟨h1,h2,h3⟩:=hs;cases e1:Zo s.d 1 5000000000
 ·go_enter Tryz.func154,Tryz.ntmps154
  go_wp2_with (first|(go_at_call 96;refine (XQ _ _ _ _).mono ?_;rintro e w' ⟨rfl,rfl⟩))
  go_ret
  refine ⟨Xi (by simp [XP,e1]), ?_⟩;exact Xn
 ·obtain ⟨d1,d2⟩:=YQ.1 e1;cases e2:Zo s.x (-(1000*s.d)) (1000*s.d)
  ·have HW:=Lib.hid (IntWalk.i64_in (-(1000*s.d)) (by omega));go_enter Tryz.func154,Tryz.ntmps154
   go_wp2_with (first|(go_at_call 96;refine (XQ _ _ _ _).mono ?_;rintro e w' ⟨rfl,rfl⟩))
   go_big_quiet ((go_at_call 96;(try rw [HW.out]);exact XT (ZW _ _ _ _ (by assumption) _)))
   go_wp2
   go_ret
   refine ⟨Xi (by rw [show -(1000*s.d) = -1000*s.d from by omega] at e2;simp [XP,e1,e2]), ?_⟩;exact Xn
  ·cases e3:Zo s.y (-(1000*s.d)) (1000*s.d)
   ·have HW:=Lib.hid (IntWalk.i64_in (-(1000*s.d)) (by omega));go_enter Tryz.func154,Tryz.ntmps154
    go_wp2_with (first|(go_at_call 96;refine (XQ _ _ _ _).mono ?_;rintro e w' ⟨rfl,rfl⟩))
    go_big_quiet ((go_at_call 96;(try rw [HW.out]);exact XT (ZW _ _ _ _ (by assumption) _)))
    go_wp2
    go_ret
    refine ⟨Xi (by rw [show -(1000*s.d) = -1000*s.d from by omega] at e2 e3;simp [XP,e1,e2,e3]), ?_⟩;exact Xn
   ·have hxy:=JG h1 h2;obtain ⟨x1,x2⟩:=YQ.1 e2;obtain ⟨y1,y2⟩:=YQ.1 e3;have hfin:Hid (XP s=(YO (YO s.x s.y) s.d == 1)):=by
     have m1:=YF (a:=s.x) (by omega);have m2:=YF (a:=s.y) (by omega);have m3:=YF (a:=s.d) (by omega);have:=Jn h1 h2;have m4:=YF (a:=YO s.x s.y) (by omega);show _=_;rw [ZU m4 m3,ZU m1 m2];rw [show -(1000*s.d) = -1000*s.d from by omega] at e2 e3;rw [Bool.eq_iff_iff];simp [XP,e1,e2,e3,gcd3];omega
    have HW:=Lib.hid (IntWalk.i64_in (-(1000*s.d)) (by omega));cases e4:(YO (YO s.x s.y) s.d == 1);all_goals
     go_enter Tryz.func154,Tryz.ntmps154
     go_wp2_with (first|(go_at_call 96;refine (XQ _ _ _ _).mono ?_;rintro e w' ⟨rfl,rfl⟩))
     go_big_quiet ((first|(go_at_call 96;(try rw [HW.out]);exact XT (ZW _ _ _ _ (by assumption) _))|(go_at_call 108;exact KQ (Y1 _ _ _ (by assumption) (by assumption)))))
     go_wp2
     go_ret
     refine ⟨Xi (by rw [hfin.out,e4]), ?_⟩;exact Xn
theorem isCoef_c (a:Int) (w:World) :
 Calls Tryz.prog 135 #[.int .i64 a] w λ e w'=>e=.returned (.bool (Zo a (-50000) 50000))/\w=w':=by
 go_enter Tryz.func135,Tryz.ntmps135
 go_wp2_with (first|(go_at_call 77;refine (Yt _ _ _ _).mono ?_;rintro e w' ⟨rfl,rfl⟩))
 go_ret
 exact ⟨rfl,rfl⟩
theorem JF (h:Half) (w:World) (hh:h.In) :
 Calls Tryz.prog 115 #[Yf h] w λ e w'=>e=.returned (.bool (Xq h))/\Below w.heap.size w w':=by
 cases e1:Zo h.a (-50000) 50000
 ·go_enter Tryz.func115,Tryz.ntmps115
  go_wp2_with (first|(go_at_call 135;refine (isCoef_c _ _).mono ?_;rintro e w' ⟨rfl,rfl⟩))
  go_ret
  refine ⟨Xi (by simp [Xq,e1]), ?_⟩;exact Xn
 ·cases e2:Zo h.b (-50000) 50000
  ·go_enter Tryz.func115,Tryz.ntmps115
   go_wp2_with (first|(go_at_call 135;refine (isCoef_c _ _).mono ?_;rintro e w' ⟨rfl,rfl⟩))
   go_ret
   refine ⟨Xi (by simp [Xq,e1,e2]), ?_⟩;exact Xn
  ·cases e3:Zo h.c (-100000000) 100000000
   ·go_enter Tryz.func115,Tryz.ntmps115
    go_wp2_with (first|(go_at_call 135;refine (isCoef_c _ _).mono ?_;rintro e w' ⟨rfl,rfl⟩)|(go_at_call 77;refine (Yt _ _ _ _).mono ?_;rintro e w' ⟨rfl,rfl⟩))
    go_ret
    refine ⟨Xi (by simp [Xq,e1,e2,e3]), ?_⟩;exact Xn
   ·have hall:∀ n∈[h.a,h.b,h.c],Yo n:=by simpa [Half.In] using hh
    have hfin:Hid (Xq h=(!(h.a == 0&&h.b == 0)&&decide (Xh [h.a,h.b,h.c]=1))):=by simp [Hid,Xq,e1,e2,e3];rfl
    have hg:=Ks (some ⟨w.heap.size+1,0,none⟩) [h.a,h.b,h.c] 3 _ (by simp) hall (Jy (T:=3) Zc (w.alloc (.cells #[.int .i64 h.a,.int .i64 h.b,.int .i64 h.c] 85)) [h.a,h.b,h.c] #[.int .i64 h.a,.int .i64 h.b,.int .i64 h.c] rfl (by simp));have hle:=Jd [h.a,h.b,h.c] hall;generalize Xh [h.a,h.b,h.c]=G at *;cases za:(h.a == 0)
    ·cases e4:((G:Int) == 1);all_goals
      go_enter Tryz.func115,Tryz.ntmps115
      go_wp2_with (first|(go_at_call 135;refine (isCoef_c _ _).mono ?_;rintro e w' ⟨rfl,rfl⟩)|(go_at_call 77;refine (Yt _ _ _ _).mono ?_;rintro e w' ⟨rfl,rfl⟩))
      refine hg.mono ?_;rintro e w1 ⟨rfl,hb1⟩;go_wp2
      go_ret
      refine ⟨Xi (by rw [hfin.out,za,Bool.eq_iff_iff];simp at e4 ⊢;omega), ?_⟩;exact Xg (Xa (Xa bR _) _) hb1
    ·cases zb:(h.b == 0)
     ·cases e4:((G:Int) == 1);all_goals
       go_enter Tryz.func115,Tryz.ntmps115
       go_wp2_with (first|(go_at_call 135;refine (isCoef_c _ _).mono ?_;rintro e w' ⟨rfl,rfl⟩)|(go_at_call 77;refine (Yt _ _ _ _).mono ?_;rintro e w' ⟨rfl,rfl⟩))
       refine hg.mono ?_;rintro e w1 ⟨rfl,hb1⟩;go_wp2
       go_ret
       refine ⟨Xi (by rw [hfin.out,za,zb,Bool.eq_iff_iff];simp at e4 ⊢;omega), ?_⟩;exact Xg (Xa (Xa bR _) _) hb1
     ·go_enter Tryz.func115,Tryz.ntmps115
      go_wp2_with (first|(go_at_call 135;refine (isCoef_c _ _).mono ?_;rintro e w' ⟨rfl,rfl⟩)|(go_at_call 77;refine (Yt _ _ _ _).mono ?_;rintro e w' ⟨rfl,rfl⟩))
      go_ret
      refine ⟨Xi (by rw [hfin.out,za,zb];rfl), ?_⟩;exact Xn
end Go.Proofs.YtbekjpkcicjcgabGreat
