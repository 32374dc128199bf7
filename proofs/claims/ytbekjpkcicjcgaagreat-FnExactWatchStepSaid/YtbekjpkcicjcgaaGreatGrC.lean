/-
 What the functions on numbers return: ranges, magnitudes, divisors, fractions.
 Conditions: the arguments are ints of the machine.
-/
import Derived.Test.YtbekjpkcicjcgaaGreatGrA
import Derived.Deep.QuietTactic
import Derived.BigQuiet
set_option maxHeartbeats 1000000
namespace Go.Proofs.YtbekjpkcicjcgaaGreat
open Go.RowKit
theorem Zn (a b c:Int) (w:World) :
 Calls Tryz.prog 59 #[.int .i64 a,.int .i64 b,.int .i64 c] w λ e w'=>e=.returned (.bool (ZL a b c))/\w=w':=by
 go_enter Tryz.func59,Tryz.ntmps59
 go_wp2
 all_goals
  go_ret
  refine ⟨?_,rfl⟩;simp [ZL, *]<;>omega
theorem XT (a b c:Int) (w:World) :
 Calls Tryz.prog 129 #[.int .i64 a,.int .i64 b,.int .i64 c] w λ e w'=>e=.returned (.bool (ZL a b c))/\w=w':=by
 go_enter Tryz.func129,Tryz.ntmps129
 go_wp2
 all_goals
  go_ret
  refine ⟨?_,rfl⟩;simp [ZL, *]<;>omega
theorem Ki (a:Int) (w:World) (ha:Yy a) :
 Calls Tryz.prog 66 #[.int .i64 a] w λ e w'=>e=.returned (.int .u64 (a.natAbs:Nat))/\w=w':=by
 obtain ⟨h1,h2⟩:=ha;go_enter Tryz.func66,Tryz.ntmps66
 go_wp2
 all_goals
  go_ret
  refine ⟨YB ?_,rfl⟩;first|omega|(simp only [IntKind.wrap_u64];omega)
theorem Jf (A:Option Addr) (xs:List Int) (cap:Nat) (w:World) (hl:xs.length<=64) (hx:∀ n∈xs,Yy n) (hs:Sl 1 Zm w A xs) :
 Calls Tryz.prog 65 #[.slice A xs.length cap] w λ e w'=>e=.returned (.int .u64 (Xm xs:Nat))/\Below w.heap.size w w':=by
 go_enter Tryz.func65,Tryz.ntmps65
 go_wp2
 go_loopw [3,5,6,9] (λ g _ _ i wr=>∃ k:Nat,k<=xs.length/\i=.int .i64 k/\g=.int .u64 (Xm (xs.take k):Nat)/\Below w.heap.size w wr) (λ _ _ _ i _=>xs.length-(intOf i).toNat)
 case atStart=>exact ⟨0,Nat.zero_le _,rfl,rfl,Below.refl _ _⟩
 case round =>
  obtain ⟨k,hk,rfl,rfl,hbw⟩:=hrel;by_cases hlt:k<xs.length
  ·obtain ⟨b,off,rfl,hblt,hc⟩:=(hs.below hbw).at_ hlt;have g0:=hc 0 _ rfl;have hn:Yy xs[k]:=hx _ (List.getElem_mem hlt);have hG:Xm (xs.take k)<=9223372036854775808:=JF _ (λ m hm=>hx m (List.mem_of_mem_take hm));have hsn:Hid (Xm (xs.take (k+1))=Nat.gcd (Xm (xs.take k)) xs[k].natAbs):=by rw [Zj xs k hlt,gcdAll_snoc];rfl
   clear hc;simp only [Nat.mul_one,Nat.add_zero] at g0;generalize xs[k]=n at *;generalize Xm (xs.take k)=G at *;go_wp2_with (go_at_call 66;refine (Ki _ _ hn).mono ?_;rintro e w' ⟨rfl,rfl⟩)
   obtain ⟨wo,rfl⟩:∃ wo:World,wo=wr:=⟨_,rfl⟩;have hnn:=JC hn;go_loopw [3,6] (λ g m wr=>∃ a c:Nat,g=.int .u64 a/\m=.int .u64 c/\a<=9223372036854775808/\c<=9223372036854775808/\Hid (Nat.gcd a c=Nat.gcd G n.natAbs)/\Below w.heap.size w wr) (λ _ m _=>(intOf m).toNat)
   case atStart=>exact ⟨G,n.natAbs,rfl,rfl,hG,hnn,rfl,hbw⟩
   case round =>
    obtain ⟨a,c,rfl,rfl,ha,hc,hgcd,hbw'⟩:=hrel;by_cases h0:c=0
    ·subst h0;go_wp2
     go_roundw
     case rel=>exact ⟨k+1,by omega,by go_num,by have e:=hsn.out;have e2:=hgcd.out;rw [Nat.gcd_zero_right] at e2;rw [e,e2],hbw'⟩
     case measure=>simp [intOf];omega
    ·have hb0:((c:Int) != 0)=true:=by simp;omega
     have hp:0<c:=Oz
     go_wp2
     go_quiet (fail)
     go_wp2
     have hm:=Nat.mod_lt a hp;refine ⟨⟨c,a % c,rfl,by go_num,hc,by omega, ?_,YQ hbw' _⟩,by simp [intOf];omega⟩;show Nat.gcd c (a % c)=_;rw [<- hgcd.out,Nat.gcd_comm a c,Nat.gcd_rec c a,Nat.gcd_comm]
  ·obtain rfl:k=xs.length:=Oz
   go_wp2
   go_ret
   refine ⟨?_,hbw⟩;rw [List.take_length];rfl
theorem isLeast_c (a:Int) (w:World) (ha:Yy a) :
 Calls Tryz.prog 64 #[.int .i64 a] w λ e w'=>e=.returned (.bool (Yj a))/\w=w':=by
 have hd:((a.natAbs:Int) == 9223372036854775808)=Yj a:=by
  obtain ⟨h1,h2⟩:=ha;unfold Yj;rw [Bool.eq_iff_iff];simp;omega
 go_enter Tryz.func64,Tryz.ntmps64
 go_wp2_with (go_at_call 66;refine (Ki _ _ ha).mono ?_;rintro e w' ⟨rfl,rfl⟩)
 go_ret
 exact ⟨Sz,rfl⟩
theorem JZ (a:Int) (g:Nat) (w:World) (ha:Yy a) (hm:Yj a=false) (hg:0<g) (hg2:g<=9223372036854775808) :
 Calls Tryz.prog 149 #[.int .i64 a,.int .u64 (g:Nat)] w λ e w'=>e=.returned (.int .i64 (a.tdiv g))/\w=w':=by
 have hmag:=Ki a w ha;have hr:=Kj ha hm;have q0:=div_nonneg a.natAbs g;have q1:=div_le a.natAbs g 9223372036854775807 (by omega);clear hm ha;go_enter Tryz.func149,Tryz.ntmps149
 go_wp2_with (go_at_call 66;refine hmag.mono ?_;rintro e w' ⟨rfl,rfl⟩)
 ·have hneg:a<0:=by assumption
  go_ret
  exact ⟨YB (by rw [JL hneg];simp),rfl⟩
 ·have hpos:0<=a:=by assumption
  go_ret
  exact ⟨YB (by rw [KM hpos];simp),rfl⟩
theorem iGcdOf_c (a b:Int) (w:World) (ha:Yy a) (hb:Yy b) :
 Calls Tryz.prog 110 #[.int .i64 a,.int .i64 b] w λ e w'=>e=.returned (.int .i64 (YF a b))/\Below w.heap.size w w':=by
 have hall:∀ n∈[a,b],Yy n:=by simp [ha,hb]
 have hG:Hid (YF a b=if Yj a||Yj b then 0 else ((Xm [a,b]:Nat):Int)):=gcdOf_eq a b;have hsl:Sl 1 Zm (w.alloc (.cells #[.int .i64 a,.int .i64 b] 3)) (some ⟨w.heap.size,0,none⟩) [a,b]:=sl_new Zg _ _ _ rfl;have hg:=Jf _ [a,b] 2 _ Sz hall hsl;have hle:=JF [a,b] hall;have hlt:=gcd_pair_le ha hb;generalize Xm [a,b]=G at *;have hm1:=isLeast_c a;have hm2:=isLeast_c b;generalize Yj a=ma at *;generalize Yj b=mb at *;have hGG:ma=false->mb=false->G<=9223372036854775807:=hlt;clear hlt;cases ma<;>cases mb
 ·have:=hGG rfl rfl;clear hGG;go_enter Tryz.func110,Tryz.ntmps110
  go_wp2_with (fail)
  refine (hg).mono ?_;rintro e w1 ⟨rfl,hb_w1⟩;go_wp2_with (fail)
  refine (hm1 _ ha).mono ?_;rintro e w' ⟨rfl,rfl⟩;go_wp2_with (fail)
  refine (hm2 _ hb).mono ?_;rintro e w' ⟨rfl,rfl⟩;go_wp2
  go_ret
  exact ⟨YB (by rw [hG.out];rfl),(bR.alloc XE _).trans (hb_w1.mono Sz)⟩
 ·clear hGG;go_enter Tryz.func110,Tryz.ntmps110
  go_wp2_with (fail)
  refine (hg).mono ?_;rintro e w1 ⟨rfl,hb_w1⟩;go_wp2_with (fail)
  refine (hm1 _ ha).mono ?_;rintro e w' ⟨rfl,rfl⟩;go_wp2_with (fail)
  refine (hm2 _ hb).mono ?_;rintro e w' ⟨rfl,rfl⟩;go_wp2
  go_ret
  exact ⟨YB (by rw [hG.out];rfl),(bR.alloc XE _).trans (hb_w1.mono Sz)⟩
 all_goals
  clear hGG;go_enter Tryz.func110,Tryz.ntmps110
  go_wp2_with (fail)
  refine (hg).mono ?_;rintro e w1 ⟨rfl,hb_w1⟩;go_wp2_with (fail)
  refine (hm1 _ ha).mono ?_;rintro e w' ⟨rfl,rfl⟩;go_wp2
  go_ret
  exact ⟨YB (by rw [hG.out];rfl),(bR.alloc XE _).trans (hb_w1.mono Sz)⟩
def Drawn (w w':World):Prop:=∃ n,w'=w.drewN n
theorem Drawn.refl (w:World):Drawn w w:=⟨0,rfl⟩
theorem Drawn.drewN {w w':World} (h:Drawn w w') (n:Nat):Drawn w (w'.drewN n):=by
 obtain ⟨m,rfl⟩:=h;exact ⟨m+n,by rw [World.drewN_drewN]⟩
theorem Drawn.out {w w':World} (h:Drawn w w'):∃ n,w'=w.drewN n:=h
theorem l02Turn_c (a b:Int) (w:World) (ha:0<=a) (hb:0<b) (h1:a<=9223372036854775807) (h2:b<=9223372036854775807) :
 Calls Tryz.prog 162 #[.int .i64 a,.int .i64 b] w λ e w'=>e=.returned (.tuple #[.int .i64 b,.int .i64 (a % b)])/\∃ n,w'=w.drewN n:=by
 go_enter Tryz.func162,Tryz.ntmps162
 go_wp2
 go_quiet (fail)
 go_wp2
 go_ret2
 exact ⟨rfl,_,rfl⟩
theorem Zf (a b:Int) (w:World) (ha:Yy a) (hb:Yy b) :
 Calls Tryz.prog 131 #[.int .i64 a,.int .i64 b] w λ e w'=>e=.returned (.int .i64 (YF a b))/\∃ n,w'=w.drewN n:=by
 have hG:=gcdOf_eq a b;cases ma:Yj a
 ·cases mb:Yj b
  ·have ra:=Kj ha ma;have rb:=Kj hb mb;have HA:=Lib.hid ma;have HB:=Lib.hid mb;have HG:=Lib.hid hG;clear ma mb hG ha hb;obtain ⟨ra1,ra2⟩:=ra;obtain ⟨rb1,rb2⟩:=rb;have hfin:Hid (YF a b=((Nat.gcd a.natAbs b.natAbs:Nat):Int)):=by
    show _=_;rw [HG.out,HA.out,HB.out,Ka];rfl
   clear HG;go_enter Tryz.func131,Tryz.ntmps131
   go_wp2
   all_goals
    go_loopw [0,1] (λ x y wr=>∃ m n:Nat,x=.int .i64 m/\y=.int .i64 n/\m<=9223372036854775807/\n<=9223372036854775807/\Hid (Nat.gcd m n=Nat.gcd a.natAbs b.natAbs)/\Drawn w wr) (λ _ y _=>(intOf y).toNat)
    case atStart=>exact ⟨a.natAbs,b.natAbs,by congr 1;omega,by congr 1;omega,Oz,Oz,rfl,Drawn.refl _⟩
    case round =>
     obtain ⟨m,n,rfl,rfl,hm,hn,hgcd,hbw⟩:=hrel;by_cases h0:n=0
     ·subst h0;go_wp2
      go_ret
      refine ⟨?_,hbw.out⟩;have e:=hgcd.out;rw [Nat.gcd_zero_right] at e;rw [hfin.out,<- e];rfl
     ·have hb0:((n:Int) != 0)=true:=by simp;omega
      have hp:0<n:=Oz
      go_wp2_with (fail)
      refine (l02Turn_c _ _ _ (by omega) (by omega) (by omega) (by omega)).mono ?_;rintro e w' ⟨rfl,nd,rfl⟩;go_wp2
      have hmod:=Nat.mod_lt m hp;refine ⟨⟨n,m % n,rfl,by go_num,by omega,by omega, ?_,hbw.drewN _⟩,by simp [intOf];omega⟩;show Nat.gcd n (m % n)=_;rw [<- hgcd.out,Nat.gcd_comm m n,Nat.gcd_rec n m,Nat.gcd_comm]
  ·rw [ma,mb] at hG;obtain ⟨ra1,ra2⟩:=Kj ha ma;simp [Yj] at mb;subst mb;have HG:=Lib.hid hG;clear hG ma;go_enter Tryz.func131,Tryz.ntmps131
   go_wp2
   all_goals
    go_ret
    exact ⟨YB (by rw [HG.out];rfl),0,rfl⟩
 ·rw [ma] at hG;simp [Yj] at ma;subst ma;have HG:=Lib.hid hG;clear hG;go_enter Tryz.func131,Tryz.ntmps131
  go_wp2
  all_goals
   go_ret
   exact ⟨YB (by rw [HG.out];rfl),0,rfl⟩
theorem Yb {P:Program} {f:FuncId} {args:Array Value} {w:World} {n:Nat} {v:Value}
 (h:Calls P f args (w.drewN n) λ e w'=>e=.returned v/\w.drewN n=w'):Calls P f args (w.drewN n) λ e w''=>e=.returned v/\∃ m,w''=w.drewN m :=
 h.mono λ _ _ ⟨he,hm⟩=>⟨he,n,hm.symm⟩
theorem quiet_n {P:Program} {f:FuncId} {args:Array Value} {w:World} {n:Nat} {v:Value}
 (h:Calls P f args (w.drewN n) λ e w'=>e=.returned v/\∃ m,w'=(w.drewN n).drewN m):Calls P f args (w.drewN n) λ e w''=>e=.returned v/\∃ m,w''=w.drewN m :=
 h.mono λ _ _ ⟨he,m,hm⟩=>⟨he,n+m,by rw [hm,World.drewN_drewN]⟩
theorem JJ (a b c:Int) (v:Bool) (h:ZL a b c=v) (w:World) :
 Calls Tryz.prog 129 #[.int .i64 a,.int .i64 b,.int .i64 c] w λ e w'=>e=.returned (.bool v)/\w=w':=by
 rw [<- h];exact XT a b c w
theorem KI (a:Int) (v:Bool) (h:Yj a=v) (ha:Yy a) (w:World) :
 Calls Tryz.prog 64 #[.int .i64 a] w λ e w'=>e=.returned (.bool v)/\w=w':=by
 rw [<- h];exact isLeast_c a w ha
theorem Km (r:Yk) (w:World) (hr:r.In) :
 Calls Tryz.prog 55 #[Xv r] w λ e w'=>e=.returned (.bool (Xn r))/\Below w.heap.size w w':=by
 obtain ⟨h1,h2⟩:=hr;cases e1:ZL r.d 1 1000000000000000
 ·go_enter Tryz.func55,Tryz.ntmps55
  go_wp2_with (first|(go_at_call 59;refine (Zn _ _ _ _).mono ?_;rintro e w' ⟨rfl,rfl⟩))
  go_ret
  refine ⟨Xi (by simp [Xn,e1]), ?_⟩;exact Xl
 ·cases e2:ZL r.n (-1000000000000000000) 1000000000000000000
  ·go_enter Tryz.func55,Tryz.ntmps55
   go_wp2_with (first|(go_at_call 59;refine (Zn _ _ _ _).mono ?_;rintro e w' ⟨rfl,rfl⟩))
   go_ret
   refine ⟨Xi (by simp [Xn,e1,e2]), ?_⟩;exact Xl
  ·cases e3:(YF r.n r.d == 1);all_goals
    go_enter Tryz.func55,Tryz.ntmps55
    go_wp2_with (go_at_call 59;refine (Zn _ _ _ _).mono ?_;rintro e w' ⟨rfl,rfl⟩)
    refine (iGcdOf_c _ _ _ h1 h2).mono ?_;rintro e w1 ⟨rfl,hb1⟩;go_wp2
    go_ret
    refine ⟨Xi (by rw [Bool.eq_iff_iff];simp [Xn,e1,e2] at e3 ⊢;exact e3), ?_⟩;exact Xe (Xc bR _) hb1
theorem Zs (r:Yk) (w:World) (hr:r.In) :
 Calls Tryz.prog 123 #[Xv r] w λ e w'=>e=.returned (.bool (Xn r))/\Below w.heap.size w w':=by
 obtain ⟨h1,h2⟩:=hr;cases e1:ZL r.d 1 1000000000000000
 ·go_enter Tryz.func123,Tryz.ntmps123
  go_wp2_with (first|(go_at_call 129;refine (XT _ _ _ _).mono ?_;rintro e w' ⟨rfl,rfl⟩))
  go_ret
  refine ⟨Xi (by simp [Xn,e1]), ?_⟩;exact Xl
 ·cases e2:ZL r.n (-1000000000000000000) 1000000000000000000
  ·go_enter Tryz.func123,Tryz.ntmps123
   go_wp2_with (first|(go_at_call 129;refine (XT _ _ _ _).mono ?_;rintro e w' ⟨rfl,rfl⟩))
   go_ret
   refine ⟨Xi (by simp [Xn,e1,e2]), ?_⟩;exact Xl
  ·cases e3:(YF r.n r.d == 1);all_goals
    go_enter Tryz.func123,Tryz.ntmps123
    go_wp2_with (go_at_call 129;refine (XT _ _ _ _).mono ?_;rintro e w' ⟨rfl,rfl⟩)
    refine (Zf _ _ _ h1 h2).mono ?_;rintro e w1 ⟨rfl,nd,rfl⟩;go_wp2
    go_ret
    refine ⟨Xi (by rw [Bool.eq_iff_iff];simp [Xn,e1,e2] at e3 ⊢;exact e3), ?_⟩;exact YQ (Xc bR _) _
theorem iSpotOk_c (s:X9) (w:World) (hs:s.In) :
 Calls Tryz.prog 45 #[YK s] w λ e w'=>e=.returned (.bool (X7 s))/\Below w.heap.size w w':=by
 cases e1:ZL s.d 1 5000000000
 ·go_enter Tryz.func45,Tryz.ntmps45
  go_wp2_with (first|(go_at_call 59;refine (Zn _ _ _ _).mono ?_;rintro e w' ⟨rfl,rfl⟩))
  go_ret
  refine ⟨Xi (by simp [X7,e1]), ?_⟩;exact Xl
 ·obtain ⟨d1,d2⟩:=Z3.1 e1;cases e2:ZL s.x (-1000*s.d) (1000*s.d)
  ·go_enter Tryz.func45,Tryz.ntmps45
   go_wp2_with (first|(go_at_call 59;refine (Zn _ _ _ _).mono ?_;rintro e w' ⟨rfl,rfl⟩))
   go_ret
   refine ⟨Xi (by simp [X7,e1,e2]), ?_⟩;exact Xl
  ·cases e3:ZL s.y (-1000*s.d) (1000*s.d)
   ·go_enter Tryz.func45,Tryz.ntmps45
    go_wp2_with (first|(go_at_call 59;refine (Zn _ _ _ _).mono ?_;rintro e w' ⟨rfl,rfl⟩))
    go_ret
    refine ⟨Xi (by simp [X7,e1,e2,e3]), ?_⟩;exact Xl
   ·have hall:∀ n∈[s.x,s.y,s.d],Yy n:=by simpa [X9.In] using hs
    have hfin:Hid (X7 s=decide (Xm [s.x,s.y,s.d]=1)):=by simp [Hid,X7,e1,e2,e3]
    have hg:=Jf (some ⟨w.heap.size+1,0,none⟩) [s.x,s.y,s.d] 3 _ Sz hall (sl_new_at (T:=3) Zg (w.alloc (.cells #[.int .i64 s.x,.int .i64 s.y,.int .i64 s.d] 30)) [s.x,s.y,s.d] #[.int .i64 s.x,.int .i64 s.y,.int .i64 s.d] rfl Sz);have hle:=JF [s.x,s.y,s.d] hall;generalize Xm [s.x,s.y,s.d]=G at *;cases e4:((G:Int) == 1);all_goals
     go_enter Tryz.func45,Tryz.ntmps45
     go_wp2_with (go_at_call 59;refine (Zn _ _ _ _).mono ?_;rintro e w' ⟨rfl,rfl⟩)
     refine hg.mono ?_;rintro e w1 ⟨rfl,hb1⟩;go_wp2
     go_ret
     refine ⟨Xi (by rw [hfin.out,Bool.eq_iff_iff];simp at e4 ⊢;omega), ?_⟩;exact Xe (Xc (Xc bR _) _) hb1
theorem sSpotOk_c (s:X9) (w:World) (hs:s.In) :
 Calls Tryz.prog 152 #[YK s] w λ e w'=>e=.returned (.bool (X7 s))/\Below w.heap.size w w':=by
 obtain ⟨h1,h2,h3⟩:=hs;cases e1:ZL s.d 1 5000000000
 ·go_enter Tryz.func152,Tryz.ntmps152
  go_wp2_with (first|(go_at_call 129;refine (XT _ _ _ _).mono ?_;rintro e w' ⟨rfl,rfl⟩))
  go_ret
  refine ⟨Xi (by simp [X7,e1]), ?_⟩;exact Xl
 ·obtain ⟨d1,d2⟩:=Z3.1 e1;cases e2:ZL s.x (-(1000*s.d)) (1000*s.d)
  ·have HW:=Lib.hid (IntWalk.i64_in (-(1000*s.d)) (by omega));go_enter Tryz.func152,Tryz.ntmps152
   go_wp2_with (first|(go_at_call 129;refine (XT _ _ _ _).mono ?_;rintro e w' ⟨rfl,rfl⟩))
   go_big_quiet ((go_at_call 129;(try rw [HW.out]);exact Yb (JJ _ _ _ _ (by assumption) _)))
   go_wp2
   go_ret
   refine ⟨Xi (by rw [show -(1000*s.d) = -1000*s.d from Oz] at e2;simp [X7,e1,e2]), ?_⟩;exact Xl
  ·cases e3:ZL s.y (-(1000*s.d)) (1000*s.d)
   ·have HW:=Lib.hid (IntWalk.i64_in (-(1000*s.d)) (by omega));go_enter Tryz.func152,Tryz.ntmps152
    go_wp2_with (first|(go_at_call 129;refine (XT _ _ _ _).mono ?_;rintro e w' ⟨rfl,rfl⟩))
    go_big_quiet ((go_at_call 129;(try rw [HW.out]);exact Yb (JJ _ _ _ _ (by assumption) _)))
    go_wp2
    go_ret
    refine ⟨Xi (by rw [show -(1000*s.d) = -1000*s.d from Oz] at e2 e3;simp [X7,e1,e2,e3]), ?_⟩;exact Xl
   ·have hxy:=gcdOf_In64 h1 h2;obtain ⟨x1,x2⟩:=Z3.1 e2;obtain ⟨y1,y2⟩:=Z3.1 e3;have hfin:Hid (X7 s=(YF (YF s.x s.y) s.d == 1)):=by
     have m1:=ZI (a:=s.x) Oz;have m2:=ZI (a:=s.y) Oz;have m3:=ZI (a:=s.d) Oz;have:=JM h1 h2;have m4:=ZI (a:=YF s.x s.y) Oz;show _=_;rw [Kk m4 m3,Kk m1 m2];rw [show -(1000*s.d) = -1000*s.d from Oz] at e2 e3;rw [Bool.eq_iff_iff];simp [X7,e1,e2,e3,gcd3];omega
    have HW:=Lib.hid (IntWalk.i64_in (-(1000*s.d)) Oz);cases e4:(YF (YF s.x s.y) s.d == 1);all_goals
     go_enter Tryz.func152,Tryz.ntmps152
     go_wp2_with (first|(go_at_call 129;refine (XT _ _ _ _).mono ?_;rintro e w' ⟨rfl,rfl⟩))
     go_big_quiet ((first|(go_at_call 129;(try rw [HW.out]);exact Yb (JJ _ _ _ _ (by assumption) _))|(go_at_call 131;exact quiet_n (Zf _ _ _ (by assumption) (by assumption)))))
     go_wp2
     go_ret
     refine ⟨Xi (by rw [hfin.out,e4]), ?_⟩;exact Xl
theorem isCoef_c (a:Int) (w:World) :
 Calls Tryz.prog 170 #[.int .i64 a] w λ e w'=>e=.returned (.bool (ZL a (-50000) 50000))/\w=w':=by
 go_enter Tryz.func170,Tryz.ntmps170
 go_wp2_with (first|(go_at_call 59;refine (Zn _ _ _ _).mono ?_;rintro e w' ⟨rfl,rfl⟩))
 go_ret
 exact ⟨rfl,rfl⟩
theorem JD (h:Half) (w:World) (hh:h.In) :
 Calls Tryz.prog 145 #[X3 h] w λ e w'=>e=.returned (.bool (Xt h))/\Below w.heap.size w w':=by
 cases e1:ZL h.a (-50000) 50000
 ·go_enter Tryz.func145,Tryz.ntmps145
  go_wp2_with (first|(go_at_call 170;refine (isCoef_c _ _).mono ?_;rintro e w' ⟨rfl,rfl⟩))
  go_ret
  refine ⟨Xi (by simp [Xt,e1]), ?_⟩;exact Xl
 ·cases e2:ZL h.b (-50000) 50000
  ·go_enter Tryz.func145,Tryz.ntmps145
   go_wp2_with (first|(go_at_call 170;refine (isCoef_c _ _).mono ?_;rintro e w' ⟨rfl,rfl⟩))
   go_ret
   refine ⟨Xi (by simp [Xt,e1,e2]), ?_⟩;exact Xl
  ·cases e3:ZL h.c (-100000000) 100000000
   ·go_enter Tryz.func145,Tryz.ntmps145
    go_wp2_with (first|(go_at_call 170;refine (isCoef_c _ _).mono ?_;rintro e w' ⟨rfl,rfl⟩)|(go_at_call 59;refine (Zn _ _ _ _).mono ?_;rintro e w' ⟨rfl,rfl⟩))
    go_ret
    refine ⟨Xi (by simp [Xt,e1,e2,e3]), ?_⟩;exact Xl
   ·have hall:∀ n∈[h.a,h.b,h.c],Yy n:=by simpa [Half.In] using hh
    have hfin:Hid (Xt h=(!(h.a == 0&&h.b == 0)&&decide (Xm [h.a,h.b,h.c]=1))):=by simp [Hid,Xt,e1,e2,e3];rfl
    have hg:=Jf (some ⟨w.heap.size+1,0,none⟩) [h.a,h.b,h.c] 3 _ Sz hall (sl_new_at (T:=3) Zg (w.alloc (.cells #[.int .i64 h.a,.int .i64 h.b,.int .i64 h.c] 136)) [h.a,h.b,h.c] #[.int .i64 h.a,.int .i64 h.b,.int .i64 h.c] rfl Sz);have hle:=JF [h.a,h.b,h.c] hall;generalize Xm [h.a,h.b,h.c]=G at *;cases za:(h.a == 0)
    ·cases e4:((G:Int) == 1);all_goals
      go_enter Tryz.func145,Tryz.ntmps145
      go_wp2_with (first|(go_at_call 170;refine (isCoef_c _ _).mono ?_;rintro e w' ⟨rfl,rfl⟩)|(go_at_call 59;refine (Zn _ _ _ _).mono ?_;rintro e w' ⟨rfl,rfl⟩))
      refine hg.mono ?_;rintro e w1 ⟨rfl,hb1⟩;go_wp2
      go_ret
      refine ⟨Xi (by rw [hfin.out,za,Bool.eq_iff_iff];simp at e4 ⊢;omega), ?_⟩;exact Xe (Xc (Xc bR _) _) hb1
    ·cases zb:(h.b == 0)
     ·cases e4:((G:Int) == 1);all_goals
       go_enter Tryz.func145,Tryz.ntmps145
       go_wp2_with (first|(go_at_call 170;refine (isCoef_c _ _).mono ?_;rintro e w' ⟨rfl,rfl⟩)|(go_at_call 59;refine (Zn _ _ _ _).mono ?_;rintro e w' ⟨rfl,rfl⟩))
       refine hg.mono ?_;rintro e w1 ⟨rfl,hb1⟩;go_wp2
       go_ret
       refine ⟨Xi (by rw [hfin.out,za,zb,Bool.eq_iff_iff];simp at e4 ⊢;omega), ?_⟩;exact Xe (Xc (Xc bR _) _) hb1
     ·go_enter Tryz.func145,Tryz.ntmps145
      go_wp2_with (first|(go_at_call 170;refine (isCoef_c _ _).mono ?_;rintro e w' ⟨rfl,rfl⟩)|(go_at_call 59;refine (Zn _ _ _ _).mono ?_;rintro e w' ⟨rfl,rfl⟩))
      go_ret
      refine ⟨Xi (by rw [hfin.out,za,zb];rfl), ?_⟩;exact Xl
end Go.Proofs.YtbekjpkcicjcgaaGreat
