/-
 What the functions on numbers return: ranges, magnitudes, divisors, fractions.
 Conditions: the arguments are ints of the machine.
-/
import Derived.Test.YtdncnhcffbgjhaaGreatGrA
import Derived.Deep.QuietTactic
import Derived.BigQuiet
section
namespace Go.Proofs.YtdncnhcffbgjhaaGreat
open Go.RowKit
theorem inRange_c (a b c:Int) (w:World) :
 Calls Tryz.prog 85 #[.int .i64 a,.int .i64 b,.int .i64 c] w fun e w'=>e=.returned (.bool (inR a b c))∧w=w':=by
 go_enter Tryz.func85,Tryz.ntmps85
 go_wp2
 all_goals
  go_ret
  refine ⟨?_,rfl⟩
  simp [inR, *]<;>omega
theorem l01In_c (a b c:Int) (w:World) :
 Calls Tryz.prog 82 #[.int .i64 a,.int .i64 b,.int .i64 c] w fun e w'=>e=.returned (.bool (inR a b c))∧w=w':=by
 go_enter Tryz.func82,Tryz.ntmps82
 go_wp2
 all_goals
  go_ret
  refine ⟨?_,rfl⟩
  simp [inR, *]<;>omega
theorem magnitude_c (a:Int) (w:World) (ha:In64 a) :
 Calls Tryz.prog 173 #[.int .i64 a] w fun e w'=>e=.returned (.int .u64 (a.natAbs:Nat))∧w=w':=by
 obtain ⟨h1,h2⟩:=ha
 go_enter Tryz.func173,Tryz.ntmps173
 go_wp2
 all_goals
  go_ret
  refine ⟨ret_int ?_,rfl⟩
  first|omega|(simp only [IntKind.wrap_u64];omega)
set_option maxHeartbeats 1000000 in
theorem gcdOfAll_c (A:Option Addr) (xs:List Int) (cap:Nat) (w:World) (hl:xs.length≤64) (hx:∀ n∈xs,In64 n) (hs:Sl 1 intC w A xs) :
 Calls Tryz.prog 133 #[.slice A xs.length cap] w fun e w'=>e=.returned (.int .u64 (gcdAll xs:Nat))∧Below w.heap.size w w':=by
 go_enter Tryz.func133,Tryz.ntmps133
 go_wp2
 go_loopw [3,5,6,9] (fun g _ _ i wr=>∃ k:Nat,k≤xs.length∧i=.int .i64 k∧g=.int .u64 (gcdAll (xs.take k):Nat)∧Below w.heap.size w wr) (fun _ _ _ i _=>xs.length-(intOf i).toNat)
 case atStart=>exact ⟨0,Nat.zero_le _,rfl,rfl,Below.refl _ _⟩
 case round =>
  obtain ⟨k,hk,rfl,rfl,hbw⟩:=hrel
  by_cases hlt:k<xs.length
  ·obtain ⟨b,off,rfl,hblt,hc⟩:=(hs.below hbw).at_ hlt
   have g0:=hc 0 _ rfl
   have hn:In64 xs[k]:=hx _ (List.getElem_mem hlt)
   have hG:gcdAll (xs.take k)≤9223372036854775808:=gcdAll_le _ (fun m hm=>hx m (List.mem_of_mem_take hm))
   have hsn:Hid (gcdAll (xs.take (k+1))=Nat.gcd (gcdAll (xs.take k)) xs[k].natAbs):=by rw [take_succ' xs k hlt,gcdAll_snoc];rfl
   clear hc
   simp only [Nat.mul_one,Nat.add_zero] at g0
   generalize xs[k]=n at *
   generalize gcdAll (xs.take k)=G at *
   go_wp2_with (go_at_call 173;refine (magnitude_c _ _ hn).mono ?_;rintro e w' ⟨rfl,rfl⟩)
   obtain ⟨wo,rfl⟩:∃ wo:World,wo=wr:=⟨_,rfl⟩
   have hnn:=natAbs_le hn
   go_loopw [3,6] (fun g m wr=>∃ a c:Nat,g=.int .u64 a∧m=.int .u64 c∧a≤9223372036854775808∧c≤9223372036854775808∧Hid (Nat.gcd a c=Nat.gcd G n.natAbs)∧Below w.heap.size w wr) (fun _ m _=>(intOf m).toNat)
   case atStart=>exact ⟨G,n.natAbs,rfl,rfl,hG,hnn,rfl,hbw⟩
   case round =>
    obtain ⟨a,c,rfl,rfl,ha,hc,hgcd,hbw'⟩:=hrel
    by_cases h0:c=0
    ·subst h0
     go_wp2
     go_roundw
     case rel=>exact ⟨k+1,by omega,by go_num,by have e:=hsn.out;have e2:=hgcd.out;rw [Nat.gcd_zero_right] at e2;rw [e,e2],hbw'⟩
     case measure=>simp [intOf];omega
    ·have hb0:((c:Int) != 0)=true:=by simp;omega
     have hp:0<c:=by omega
     go_wp2
     go_quiet (fail)
     go_wp2
     have hm:=Nat.mod_lt a hp
     refine ⟨⟨c,a % c,rfl,by go_num,hc,by omega, ?_,below_drewN hbw' _⟩,by simp [intOf];omega⟩
     show Nat.gcd c (a % c)=_
     rw [← hgcd.out,Nat.gcd_comm a c,Nat.gcd_rec c a,Nat.gcd_comm]
  ·obtain rfl:k=xs.length:=by omega
   go_wp2
   go_ret
   refine ⟨?_,hbw⟩
   rw [List.take_length];rfl
theorem isLeast_c (a:Int) (w:World) (ha:In64 a) :
 Calls Tryz.prog 163 #[.int .i64 a] w fun e w'=>e=.returned (.bool (isMin a))∧w=w':=by
 have hd:((a.natAbs:Int) == 9223372036854775808)=isMin a:=by
  obtain ⟨h1,h2⟩:=ha
  unfold isMin;rw [Bool.eq_iff_iff];simp;omega
 go_enter Tryz.func163,Tryz.ntmps163
 go_wp2_with (go_at_call 173;refine (magnitude_c _ _ ha).mono ?_;rintro e w' ⟨rfl,rfl⟩)
 go_ret
 exact ⟨by simp,rfl⟩
theorem divided_c (a:Int) (g:Nat) (w:World) (ha:In64 a) (hm:isMin a=false) (hg:0<g) (hg2:g≤9223372036854775808) :
 Calls Tryz.prog 164 #[.int .i64 a,.int .u64 (g:Nat)] w fun e w'=>e=.returned (.int .i64 (a.tdiv g))∧w=w':=by
 have hmag:=magnitude_c a w ha
 have hr:=isMin_false ha hm
 have q0:=div_nonneg a.natAbs g
 have q1:=div_le a.natAbs g 9223372036854775807 (by omega)
 clear hm ha
 go_enter Tryz.func164,Tryz.ntmps164
 go_wp2_with (go_at_call 173;refine hmag.mono ?_;rintro e w' ⟨rfl,rfl⟩)
 ·have hneg:a<0:=by assumption
  go_ret
  exact ⟨ret_int (by rw [tdiv_of_neg hneg];simp),rfl⟩
 ·have hpos:0≤a:=by assumption
  go_ret
  exact ⟨ret_int (by rw [tdiv_of_nonneg hpos];simp),rfl⟩
/-- Nothing but draws lies between two worlds. -/
def Drawn (w w':World):Prop:=∃ n,w'=w.drewN n
theorem Drawn.refl (w:World):Drawn w w:=⟨0,rfl⟩
theorem Drawn.drewN {w w':World} (h:Drawn w w') (n:Nat):Drawn w (w'.drewN n):=by
 obtain ⟨m,rfl⟩:=h
 exact ⟨m+n,by rw [World.drewN_drewN]⟩
theorem Drawn.out {w w':World} (h:Drawn w w'):∃ n,w'=w.drewN n:=h
theorem l02Turn_c (a b:Int) (w:World) (ha:0≤a) (hb:0<b) (h1:a≤9223372036854775807) (h2:b≤9223372036854775807) :
 Calls Tryz.prog 196 #[.int .i64 a,.int .i64 b] w fun e w'=>e=.returned (.tuple #[.int .i64 b,.int .i64 (a % b)])∧∃ n,w'=w.drewN n:=by
 go_enter Tryz.func196,Tryz.ntmps196
 go_wp2
 go_quiet (fail)
 go_wp2
 go_ret2
 exact ⟨rfl,_,rfl⟩
theorem sGcdOf_q (a b:Int) (w:World) (ha:In64 a) (hb:In64 b) :
 Calls Tryz.prog 127 #[.int .i64 a,.int .i64 b] w fun e w'=>e=.returned (.int .i64 (gcdOf a b))∧∃ n,w'=w.drewN n:=by
 have hG:=gcdOf_eq a b
 cases ma:isMin a
 ·cases mb:isMin b
  ·have ra:=isMin_false ha ma
   have rb:=isMin_false hb mb
   have HA:=Lib.hid ma
   have HB:=Lib.hid mb
   have HG:=Lib.hid hG
   clear ma mb hG ha hb
   obtain ⟨ra1,ra2⟩:=ra
   obtain ⟨rb1,rb2⟩:=rb
   have hfin:Hid (gcdOf a b=((Nat.gcd a.natAbs b.natAbs:Nat):Int)):=by
    show _=_
    rw [HG.out,HA.out,HB.out,gcd_pair];rfl
   clear HG
   go_enter Tryz.func127,Tryz.ntmps127
   go_wp2
   all_goals
    go_loopw [0,1] (fun x y wr=>∃ m n:Nat,x=.int .i64 m∧y=.int .i64 n∧m≤9223372036854775807∧n≤9223372036854775807∧Hid (Nat.gcd m n=Nat.gcd a.natAbs b.natAbs)∧Drawn w wr) (fun _ y _=>(intOf y).toNat)
    case atStart=>exact ⟨a.natAbs,b.natAbs,by congr 1;omega,by congr 1;omega,by omega,by omega,rfl,Drawn.refl _⟩
    case round =>
     obtain ⟨m,n,rfl,rfl,hm,hn,hgcd,hbw⟩:=hrel
     by_cases h0:n=0
     ·subst h0
      go_wp2
      go_ret
      refine ⟨?_,hbw.out⟩
      have e:=hgcd.out
      rw [Nat.gcd_zero_right] at e
      rw [hfin.out,← e];rfl
     ·have hb0:((n:Int) != 0)=true:=by simp;omega
      have hp:0<n:=by omega
      go_wp2_with (fail)
      refine (l02Turn_c _ _ _ (by omega) (by omega) (by omega) (by omega)).mono ?_
      rintro e w' ⟨rfl,nd,rfl⟩
      go_wp2
      have hmod:=Nat.mod_lt m hp
      refine ⟨⟨n,m % n,rfl,by go_num,by omega,by omega, ?_,hbw.drewN _⟩,by simp [intOf];omega⟩
      show Nat.gcd n (m % n)=_
      rw [← hgcd.out,Nat.gcd_comm m n,Nat.gcd_rec n m,Nat.gcd_comm]
  ·rw [ma,mb] at hG
   obtain ⟨ra1,ra2⟩:=isMin_false ha ma
   simp [isMin] at mb
   subst mb
   have HG:=Lib.hid hG
   clear hG ma
   go_enter Tryz.func127,Tryz.ntmps127
   go_wp2
   all_goals
    go_ret
    exact ⟨ret_int (by rw [HG.out];rfl),0,rfl⟩
 ·rw [ma] at hG
  simp [isMin] at ma
  subst ma
  have HG:=Lib.hid hG
  clear hG
  go_enter Tryz.func127,Tryz.ntmps127
  go_wp2
  all_goals
   go_ret
   exact ⟨ret_int (by rw [HG.out];rfl),0,rfl⟩
end Go.Proofs.YtdncnhcffbgjhaaGreat
end
section
namespace Go.Proofs.YtdncnhcffbgjhaaGreat
open Go.RowKit
theorem quiet_l {P:Program} {f:FuncId} {args:Array Value} {w:World} {n:Nat} {v:Value}
 (h:Calls P f args (w.drewN n) fun e w'=>e=.returned v∧w.drewN n=w'):Calls P f args (w.drewN n) fun e w''=>e=.returned v∧∃ m,w''=w.drewN m :=
 h.mono fun _ _ ⟨he,hm⟩=>⟨he,n,hm.symm⟩
theorem quiet_n {P:Program} {f:FuncId} {args:Array Value} {w:World} {n:Nat} {v:Value}
 (h:Calls P f args (w.drewN n) fun e w'=>e=.returned v∧∃ m,w'=(w.drewN n).drewN m):Calls P f args (w.drewN n) fun e w''=>e=.returned v∧∃ m,w''=w.drewN m :=
 h.mono fun _ _ ⟨he,m,hm⟩=>⟨he,n+m,by rw [hm,World.drewN_drewN]⟩
theorem l01In_v (a b c:Int) (v:Bool) (h:inR a b c=v) (w:World) :
 Calls Tryz.prog 82 #[.int .i64 a,.int .i64 b,.int .i64 c] w fun e w'=>e=.returned (.bool v)∧w=w':=by
 rw [← h];exact l01In_c a b c w
theorem isLeast_v (a:Int) (v:Bool) (h:isMin a=v) (ha:In64 a) (w:World) :
 Calls Tryz.prog 163 #[.int .i64 a] w fun e w'=>e=.returned (.bool v)∧w=w':=by
 rw [← h];exact isLeast_c a w ha
theorem sRatioOk_c (r:Ratio) (w:World) (hr:r.In) :
 Calls Tryz.prog 179 #[ratioV r] w fun e w'=>e=.returned (.bool (ratioOk r))∧Below w.heap.size w w':=by
 obtain ⟨h1,h2⟩:=hr
 cases e1:inR r.d 1 1000000000000000
 ·go_enter Tryz.func179,Tryz.ntmps179
  go_wp2_with (first|(go_at_call 82;refine (l01In_c _ _ _ _).mono ?_;rintro e w' ⟨rfl,rfl⟩))
  go_ret
  refine ⟨ret_bool (by simp [ratioOk,e1]), ?_⟩
  exact belA
 ·cases e2:inR r.n (-1000000000000000000) 1000000000000000000
  ·go_enter Tryz.func179,Tryz.ntmps179
   go_wp2_with (first|(go_at_call 82;refine (l01In_c _ _ _ _).mono ?_;rintro e w' ⟨rfl,rfl⟩))
   go_ret
   refine ⟨ret_bool (by simp [ratioOk,e1,e2]), ?_⟩
   exact belA
  ·cases e3:(gcdOf r.n r.d == 1)
   all_goals
    go_enter Tryz.func179,Tryz.ntmps179
    go_wp2_with (go_at_call 82;refine (l01In_c _ _ _ _).mono ?_;rintro e w' ⟨rfl,rfl⟩)
    refine (sGcdOf_q _ _ _ h1 h2).mono ?_
    rintro e w1 ⟨rfl,nd,rfl⟩
    go_wp2
    go_ret
    refine ⟨ret_bool (by rw [Bool.eq_iff_iff];simp [ratioOk,e1,e2] at e3 ⊢;exact e3), ?_⟩
    exact below_drewN (below_al bR _) _
theorem iSpotOk_c (s:Spot) (w:World) (hs:s.In) :
 Calls Tryz.prog 103 #[spotV s] w fun e w'=>e=.returned (.bool (spotOk s))∧Below w.heap.size w w':=by
 cases e1:inR s.d 1 5000000000
 ·go_enter Tryz.func103,Tryz.ntmps103
  go_wp2_with (first|(go_at_call 85;refine (inRange_c _ _ _ _).mono ?_;rintro e w' ⟨rfl,rfl⟩))
  go_ret
  refine ⟨ret_bool (by simp [spotOk,e1]), ?_⟩
  exact belA
 ·obtain ⟨d1,d2⟩:=inR_iff.1 e1
  cases e2:inR s.x (-1000*s.d) (1000*s.d)
  ·go_enter Tryz.func103,Tryz.ntmps103
   go_wp2_with (first|(go_at_call 85;refine (inRange_c _ _ _ _).mono ?_;rintro e w' ⟨rfl,rfl⟩))
   go_ret
   refine ⟨ret_bool (by simp [spotOk,e1,e2]), ?_⟩
   exact belA
  ·cases e3:inR s.y (-1000*s.d) (1000*s.d)
   ·go_enter Tryz.func103,Tryz.ntmps103
    go_wp2_with (first|(go_at_call 85;refine (inRange_c _ _ _ _).mono ?_;rintro e w' ⟨rfl,rfl⟩))
    go_ret
    refine ⟨ret_bool (by simp [spotOk,e1,e2,e3]), ?_⟩
    exact belA
   ·have hall:∀ n∈[s.x,s.y,s.d],In64 n:=by simpa [Spot.In] using hs
    have hfin:Hid (spotOk s=decide (gcdAll [s.x,s.y,s.d]=1)):=by simp [Hid,spotOk,e1,e2,e3]
    have hg:=gcdOfAll_c (some ⟨w.heap.size+1,0,none⟩) [s.x,s.y,s.d] 3 _ (by simp) hall (sl_new_at (T:=3) intC_len (w.alloc (.cells #[.int .i64 s.x,.int .i64 s.y,.int .i64 s.d] 57)) [s.x,s.y,s.d] #[.int .i64 s.x,.int .i64 s.y,.int .i64 s.d] rfl (by simp))
    have hle:=gcdAll_le [s.x,s.y,s.d] hall
    generalize gcdAll [s.x,s.y,s.d]=G at *
    cases e4:((G:Int) == 1)
    all_goals
     go_enter Tryz.func103,Tryz.ntmps103
     go_wp2_with (go_at_call 85;refine (inRange_c _ _ _ _).mono ?_;rintro e w' ⟨rfl,rfl⟩)
     refine hg.mono ?_
     rintro e w1 ⟨rfl,hb1⟩
     go_wp2
     go_ret
     refine ⟨ret_bool (by rw [hfin.out,Bool.eq_iff_iff];simp at e4 ⊢;omega), ?_⟩
     exact below_tr (below_al (below_al bR _) _) hb1
set_option maxHeartbeats 600000 in
theorem sSpotOk_c (s:Spot) (w:World) (hs:s.In) :
 Calls Tryz.prog 139 #[spotV s] w fun e w'=>e=.returned (.bool (spotOk s))∧Below w.heap.size w w':=by
 obtain ⟨h1,h2,h3⟩:=hs
 cases e1:inR s.d 1 5000000000
 ·go_enter Tryz.func139,Tryz.ntmps139
  go_wp2_with (first|(go_at_call 82;refine (l01In_c _ _ _ _).mono ?_;rintro e w' ⟨rfl,rfl⟩))
  go_ret
  refine ⟨ret_bool (by simp [spotOk,e1]), ?_⟩
  exact belA
 ·obtain ⟨d1,d2⟩:=inR_iff.1 e1
  cases e2:inR s.x (-(1000*s.d)) (1000*s.d)
  ·have HW:=Lib.hid (IntWalk.i64_in (-(1000*s.d)) (by omega))
   go_enter Tryz.func139,Tryz.ntmps139
   go_wp2_with (first|(go_at_call 82;refine (l01In_c _ _ _ _).mono ?_;rintro e w' ⟨rfl,rfl⟩))
   go_big_quiet ((go_at_call 82;(try rw [HW.out]);exact quiet_l (l01In_v _ _ _ _ (by assumption) _)))
   go_wp2
   go_ret
   refine ⟨ret_bool (by rw [show -(1000*s.d) = -1000*s.d from by omega] at e2;simp [spotOk,e1,e2]), ?_⟩
   exact belA
  ·cases e3:inR s.y (-(1000*s.d)) (1000*s.d)
   ·have HW:=Lib.hid (IntWalk.i64_in (-(1000*s.d)) (by omega))
    go_enter Tryz.func139,Tryz.ntmps139
    go_wp2_with (first|(go_at_call 82;refine (l01In_c _ _ _ _).mono ?_;rintro e w' ⟨rfl,rfl⟩))
    go_big_quiet ((go_at_call 82;(try rw [HW.out]);exact quiet_l (l01In_v _ _ _ _ (by assumption) _)))
    go_wp2
    go_ret
    refine ⟨ret_bool (by rw [show -(1000*s.d) = -1000*s.d from by omega] at e2 e3;simp [spotOk,e1,e2,e3]), ?_⟩
    exact belA
   ·have hxy:=gcdOf_In64 h1 h2
    obtain ⟨x1,x2⟩:=inR_iff.1 e2
    obtain ⟨y1,y2⟩:=inR_iff.1 e3
    have hfin:Hid (spotOk s=(gcdOf (gcdOf s.x s.y) s.d == 1)):=by
     have m1:=isMin_no (a:=s.x) (by omega)
     have m2:=isMin_no (a:=s.y) (by omega)
     have m3:=isMin_no (a:=s.d) (by omega)
     have:=gcdOf_in h1 h2
     have m4:=isMin_no (a:=gcdOf s.x s.y) (by omega)
     show _=_
     rw [gcdOf_no m4 m3,gcdOf_no m1 m2]
     rw [show -(1000*s.d) = -1000*s.d from by omega] at e2 e3
     rw [Bool.eq_iff_iff];simp [spotOk,e1,e2,e3,gcd3];omega
    have HW:=Lib.hid (IntWalk.i64_in (-(1000*s.d)) (by omega))
    cases e4:(gcdOf (gcdOf s.x s.y) s.d == 1)
    all_goals
     go_enter Tryz.func139,Tryz.ntmps139
     go_wp2_with (first|(go_at_call 82;refine (l01In_c _ _ _ _).mono ?_;rintro e w' ⟨rfl,rfl⟩))
     go_big_quiet ((first|(go_at_call 82;(try rw [HW.out]);exact quiet_l (l01In_v _ _ _ _ (by assumption) _))|(go_at_call 127;exact quiet_n (sGcdOf_q _ _ _ (by assumption) (by assumption)))))
     go_wp2
     go_ret
     refine ⟨ret_bool (by rw [hfin.out,e4]), ?_⟩
     exact belA
theorem isCoef_c (a:Int) (w:World) :
 Calls Tryz.prog 218 #[.int .i64 a] w fun e w'=>e=.returned (.bool (inR a (-50000) 50000))∧w=w':=by
 go_enter Tryz.func218,Tryz.ntmps218
 go_wp2_with (first|(go_at_call 85;refine (inRange_c _ _ _ _).mono ?_;rintro e w' ⟨rfl,rfl⟩))
 go_ret
 exact ⟨rfl,rfl⟩
theorem iHalfOk_c (h:Half) (w:World) (hh:h.In) :
 Calls Tryz.prog 199 #[halfV h] w fun e w'=>e=.returned (.bool (halfOk h))∧Below w.heap.size w w':=by
 cases e1:inR h.a (-50000) 50000
 ·go_enter Tryz.func199,Tryz.ntmps199
  go_wp2_with (first|(go_at_call 218;refine (isCoef_c _ _).mono ?_;rintro e w' ⟨rfl,rfl⟩))
  go_ret
  refine ⟨ret_bool (by simp [halfOk,e1]), ?_⟩
  exact belA
 ·cases e2:inR h.b (-50000) 50000
  ·go_enter Tryz.func199,Tryz.ntmps199
   go_wp2_with (first|(go_at_call 218;refine (isCoef_c _ _).mono ?_;rintro e w' ⟨rfl,rfl⟩))
   go_ret
   refine ⟨ret_bool (by simp [halfOk,e1,e2]), ?_⟩
   exact belA
  ·cases e3:inR h.c (-100000000) 100000000
   ·go_enter Tryz.func199,Tryz.ntmps199
    go_wp2_with (first|(go_at_call 218;refine (isCoef_c _ _).mono ?_;rintro e w' ⟨rfl,rfl⟩)|(go_at_call 85;refine (inRange_c _ _ _ _).mono ?_;rintro e w' ⟨rfl,rfl⟩))
    go_ret
    refine ⟨ret_bool (by simp [halfOk,e1,e2,e3]), ?_⟩
    exact belA
   ·have hall:∀ n∈[h.a,h.b,h.c],In64 n:=by simpa [Half.In] using hh
    have hfin:Hid (halfOk h=(!(h.a == 0&&h.b == 0)&&decide (gcdAll [h.a,h.b,h.c]=1))):=by simp [Hid,halfOk,e1,e2,e3];rfl
    have hg:=gcdOfAll_c (some ⟨w.heap.size+1,0,none⟩) [h.a,h.b,h.c] 3 _ (by simp) hall (sl_new_at (T:=3) intC_len (w.alloc (.cells #[.int .i64 h.a,.int .i64 h.b,.int .i64 h.c] 111)) [h.a,h.b,h.c] #[.int .i64 h.a,.int .i64 h.b,.int .i64 h.c] rfl (by simp))
    have hle:=gcdAll_le [h.a,h.b,h.c] hall
    generalize gcdAll [h.a,h.b,h.c]=G at *
    cases za:(h.a == 0)
    ·cases e4:((G:Int) == 1)
     all_goals
      go_enter Tryz.func199,Tryz.ntmps199
      go_wp2_with (first|(go_at_call 218;refine (isCoef_c _ _).mono ?_;rintro e w' ⟨rfl,rfl⟩)|(go_at_call 85;refine (inRange_c _ _ _ _).mono ?_;rintro e w' ⟨rfl,rfl⟩))
      refine hg.mono ?_
      rintro e w1 ⟨rfl,hb1⟩
      go_wp2
      go_ret
      refine ⟨ret_bool (by rw [hfin.out,za,Bool.eq_iff_iff];simp at e4 ⊢;omega), ?_⟩
      exact below_tr (below_al (below_al bR _) _) hb1
    ·cases zb:(h.b == 0)
     ·cases e4:((G:Int) == 1)
      all_goals
       go_enter Tryz.func199,Tryz.ntmps199
       go_wp2_with (first|(go_at_call 218;refine (isCoef_c _ _).mono ?_;rintro e w' ⟨rfl,rfl⟩)|(go_at_call 85;refine (inRange_c _ _ _ _).mono ?_;rintro e w' ⟨rfl,rfl⟩))
       refine hg.mono ?_
       rintro e w1 ⟨rfl,hb1⟩
       go_wp2
       go_ret
       refine ⟨ret_bool (by rw [hfin.out,za,zb,Bool.eq_iff_iff];simp at e4 ⊢;omega), ?_⟩
       exact below_tr (below_al (below_al bR _) _) hb1
     ·go_enter Tryz.func199,Tryz.ntmps199
      go_wp2_with (first|(go_at_call 218;refine (isCoef_c _ _).mono ?_;rintro e w' ⟨rfl,rfl⟩)|(go_at_call 85;refine (inRange_c _ _ _ _).mono ?_;rintro e w' ⟨rfl,rfl⟩))
      go_ret
      refine ⟨ret_bool (by rw [hfin.out,za,zb];rfl), ?_⟩
      exact belA
end Go.Proofs.YtdncnhcffbgjhaaGreat
end
