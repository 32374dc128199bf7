/-
 The program's functions on directions of half planes.
 Conditions: valid half planes.
-/
import Derived.Test.YtdncnhcffbgjhaaGreatGrH
import Derived.Test.YtdncnhcffbgjhaaGreatGrC
import Derived.Test.YtdncnhcffbgjhaaGreatGrE
import Derived.Deep.RegionHeld3
import Derived.Deep.RegionWith
import Derived.Deep.DeepMust
import Derived.Deep.DeepCutAuto
import Derived.Test.YtdncnhcffbgjhaaGreatGrD
section
namespace Go.Proofs.YtdncnhcffbgjhaaGreat
open Go.RowKit
/-- Bounds of a half plane. -/
structure HOk (h:Half):Prop where
 a : -50000≤h.a∧h.a≤50000
 b : -50000≤h.b∧h.b≤50000
 c : -100000000≤h.c∧h.c≤100000000
 n:HNz h
theorem hOk {h:Half} (e:halfOk h=true):HOk h:=by
 obtain ⟨h1,h2,h3,h4,_⟩:=halfOk_iff.1 e
 exact ⟨h1,h2,h3,h4⟩
theorem hIn {h:Half} (e:HOk h):h.In:=by
 obtain ⟨h1,h2,h3,_⟩:=e
 exact ⟨⟨by omega,by omega⟩,⟨by omega,by omega⟩,⟨by omega,by omega⟩⟩
structure CrB (g h:Half):Prop where
 ab : -2500000000≤g.a*h.b∧g.a*h.b≤2500000000
 ba : -2500000000≤g.b*h.a∧g.b*h.a≤2500000000
theorem crB {g h:Half} (hg:HOk g) (hh:HOk h):CrB g h:=by
 have p:=gmul_bd (a:=g.a) (b:=h.b) (A:=50000) (B:=50000) hg.a hh.b
 have q:=gmul_bd (a:=g.b) (b:=h.a) (A:=50000) (B:=50000) hg.b hh.a
 exact ⟨⟨by omega,by omega⟩,⟨by omega,by omega⟩⟩
theorem crs_bd {g h:Half} (hg:HOk g) (hh:HOk h) : -5000000000≤hcrs g h∧hcrs g h≤5000000000:=by
 obtain ⟨p,q⟩:=crB hg hh
 unfold hcrs;omega
theorem hsz_bd {h:Half} (e:HOk h):1≤hsz h∧hsz h≤50000:=by
 have h1:=hsz_pos e.n
 have h2:=e.a
 have h3:=e.b
 refine ⟨by omega, ?_⟩
 unfold hsz;split<;>omega
theorem iUpper_c (h:Half) (w:World) :
 Calls Tryz.prog 245 #[halfV h] w fun e w'=>e=.returned (.bool (hup h))∧Below w.heap.size w w':=by
 by_cases h1:0<h.b
 ·go_enter Tryz.func245,Tryz.ntmps245
  go_wp2
  go_ret
  refine ⟨ret_bool (by simp [hup,h1]), ?_⟩
  exact belA
 ·by_cases h2:h.b=0
  ·go_enter Tryz.func245,Tryz.ntmps245
   go_wp2
   go_ret
   refine ⟨ret_bool (by simp [hup,h2]), ?_⟩
   exact belA
  ·go_enter Tryz.func245,Tryz.ntmps245
   go_wp2
   go_ret
   refine ⟨ret_bool (by simp [hup,h1,h2]), ?_⟩
   exact belA
theorem iCross_c (g h:Half) (w:World) (hg:HOk g) (hh:HOk h) :
 Calls Tryz.prog 231 #[halfV g,halfV h] w fun e w'=>e=.returned (.int .i64 (hcrs g h))∧Below w.heap.size w w':=by
 obtain ⟨⟨p1,p2⟩,⟨q1,q2⟩⟩:=crB hg hh
 clear hg hh
 go_enter Tryz.func231,Tryz.ntmps231
 go_wp2
 go_ret
 refine ⟨ret_int (by simp only [hcrs]), ?_⟩
 exact belA
theorem iSize_c (h:Half) (w:World) (hh:HOk h) :
 Calls Tryz.prog 247 #[halfV h] w fun e w'=>e=.returned (.int .i64 (hsz h))∧Below w.heap.size w w':=by
 obtain ⟨⟨a1,a2⟩,⟨b1,b2⟩,_,_⟩:=hh
 by_cases h1:h.a=0
 ·go_enter Tryz.func247,Tryz.ntmps247
  go_wp2
  all_goals
   go_ret
   refine ⟨ret_int (by unfold hsz;rw [if_pos h1];omega), ?_⟩
   exact belA
 ·go_enter Tryz.func247,Tryz.ntmps247
  go_wp2
  all_goals
   go_ret
   refine ⟨ret_int (by unfold hsz;rw [if_neg h1];omega), ?_⟩
   exact belA
set_option maxRecDepth 100000 in
set_option maxHeartbeats 1000000 in
theorem iBef_c (g h:Half) (w:World) (hg:HOk g) (hh:HOk h) :
 Calls Tryz.prog 238 #[halfV g,halfV h] w fun e w'=>e=.returned (.bool (hbef g h))∧Below w.heap.size w w':=by
 have c1:=fun W=>iUpper_c g W
 have c2:=fun W=>iUpper_c h W
 have c3:=fun W=>iCross_c g h W hg hh
 have hfin:Hid (hbef g h=if hup g=hup h then decide (0<hcrs g h) else hup g):=rfl
 clear hg hh
 generalize hup g=u1 at *
 generalize hup h=u2 at *
 generalize hcrs g h=x at *
 cases u1<;>cases u2
 ·have e1:=Lib.hid (show hbef g h=decide (0<x) by rw [hfin.out];rfl)
  clear hfin
  go_enter Tryz.func238,Tryz.ntmps238
  go_upto_region 1 with fail
  go_region_held3 (fun w'=>(∀ b o,b<w.heap.size+1+1→w'.cell? ⟨b,o,none⟩=((w.alloc (.cells #[.int .i64 g.a,.int .i64 g.b,.int .i64 g.c] 111)).alloc (.cells #[.int .i64 h.a,.int .i64 h.b,.int .i64 h.c] 111)).cell? ⟨b,o,none⟩)∧w.heap.size+1+1≤w'.heap.size) (first|exact ⟨fun _ _ _=>rfl,by simp⟩|exact kq_step2 (by assumption) (by assumption)|(repeat (first|(with_reducible assumption)|(with_reducible refine kq_self _ ?_)|(with_reducible refine kq_drew ?_)|(with_reducible refine kq_alloc ?_ _)|(with_reducible refine kq_set ?_ ?_ _)|(focus (simp;done))|(focus (simp;omega))|(focus omega))))
   (first|(go_at_call 245;go_must (first|((with_reducible refine (c1 _).mono ?_);rintro e w1 ⟨rfl,hb1⟩)|((with_reducible refine (c2 _).mono ?_);rintro e w2 ⟨rfl,hb2⟩))))
  have hbz:Below ((w.alloc (.cells #[.int .i64 g.a,.int .i64 g.b,.int .i64 g.c] 111)).alloc (.cells #[.int .i64 h.a,.int .i64 h.b,.int .i64 h.c] 111)).heap.size ((w.alloc (.cells #[.int .i64 g.a,.int .i64 g.b,.int .i64 g.c] 111)).alloc (.cells #[.int .i64 h.a,.int .i64 h.b,.int .i64 h.c] 111)) w2:=by exact belA
  have r2:=bcell1 hbz
  have l2:w.heap.size<w2.heap.size:=blt hbz (by first|(simp;done)|(simp;omega)|omega)
  have m2:w.heap.size+1<w2.heap.size:=blt hbz (by first|(simp;done)|(simp;omega)|omega)
  have hbw:Below w.heap.size w w2:=by exact belA
  go_wp2_with (fail)
  refine (c3 _).mono ?_
  rintro e w3 ⟨rfl,hb3⟩
  go_wp2
  go_ret
  refine ⟨ret_bool e1.out.symm, ?_⟩
  exact belA
 ·have e1:=Lib.hid (show hbef g h=false by rw [hfin.out];rfl)
  clear hfin
  go_enter Tryz.func238,Tryz.ntmps238
  go_upto_region 1 with fail
  go_region_held3 (fun w'=>(∀ b o,b<w.heap.size+1+1→w'.cell? ⟨b,o,none⟩=((w.alloc (.cells #[.int .i64 g.a,.int .i64 g.b,.int .i64 g.c] 111)).alloc (.cells #[.int .i64 h.a,.int .i64 h.b,.int .i64 h.c] 111)).cell? ⟨b,o,none⟩)∧w.heap.size+1+1≤w'.heap.size) (first|exact ⟨fun _ _ _=>rfl,by simp⟩|exact kq_step2 (by assumption) (by assumption)|(repeat (first|(with_reducible assumption)|(with_reducible refine kq_self _ ?_)|(with_reducible refine kq_drew ?_)|(with_reducible refine kq_alloc ?_ _)|(with_reducible refine kq_set ?_ ?_ _)|(focus (simp;done))|(focus (simp;omega))|(focus omega))))
   (first|(go_at_call 245;go_must (first|((with_reducible refine (c1 _).mono ?_);rintro e w1 ⟨rfl,hb1⟩)|((with_reducible refine (c2 _).mono ?_);rintro e w2 ⟨rfl,hb2⟩))))
  have hbz:Below ((w.alloc (.cells #[.int .i64 g.a,.int .i64 g.b,.int .i64 g.c] 111)).alloc (.cells #[.int .i64 h.a,.int .i64 h.b,.int .i64 h.c] 111)).heap.size ((w.alloc (.cells #[.int .i64 g.a,.int .i64 g.b,.int .i64 g.c] 111)).alloc (.cells #[.int .i64 h.a,.int .i64 h.b,.int .i64 h.c] 111)) w2:=by exact belA
  have r2:=bcell1 hbz
  have l2:w.heap.size<w2.heap.size:=blt hbz (by first|(simp;done)|(simp;omega)|omega)
  have m2:w.heap.size+1<w2.heap.size:=blt hbz (by first|(simp;done)|(simp;omega)|omega)
  have hbw:Below w.heap.size w w2:=by exact belA
  go_wp2_with (fail)
  refine (c1 _).mono ?_
  rintro e w3 ⟨rfl,hb3⟩
  go_wp2
  go_ret
  refine ⟨ret_bool e1.out.symm, ?_⟩
  exact belA
 ·have e1:=Lib.hid (show hbef g h=true by rw [hfin.out];rfl)
  clear hfin
  go_enter Tryz.func238,Tryz.ntmps238
  go_upto_region 1 with fail
  go_region_held3 (fun w'=>(∀ b o,b<w.heap.size+1+1→w'.cell? ⟨b,o,none⟩=((w.alloc (.cells #[.int .i64 g.a,.int .i64 g.b,.int .i64 g.c] 111)).alloc (.cells #[.int .i64 h.a,.int .i64 h.b,.int .i64 h.c] 111)).cell? ⟨b,o,none⟩)∧w.heap.size+1+1≤w'.heap.size) (first|exact ⟨fun _ _ _=>rfl,by simp⟩|exact kq_step2 (by assumption) (by assumption)|(repeat (first|(with_reducible assumption)|(with_reducible refine kq_self _ ?_)|(with_reducible refine kq_drew ?_)|(with_reducible refine kq_alloc ?_ _)|(with_reducible refine kq_set ?_ ?_ _)|(focus (simp;done))|(focus (simp;omega))|(focus omega))))
   (first|(go_at_call 245;go_must (first|((with_reducible refine (c1 _).mono ?_);rintro e w1 ⟨rfl,hb1⟩)|((with_reducible refine (c2 _).mono ?_);rintro e w2 ⟨rfl,hb2⟩))))
  have hbz:Below ((w.alloc (.cells #[.int .i64 g.a,.int .i64 g.b,.int .i64 g.c] 111)).alloc (.cells #[.int .i64 h.a,.int .i64 h.b,.int .i64 h.c] 111)).heap.size ((w.alloc (.cells #[.int .i64 g.a,.int .i64 g.b,.int .i64 g.c] 111)).alloc (.cells #[.int .i64 h.a,.int .i64 h.b,.int .i64 h.c] 111)) w2:=by exact belA
  have r2:=bcell1 hbz
  have l2:w.heap.size<w2.heap.size:=blt hbz (by first|(simp;done)|(simp;omega)|omega)
  have m2:w.heap.size+1<w2.heap.size:=blt hbz (by first|(simp;done)|(simp;omega)|omega)
  have hbw:Below w.heap.size w w2:=by exact belA
  go_wp2_with (fail)
  refine (c1 _).mono ?_
  rintro e w3 ⟨rfl,hb3⟩
  go_wp2
  go_ret
  refine ⟨ret_bool e1.out.symm, ?_⟩
  exact belA
 ·have e1:=Lib.hid (show hbef g h=decide (0<x) by rw [hfin.out];rfl)
  clear hfin
  go_enter Tryz.func238,Tryz.ntmps238
  go_upto_region 1 with fail
  go_region_held3 (fun w'=>(∀ b o,b<w.heap.size+1+1→w'.cell? ⟨b,o,none⟩=((w.alloc (.cells #[.int .i64 g.a,.int .i64 g.b,.int .i64 g.c] 111)).alloc (.cells #[.int .i64 h.a,.int .i64 h.b,.int .i64 h.c] 111)).cell? ⟨b,o,none⟩)∧w.heap.size+1+1≤w'.heap.size) (first|exact ⟨fun _ _ _=>rfl,by simp⟩|exact kq_step2 (by assumption) (by assumption)|(repeat (first|(with_reducible assumption)|(with_reducible refine kq_self _ ?_)|(with_reducible refine kq_drew ?_)|(with_reducible refine kq_alloc ?_ _)|(with_reducible refine kq_set ?_ ?_ _)|(focus (simp;done))|(focus (simp;omega))|(focus omega))))
   (first|(go_at_call 245;go_must (first|((with_reducible refine (c1 _).mono ?_);rintro e w1 ⟨rfl,hb1⟩)|((with_reducible refine (c2 _).mono ?_);rintro e w2 ⟨rfl,hb2⟩))))
  have hbz:Below ((w.alloc (.cells #[.int .i64 g.a,.int .i64 g.b,.int .i64 g.c] 111)).alloc (.cells #[.int .i64 h.a,.int .i64 h.b,.int .i64 h.c] 111)).heap.size ((w.alloc (.cells #[.int .i64 g.a,.int .i64 g.b,.int .i64 g.c] 111)).alloc (.cells #[.int .i64 h.a,.int .i64 h.b,.int .i64 h.c] 111)) w2:=by exact belA
  have r2:=bcell1 hbz
  have l2:w.heap.size<w2.heap.size:=blt hbz (by first|(simp;done)|(simp;omega)|omega)
  have m2:w.heap.size+1<w2.heap.size:=blt hbz (by first|(simp;done)|(simp;omega)|omega)
  have hbw:Below w.heap.size w w2:=by exact belA
  go_wp2_with (fail)
  refine (c3 _).mono ?_
  rintro e w3 ⟨rfl,hb3⟩
  go_wp2
  go_ret
  refine ⟨ret_bool e1.out.symm, ?_⟩
  exact belA
set_option maxRecDepth 100000 in
set_option maxHeartbeats 1000000 in
theorem iSame_c (g h:Half) (w:World) (hg:HOk g) (hh:HOk h) :
 Calls Tryz.prog 239 #[halfV g,halfV h] w fun e w'=>e=.returned (.bool (sameDir g h))∧Below w.heap.size w w':=by
 have c1:=fun W=>iUpper_c g W
 have c2:=fun W=>iUpper_c h W
 have c3:=fun W=>iCross_c g h W hg hh
 have hfin:Hid (sameDir g h=(decide (hcrs g h=0)&&(hup g == hup h))):=rfl
 clear hg hh
 generalize hup g=u1 at *
 generalize hup h=u2 at *
 generalize hcrs g h=x at *
 by_cases hx:x=0
 ·subst hx
  have e1:=Lib.hid (show sameDir g h=(u1 == u2) by rw [hfin.out];simp)
  clear hfin
  go_enter Tryz.func239,Tryz.ntmps239
  go_upto_region 1 with fail
  go_region_held3 (fun w'=>(∀ b o,b<w.heap.size+1+1→w'.cell? ⟨b,o,none⟩=((w.alloc (.cells #[.int .i64 g.a,.int .i64 g.b,.int .i64 g.c] 111)).alloc (.cells #[.int .i64 h.a,.int .i64 h.b,.int .i64 h.c] 111)).cell? ⟨b,o,none⟩)∧w.heap.size+1+1≤w'.heap.size) (first|exact ⟨fun _ _ _=>rfl,by simp⟩|exact kq_step2 (by assumption) (by assumption)|(repeat (first|(with_reducible assumption)|(with_reducible refine kq_self _ ?_)|(with_reducible refine kq_drew ?_)|(with_reducible refine kq_alloc ?_ _)|(with_reducible refine kq_set ?_ ?_ _)|(focus (simp;done))|(focus (simp;omega))|(focus omega))))
   (first|(go_at_call 231;go_must ((with_reducible refine (c3 _).mono ?_);rintro e w3 ⟨rfl,hb3⟩))|(go_at_call 245;go_must (first|((with_reducible refine (c1 _).mono ?_);rintro e w1 ⟨rfl,hb1⟩)|((with_reducible refine (c2 _).mono ?_);rintro e w2 ⟨rfl,hb2⟩))))
  all_goals
   go_wp2
   go_ret
   refine ⟨ret_bool e1.out.symm, ?_⟩
   exact belA
 ·have e1:=Lib.hid (show sameDir g h=false by rw [hfin.out];simp [hx])
  have hd:decide (x=0)=false:=decide_eq_false hx
  have hd2:(x == 0)=false:=beq_eq_false_iff_ne.2 hx
  clear hfin hx
  go_enter Tryz.func239,Tryz.ntmps239
  go_upto_region 1 with fail
  go_region_with
   (first|(go_at_call 231;go_must ((with_reducible refine (c3 _).mono ?_);rintro e w3 ⟨rfl,hb3⟩))|(go_at_call 245;go_must (first|((with_reducible refine (c1 _).mono ?_);rintro e w1 ⟨rfl,hb1⟩)|((with_reducible refine (c2 _).mono ?_);rintro e w2 ⟨rfl,hb2⟩))))
  all_goals
   go_wp2
   go_ret
   refine ⟨ret_bool e1.out.symm, ?_⟩
   exact belA
set_option maxRecDepth 100000 in
set_option maxHeartbeats 1000000 in
theorem iSameD_c (g h:Half) (w:World) (hg:halfOk g=true) (hh:halfOk h=true) :
 Calls Tryz.prog 246 #[halfV g,halfV h] w fun e w'=>e=.returned (.bool (sameDir g h))∧Below w.heap.size w w':=by
 have c1:=fun W=>iHalfOk_c g W (hIn (hOk hg))
 have c2:=fun W=>iHalfOk_c h W (hIn (hOk hh))
 have c3:=fun W=>iSame_c g h W (hOk hg) (hOk hh)
 rw [hg] at c1
 rw [hh] at c2
 clear hg hh
 generalize sameDir g h=s at *
 go_enter Tryz.func246,Tryz.ntmps246
 go_wp2_with (fail)
 refine (c1 _).mono ?_
 rintro e w1 ⟨rfl,hb_w1⟩
 have r_w1:=bcell1 hb_w1
 have l_w1_0:w.heap.size<w1.heap.size:=blt hb_w1 (by first|(simp;done)|(simp;omega)|omega)
 have l_w1_1:w.heap.size+1<w1.heap.size:=blt hb_w1 (by first|(simp;done)|(simp;omega)|omega)
 go_wp2_with (fail)
 refine (c2 _).mono ?_
 rintro e w2 ⟨rfl,hb_w2⟩
 have r_w2:=bcell1 hb_w2
 have l_w2_0:w.heap.size<w2.heap.size:=blt hb_w2 (by first|(simp;done)|(simp;omega)|omega)
 have l_w2_1:w.heap.size+1<w2.heap.size:=blt hb_w2 (by first|(simp;done)|(simp;omega)|omega)
 go_wp2_with (fail)
 refine (c3 _).mono ?_
 rintro e w3 ⟨rfl,hb_w3⟩
 have r_w3:=bcell1 hb_w3
 have l_w3_0:w.heap.size<w3.heap.size:=blt hb_w3 (by first|(simp;done)|(simp;omega)|omega)
 have l_w3_1:w.heap.size+1<w3.heap.size:=blt hb_w3 (by first|(simp;done)|(simp;omega)|omega)
 go_wp2
 go_ret
 refine ⟨rfl, ?_⟩
 exact belA
set_option maxRecDepth 100000 in
set_option maxHeartbeats 1000000 in
theorem iRoomy_c (g h:Half) (w:World) (hg:HOk g) (hh:HOk h) :
 Calls Tryz.prog 242 #[halfV g,halfV h] w fun e w'=>e=.returned (.bool (hroomy g h))∧Below w.heap.size w w':=by
 have c1:=fun W=>iSize_c g W hg
 have c2:=fun W=>iSize_c h W hh
 have p:=gmul_bd (a:=g.c) (b:=hsz h) (A:=100000000) (B:=50000) hg.c (by have:=hsz_bd hh;omega)
 have q:=gmul_bd (a:=h.c) (b:=hsz g) (A:=100000000) (B:=50000) hh.c (by have:=hsz_bd hg;omega)
 have hfin:Hid (hroomy g h=decide (0<g.c*hsz h+h.c*hsz g)):=rfl
 clear hg hh
 generalize hsz g=m at *
 generalize hsz h=n at *
 have p1:IntKind.i64.wrap (g.c*n)=g.c*n:=IntWalk.i64_in _ (by omega)
 have q1:IntKind.i64.wrap (h.c*m)=h.c*m:=IntWalk.i64_in _ (by omega)
 have s1:IntKind.i64.wrap (g.c*n+h.c*m)=g.c*n+h.c*m:=IntWalk.i64_in _ (by omega)
 go_enter Tryz.func242,Tryz.ntmps242
 go_upto_region 1 with fail
 go_region_held3 (fun w'=>(∀ b o,b<w.heap.size+1+1→w'.cell? ⟨b,o,none⟩=((w.alloc (.cells #[.int .i64 g.a,.int .i64 g.b,.int .i64 g.c] 111)).alloc (.cells #[.int .i64 h.a,.int .i64 h.b,.int .i64 h.c] 111)).cell? ⟨b,o,none⟩)∧w.heap.size+1+1≤w'.heap.size) (first|exact ⟨fun _ _ _=>rfl,by simp⟩|exact kq_step2 (by assumption) (by assumption)|(repeat (first|(with_reducible assumption)|(with_reducible refine kq_self _ ?_)|(with_reducible refine kq_drew ?_)|(with_reducible refine kq_alloc ?_ _)|(with_reducible refine kq_set ?_ ?_ _)|(focus (simp;done))|(focus (simp;omega))|(focus omega))))
  (first|(go_at_call 247;go_must (first|((with_reducible refine (c1 _).mono ?_);rintro e w1 ⟨rfl,hb1⟩)|((with_reducible refine (c2 _).mono ?_);rintro e w2 ⟨rfl,hb2⟩))))
 all_goals
  go_wp2
  go_ret
  refine ⟨ret_bool hfin.out.symm, ?_⟩
  exact belA
set_option maxRecDepth 100000 in
set_option maxHeartbeats 1000000 in
theorem iTighter_c (g h:Half) (w:World) (hg:halfOk g=true) (hh:halfOk h=true) (hs:sameDir g h=true) :
 Calls Tryz.prog 240 #[halfV g,halfV h] w fun e w'=>e=.returned (halfV (htighter g h))∧Below w.heap.size w w':=by
 have c0:=fun W=>iSameD_c g h W hg hh
 rw [hs] at c0
 have c1:=fun W=>iSize_c g W (hOk hg)
 have c2:=fun W=>iSize_c h W (hOk hh)
 have p:=gmul_bd (a:=g.c) (b:=hsz h) (A:=100000000) (B:=50000) (hOk hg).c (by have:=hsz_bd (hOk hh);omega)
 have q:=gmul_bd (a:=h.c) (b:=hsz g) (A:=100000000) (B:=50000) (hOk hh).c (by have:=hsz_bd (hOk hg);omega)
 have hfin:Hid (htighter g h=if h.c*hsz g<g.c*hsz h then h else g):=rfl
 clear hg hh hs
 generalize hsz g=m at *
 generalize hsz h=n at *
 have p1:IntKind.i64.wrap (g.c*n)=g.c*n:=IntWalk.i64_in _ (by omega)
 have q1:IntKind.i64.wrap (h.c*m)=h.c*m:=IntWalk.i64_in _ (by omega)
 have HG:Has (((w.alloc (.cells #[.int .i64 g.a,.int .i64 g.b,.int .i64 g.c] 111)).alloc (.cells #[.int .i64 h.a,.int .i64 h.b,.int .i64 h.c] 111)).alloc (.cells #[.int .i64 0,.int .i64 0,.int .i64 0] 111)) w.heap.size [.int .i64 g.a,.int .i64 g.b,.int .i64 g.c]:=by
  exact hasA
 have HH:Has (((w.alloc (.cells #[.int .i64 g.a,.int .i64 g.b,.int .i64 g.c] 111)).alloc (.cells #[.int .i64 h.a,.int .i64 h.b,.int .i64 h.c] 111)).alloc (.cells #[.int .i64 0,.int .i64 0,.int .i64 0] 111)) (w.heap.size+1) [.int .i64 h.a,.int .i64 h.b,.int .i64 h.c]:=by
  exact hasA
 have HR:Has (((w.alloc (.cells #[.int .i64 g.a,.int .i64 g.b,.int .i64 g.c] 111)).alloc (.cells #[.int .i64 h.a,.int .i64 h.b,.int .i64 h.c] 111)).alloc (.cells #[.int .i64 0,.int .i64 0,.int .i64 0] 111)) (w.heap.size+1+1) [.int .i64 0,.int .i64 0,.int .i64 0]:=by
  exact hasA
 have hbw:Below w.heap.size w (((w.alloc (.cells #[.int .i64 g.a,.int .i64 g.b,.int .i64 g.c] 111)).alloc (.cells #[.int .i64 h.a,.int .i64 h.b,.int .i64 h.c] 111)).alloc (.cells #[.int .i64 0,.int .i64 0,.int .i64 0] 111)):=by
  exact belA
 go_enter Tryz.func240,Tryz.ntmps240
 go_wp2_with (fail)
 refine (c0 _).mono ?_
 rintro e w0 ⟨rfl,hb0⟩
 replace HG:=HG.below hb0
 replace HH:=HH.below hb0
 replace HR:=HR.below hb0
 replace hbw:=below_tr hbw hb0
 clear hb0 c0
 obtain ⟨cHG_0,fHG_0⟩:=HG.2 0 _ rfl
 obtain ⟨cHG_1,fHG_1⟩:=HG.2 1 _ rfl
 obtain ⟨cHG_2,fHG_2⟩:=HG.2 2 _ rfl
 obtain ⟨cHH_0,fHH_0⟩:=HH.2 0 _ rfl
 obtain ⟨cHH_1,fHH_1⟩:=HH.2 1 _ rfl
 obtain ⟨cHH_2,fHH_2⟩:=HH.2 2 _ rfl
 have l1:=HG.1
 have l2:=HH.1
 have l3:=HR.1
 go_upto_region 3 with fail
 go_region_held3 (fun w'=>(∀ b o,b<w0.heap.size→w'.cell? ⟨b,o,none⟩=w0.cell? ⟨b,o,none⟩)∧w0.heap.size≤w'.heap.size) (first|exact ⟨fun _ _ _=>rfl,by simp⟩|exact kq_step2 (by assumption) (by assumption)|(repeat (first|(with_reducible assumption)|(with_reducible refine kq_self _ ?_)|(with_reducible refine kq_drew ?_)|(with_reducible refine kq_alloc ?_ _)|(with_reducible refine kq_set ?_ ?_ _)|(focus (simp;done))|(focus (simp;omega))|(focus omega))))
  (first|(go_at_call 247;go_must (first|((with_reducible refine (c1 _).mono ?_);rintro e w1 ⟨rfl,hb1⟩)|((with_reducible refine (c2 _).mono ?_);rintro e w2 ⟨rfl,hb2⟩))))
 have B2:Below w0.heap.size w0 w2:=by exact belA
 rename_i hh
 clear hh
 clear cHG_0 cHG_1 cHG_2 fHG_0 fHG_1 fHG_2 cHH_0 cHH_1 cHH_2 fHH_0 fHH_1 fHH_2
 replace HR:=HR.below B2
 replace HG:=HG.below B2
 replace HH:=HH.below B2
 replace hbw:=below_tr hbw B2
 obtain ⟨cHR_0,fHR_0⟩:=HR.2 0 _ rfl
 obtain ⟨cHR_1,fHR_1⟩:=HR.2 1 _ rfl
 obtain ⟨cHR_2,fHR_2⟩:=HR.2 2 _ rfl
 obtain ⟨cHG_0,fHG_0⟩:=HG.2 0 _ rfl
 obtain ⟨cHG_1,fHG_1⟩:=HG.2 1 _ rfl
 obtain ⟨cHG_2,fHG_2⟩:=HG.2 2 _ rfl
 obtain ⟨cHH_0,fHH_0⟩:=HH.2 0 _ rfl
 obtain ⟨cHH_1,fHH_1⟩:=HH.2 1 _ rfl
 obtain ⟨cHH_2,fHH_2⟩:=HH.2 2 _ rfl
 by_cases hle:h.c*m<g.c*n
 ·have hf:=Lib.hid (show htighter g h=h by rw [hfin.out,if_pos hle])
  clear hfin
  go_wp2
  refine bodyPost_ret (v:=.agg #[.int .i64 h.a,.int .i64 h.b,.int .i64 h.c]) (by simp [results,Tryz.results240,go_sem,cHR_0,cHR_1,cHR_2]) rfl ⟨by rw [hf.out], ?_⟩
  exact belA
 ·have hf:=Lib.hid (show htighter g h=g by rw [hfin.out,if_neg hle])
  clear hfin
  go_wp2
  refine bodyPost_ret (v:=.agg #[.int .i64 g.a,.int .i64 g.b,.int .i64 g.c]) (by simp [results,Tryz.results240,go_sem,cHR_0,cHR_1,cHR_2]) rfl ⟨by rw [hf.out], ?_⟩
  exact belA
end Go.Proofs.YtdncnhcffbgjhaaGreat
end
section
namespace Go.Proofs.YtdncnhcffbgjhaaGreat
open Go.RowKit
theorem dot_same {g h:Half} (ng:HNz g) (nh:HNz h):(decide (g.a*h.b=h.a*g.b)&&decide (0<g.a*h.a+g.b*h.b))=sameDir g h:=by
 have hc:(g.a*h.b=h.a*g.b) ↔ hcrs g h=0:=by unfold hcrs;rw [Int.mul_comm h.a g.b];omega
 rw [show decide (g.a*h.b=h.a*g.b)=decide (hcrs g h=0) from decide_eq_decide.2 hc]
 unfold sameDir
 by_cases h0:hcrs g h=0
 ·have sg:=hsz_pos ng
  have sh:=hsz_pos nh
  have hp:0<h.a*h.a+h.b*h.b:=nn2_pos nh
  have k:=Int.mul_pos hp sg
  rcases hpar ng nh h0 with ⟨h1,h2,h3⟩|⟨h1,h2,h3⟩
  ·rw [h1]
   have id:hsz h*(g.a*h.a+g.b*h.b)=(h.a*h.a+h.b*h.b)*hsz g:=by grind
   have:=gmp (a:=hsz h) (b:=g.a*h.a+g.b*h.b) (by omega) sh
   simp [this]
  ·have id:hsz h*(g.a*h.a+g.b*h.b) = -((h.a*h.a+h.b*h.b)*hsz g):=by grind
   have:¬ 0<g.a*h.a+g.b*h.b:=by
    intro h4
    have:=Int.mul_pos sh h4
    omega
   rw [decide_eq_false this,show (hup g == hup h)=false from beq_eq_false_iff_ne.2 h1]
 ·rw [decide_eq_false h0];rfl
def hn1 (h:Half):Int:=max h.a (-h.a)+max h.b (-h.b)
theorem max_abs (x:Int):max x (-x)=(x.natAbs:Int):=by omega
theorem abs_scale {x y m n:Int} (hm:0<m) (hn:0<n) (h:x*m=y*n):max x (-x)*m=max y (-y)*n:=by
 rw [max_abs,max_abs]
 have:=congrArg (fun z=>(z.natAbs:Int)) h
 simp only [Int.natAbs_mul,Int.natCast_mul] at this
 have e1:(m.natAbs:Int)=m:=by omega
 have e2:(n.natAbs:Int)=n:=by omega
 rw [e1,e2] at this;exact this
theorem hn1_bd {h:Half} (e:HOk h):1≤hn1 h∧hn1 h≤100000:=by
 have h1:=e.a
 have h2:=e.b
 have h3:=e.n
 unfold HNz at h3
 unfold hn1
 omega
theorem tight_n1 {g h:Half} (hg:HOk g) (hh:HOk h) (s:sameDir g h=true):h.c*hn1 g<g.c*hn1 h ↔ h.c*hsz g<g.c*hsz h:=by
 obtain ⟨h1,h2⟩:=same_scale hg.n hh.n s
 have sg:=hsz_pos hg.n
 have sh:=hsz_pos hh.n
 have e1:=abs_scale sh sg h1
 have e2:=abs_scale sh sg h2
 have b:=hn1_bd hh
 have e:hn1 g*hsz h=hn1 h*hsz g:=by unfold hn1;grind
 have id:hsz h*(g.c*hn1 h-h.c*hn1 g)=hn1 h*(g.c*hsz h-h.c*hsz g):=by grind
 have:=(gsign_eq sh (show 0<hn1 h by omega) id).1
 omega
theorem sUpper_c (h:Half) (w:World) :
 Calls Tryz.prog 244 #[halfV h] w fun e w'=>e=.returned (.int .i64 (if hup h=true then 0 else 1))∧Below w.heap.size w w':=by
 obtain ⟨r,hr⟩:∃ r:Int,r=(if hup h=true then (0:Int) else 1):=⟨_,rfl⟩
 rw [← hr]
 by_cases h1:0<h.b
 ·have e1:=Lib.hid (show r=0 by rw [hr];simp [hup,h1])
  clear hr
  go_enter Tryz.func244,Tryz.ntmps244
  go_wp2
  go_ret
  refine ⟨ret_int e1.out.symm, ?_⟩
  exact belA
 ·by_cases h2:h.b=0
  ·by_cases h3:0<h.a
   ·have e1:=Lib.hid (show r=0 by rw [hr];simp [hup,h2,h3])
    clear hr
    go_enter Tryz.func244,Tryz.ntmps244
    go_wp2
    go_ret
    refine ⟨ret_int e1.out.symm, ?_⟩
    exact belA
   ·have e1:=Lib.hid (show r=1 by rw [hr];simp [hup,h2,h3])
    clear hr
    go_enter Tryz.func244,Tryz.ntmps244
    go_wp2
    go_ret
    refine ⟨ret_int e1.out.symm, ?_⟩
    exact belA
  ·have e1:=Lib.hid (show r=1 by rw [hr];simp [hup,h1,h2])
   clear hr
   go_enter Tryz.func244,Tryz.ntmps244
   go_wp2
   go_ret
   refine ⟨ret_int e1.out.symm, ?_⟩
   exact belA
set_option maxRecDepth 100000 in
set_option maxHeartbeats 2000000 in
theorem sBef_c (g h:Half) (w:World) (hg:halfOk g=true) (hh:halfOk h=true) :
 Calls Tryz.prog 232 #[halfV g,halfV h] w fun e w'=>e=.returned (.bool (hbef g h))∧Below w.heap.size w w':=by
 have k1:=fun W=>sHalfOk_c g W (hIn (hOk hg))
 have k2:=fun W=>sHalfOk_c h W (hIn (hOk hh))
 rw [hg] at k1
 rw [hh] at k2
 have c1:=fun W=>sUpper_c g W
 have c2:=fun W=>sUpper_c h W
 obtain ⟨⟨p1,p2⟩,⟨q1,q2⟩⟩:=crB (hOk hg) (hOk hh)
 have hx:hcrs g h=g.a*h.b-h.a*g.b:=by unfold hcrs;rw [Int.mul_comm h.a g.b]
 rw [Int.mul_comm g.b h.a] at q1 q2
 have hfin:Hid (hbef g h=if hup g=hup h then decide (0<g.a*h.b-h.a*g.b) else hup g):=by rw [← hx];rfl
 clear hg hh hx
 generalize hup g=u1 at *
 generalize hup h=u2 at *
 cases u1<;>cases u2
 ·have e1:=Lib.hid (show hbef g h=decide (0<g.a*h.b-h.a*g.b) by rw [hfin.out];rfl)
  clear hfin
  have HG:Has ((w.alloc (.cells #[.int .i64 g.a,.int .i64 g.b,.int .i64 g.c] 111)).alloc (.cells #[.int .i64 h.a,.int .i64 h.b,.int .i64 h.c] 111)) w.heap.size [.int .i64 g.a,.int .i64 g.b,.int .i64 g.c]:=by
   exact hasA
  have HH:Has ((w.alloc (.cells #[.int .i64 g.a,.int .i64 g.b,.int .i64 g.c] 111)).alloc (.cells #[.int .i64 h.a,.int .i64 h.b,.int .i64 h.c] 111)) (w.heap.size+1) [.int .i64 h.a,.int .i64 h.b,.int .i64 h.c]:=by
   exact hasA
  have hbw:Below w.heap.size w ((w.alloc (.cells #[.int .i64 g.a,.int .i64 g.b,.int .i64 g.c] 111)).alloc (.cells #[.int .i64 h.a,.int .i64 h.b,.int .i64 h.c] 111)):=by
   exact belA
  go_enter Tryz.func232,Tryz.ntmps232
  go_wp2_with (fail)
  refine (k1 _).mono ?_
  rintro e w1 ⟨rfl,hb_w1⟩
  have r_w1:=bcell1 hb_w1
  have l_w1_0:w.heap.size<w1.heap.size:=blt hb_w1 (by first|(simp;done)|(simp;omega)|omega)
  have l_w1_1:w.heap.size+1<w1.heap.size:=blt hb_w1 (by first|(simp;done)|(simp;omega)|omega)
  go_wp2_with (fail)
  refine (k2 _).mono ?_
  rintro e w2 ⟨rfl,hb_w2⟩
  have r_w2:=bcell1 hb_w2
  have l_w2_0:w.heap.size<w2.heap.size:=blt hb_w2 (by first|(simp;done)|(simp;omega)|omega)
  have l_w2_1:w.heap.size+1<w2.heap.size:=blt hb_w2 (by first|(simp;done)|(simp;omega)|omega)
  replace HG:=(HG.below hb_w1).below hb_w2
  replace HH:=(HH.below hb_w1).below hb_w2
  replace hbw:=below_tr (below_tr hbw hb_w1) hb_w2
  clear hb_w1 r_w1 l_w1_0 l_w1_1 hb_w2 r_w2 l_w2_0 l_w2_1
  obtain ⟨cHG_0,fHG_0⟩:=HG.2 0 _ rfl
  obtain ⟨cHG_1,fHG_1⟩:=HG.2 1 _ rfl
  obtain ⟨cHG_2,fHG_2⟩:=HG.2 2 _ rfl
  obtain ⟨cHH_0,fHH_0⟩:=HH.2 0 _ rfl
  obtain ⟨cHH_1,fHH_1⟩:=HH.2 1 _ rfl
  obtain ⟨cHH_2,fHH_2⟩:=HH.2 2 _ rfl
  have lG:=HG.1
  have lH:=HH.1
  go_upto_region 3 with fail
  go_region_held3 (fun w'=>(∀ b o,b<w2.heap.size→w'.cell? ⟨b,o,none⟩=w2.cell? ⟨b,o,none⟩)∧w2.heap.size≤w'.heap.size) (first|exact ⟨fun _ _ _=>rfl,by simp⟩|exact kq_step2 (by assumption) (by assumption)|(repeat (first|(with_reducible assumption)|(with_reducible refine kq_self _ ?_)|(with_reducible refine kq_drew ?_)|(with_reducible refine kq_alloc ?_ _)|(with_reducible refine kq_set ?_ ?_ _)|(focus (simp;done))|(focus (simp;omega))|(focus omega))))
   (first|(go_at_call 244;go_must (first|((with_reducible refine (c1 _).mono ?_);rintro e w3 ⟨rfl,hbw3⟩)|((with_reducible refine (c2 _).mono ?_);rintro e w4 ⟨rfl,hbw4⟩))))
  rename_i hheld
  clear hheld
  have Bw4:Below w2.heap.size w2 w4:=by exact belA
  clear cHG_0 cHG_1 cHG_2 fHG_0 fHG_1 fHG_2 cHH_0 cHH_1 cHH_2 fHH_0 fHH_1 fHH_2
  replace HG:=HG.below Bw4
  replace HH:=HH.below Bw4
  replace hbw:=below_tr hbw Bw4
  obtain ⟨cHG_0,fHG_0⟩:=HG.2 0 _ rfl
  obtain ⟨cHG_1,fHG_1⟩:=HG.2 1 _ rfl
  obtain ⟨cHG_2,fHG_2⟩:=HG.2 2 _ rfl
  obtain ⟨cHH_0,fHH_0⟩:=HH.2 0 _ rfl
  obtain ⟨cHH_1,fHH_1⟩:=HH.2 1 _ rfl
  obtain ⟨cHH_2,fHH_2⟩:=HH.2 2 _ rfl
  have lGw4:=HG.1
  have lHw4:=HH.1
  go_wp2
  go_ret
  refine ⟨ret_bool (by rw [e1.out];exact decide_eq_decide.2 (by omega)), ?_⟩
  exact belA
 ·have e1:=Lib.hid (show hbef g h=false by rw [hfin.out];rfl)
  clear hfin
  have HG:Has ((w.alloc (.cells #[.int .i64 g.a,.int .i64 g.b,.int .i64 g.c] 111)).alloc (.cells #[.int .i64 h.a,.int .i64 h.b,.int .i64 h.c] 111)) w.heap.size [.int .i64 g.a,.int .i64 g.b,.int .i64 g.c]:=by
   exact hasA
  have HH:Has ((w.alloc (.cells #[.int .i64 g.a,.int .i64 g.b,.int .i64 g.c] 111)).alloc (.cells #[.int .i64 h.a,.int .i64 h.b,.int .i64 h.c] 111)) (w.heap.size+1) [.int .i64 h.a,.int .i64 h.b,.int .i64 h.c]:=by
   exact hasA
  have hbw:Below w.heap.size w ((w.alloc (.cells #[.int .i64 g.a,.int .i64 g.b,.int .i64 g.c] 111)).alloc (.cells #[.int .i64 h.a,.int .i64 h.b,.int .i64 h.c] 111)):=by
   exact belA
  go_enter Tryz.func232,Tryz.ntmps232
  go_wp2_with (fail)
  refine (k1 _).mono ?_
  rintro e w1 ⟨rfl,hb_w1⟩
  have r_w1:=bcell1 hb_w1
  have l_w1_0:w.heap.size<w1.heap.size:=blt hb_w1 (by first|(simp;done)|(simp;omega)|omega)
  have l_w1_1:w.heap.size+1<w1.heap.size:=blt hb_w1 (by first|(simp;done)|(simp;omega)|omega)
  go_wp2_with (fail)
  refine (k2 _).mono ?_
  rintro e w2 ⟨rfl,hb_w2⟩
  have r_w2:=bcell1 hb_w2
  have l_w2_0:w.heap.size<w2.heap.size:=blt hb_w2 (by first|(simp;done)|(simp;omega)|omega)
  have l_w2_1:w.heap.size+1<w2.heap.size:=blt hb_w2 (by first|(simp;done)|(simp;omega)|omega)
  replace HG:=(HG.below hb_w1).below hb_w2
  replace HH:=(HH.below hb_w1).below hb_w2
  replace hbw:=below_tr (below_tr hbw hb_w1) hb_w2
  clear hb_w1 r_w1 l_w1_0 l_w1_1 hb_w2 r_w2 l_w2_0 l_w2_1
  obtain ⟨cHG_0,fHG_0⟩:=HG.2 0 _ rfl
  obtain ⟨cHG_1,fHG_1⟩:=HG.2 1 _ rfl
  obtain ⟨cHG_2,fHG_2⟩:=HG.2 2 _ rfl
  obtain ⟨cHH_0,fHH_0⟩:=HH.2 0 _ rfl
  obtain ⟨cHH_1,fHH_1⟩:=HH.2 1 _ rfl
  obtain ⟨cHH_2,fHH_2⟩:=HH.2 2 _ rfl
  have lG:=HG.1
  have lH:=HH.1
  go_upto_region 3 with fail
  go_region_held3 (fun w'=>(∀ b o,b<w2.heap.size→w'.cell? ⟨b,o,none⟩=w2.cell? ⟨b,o,none⟩)∧w2.heap.size≤w'.heap.size) (first|exact ⟨fun _ _ _=>rfl,by simp⟩|exact kq_step2 (by assumption) (by assumption)|(repeat (first|(with_reducible assumption)|(with_reducible refine kq_self _ ?_)|(with_reducible refine kq_drew ?_)|(with_reducible refine kq_alloc ?_ _)|(with_reducible refine kq_set ?_ ?_ _)|(focus (simp;done))|(focus (simp;omega))|(focus omega))))
   (first|(go_at_call 244;go_must (first|((with_reducible refine (c1 _).mono ?_);rintro e w3 ⟨rfl,hbw3⟩)|((with_reducible refine (c2 _).mono ?_);rintro e w4 ⟨rfl,hbw4⟩))))
  rename_i hheld
  clear hheld
  have Bw4:Below w2.heap.size w2 w4:=by exact belA
  clear cHG_0 cHG_1 cHG_2 fHG_0 fHG_1 fHG_2 cHH_0 cHH_1 cHH_2 fHH_0 fHH_1 fHH_2
  replace HG:=HG.below Bw4
  replace HH:=HH.below Bw4
  replace hbw:=below_tr hbw Bw4
  obtain ⟨cHG_0,fHG_0⟩:=HG.2 0 _ rfl
  obtain ⟨cHG_1,fHG_1⟩:=HG.2 1 _ rfl
  obtain ⟨cHG_2,fHG_2⟩:=HG.2 2 _ rfl
  obtain ⟨cHH_0,fHH_0⟩:=HH.2 0 _ rfl
  obtain ⟨cHH_1,fHH_1⟩:=HH.2 1 _ rfl
  obtain ⟨cHH_2,fHH_2⟩:=HH.2 2 _ rfl
  have lGw4:=HG.1
  have lHw4:=HH.1
  go_upto_region 4 with fail
  go_region_held3 (fun w'=>(∀ b o,b<w4.heap.size→w'.cell? ⟨b,o,none⟩=w4.cell? ⟨b,o,none⟩)∧w4.heap.size≤w'.heap.size) (first|exact ⟨fun _ _ _=>rfl,by simp⟩|exact kq_step2 (by assumption) (by assumption)|(repeat (first|(with_reducible assumption)|(with_reducible refine kq_self _ ?_)|(with_reducible refine kq_drew ?_)|(with_reducible refine kq_alloc ?_ _)|(with_reducible refine kq_set ?_ ?_ _)|(focus (simp;done))|(focus (simp;omega))|(focus omega))))
   (first|(go_at_call 244;go_must (first|((with_reducible refine (c1 _).mono ?_);rintro e w5 ⟨rfl,hbw5⟩)|((with_reducible refine (c2 _).mono ?_);rintro e w6 ⟨rfl,hbw6⟩))))
  rename_i hheld
  clear hheld
  have Bw6:Below w4.heap.size w4 w6:=by exact belA
  clear cHG_0 cHG_1 cHG_2 fHG_0 fHG_1 fHG_2 cHH_0 cHH_1 cHH_2 fHH_0 fHH_1 fHH_2
  replace HG:=HG.below Bw6
  replace HH:=HH.below Bw6
  replace hbw:=below_tr hbw Bw6
  obtain ⟨cHG_0,fHG_0⟩:=HG.2 0 _ rfl
  obtain ⟨cHG_1,fHG_1⟩:=HG.2 1 _ rfl
  obtain ⟨cHG_2,fHG_2⟩:=HG.2 2 _ rfl
  obtain ⟨cHH_0,fHH_0⟩:=HH.2 0 _ rfl
  obtain ⟨cHH_1,fHH_1⟩:=HH.2 1 _ rfl
  obtain ⟨cHH_2,fHH_2⟩:=HH.2 2 _ rfl
  have lGw6:=HG.1
  have lHw6:=HH.1
  go_wp2
  go_ret
  refine ⟨ret_bool e1.out.symm, ?_⟩
  exact belA
 ·have e1:=Lib.hid (show hbef g h=true by rw [hfin.out];rfl)
  clear hfin
  have HG:Has ((w.alloc (.cells #[.int .i64 g.a,.int .i64 g.b,.int .i64 g.c] 111)).alloc (.cells #[.int .i64 h.a,.int .i64 h.b,.int .i64 h.c] 111)) w.heap.size [.int .i64 g.a,.int .i64 g.b,.int .i64 g.c]:=by
   exact hasA
  have HH:Has ((w.alloc (.cells #[.int .i64 g.a,.int .i64 g.b,.int .i64 g.c] 111)).alloc (.cells #[.int .i64 h.a,.int .i64 h.b,.int .i64 h.c] 111)) (w.heap.size+1) [.int .i64 h.a,.int .i64 h.b,.int .i64 h.c]:=by
   exact hasA
  have hbw:Below w.heap.size w ((w.alloc (.cells #[.int .i64 g.a,.int .i64 g.b,.int .i64 g.c] 111)).alloc (.cells #[.int .i64 h.a,.int .i64 h.b,.int .i64 h.c] 111)):=by
   exact belA
  go_enter Tryz.func232,Tryz.ntmps232
  go_wp2_with (fail)
  refine (k1 _).mono ?_
  rintro e w1 ⟨rfl,hb_w1⟩
  have r_w1:=bcell1 hb_w1
  have l_w1_0:w.heap.size<w1.heap.size:=blt hb_w1 (by first|(simp;done)|(simp;omega)|omega)
  have l_w1_1:w.heap.size+1<w1.heap.size:=blt hb_w1 (by first|(simp;done)|(simp;omega)|omega)
  go_wp2_with (fail)
  refine (k2 _).mono ?_
  rintro e w2 ⟨rfl,hb_w2⟩
  have r_w2:=bcell1 hb_w2
  have l_w2_0:w.heap.size<w2.heap.size:=blt hb_w2 (by first|(simp;done)|(simp;omega)|omega)
  have l_w2_1:w.heap.size+1<w2.heap.size:=blt hb_w2 (by first|(simp;done)|(simp;omega)|omega)
  replace HG:=(HG.below hb_w1).below hb_w2
  replace HH:=(HH.below hb_w1).below hb_w2
  replace hbw:=below_tr (below_tr hbw hb_w1) hb_w2
  clear hb_w1 r_w1 l_w1_0 l_w1_1 hb_w2 r_w2 l_w2_0 l_w2_1
  obtain ⟨cHG_0,fHG_0⟩:=HG.2 0 _ rfl
  obtain ⟨cHG_1,fHG_1⟩:=HG.2 1 _ rfl
  obtain ⟨cHG_2,fHG_2⟩:=HG.2 2 _ rfl
  obtain ⟨cHH_0,fHH_0⟩:=HH.2 0 _ rfl
  obtain ⟨cHH_1,fHH_1⟩:=HH.2 1 _ rfl
  obtain ⟨cHH_2,fHH_2⟩:=HH.2 2 _ rfl
  have lG:=HG.1
  have lH:=HH.1
  go_upto_region 3 with fail
  go_region_held3 (fun w'=>(∀ b o,b<w2.heap.size→w'.cell? ⟨b,o,none⟩=w2.cell? ⟨b,o,none⟩)∧w2.heap.size≤w'.heap.size) (first|exact ⟨fun _ _ _=>rfl,by simp⟩|exact kq_step2 (by assumption) (by assumption)|(repeat (first|(with_reducible assumption)|(with_reducible refine kq_self _ ?_)|(with_reducible refine kq_drew ?_)|(with_reducible refine kq_alloc ?_ _)|(with_reducible refine kq_set ?_ ?_ _)|(focus (simp;done))|(focus (simp;omega))|(focus omega))))
   (first|(go_at_call 244;go_must (first|((with_reducible refine (c1 _).mono ?_);rintro e w3 ⟨rfl,hbw3⟩)|((with_reducible refine (c2 _).mono ?_);rintro e w4 ⟨rfl,hbw4⟩))))
  rename_i hheld
  clear hheld
  have Bw4:Below w2.heap.size w2 w4:=by exact belA
  clear cHG_0 cHG_1 cHG_2 fHG_0 fHG_1 fHG_2 cHH_0 cHH_1 cHH_2 fHH_0 fHH_1 fHH_2
  replace HG:=HG.below Bw4
  replace HH:=HH.below Bw4
  replace hbw:=below_tr hbw Bw4
  obtain ⟨cHG_0,fHG_0⟩:=HG.2 0 _ rfl
  obtain ⟨cHG_1,fHG_1⟩:=HG.2 1 _ rfl
  obtain ⟨cHG_2,fHG_2⟩:=HG.2 2 _ rfl
  obtain ⟨cHH_0,fHH_0⟩:=HH.2 0 _ rfl
  obtain ⟨cHH_1,fHH_1⟩:=HH.2 1 _ rfl
  obtain ⟨cHH_2,fHH_2⟩:=HH.2 2 _ rfl
  have lGw4:=HG.1
  have lHw4:=HH.1
  go_upto_region 4 with fail
  go_region_held3 (fun w'=>(∀ b o,b<w4.heap.size→w'.cell? ⟨b,o,none⟩=w4.cell? ⟨b,o,none⟩)∧w4.heap.size≤w'.heap.size) (first|exact ⟨fun _ _ _=>rfl,by simp⟩|exact kq_step2 (by assumption) (by assumption)|(repeat (first|(with_reducible assumption)|(with_reducible refine kq_self _ ?_)|(with_reducible refine kq_drew ?_)|(with_reducible refine kq_alloc ?_ _)|(with_reducible refine kq_set ?_ ?_ _)|(focus (simp;done))|(focus (simp;omega))|(focus omega))))
   (first|(go_at_call 244;go_must (first|((with_reducible refine (c1 _).mono ?_);rintro e w5 ⟨rfl,hbw5⟩)|((with_reducible refine (c2 _).mono ?_);rintro e w6 ⟨rfl,hbw6⟩))))
  rename_i hheld
  clear hheld
  have Bw6:Below w4.heap.size w4 w6:=by exact belA
  clear cHG_0 cHG_1 cHG_2 fHG_0 fHG_1 fHG_2 cHH_0 cHH_1 cHH_2 fHH_0 fHH_1 fHH_2
  replace HG:=HG.below Bw6
  replace HH:=HH.below Bw6
  replace hbw:=below_tr hbw Bw6
  obtain ⟨cHG_0,fHG_0⟩:=HG.2 0 _ rfl
  obtain ⟨cHG_1,fHG_1⟩:=HG.2 1 _ rfl
  obtain ⟨cHG_2,fHG_2⟩:=HG.2 2 _ rfl
  obtain ⟨cHH_0,fHH_0⟩:=HH.2 0 _ rfl
  obtain ⟨cHH_1,fHH_1⟩:=HH.2 1 _ rfl
  obtain ⟨cHH_2,fHH_2⟩:=HH.2 2 _ rfl
  have lGw6:=HG.1
  have lHw6:=HH.1
  go_wp2
  go_ret
  refine ⟨ret_bool e1.out.symm, ?_⟩
  exact belA
 ·have e1:=Lib.hid (show hbef g h=decide (0<g.a*h.b-h.a*g.b) by rw [hfin.out];rfl)
  clear hfin
  have HG:Has ((w.alloc (.cells #[.int .i64 g.a,.int .i64 g.b,.int .i64 g.c] 111)).alloc (.cells #[.int .i64 h.a,.int .i64 h.b,.int .i64 h.c] 111)) w.heap.size [.int .i64 g.a,.int .i64 g.b,.int .i64 g.c]:=by
   exact hasA
  have HH:Has ((w.alloc (.cells #[.int .i64 g.a,.int .i64 g.b,.int .i64 g.c] 111)).alloc (.cells #[.int .i64 h.a,.int .i64 h.b,.int .i64 h.c] 111)) (w.heap.size+1) [.int .i64 h.a,.int .i64 h.b,.int .i64 h.c]:=by
   exact hasA
  have hbw:Below w.heap.size w ((w.alloc (.cells #[.int .i64 g.a,.int .i64 g.b,.int .i64 g.c] 111)).alloc (.cells #[.int .i64 h.a,.int .i64 h.b,.int .i64 h.c] 111)):=by
   exact belA
  go_enter Tryz.func232,Tryz.ntmps232
  go_wp2_with (fail)
  refine (k1 _).mono ?_
  rintro e w1 ⟨rfl,hb_w1⟩
  have r_w1:=bcell1 hb_w1
  have l_w1_0:w.heap.size<w1.heap.size:=blt hb_w1 (by first|(simp;done)|(simp;omega)|omega)
  have l_w1_1:w.heap.size+1<w1.heap.size:=blt hb_w1 (by first|(simp;done)|(simp;omega)|omega)
  go_wp2_with (fail)
  refine (k2 _).mono ?_
  rintro e w2 ⟨rfl,hb_w2⟩
  have r_w2:=bcell1 hb_w2
  have l_w2_0:w.heap.size<w2.heap.size:=blt hb_w2 (by first|(simp;done)|(simp;omega)|omega)
  have l_w2_1:w.heap.size+1<w2.heap.size:=blt hb_w2 (by first|(simp;done)|(simp;omega)|omega)
  replace HG:=(HG.below hb_w1).below hb_w2
  replace HH:=(HH.below hb_w1).below hb_w2
  replace hbw:=below_tr (below_tr hbw hb_w1) hb_w2
  clear hb_w1 r_w1 l_w1_0 l_w1_1 hb_w2 r_w2 l_w2_0 l_w2_1
  obtain ⟨cHG_0,fHG_0⟩:=HG.2 0 _ rfl
  obtain ⟨cHG_1,fHG_1⟩:=HG.2 1 _ rfl
  obtain ⟨cHG_2,fHG_2⟩:=HG.2 2 _ rfl
  obtain ⟨cHH_0,fHH_0⟩:=HH.2 0 _ rfl
  obtain ⟨cHH_1,fHH_1⟩:=HH.2 1 _ rfl
  obtain ⟨cHH_2,fHH_2⟩:=HH.2 2 _ rfl
  have lG:=HG.1
  have lH:=HH.1
  go_upto_region 3 with fail
  go_region_held3 (fun w'=>(∀ b o,b<w2.heap.size→w'.cell? ⟨b,o,none⟩=w2.cell? ⟨b,o,none⟩)∧w2.heap.size≤w'.heap.size) (first|exact ⟨fun _ _ _=>rfl,by simp⟩|exact kq_step2 (by assumption) (by assumption)|(repeat (first|(with_reducible assumption)|(with_reducible refine kq_self _ ?_)|(with_reducible refine kq_drew ?_)|(with_reducible refine kq_alloc ?_ _)|(with_reducible refine kq_set ?_ ?_ _)|(focus (simp;done))|(focus (simp;omega))|(focus omega))))
   (first|(go_at_call 244;go_must (first|((with_reducible refine (c1 _).mono ?_);rintro e w3 ⟨rfl,hbw3⟩)|((with_reducible refine (c2 _).mono ?_);rintro e w4 ⟨rfl,hbw4⟩))))
  rename_i hheld
  clear hheld
  have Bw4:Below w2.heap.size w2 w4:=by exact belA
  clear cHG_0 cHG_1 cHG_2 fHG_0 fHG_1 fHG_2 cHH_0 cHH_1 cHH_2 fHH_0 fHH_1 fHH_2
  replace HG:=HG.below Bw4
  replace HH:=HH.below Bw4
  replace hbw:=below_tr hbw Bw4
  obtain ⟨cHG_0,fHG_0⟩:=HG.2 0 _ rfl
  obtain ⟨cHG_1,fHG_1⟩:=HG.2 1 _ rfl
  obtain ⟨cHG_2,fHG_2⟩:=HG.2 2 _ rfl
  obtain ⟨cHH_0,fHH_0⟩:=HH.2 0 _ rfl
  obtain ⟨cHH_1,fHH_1⟩:=HH.2 1 _ rfl
  obtain ⟨cHH_2,fHH_2⟩:=HH.2 2 _ rfl
  have lGw4:=HG.1
  have lHw4:=HH.1
  go_wp2
  go_ret
  refine ⟨ret_bool (by rw [e1.out];exact decide_eq_decide.2 (by omega)), ?_⟩
  exact belA
set_option maxRecDepth 100000 in
set_option maxHeartbeats 2000000 in
theorem sSame_c (g h:Half) (w:World) (hg:halfOk g=true) (hh:halfOk h=true) :
 Calls Tryz.prog 233 #[halfV g,halfV h] w fun e w'=>e=.returned (.bool (sameDir g h))∧Below w.heap.size w w':=by
 have k1:=fun W=>sHalfOk_c g W (hIn (hOk hg))
 have k2:=fun W=>sHalfOk_c h W (hIn (hOk hh))
 rw [hg] at k1
 rw [hh] at k2
 obtain ⟨⟨p1,p2⟩,⟨q1,q2⟩⟩:=crB (hOk hg) (hOk hh)
 rw [Int.mul_comm g.b h.a] at q1 q2
 have r1:=gmul_bd (a:=g.a) (b:=h.a) (A:=50000) (B:=50000) (hOk hg).a (hOk hh).a
 have r2:=gmul_bd (a:=g.b) (b:=h.b) (A:=50000) (B:=50000) (hOk hg).b (hOk hh).b
 have hfin:=Lib.hid (dot_same (hOk hg).n (hOk hh).n)
 clear hg hh
 generalize sameDir g h=s at *
 by_cases hx:g.a*h.b=h.a*g.b
 ·have e1:=Lib.hid (show s=decide (0<g.a*h.a+g.b*h.b) by rw [← hfin.out,decide_eq_true hx];rfl)
  have hx2:(g.a*h.b == h.a*g.b)=true:=beq_iff_eq.2 hx
  clear hfin hx
  go_enter Tryz.func233,Tryz.ntmps233
  go_wp2_with (fail)
  refine (k1 _).mono ?_
  rintro e w1 ⟨rfl,hb_w1⟩
  have r_w1:=bcell1 hb_w1
  have l_w1_0:w.heap.size<w1.heap.size:=blt hb_w1 (by first|(simp;done)|(simp;omega)|omega)
  have l_w1_1:w.heap.size+1<w1.heap.size:=blt hb_w1 (by first|(simp;done)|(simp;omega)|omega)
  go_wp2_with (fail)
  refine (k2 _).mono ?_
  rintro e w2 ⟨rfl,hb_w2⟩
  have r_w2:=bcell1 hb_w2
  have l_w2_0:w.heap.size<w2.heap.size:=blt hb_w2 (by first|(simp;done)|(simp;omega)|omega)
  have l_w2_1:w.heap.size+1<w2.heap.size:=blt hb_w2 (by first|(simp;done)|(simp;omega)|omega)
  go_wp2
  go_ret
  refine ⟨ret_bool e1.out.symm, ?_⟩
  exact belA
 ·have e1:=Lib.hid (show s=false by rw [← hfin.out,decide_eq_false hx];rfl)
  have hx2:(g.a*h.b == h.a*g.b)=false:=beq_eq_false_iff_ne.2 hx
  clear hfin hx
  go_enter Tryz.func233,Tryz.ntmps233
  go_wp2_with (fail)
  refine (k1 _).mono ?_
  rintro e w1 ⟨rfl,hb_w1⟩
  have r_w1:=bcell1 hb_w1
  have l_w1_0:w.heap.size<w1.heap.size:=blt hb_w1 (by first|(simp;done)|(simp;omega)|omega)
  have l_w1_1:w.heap.size+1<w1.heap.size:=blt hb_w1 (by first|(simp;done)|(simp;omega)|omega)
  go_wp2_with (fail)
  refine (k2 _).mono ?_
  rintro e w2 ⟨rfl,hb_w2⟩
  have r_w2:=bcell1 hb_w2
  have l_w2_0:w.heap.size<w2.heap.size:=blt hb_w2 (by first|(simp;done)|(simp;omega)|omega)
  have l_w2_1:w.heap.size+1<w2.heap.size:=blt hb_w2 (by first|(simp;done)|(simp;omega)|omega)
  go_wp2
  go_ret
  refine ⟨ret_bool e1.out.symm, ?_⟩
  exact belA
set_option maxRecDepth 100000 in
set_option maxHeartbeats 2000000 in
theorem sTighter_c (g h:Half) (w:World) (hg:halfOk g=true) (hh:halfOk h=true) (hs:sameDir g h=true) :
 Calls Tryz.prog 234 #[halfV g,halfV h] w fun e w'=>e=.returned (halfV (htighter g h))∧Below w.heap.size w w':=by
 have c0:=fun W=>sSame_c g h W hg hh
 rw [hs] at c0
 have b1:=hn1_bd (hOk hg)
 have b2:=hn1_bd (hOk hh)
 have p:=gmul_bd (a:=g.c) (b:=hn1 h) (A:=100000000) (B:=100000) (hOk hg).c (by omega)
 have q:=gmul_bd (a:=h.c) (b:=hn1 g) (A:=100000000) (B:=100000) (hOk hh).c (by omega)
 have hfin:Hid (htighter g h=if h.c*hn1 g<g.c*hn1 h then h else g):=by
  unfold Hid htighter
  by_cases e:h.c*hn1 g<g.c*hn1 h
  ·rw [if_pos e,if_pos ((tight_n1 (hOk hg) (hOk hh) hs).1 e)]
  ·rw [if_neg e,if_neg (fun e2=>e ((tight_n1 (hOk hg) (hOk hh) hs).2 e2))]
 obtain ⟨⟨a1,a2⟩,⟨a3,a4⟩,_,_⟩:=hOk hg
 obtain ⟨⟨a5,a6⟩,⟨a7,a8⟩,_,_⟩:=hOk hh
 clear hg hh hs
 have em:g.a.natAbs+g.b.natAbs=hn1 g:=by unfold hn1;omega
 have en:h.a.natAbs+h.b.natAbs=hn1 h:=by unfold hn1;omega
 have f1:(if g.a < -g.a then -g.a else g.a)=(g.a.natAbs:Int):=by omega
 have f2:(if g.b < -g.b then -g.b else g.b)=(g.b.natAbs:Int):=by omega
 have f3:(if h.a < -h.a then -h.a else h.a)=(h.a.natAbs:Int):=by omega
 have f4:(if h.b < -h.b then -h.b else h.b)=(h.b.natAbs:Int):=by omega
 have n1:(0:Int)≤(g.a.natAbs:Int)∧(g.a.natAbs:Int)≤50000:=by omega
 have n2:(0:Int)≤(g.b.natAbs:Int)∧(g.b.natAbs:Int)≤50000:=by omega
 have n3:(0:Int)≤(h.a.natAbs:Int)∧(h.a.natAbs:Int)≤50000:=by omega
 have n4:(0:Int)≤(h.b.natAbs:Int)∧(h.b.natAbs:Int)≤50000:=by omega
 generalize (g.a.natAbs:Int)=A1 at *
 generalize (g.b.natAbs:Int)=A2 at *
 generalize (h.a.natAbs:Int)=A3 at *
 generalize (h.b.natAbs:Int)=A4 at *
 obtain ⟨n1,n1'⟩:=n1
 obtain ⟨n2,n2'⟩:=n2
 obtain ⟨n3,n3'⟩:=n3
 obtain ⟨n4,n4'⟩:=n4
 generalize hn1 g=m at *
 generalize hn1 h=n at *
 have HG:Has (((w.alloc (.cells #[.int .i64 g.a,.int .i64 g.b,.int .i64 g.c] 111)).alloc (.cells #[.int .i64 h.a,.int .i64 h.b,.int .i64 h.c] 111)).alloc (.cells #[.int .i64 0,.int .i64 0,.int .i64 0] 111)) w.heap.size [.int .i64 g.a,.int .i64 g.b,.int .i64 g.c]:=by
  exact hasA
 have HH:Has (((w.alloc (.cells #[.int .i64 g.a,.int .i64 g.b,.int .i64 g.c] 111)).alloc (.cells #[.int .i64 h.a,.int .i64 h.b,.int .i64 h.c] 111)).alloc (.cells #[.int .i64 0,.int .i64 0,.int .i64 0] 111)) (w.heap.size+1) [.int .i64 h.a,.int .i64 h.b,.int .i64 h.c]:=by
  exact hasA
 have HR:Has (((w.alloc (.cells #[.int .i64 g.a,.int .i64 g.b,.int .i64 g.c] 111)).alloc (.cells #[.int .i64 h.a,.int .i64 h.b,.int .i64 h.c] 111)).alloc (.cells #[.int .i64 0,.int .i64 0,.int .i64 0] 111)) (w.heap.size+1+1) [.int .i64 0,.int .i64 0,.int .i64 0]:=by
  exact hasA
 have hbw:Below w.heap.size w (((w.alloc (.cells #[.int .i64 g.a,.int .i64 g.b,.int .i64 g.c] 111)).alloc (.cells #[.int .i64 h.a,.int .i64 h.b,.int .i64 h.c] 111)).alloc (.cells #[.int .i64 0,.int .i64 0,.int .i64 0] 111)):=by
  exact belA
 go_enter Tryz.func234,Tryz.ntmps234
 go_wp2_with (fail)
 refine (c0 _).mono ?_
 rintro e w0 ⟨rfl,hb0⟩
 replace HG:=HG.below hb0
 replace HH:=HH.below hb0
 replace HR:=HR.below hb0
 replace hbw:=below_tr hbw hb0
 clear hb0 c0
 obtain ⟨cHG_0,fHG_0⟩:=HG.2 0 _ rfl
 obtain ⟨cHG_1,fHG_1⟩:=HG.2 1 _ rfl
 obtain ⟨cHG_2,fHG_2⟩:=HG.2 2 _ rfl
 obtain ⟨cHH_0,fHH_0⟩:=HH.2 0 _ rfl
 obtain ⟨cHH_1,fHH_1⟩:=HH.2 1 _ rfl
 obtain ⟨cHH_2,fHH_2⟩:=HH.2 2 _ rfl
 obtain ⟨cHR_0,fHR_0⟩:=HR.2 0 _ rfl
 obtain ⟨cHR_1,fHR_1⟩:=HR.2 1 _ rfl
 obtain ⟨cHR_2,fHR_2⟩:=HR.2 2 _ rfl
 have l1:=HG.1
 have l2:=HH.1
 have l3:=HR.1
 go_upto_region 5 with fail
 obtain ⟨p1,p2⟩:=p
 obtain ⟨q1,q2⟩:=q
 by_cases hle:h.c*m<g.c*n
 ·have hf:=Lib.hid (show htighter g h=h by rw [hfin.out,if_pos hle])
  clear hfin
  go_wp2
  refine bodyPost_ret (v:=.agg #[.int .i64 h.a,.int .i64 h.b,.int .i64 h.c]) (by simp [results,Tryz.results234,go_sem,cHR_0,cHR_1,cHR_2]) rfl ⟨by rw [hf.out], ?_⟩
  exact belA
 ·have hf:=Lib.hid (show htighter g h=g by rw [hfin.out,if_neg hle])
  clear hfin
  go_wp2
  refine bodyPost_ret (v:=.agg #[.int .i64 g.a,.int .i64 g.b,.int .i64 g.c]) (by simp [results,Tryz.results234,go_sem,cHR_0,cHR_1,cHR_2]) rfl ⟨by rw [hf.out], ?_⟩
  exact belA
end Go.Proofs.YtdncnhcffbgjhaaGreat
end
