/-
 The program's functions on directions of half planes.
 Conditions: valid half planes.
-/
import Derived.Test.YtbekjpkcicjcgabGreatGrH
import Derived.Deep.RegionHeld3
import Derived.Deep.RegionWith
import Derived.Deep.DeepMust
import Derived.Deep.DeepCutAuto
set_option maxHeartbeats 2000000
set_option maxRecDepth 100000
namespace Go.Proofs.YtbekjpkcicjcgabGreat
open Go.RowKit
structure HOk (h:Half):Prop where
 a : -50000<=h.a/\h.a<=50000
 b : -50000<=h.b/\h.b<=50000
 c : -100000000<=h.c/\h.c<=100000000
 n:Kn h
theorem KE {h:Half} (e:Xq h=true):HOk h:=by
 obtain ⟨h1,h2,h3,h4,_⟩:=Zm.1 e;exact ⟨h1,h2,h3,h4⟩
theorem hIn {h:Half} (e:HOk h):h.In:=by
 obtain ⟨h1,h2,h3,_⟩:=e;exact ⟨⟨by omega,by omega⟩,⟨by omega,by omega⟩,⟨by omega,by omega⟩⟩
structure CrB (g h:Half):Prop where
 ab : -2500000000<=g.a*h.b/\g.a*h.b<=2500000000
 ba : -2500000000<=g.b*h.a/\g.b*h.a<=2500000000
theorem crB {g h:Half} (hg:HOk g) (hh:HOk h):CrB g h:=by
 have p:=Zp (a:=g.a) (b:=h.b) (A:=50000) (B:=50000) hg.a hh.b;have q:=Zp (a:=g.b) (b:=h.a) (A:=50000) (B:=50000) hg.b hh.a;exact ⟨⟨by omega,by omega⟩,⟨by omega,by omega⟩⟩
theorem crs_bd {g h:Half} (hg:HOk g) (hh:HOk h) : -5000000000<=Xp g h/\Xp g h<=5000000000:=by
 obtain ⟨p,q⟩:=crB hg hh;unfold Xp;omega
theorem hsz_bd {h:Half} (e:HOk h):1<=XU h/\XU h<=50000:=by
 have h1:=Yz e.n;have h2:=e.a;have h3:=e.b;refine ⟨by omega, ?_⟩;unfold XU;split<;>omega
theorem iUpper_c (h:Half) (w:World) :
 Calls Tryz.prog 149 #[Yf h] w λ e w'=>e=.returned (.bool (ZS h))/\Below w.heap.size w w':=by
 by_cases h1:0<h.b
 ·go_enter Tryz.func149,Tryz.ntmps149
  go_wp2
  go_ret
  refine ⟨Xi (by simp [ZS,h1]), ?_⟩;exact Xn
 ·by_cases h2:h.b=0
  ·go_enter Tryz.func149,Tryz.ntmps149
   go_wp2
   go_ret
   refine ⟨Xi (by simp [ZS,h2]), ?_⟩;exact Xn
  ·go_enter Tryz.func149,Tryz.ntmps149
   go_wp2
   go_ret
   refine ⟨Xi (by simp [ZS,h1,h2]), ?_⟩;exact Xn
theorem iCross_c (g h:Half) (w:World) (hg:HOk g) (hh:HOk h) :
 Calls Tryz.prog 143 #[Yf g,Yf h] w λ e w'=>e=.returned (.int .i64 (Xp g h))/\Below w.heap.size w w':=by
 obtain ⟨⟨p1,p2⟩,⟨q1,q2⟩⟩:=crB hg hh;clear hg hh;go_enter Tryz.func143,Tryz.ntmps143
 go_wp2
 go_ret
 refine ⟨YH (by simp only [Xp]), ?_⟩;exact Xn
theorem iSize_c (h:Half) (w:World) (hh:HOk h) :
 Calls Tryz.prog 151 #[Yf h] w λ e w'=>e=.returned (.int .i64 (XU h))/\Below w.heap.size w w':=by
 obtain ⟨⟨a1,a2⟩,⟨b1,b2⟩,_,_⟩:=hh;by_cases h1:h.a=0
 ·go_enter Tryz.func151,Tryz.ntmps151
  go_wp2
  all_goals
   go_ret
   refine ⟨YH (by unfold XU;rw [if_pos h1];omega), ?_⟩;exact Xn
 ·go_enter Tryz.func151,Tryz.ntmps151
  go_wp2
  all_goals
   go_ret
   refine ⟨YH (by unfold XU;rw [if_neg h1];omega), ?_⟩;exact Xn
theorem iBef_c (g h:Half) (w:World) (hg:HOk g) (hh:HOk h) :
 Calls Tryz.prog 138 #[Yf g,Yf h] w λ e w'=>e=.returned (.bool (ZF g h))/\Below w.heap.size w w':=by
 have c1:=λ W=>iUpper_c g W;have c2:=λ W=>iUpper_c h W;have c3:=λ W=>iCross_c g h W hg hh;have hfin:Hid (ZF g h=if ZS g=ZS h then decide (0<Xp g h) else ZS g):=rfl;clear hg hh;generalize ZS g=u1 at *;generalize ZS h=u2 at *;generalize Xp g h=x at *;cases u1<;>cases u2
 ·have e1:=Lib.hid (show ZF g h=decide (0<x) by rw [hfin.out];rfl);clear hfin;go_enter Tryz.func138,Tryz.ntmps138
  go_upto_region 1 with fail
  go_region_held3 (λ w'=>(∀ b o,b<w.heap.size+1+1->w'.cell? ⟨b,o,none⟩=((w.alloc (.cells #[.int .i64 g.a,.int .i64 g.b,.int .i64 g.c] 85)).alloc (.cells #[.int .i64 h.a,.int .i64 h.b,.int .i64 h.c] 85)).cell? ⟨b,o,none⟩)/\w.heap.size+1+1<=w'.heap.size) (first|exact ⟨λ _ _ _=>rfl,by simp⟩|exact Ym (by assumption) (by assumption)|(repeat (first|(with_reducible assumption)|(with_reducible refine Y6 _ ?_)|(with_reducible refine Y7 ?_)|(with_reducible refine YC ?_ _)|(with_reducible refine ZP ?_ ?_ _)|(focus (simp;done))|(focus (simp;omega))|(focus omega))))
   (first|(go_at_call 149;go_must (first|((with_reducible refine (c1 _).mono ?_);rintro e w1 ⟨rfl,hb1⟩)|((with_reducible refine (c2 _).mono ?_);rintro e w2 ⟨rfl,hb2⟩))))
  have hbz:Below ((w.alloc (.cells #[.int .i64 g.a,.int .i64 g.b,.int .i64 g.c] 85)).alloc (.cells #[.int .i64 h.a,.int .i64 h.b,.int .i64 h.c] 85)).heap.size ((w.alloc (.cells #[.int .i64 g.a,.int .i64 g.b,.int .i64 g.c] 85)).alloc (.cells #[.int .i64 h.a,.int .i64 h.b,.int .i64 h.c] 85)) w2:=by exact Xn
  have r2:=Xt hbz;have l2:w.heap.size<w2.heap.size:=XN hbz;have m2:w.heap.size+1<w2.heap.size:=XN hbz;have hbw:Below w.heap.size w w2:=by exact Xn
  go_wp2_with (fail)
  refine (c3 _).mono ?_;rintro e w3 ⟨rfl,hb3⟩;go_wp2
  go_ret
  refine ⟨Xi e1.out.symm, ?_⟩;exact Xn
 ·have e1:=Lib.hid (show ZF g h=false by rw [hfin.out];rfl);clear hfin;go_enter Tryz.func138,Tryz.ntmps138
  go_upto_region 1 with fail
  go_region_held3 (λ w'=>(∀ b o,b<w.heap.size+1+1->w'.cell? ⟨b,o,none⟩=((w.alloc (.cells #[.int .i64 g.a,.int .i64 g.b,.int .i64 g.c] 85)).alloc (.cells #[.int .i64 h.a,.int .i64 h.b,.int .i64 h.c] 85)).cell? ⟨b,o,none⟩)/\w.heap.size+1+1<=w'.heap.size) (first|exact ⟨λ _ _ _=>rfl,by simp⟩|exact Ym (by assumption) (by assumption)|(repeat (first|(with_reducible assumption)|(with_reducible refine Y6 _ ?_)|(with_reducible refine Y7 ?_)|(with_reducible refine YC ?_ _)|(with_reducible refine ZP ?_ ?_ _)|(focus (simp;done))|(focus (simp;omega))|(focus omega))))
   (first|(go_at_call 149;go_must (first|((with_reducible refine (c1 _).mono ?_);rintro e w1 ⟨rfl,hb1⟩)|((with_reducible refine (c2 _).mono ?_);rintro e w2 ⟨rfl,hb2⟩))))
  have hbz:Below ((w.alloc (.cells #[.int .i64 g.a,.int .i64 g.b,.int .i64 g.c] 85)).alloc (.cells #[.int .i64 h.a,.int .i64 h.b,.int .i64 h.c] 85)).heap.size ((w.alloc (.cells #[.int .i64 g.a,.int .i64 g.b,.int .i64 g.c] 85)).alloc (.cells #[.int .i64 h.a,.int .i64 h.b,.int .i64 h.c] 85)) w2:=by exact Xn
  have r2:=Xt hbz;have l2:w.heap.size<w2.heap.size:=XN hbz;have m2:w.heap.size+1<w2.heap.size:=XN hbz;have hbw:Below w.heap.size w w2:=by exact Xn
  go_wp2_with (fail)
  refine (c1 _).mono ?_;rintro e w3 ⟨rfl,hb3⟩;go_wp2
  go_ret
  refine ⟨Xi e1.out.symm, ?_⟩;exact Xn
 ·have e1:=Lib.hid (show ZF g h=true by rw [hfin.out];rfl);clear hfin;go_enter Tryz.func138,Tryz.ntmps138
  go_upto_region 1 with fail
  go_region_held3 (λ w'=>(∀ b o,b<w.heap.size+1+1->w'.cell? ⟨b,o,none⟩=((w.alloc (.cells #[.int .i64 g.a,.int .i64 g.b,.int .i64 g.c] 85)).alloc (.cells #[.int .i64 h.a,.int .i64 h.b,.int .i64 h.c] 85)).cell? ⟨b,o,none⟩)/\w.heap.size+1+1<=w'.heap.size) (first|exact ⟨λ _ _ _=>rfl,by simp⟩|exact Ym (by assumption) (by assumption)|(repeat (first|(with_reducible assumption)|(with_reducible refine Y6 _ ?_)|(with_reducible refine Y7 ?_)|(with_reducible refine YC ?_ _)|(with_reducible refine ZP ?_ ?_ _)|(focus (simp;done))|(focus (simp;omega))|(focus omega))))
   (first|(go_at_call 149;go_must (first|((with_reducible refine (c1 _).mono ?_);rintro e w1 ⟨rfl,hb1⟩)|((with_reducible refine (c2 _).mono ?_);rintro e w2 ⟨rfl,hb2⟩))))
  have hbz:Below ((w.alloc (.cells #[.int .i64 g.a,.int .i64 g.b,.int .i64 g.c] 85)).alloc (.cells #[.int .i64 h.a,.int .i64 h.b,.int .i64 h.c] 85)).heap.size ((w.alloc (.cells #[.int .i64 g.a,.int .i64 g.b,.int .i64 g.c] 85)).alloc (.cells #[.int .i64 h.a,.int .i64 h.b,.int .i64 h.c] 85)) w2:=by exact Xn
  have r2:=Xt hbz;have l2:w.heap.size<w2.heap.size:=XN hbz;have m2:w.heap.size+1<w2.heap.size:=XN hbz;have hbw:Below w.heap.size w w2:=by exact Xn
  go_wp2_with (fail)
  refine (c1 _).mono ?_;rintro e w3 ⟨rfl,hb3⟩;go_wp2
  go_ret
  refine ⟨Xi e1.out.symm, ?_⟩;exact Xn
 ·have e1:=Lib.hid (show ZF g h=decide (0<x) by rw [hfin.out];rfl);clear hfin;go_enter Tryz.func138,Tryz.ntmps138
  go_upto_region 1 with fail
  go_region_held3 (λ w'=>(∀ b o,b<w.heap.size+1+1->w'.cell? ⟨b,o,none⟩=((w.alloc (.cells #[.int .i64 g.a,.int .i64 g.b,.int .i64 g.c] 85)).alloc (.cells #[.int .i64 h.a,.int .i64 h.b,.int .i64 h.c] 85)).cell? ⟨b,o,none⟩)/\w.heap.size+1+1<=w'.heap.size) (first|exact ⟨λ _ _ _=>rfl,by simp⟩|exact Ym (by assumption) (by assumption)|(repeat (first|(with_reducible assumption)|(with_reducible refine Y6 _ ?_)|(with_reducible refine Y7 ?_)|(with_reducible refine YC ?_ _)|(with_reducible refine ZP ?_ ?_ _)|(focus (simp;done))|(focus (simp;omega))|(focus omega))))
   (first|(go_at_call 149;go_must (first|((with_reducible refine (c1 _).mono ?_);rintro e w1 ⟨rfl,hb1⟩)|((with_reducible refine (c2 _).mono ?_);rintro e w2 ⟨rfl,hb2⟩))))
  have hbz:Below ((w.alloc (.cells #[.int .i64 g.a,.int .i64 g.b,.int .i64 g.c] 85)).alloc (.cells #[.int .i64 h.a,.int .i64 h.b,.int .i64 h.c] 85)).heap.size ((w.alloc (.cells #[.int .i64 g.a,.int .i64 g.b,.int .i64 g.c] 85)).alloc (.cells #[.int .i64 h.a,.int .i64 h.b,.int .i64 h.c] 85)) w2:=by exact Xn
  have r2:=Xt hbz;have l2:w.heap.size<w2.heap.size:=XN hbz;have m2:w.heap.size+1<w2.heap.size:=XN hbz;have hbw:Below w.heap.size w w2:=by exact Xn
  go_wp2_with (fail)
  refine (c3 _).mono ?_;rintro e w3 ⟨rfl,hb3⟩;go_wp2
  go_ret
  refine ⟨Xi e1.out.symm, ?_⟩;exact Xn
theorem iSame_c (g h:Half) (w:World) (hg:HOk g) (hh:HOk h) :
 Calls Tryz.prog 139 #[Yf g,Yf h] w λ e w'=>e=.returned (.bool (Yc g h))/\Below w.heap.size w w':=by
 have c1:=λ W=>iUpper_c g W;have c2:=λ W=>iUpper_c h W;have c3:=λ W=>iCross_c g h W hg hh;have hfin:Hid (Yc g h=(decide (Xp g h=0)&&(ZS g == ZS h))):=rfl;clear hg hh;generalize ZS g=u1 at *;generalize ZS h=u2 at *;generalize Xp g h=x at *;by_cases hx:x=0
 ·subst hx;have e1:=Lib.hid (show Yc g h=(u1 == u2) by rw [hfin.out];simp);clear hfin;go_enter Tryz.func139,Tryz.ntmps139
  go_upto_region 1 with fail
  go_region_held3 (λ w'=>(∀ b o,b<w.heap.size+1+1->w'.cell? ⟨b,o,none⟩=((w.alloc (.cells #[.int .i64 g.a,.int .i64 g.b,.int .i64 g.c] 85)).alloc (.cells #[.int .i64 h.a,.int .i64 h.b,.int .i64 h.c] 85)).cell? ⟨b,o,none⟩)/\w.heap.size+1+1<=w'.heap.size) (first|exact ⟨λ _ _ _=>rfl,by simp⟩|exact Ym (by assumption) (by assumption)|(repeat (first|(with_reducible assumption)|(with_reducible refine Y6 _ ?_)|(with_reducible refine Y7 ?_)|(with_reducible refine YC ?_ _)|(with_reducible refine ZP ?_ ?_ _)|(focus (simp;done))|(focus (simp;omega))|(focus omega))))
   (first|(go_at_call 143;go_must ((with_reducible refine (c3 _).mono ?_);rintro e w3 ⟨rfl,hb3⟩))|(go_at_call 149;go_must (first|((with_reducible refine (c1 _).mono ?_);rintro e w1 ⟨rfl,hb1⟩)|((with_reducible refine (c2 _).mono ?_);rintro e w2 ⟨rfl,hb2⟩))))
  all_goals
   go_wp2
   go_ret
   refine ⟨Xi e1.out.symm, ?_⟩;exact Xn
 ·have e1:=Lib.hid (show Yc g h=false by rw [hfin.out];simp [hx]);have hd:decide (x=0)=false:=decide_eq_false hx;have hd2:(x == 0)=false:=beq_eq_false_iff_ne.2 hx;clear hfin hx;go_enter Tryz.func139,Tryz.ntmps139
  go_upto_region 1 with fail
  go_region_with
   (first|(go_at_call 143;go_must ((with_reducible refine (c3 _).mono ?_);rintro e w3 ⟨rfl,hb3⟩))|(go_at_call 149;go_must (first|((with_reducible refine (c1 _).mono ?_);rintro e w1 ⟨rfl,hb1⟩)|((with_reducible refine (c2 _).mono ?_);rintro e w2 ⟨rfl,hb2⟩))))
  all_goals
   go_wp2
   go_ret
   refine ⟨Xi e1.out.symm, ?_⟩;exact Xn
theorem iSameD_c (g h:Half) (w:World) (hg:Xq g=true) (hh:Xq h=true) :
 Calls Tryz.prog 150 #[Yf g,Yf h] w λ e w'=>e=.returned (.bool (Yc g h))/\Below w.heap.size w w':=by
 have c1:=λ W=>JF g W (hIn (KE hg));have c2:=λ W=>JF h W (hIn (KE hh));have c3:=λ W=>iSame_c g h W (KE hg) (KE hh);rw [hg] at c1;rw [hh] at c2;clear hg hh;generalize Yc g h=s at *;go_enter Tryz.func150,Tryz.ntmps150
 go_wp2_with (fail)
 refine (c1 _).mono ?_;rintro e w1 ⟨rfl,hb_w1⟩;have r_w1:=Xt hb_w1;have l_w1_0:w.heap.size<w1.heap.size:=XN hb_w1;have l_w1_1:w.heap.size+1<w1.heap.size:=XN hb_w1;go_wp2_with (fail)
 refine (c2 _).mono ?_;rintro e w2 ⟨rfl,hb_w2⟩;have r_w2:=Xt hb_w2;have l_w2_0:w.heap.size<w2.heap.size:=XN hb_w2;have l_w2_1:w.heap.size+1<w2.heap.size:=XN hb_w2;go_wp2_with (fail)
 refine (c3 _).mono ?_;rintro e w3 ⟨rfl,hb_w3⟩;have r_w3:=Xt hb_w3;have l_w3_0:w.heap.size<w3.heap.size:=XN hb_w3;have l_w3_1:w.heap.size+1<w3.heap.size:=XN hb_w3;go_wp2
 go_ret
 refine ⟨rfl, ?_⟩;exact Xn
theorem iRoomy_c (g h:Half) (w:World) (hg:HOk g) (hh:HOk h) :
 Calls Tryz.prog 144 #[Yf g,Yf h] w λ e w'=>e=.returned (.bool (hroomy g h))/\Below w.heap.size w w':=by
 have c1:=λ W=>iSize_c g W hg;have c2:=λ W=>iSize_c h W hh;have p:=Zp (a:=g.c) (b:=XU h) (A:=100000000) (B:=50000) hg.c (by have:=hsz_bd hh;omega);have q:=Zp (a:=h.c) (b:=XU g) (A:=100000000) (B:=50000) hh.c (by have:=hsz_bd hg;omega);have hfin:Hid (hroomy g h=decide (0<g.c*XU h+h.c*XU g)):=rfl;clear hg hh;generalize XU g=m at *;generalize XU h=n at *;have p1:IntKind.i64.wrap (g.c*n)=g.c*n:=IntWalk.i64_in _ (by omega);have q1:IntKind.i64.wrap (h.c*m)=h.c*m:=IntWalk.i64_in _ (by omega);have s1:IntKind.i64.wrap (g.c*n+h.c*m)=g.c*n+h.c*m:=IntWalk.i64_in _ (by omega);go_enter Tryz.func144,Tryz.ntmps144
 go_upto_region 1 with fail
 go_region_held3 (λ w'=>(∀ b o,b<w.heap.size+1+1->w'.cell? ⟨b,o,none⟩=((w.alloc (.cells #[.int .i64 g.a,.int .i64 g.b,.int .i64 g.c] 85)).alloc (.cells #[.int .i64 h.a,.int .i64 h.b,.int .i64 h.c] 85)).cell? ⟨b,o,none⟩)/\w.heap.size+1+1<=w'.heap.size) (first|exact ⟨λ _ _ _=>rfl,by simp⟩|exact Ym (by assumption) (by assumption)|(repeat (first|(with_reducible assumption)|(with_reducible refine Y6 _ ?_)|(with_reducible refine Y7 ?_)|(with_reducible refine YC ?_ _)|(with_reducible refine ZP ?_ ?_ _)|(focus (simp;done))|(focus (simp;omega))|(focus omega))))
  (first|(go_at_call 151;go_must (first|((with_reducible refine (c1 _).mono ?_);rintro e w1 ⟨rfl,hb1⟩)|((with_reducible refine (c2 _).mono ?_);rintro e w2 ⟨rfl,hb2⟩))))
 all_goals
  go_wp2
  go_ret
  refine ⟨Xi hfin.out.symm, ?_⟩;exact Xn
theorem iTighter_c (g h:Half) (w:World) (hg:Xq g=true) (hh:Xq h=true) (hs:Yc g h=true) :
 Calls Tryz.prog 140 #[Yf g,Yf h] w λ e w'=>e=.returned (Yf (Zk g h))/\Below w.heap.size w w':=by
 have c0:=λ W=>iSameD_c g h W hg hh;rw [hs] at c0;have c1:=λ W=>iSize_c g W (KE hg);have c2:=λ W=>iSize_c h W (KE hh);have p:=Zp (a:=g.c) (b:=XU h) (A:=100000000) (B:=50000) (KE hg).c (by have:=hsz_bd (KE hh);omega);have q:=Zp (a:=h.c) (b:=XU g) (A:=100000000) (B:=50000) (KE hh).c (by have:=hsz_bd (KE hg);omega);have hfin:Hid (Zk g h=if h.c*XU g<g.c*XU h then h else g):=rfl;clear hg hh hs;generalize XU g=m at *;generalize XU h=n at *;have p1:IntKind.i64.wrap (g.c*n)=g.c*n:=IntWalk.i64_in _ (by omega);have q1:IntKind.i64.wrap (h.c*m)=h.c*m:=IntWalk.i64_in _ (by omega);have HG:X0 (((w.alloc (.cells #[.int .i64 g.a,.int .i64 g.b,.int .i64 g.c] 85)).alloc (.cells #[.int .i64 h.a,.int .i64 h.b,.int .i64 h.c] 85)).alloc (.cells #[.int .i64 0,.int .i64 0,.int .i64 0] 85)) w.heap.size [.int .i64 g.a,.int .i64 g.b,.int .i64 g.c]:=by
  exact ZQ
 have HH:X0 (((w.alloc (.cells #[.int .i64 g.a,.int .i64 g.b,.int .i64 g.c] 85)).alloc (.cells #[.int .i64 h.a,.int .i64 h.b,.int .i64 h.c] 85)).alloc (.cells #[.int .i64 0,.int .i64 0,.int .i64 0] 85)) (w.heap.size+1) [.int .i64 h.a,.int .i64 h.b,.int .i64 h.c]:=by
  exact ZQ
 have HR:X0 (((w.alloc (.cells #[.int .i64 g.a,.int .i64 g.b,.int .i64 g.c] 85)).alloc (.cells #[.int .i64 h.a,.int .i64 h.b,.int .i64 h.c] 85)).alloc (.cells #[.int .i64 0,.int .i64 0,.int .i64 0] 85)) (w.heap.size+1+1) [.int .i64 0,.int .i64 0,.int .i64 0]:=by
  exact ZQ
 have hbw:Below w.heap.size w (((w.alloc (.cells #[.int .i64 g.a,.int .i64 g.b,.int .i64 g.c] 85)).alloc (.cells #[.int .i64 h.a,.int .i64 h.b,.int .i64 h.c] 85)).alloc (.cells #[.int .i64 0,.int .i64 0,.int .i64 0] 85)):=by
  exact Xn
 go_enter Tryz.func140,Tryz.ntmps140
 go_wp2_with (fail)
 refine (c0 _).mono ?_;rintro e w0 ⟨rfl,hb0⟩;replace HG:=HG.below hb0;replace HH:=HH.below hb0;replace HR:=HR.below hb0;replace hbw:=Xg hbw hb0;clear hb0 c0;obtain ⟨cHG_0,fHG_0⟩:=HG.2 0 _ rfl;obtain ⟨cHG_1,fHG_1⟩:=HG.2 1 _ rfl;obtain ⟨cHG_2,fHG_2⟩:=HG.2 2 _ rfl;obtain ⟨cHH_0,fHH_0⟩:=HH.2 0 _ rfl;obtain ⟨cHH_1,fHH_1⟩:=HH.2 1 _ rfl;obtain ⟨cHH_2,fHH_2⟩:=HH.2 2 _ rfl;have l1:=HG.1;have l2:=HH.1;have l3:=HR.1;go_upto_region 3 with fail
 go_region_held3 (λ w'=>(∀ b o,b<w0.heap.size->w'.cell? ⟨b,o,none⟩=w0.cell? ⟨b,o,none⟩)/\w0.heap.size<=w'.heap.size) (first|exact ⟨λ _ _ _=>rfl,by simp⟩|exact Ym (by assumption) (by assumption)|(repeat (first|(with_reducible assumption)|(with_reducible refine Y6 _ ?_)|(with_reducible refine Y7 ?_)|(with_reducible refine YC ?_ _)|(with_reducible refine ZP ?_ ?_ _)|(focus (simp;done))|(focus (simp;omega))|(focus omega))))
  (first|(go_at_call 151;go_must (first|((with_reducible refine (c1 _).mono ?_);rintro e w1 ⟨rfl,hb1⟩)|((with_reducible refine (c2 _).mono ?_);rintro e w2 ⟨rfl,hb2⟩))))
 have B2:Below w0.heap.size w0 w2:=by exact Xn
 rename_i hh
 clear hh;clear cHG_0 cHG_1 cHG_2 fHG_0 fHG_1 fHG_2 cHH_0 cHH_1 cHH_2 fHH_0 fHH_1 fHH_2;replace HR:=HR.below B2;replace HG:=HG.below B2;replace HH:=HH.below B2;replace hbw:=Xg hbw B2;obtain ⟨cHR_0,fHR_0⟩:=HR.2 0 _ rfl;obtain ⟨cHR_1,fHR_1⟩:=HR.2 1 _ rfl;obtain ⟨cHR_2,fHR_2⟩:=HR.2 2 _ rfl;obtain ⟨cHG_0,fHG_0⟩:=HG.2 0 _ rfl;obtain ⟨cHG_1,fHG_1⟩:=HG.2 1 _ rfl;obtain ⟨cHG_2,fHG_2⟩:=HG.2 2 _ rfl;obtain ⟨cHH_0,fHH_0⟩:=HH.2 0 _ rfl;obtain ⟨cHH_1,fHH_1⟩:=HH.2 1 _ rfl;obtain ⟨cHH_2,fHH_2⟩:=HH.2 2 _ rfl;by_cases hle:h.c*m<g.c*n
 ·have hf:=Lib.hid (show Zk g h=h by rw [hfin.out,if_pos hle]);clear hfin;go_wp2
  refine bodyPost_ret (v:=.agg #[.int .i64 h.a,.int .i64 h.b,.int .i64 h.c]) (by simp [results,Tryz.results140,go_sem,cHR_0,cHR_1,cHR_2]) rfl ⟨by rw [hf.out], ?_⟩;exact Xn
 ·have hf:=Lib.hid (show Zk g h=g by rw [hfin.out,if_neg hle]);clear hfin;go_wp2
  refine bodyPost_ret (v:=.agg #[.int .i64 g.a,.int .i64 g.b,.int .i64 g.c]) (by simp [results,Tryz.results140,go_sem,cHR_0,cHR_1,cHR_2]) rfl ⟨by rw [hf.out], ?_⟩;exact Xn
theorem dot_same {g h:Half} (ng:Kn g) (nh:Kn h):(decide (g.a*h.b=h.a*g.b)&&decide (0<g.a*h.a+g.b*h.b))=Yc g h:=by
 have hc:(g.a*h.b=h.a*g.b) ↔ Xp g h=0:=by unfold Xp;rw [Int.mul_comm h.a g.b];omega
 rw [show decide (g.a*h.b=h.a*g.b)=decide (Xp g h=0) from decide_eq_decide.2 hc];unfold Yc;by_cases h0:Xp g h=0
 ·have sg:=Yz ng;have sh:=Yz nh;have hp:0<h.a*h.a+h.b*h.b:=nn2_pos nh;have k:=Int.mul_pos hp sg;rcases hpar ng nh h0 with ⟨h1,h2,h3⟩|⟨h1,h2,h3⟩
  ·rw [h1];have id:XU h*(g.a*h.a+g.b*h.b)=(h.a*h.a+h.b*h.b)*XU g:=by grind
   have:=gmp (a:=XU h) (b:=g.a*h.a+g.b*h.b) (by omega) sh;simp [this]
  ·have id:XU h*(g.a*h.a+g.b*h.b) = -((h.a*h.a+h.b*h.b)*XU g):=by grind
   have:¬ 0<g.a*h.a+g.b*h.b:=by
    intro h4;have:=Int.mul_pos sh h4;omega
   rw [decide_eq_false this,show (ZS g == ZS h)=false from beq_eq_false_iff_ne.2 h1]
 ·rw [decide_eq_false h0];rfl
def hn1 (h:Half):Int:=max h.a (-h.a)+max h.b (-h.b)
theorem max_abs (x:Int):max x (-x)=(x.natAbs:Int):=by omega
theorem abs_scale {x y m n:Int} (hm:0<m) (hn:0<n) (h:x*m=y*n):max x (-x)*m=max y (-y)*n:=by
 rw [max_abs,max_abs];have:=congrArg (λ z=>(z.natAbs:Int)) h;simp only [Int.natAbs_mul,Int.natCast_mul] at this;have e1:(m.natAbs:Int)=m:=by omega
 have e2:(n.natAbs:Int)=n:=by omega
 rw [e1,e2] at this;exact this
theorem hn1_bd {h:Half} (e:HOk h):1<=hn1 h/\hn1 h<=100000:=by
 have h1:=e.a;have h2:=e.b;have h3:=e.n;unfold Kn at h3;unfold hn1;omega
theorem tight_n1 {g h:Half} (hg:HOk g) (hh:HOk h) (s:Yc g h=true):h.c*hn1 g<g.c*hn1 h ↔ h.c*XU g<g.c*XU h:=by
 obtain ⟨h1,h2⟩:=Jz hg.n hh.n s;have sg:=Yz hg.n;have sh:=Yz hh.n;have e1:=abs_scale sh sg h1;have e2:=abs_scale sh sg h2;have b:=hn1_bd hh;have e:hn1 g*XU h=hn1 h*XU g:=by unfold hn1;grind
 have id:XU h*(g.c*hn1 h-h.c*hn1 g)=hn1 h*(g.c*XU h-h.c*XU g):=by grind
 have:=(gsign_eq sh (show 0<hn1 h by omega) id).1;omega
theorem sUpper_c (h:Half) (w:World) :
 Calls Tryz.prog 146 #[Yf h] w λ e w'=>e=.returned (.int .i64 (if ZS h=true then 0 else 1))/\Below w.heap.size w w':=by
 obtain ⟨r,hr⟩:∃ r:Int,r=(if ZS h=true then (0:Int) else 1):=⟨_,rfl⟩;rw [<- hr];by_cases h1:0<h.b
 ·have e1:=Lib.hid (show r=0 by rw [hr];simp [ZS,h1]);clear hr;go_enter Tryz.func146,Tryz.ntmps146
  go_wp2
  go_ret
  refine ⟨YH e1.out.symm, ?_⟩;exact Xn
 ·by_cases h2:h.b=0
  ·by_cases h3:0<h.a
   ·have e1:=Lib.hid (show r=0 by rw [hr];simp [ZS,h2,h3]);clear hr;go_enter Tryz.func146,Tryz.ntmps146
    go_wp2
    go_ret
    refine ⟨YH e1.out.symm, ?_⟩;exact Xn
   ·have e1:=Lib.hid (show r=1 by rw [hr];simp [ZS,h2,h3]);clear hr;go_enter Tryz.func146,Tryz.ntmps146
    go_wp2
    go_ret
    refine ⟨YH e1.out.symm, ?_⟩;exact Xn
  ·have e1:=Lib.hid (show r=1 by rw [hr];simp [ZS,h1,h2]);clear hr;go_enter Tryz.func146,Tryz.ntmps146
   go_wp2
   go_ret
   refine ⟨YH e1.out.symm, ?_⟩;exact Xn
theorem sBef_c (g h:Half) (w:World) (hg:Xq g=true) (hh:Xq h=true) :
 Calls Tryz.prog 125 #[Yf g,Yf h] w λ e w'=>e=.returned (.bool (ZF g h))/\Below w.heap.size w w':=by
 have k1:=λ W=>JA g W (hIn (KE hg));have k2:=λ W=>JA h W (hIn (KE hh));rw [hg] at k1;rw [hh] at k2;have c1:=λ W=>sUpper_c g W;have c2:=λ W=>sUpper_c h W;obtain ⟨⟨p1,p2⟩,⟨q1,q2⟩⟩:=crB (KE hg) (KE hh);have hx:Xp g h=g.a*h.b-h.a*g.b:=by unfold Xp;rw [Int.mul_comm h.a g.b]
 rw [Int.mul_comm g.b h.a] at q1 q2;have hfin:Hid (ZF g h=if ZS g=ZS h then decide (0<g.a*h.b-h.a*g.b) else ZS g):=by rw [<- hx];rfl
 clear hg hh hx;generalize ZS g=u1 at *;generalize ZS h=u2 at *;cases u1<;>cases u2
 ·have e1:=Lib.hid (show ZF g h=decide (0<g.a*h.b-h.a*g.b) by rw [hfin.out];rfl);clear hfin;have HG:X0 ((w.alloc (.cells #[.int .i64 g.a,.int .i64 g.b,.int .i64 g.c] 85)).alloc (.cells #[.int .i64 h.a,.int .i64 h.b,.int .i64 h.c] 85)) w.heap.size [.int .i64 g.a,.int .i64 g.b,.int .i64 g.c]:=by
   exact ZQ
  have HH:X0 ((w.alloc (.cells #[.int .i64 g.a,.int .i64 g.b,.int .i64 g.c] 85)).alloc (.cells #[.int .i64 h.a,.int .i64 h.b,.int .i64 h.c] 85)) (w.heap.size+1) [.int .i64 h.a,.int .i64 h.b,.int .i64 h.c]:=by
   exact ZQ
  have hbw:Below w.heap.size w ((w.alloc (.cells #[.int .i64 g.a,.int .i64 g.b,.int .i64 g.c] 85)).alloc (.cells #[.int .i64 h.a,.int .i64 h.b,.int .i64 h.c] 85)):=by
   exact Xn
  go_enter Tryz.func125,Tryz.ntmps125
  go_wp2_with (fail)
  refine (k1 _).mono ?_;rintro e w1 ⟨rfl,hb_w1⟩;have r_w1:=Xt hb_w1;have l_w1_0:w.heap.size<w1.heap.size:=XN hb_w1;have l_w1_1:w.heap.size+1<w1.heap.size:=XN hb_w1;go_wp2_with (fail)
  refine (k2 _).mono ?_;rintro e w2 ⟨rfl,hb_w2⟩;have r_w2:=Xt hb_w2;have l_w2_0:w.heap.size<w2.heap.size:=XN hb_w2;have l_w2_1:w.heap.size+1<w2.heap.size:=XN hb_w2;replace HG:=(HG.below hb_w1).below hb_w2;replace HH:=(HH.below hb_w1).below hb_w2;replace hbw:=Xg (Xg hbw hb_w1) hb_w2;clear hb_w1 r_w1 l_w1_0 l_w1_1 hb_w2 r_w2 l_w2_0 l_w2_1;obtain ⟨cHG_0,fHG_0⟩:=HG.2 0 _ rfl;obtain ⟨cHG_1,fHG_1⟩:=HG.2 1 _ rfl;obtain ⟨cHG_2,fHG_2⟩:=HG.2 2 _ rfl;obtain ⟨cHH_0,fHH_0⟩:=HH.2 0 _ rfl;obtain ⟨cHH_1,fHH_1⟩:=HH.2 1 _ rfl;obtain ⟨cHH_2,fHH_2⟩:=HH.2 2 _ rfl;have lG:=HG.1;have lH:=HH.1;go_upto_region 3 with fail
  go_region_held3 (λ w'=>(∀ b o,b<w2.heap.size->w'.cell? ⟨b,o,none⟩=w2.cell? ⟨b,o,none⟩)/\w2.heap.size<=w'.heap.size) (first|exact ⟨λ _ _ _=>rfl,by simp⟩|exact Ym (by assumption) (by assumption)|(repeat (first|(with_reducible assumption)|(with_reducible refine Y6 _ ?_)|(with_reducible refine Y7 ?_)|(with_reducible refine YC ?_ _)|(with_reducible refine ZP ?_ ?_ _)|(focus (simp;done))|(focus (simp;omega))|(focus omega))))
   (first|(go_at_call 146;go_must (first|((with_reducible refine (c1 _).mono ?_);rintro e w3 ⟨rfl,hbw3⟩)|((with_reducible refine (c2 _).mono ?_);rintro e w4 ⟨rfl,hbw4⟩))))
  rename_i hheld
  clear hheld;have Bw4:Below w2.heap.size w2 w4:=by exact Xn
  clear cHG_0 cHG_1 cHG_2 fHG_0 fHG_1 fHG_2 cHH_0 cHH_1 cHH_2 fHH_0 fHH_1 fHH_2;replace HG:=HG.below Bw4;replace HH:=HH.below Bw4;replace hbw:=Xg hbw Bw4;obtain ⟨cHG_0,fHG_0⟩:=HG.2 0 _ rfl;obtain ⟨cHG_1,fHG_1⟩:=HG.2 1 _ rfl;obtain ⟨cHG_2,fHG_2⟩:=HG.2 2 _ rfl;obtain ⟨cHH_0,fHH_0⟩:=HH.2 0 _ rfl;obtain ⟨cHH_1,fHH_1⟩:=HH.2 1 _ rfl;obtain ⟨cHH_2,fHH_2⟩:=HH.2 2 _ rfl;have lGw4:=HG.1;have lHw4:=HH.1;go_wp2
  go_ret
  refine ⟨Xi (by rw [e1.out];exact decide_eq_decide.2 (by omega)), ?_⟩;exact Xn
 ·have e1:=Lib.hid (show ZF g h=false by rw [hfin.out];rfl);clear hfin;have HG:X0 ((w.alloc (.cells #[.int .i64 g.a,.int .i64 g.b,.int .i64 g.c] 85)).alloc (.cells #[.int .i64 h.a,.int .i64 h.b,.int .i64 h.c] 85)) w.heap.size [.int .i64 g.a,.int .i64 g.b,.int .i64 g.c]:=by
   exact ZQ
  have HH:X0 ((w.alloc (.cells #[.int .i64 g.a,.int .i64 g.b,.int .i64 g.c] 85)).alloc (.cells #[.int .i64 h.a,.int .i64 h.b,.int .i64 h.c] 85)) (w.heap.size+1) [.int .i64 h.a,.int .i64 h.b,.int .i64 h.c]:=by
   exact ZQ
  have hbw:Below w.heap.size w ((w.alloc (.cells #[.int .i64 g.a,.int .i64 g.b,.int .i64 g.c] 85)).alloc (.cells #[.int .i64 h.a,.int .i64 h.b,.int .i64 h.c] 85)):=by
   exact Xn
  go_enter Tryz.func125,Tryz.ntmps125
  go_wp2_with (fail)
  refine (k1 _).mono ?_;rintro e w1 ⟨rfl,hb_w1⟩;have r_w1:=Xt hb_w1;have l_w1_0:w.heap.size<w1.heap.size:=XN hb_w1;have l_w1_1:w.heap.size+1<w1.heap.size:=XN hb_w1;go_wp2_with (fail)
  refine (k2 _).mono ?_;rintro e w2 ⟨rfl,hb_w2⟩;have r_w2:=Xt hb_w2;have l_w2_0:w.heap.size<w2.heap.size:=XN hb_w2;have l_w2_1:w.heap.size+1<w2.heap.size:=XN hb_w2;replace HG:=(HG.below hb_w1).below hb_w2;replace HH:=(HH.below hb_w1).below hb_w2;replace hbw:=Xg (Xg hbw hb_w1) hb_w2;clear hb_w1 r_w1 l_w1_0 l_w1_1 hb_w2 r_w2 l_w2_0 l_w2_1;obtain ⟨cHG_0,fHG_0⟩:=HG.2 0 _ rfl;obtain ⟨cHG_1,fHG_1⟩:=HG.2 1 _ rfl;obtain ⟨cHG_2,fHG_2⟩:=HG.2 2 _ rfl;obtain ⟨cHH_0,fHH_0⟩:=HH.2 0 _ rfl;obtain ⟨cHH_1,fHH_1⟩:=HH.2 1 _ rfl;obtain ⟨cHH_2,fHH_2⟩:=HH.2 2 _ rfl;have lG:=HG.1;have lH:=HH.1;go_upto_region 3 with fail
  go_region_held3 (λ w'=>(∀ b o,b<w2.heap.size->w'.cell? ⟨b,o,none⟩=w2.cell? ⟨b,o,none⟩)/\w2.heap.size<=w'.heap.size) (first|exact ⟨λ _ _ _=>rfl,by simp⟩|exact Ym (by assumption) (by assumption)|(repeat (first|(with_reducible assumption)|(with_reducible refine Y6 _ ?_)|(with_reducible refine Y7 ?_)|(with_reducible refine YC ?_ _)|(with_reducible refine ZP ?_ ?_ _)|(focus (simp;done))|(focus (simp;omega))|(focus omega))))
   (first|(go_at_call 146;go_must (first|((with_reducible refine (c1 _).mono ?_);rintro e w3 ⟨rfl,hbw3⟩)|((with_reducible refine (c2 _).mono ?_);rintro e w4 ⟨rfl,hbw4⟩))))
  rename_i hheld
  clear hheld;have Bw4:Below w2.heap.size w2 w4:=by exact Xn
  clear cHG_0 cHG_1 cHG_2 fHG_0 fHG_1 fHG_2 cHH_0 cHH_1 cHH_2 fHH_0 fHH_1 fHH_2;replace HG:=HG.below Bw4;replace HH:=HH.below Bw4;replace hbw:=Xg hbw Bw4;obtain ⟨cHG_0,fHG_0⟩:=HG.2 0 _ rfl;obtain ⟨cHG_1,fHG_1⟩:=HG.2 1 _ rfl;obtain ⟨cHG_2,fHG_2⟩:=HG.2 2 _ rfl;obtain ⟨cHH_0,fHH_0⟩:=HH.2 0 _ rfl;obtain ⟨cHH_1,fHH_1⟩:=HH.2 1 _ rfl;obtain ⟨cHH_2,fHH_2⟩:=HH.2 2 _ rfl;have lGw4:=HG.1;have lHw4:=HH.1;go_upto_region 4 with fail
  go_region_held3 (λ w'=>(∀ b o,b<w4.heap.size->w'.cell? ⟨b,o,none⟩=w4.cell? ⟨b,o,none⟩)/\w4.heap.size<=w'.heap.size) (first|exact ⟨λ _ _ _=>rfl,by simp⟩|exact Ym (by assumption) (by assumption)|(repeat (first|(with_reducible assumption)|(with_reducible refine Y6 _ ?_)|(with_reducible refine Y7 ?_)|(with_reducible refine YC ?_ _)|(with_reducible refine ZP ?_ ?_ _)|(focus (simp;done))|(focus (simp;omega))|(focus omega))))
   (first|(go_at_call 146;go_must (first|((with_reducible refine (c1 _).mono ?_);rintro e w5 ⟨rfl,hbw5⟩)|((with_reducible refine (c2 _).mono ?_);rintro e w6 ⟨rfl,hbw6⟩))))
  rename_i hheld
  clear hheld;have Bw6:Below w4.heap.size w4 w6:=by exact Xn
  clear cHG_0 cHG_1 cHG_2 fHG_0 fHG_1 fHG_2 cHH_0 cHH_1 cHH_2 fHH_0 fHH_1 fHH_2;replace HG:=HG.below Bw6;replace HH:=HH.below Bw6;replace hbw:=Xg hbw Bw6;obtain ⟨cHG_0,fHG_0⟩:=HG.2 0 _ rfl;obtain ⟨cHG_1,fHG_1⟩:=HG.2 1 _ rfl;obtain ⟨cHG_2,fHG_2⟩:=HG.2 2 _ rfl;obtain ⟨cHH_0,fHH_0⟩:=HH.2 0 _ rfl;obtain ⟨cHH_1,fHH_1⟩:=HH.2 1 _ rfl;obtain ⟨cHH_2,fHH_2⟩:=HH.2 2 _ rfl;have lGw6:=HG.1;have lHw6:=HH.1;go_wp2
  go_ret
  refine ⟨Xi e1.out.symm, ?_⟩;exact Xn
 ·have e1:=Lib.hid (show ZF g h=true by rw [hfin.out];rfl);clear hfin;have HG:X0 ((w.alloc (.cells #[.int .i64 g.a,.int .i64 g.b,.int .i64 g.c] 85)).alloc (.cells #[.int .i64 h.a,.int .i64 h.b,.int .i64 h.c] 85)) w.heap.size [.int .i64 g.a,.int .i64 g.b,.int .i64 g.c]:=by
   exact ZQ
  have HH:X0 ((w.alloc (.cells #[.int .i64 g.a,.int .i64 g.b,.int .i64 g.c] 85)).alloc (.cells #[.int .i64 h.a,.int .i64 h.b,.int .i64 h.c] 85)) (w.heap.size+1) [.int .i64 h.a,.int .i64 h.b,.int .i64 h.c]:=by
   exact ZQ
  have hbw:Below w.heap.size w ((w.alloc (.cells #[.int .i64 g.a,.int .i64 g.b,.int .i64 g.c] 85)).alloc (.cells #[.int .i64 h.a,.int .i64 h.b,.int .i64 h.c] 85)):=by
   exact Xn
  go_enter Tryz.func125,Tryz.ntmps125
  go_wp2_with (fail)
  refine (k1 _).mono ?_;rintro e w1 ⟨rfl,hb_w1⟩;have r_w1:=Xt hb_w1;have l_w1_0:w.heap.size<w1.heap.size:=XN hb_w1;have l_w1_1:w.heap.size+1<w1.heap.size:=XN hb_w1;go_wp2_with (fail)
  refine (k2 _).mono ?_;rintro e w2 ⟨rfl,hb_w2⟩;have r_w2:=Xt hb_w2;have l_w2_0:w.heap.size<w2.heap.size:=XN hb_w2;have l_w2_1:w.heap.size+1<w2.heap.size:=XN hb_w2;replace HG:=(HG.below hb_w1).below hb_w2;replace HH:=(HH.below hb_w1).below hb_w2;replace hbw:=Xg (Xg hbw hb_w1) hb_w2;clear hb_w1 r_w1 l_w1_0 l_w1_1 hb_w2 r_w2 l_w2_0 l_w2_1;obtain ⟨cHG_0,fHG_0⟩:=HG.2 0 _ rfl;obtain ⟨cHG_1,fHG_1⟩:=HG.2 1 _ rfl;obtain ⟨cHG_2,fHG_2⟩:=HG.2 2 _ rfl;obtain ⟨cHH_0,fHH_0⟩:=HH.2 0 _ rfl;obtain ⟨cHH_1,fHH_1⟩:=HH.2 1 _ rfl;obtain ⟨cHH_2,fHH_2⟩:=HH.2 2 _ rfl;have lG:=HG.1;have lH:=HH.1;go_upto_region 3 with fail
  go_region_held3 (λ w'=>(∀ b o,b<w2.heap.size->w'.cell? ⟨b,o,none⟩=w2.cell? ⟨b,o,none⟩)/\w2.heap.size<=w'.heap.size) (first|exact ⟨λ _ _ _=>rfl,by simp⟩|exact Ym (by assumption) (by assumption)|(repeat (first|(with_reducible assumption)|(with_reducible refine Y6 _ ?_)|(with_reducible refine Y7 ?_)|(with_reducible refine YC ?_ _)|(with_reducible refine ZP ?_ ?_ _)|(focus (simp;done))|(focus (simp;omega))|(focus omega))))
   (first|(go_at_call 146;go_must (first|((with_reducible refine (c1 _).mono ?_);rintro e w3 ⟨rfl,hbw3⟩)|((with_reducible refine (c2 _).mono ?_);rintro e w4 ⟨rfl,hbw4⟩))))
  rename_i hheld
  clear hheld;have Bw4:Below w2.heap.size w2 w4:=by exact Xn
  clear cHG_0 cHG_1 cHG_2 fHG_0 fHG_1 fHG_2 cHH_0 cHH_1 cHH_2 fHH_0 fHH_1 fHH_2;replace HG:=HG.below Bw4;replace HH:=HH.below Bw4;replace hbw:=Xg hbw Bw4;obtain ⟨cHG_0,fHG_0⟩:=HG.2 0 _ rfl;obtain ⟨cHG_1,fHG_1⟩:=HG.2 1 _ rfl;obtain ⟨cHG_2,fHG_2⟩:=HG.2 2 _ rfl;obtain ⟨cHH_0,fHH_0⟩:=HH.2 0 _ rfl;obtain ⟨cHH_1,fHH_1⟩:=HH.2 1 _ rfl;obtain ⟨cHH_2,fHH_2⟩:=HH.2 2 _ rfl;have lGw4:=HG.1;have lHw4:=HH.1;go_upto_region 4 with fail
  go_region_held3 (λ w'=>(∀ b o,b<w4.heap.size->w'.cell? ⟨b,o,none⟩=w4.cell? ⟨b,o,none⟩)/\w4.heap.size<=w'.heap.size) (first|exact ⟨λ _ _ _=>rfl,by simp⟩|exact Ym (by assumption) (by assumption)|(repeat (first|(with_reducible assumption)|(with_reducible refine Y6 _ ?_)|(with_reducible refine Y7 ?_)|(with_reducible refine YC ?_ _)|(with_reducible refine ZP ?_ ?_ _)|(focus (simp;done))|(focus (simp;omega))|(focus omega))))
   (first|(go_at_call 146;go_must (first|((with_reducible refine (c1 _).mono ?_);rintro e w5 ⟨rfl,hbw5⟩)|((with_reducible refine (c2 _).mono ?_);rintro e w6 ⟨rfl,hbw6⟩))))
  rename_i hheld
  clear hheld;have Bw6:Below w4.heap.size w4 w6:=by exact Xn
  clear cHG_0 cHG_1 cHG_2 fHG_0 fHG_1 fHG_2 cHH_0 cHH_1 cHH_2 fHH_0 fHH_1 fHH_2;replace HG:=HG.below Bw6;replace HH:=HH.below Bw6;replace hbw:=Xg hbw Bw6;obtain ⟨cHG_0,fHG_0⟩:=HG.2 0 _ rfl;obtain ⟨cHG_1,fHG_1⟩:=HG.2 1 _ rfl;obtain ⟨cHG_2,fHG_2⟩:=HG.2 2 _ rfl;obtain ⟨cHH_0,fHH_0⟩:=HH.2 0 _ rfl;obtain ⟨cHH_1,fHH_1⟩:=HH.2 1 _ rfl;obtain ⟨cHH_2,fHH_2⟩:=HH.2 2 _ rfl;have lGw6:=HG.1;have lHw6:=HH.1;go_wp2
  go_ret
  refine ⟨Xi e1.out.symm, ?_⟩;exact Xn
 ·have e1:=Lib.hid (show ZF g h=decide (0<g.a*h.b-h.a*g.b) by rw [hfin.out];rfl);clear hfin;have HG:X0 ((w.alloc (.cells #[.int .i64 g.a,.int .i64 g.b,.int .i64 g.c] 85)).alloc (.cells #[.int .i64 h.a,.int .i64 h.b,.int .i64 h.c] 85)) w.heap.size [.int .i64 g.a,.int .i64 g.b,.int .i64 g.c]:=by
   exact ZQ
  have HH:X0 ((w.alloc (.cells #[.int .i64 g.a,.int .i64 g.b,.int .i64 g.c] 85)).alloc (.cells #[.int .i64 h.a,.int .i64 h.b,.int .i64 h.c] 85)) (w.heap.size+1) [.int .i64 h.a,.int .i64 h.b,.int .i64 h.c]:=by
   exact ZQ
  have hbw:Below w.heap.size w ((w.alloc (.cells #[.int .i64 g.a,.int .i64 g.b,.int .i64 g.c] 85)).alloc (.cells #[.int .i64 h.a,.int .i64 h.b,.int .i64 h.c] 85)):=by
   exact Xn
  go_enter Tryz.func125,Tryz.ntmps125
  go_wp2_with (fail)
  refine (k1 _).mono ?_;rintro e w1 ⟨rfl,hb_w1⟩;have r_w1:=Xt hb_w1;have l_w1_0:w.heap.size<w1.heap.size:=XN hb_w1;have l_w1_1:w.heap.size+1<w1.heap.size:=XN hb_w1;go_wp2_with (fail)
  refine (k2 _).mono ?_;rintro e w2 ⟨rfl,hb_w2⟩;have r_w2:=Xt hb_w2;have l_w2_0:w.heap.size<w2.heap.size:=XN hb_w2;have l_w2_1:w.heap.size+1<w2.heap.size:=XN hb_w2;replace HG:=(HG.below hb_w1).below hb_w2;replace HH:=(HH.below hb_w1).below hb_w2;replace hbw:=Xg (Xg hbw hb_w1) hb_w2;clear hb_w1 r_w1 l_w1_0 l_w1_1 hb_w2 r_w2 l_w2_0 l_w2_1;obtain ⟨cHG_0,fHG_0⟩:=HG.2 0 _ rfl;obtain ⟨cHG_1,fHG_1⟩:=HG.2 1 _ rfl;obtain ⟨cHG_2,fHG_2⟩:=HG.2 2 _ rfl;obtain ⟨cHH_0,fHH_0⟩:=HH.2 0 _ rfl;obtain ⟨cHH_1,fHH_1⟩:=HH.2 1 _ rfl;obtain ⟨cHH_2,fHH_2⟩:=HH.2 2 _ rfl;have lG:=HG.1;have lH:=HH.1;go_upto_region 3 with fail
  go_region_held3 (λ w'=>(∀ b o,b<w2.heap.size->w'.cell? ⟨b,o,none⟩=w2.cell? ⟨b,o,none⟩)/\w2.heap.size<=w'.heap.size) (first|exact ⟨λ _ _ _=>rfl,by simp⟩|exact Ym (by assumption) (by assumption)|(repeat (first|(with_reducible assumption)|(with_reducible refine Y6 _ ?_)|(with_reducible refine Y7 ?_)|(with_reducible refine YC ?_ _)|(with_reducible refine ZP ?_ ?_ _)|(focus (simp;done))|(focus (simp;omega))|(focus omega))))
   (first|(go_at_call 146;go_must (first|((with_reducible refine (c1 _).mono ?_);rintro e w3 ⟨rfl,hbw3⟩)|((with_reducible refine (c2 _).mono ?_);rintro e w4 ⟨rfl,hbw4⟩))))
  rename_i hheld
  clear hheld;have Bw4:Below w2.heap.size w2 w4:=by exact Xn
  clear cHG_0 cHG_1 cHG_2 fHG_0 fHG_1 fHG_2 cHH_0 cHH_1 cHH_2 fHH_0 fHH_1 fHH_2;replace HG:=HG.below Bw4;replace HH:=HH.below Bw4;replace hbw:=Xg hbw Bw4;obtain ⟨cHG_0,fHG_0⟩:=HG.2 0 _ rfl;obtain ⟨cHG_1,fHG_1⟩:=HG.2 1 _ rfl;obtain ⟨cHG_2,fHG_2⟩:=HG.2 2 _ rfl;obtain ⟨cHH_0,fHH_0⟩:=HH.2 0 _ rfl;obtain ⟨cHH_1,fHH_1⟩:=HH.2 1 _ rfl;obtain ⟨cHH_2,fHH_2⟩:=HH.2 2 _ rfl;have lGw4:=HG.1;have lHw4:=HH.1;go_wp2
  go_ret
  refine ⟨Xi (by rw [e1.out];exact decide_eq_decide.2 (by omega)), ?_⟩;exact Xn
theorem sSame_c (g h:Half) (w:World) (hg:Xq g=true) (hh:Xq h=true) :
 Calls Tryz.prog 126 #[Yf g,Yf h] w λ e w'=>e=.returned (.bool (Yc g h))/\Below w.heap.size w w':=by
 have k1:=λ W=>JA g W (hIn (KE hg));have k2:=λ W=>JA h W (hIn (KE hh));rw [hg] at k1;rw [hh] at k2;obtain ⟨⟨p1,p2⟩,⟨q1,q2⟩⟩:=crB (KE hg) (KE hh);rw [Int.mul_comm g.b h.a] at q1 q2;have r1:=Zp (a:=g.a) (b:=h.a) (A:=50000) (B:=50000) (KE hg).a (KE hh).a;have r2:=Zp (a:=g.b) (b:=h.b) (A:=50000) (B:=50000) (KE hg).b (KE hh).b;have hfin:=Lib.hid (dot_same (KE hg).n (KE hh).n);clear hg hh;generalize Yc g h=s at *;by_cases hx:g.a*h.b=h.a*g.b
 ·have e1:=Lib.hid (show s=decide (0<g.a*h.a+g.b*h.b) by rw [<- hfin.out,decide_eq_true hx];rfl);have hx2:(g.a*h.b == h.a*g.b)=true:=beq_iff_eq.2 hx;clear hfin hx;go_enter Tryz.func126,Tryz.ntmps126
  go_wp2_with (fail)
  refine (k1 _).mono ?_;rintro e w1 ⟨rfl,hb_w1⟩;have r_w1:=Xt hb_w1;have l_w1_0:w.heap.size<w1.heap.size:=XN hb_w1;have l_w1_1:w.heap.size+1<w1.heap.size:=XN hb_w1;go_wp2_with (fail)
  refine (k2 _).mono ?_;rintro e w2 ⟨rfl,hb_w2⟩;have r_w2:=Xt hb_w2;have l_w2_0:w.heap.size<w2.heap.size:=XN hb_w2;have l_w2_1:w.heap.size+1<w2.heap.size:=XN hb_w2;go_wp2
  go_ret
  refine ⟨Xi e1.out.symm, ?_⟩;exact Xn
 ·have e1:=Lib.hid (show s=false by rw [<- hfin.out,decide_eq_false hx];rfl);have hx2:(g.a*h.b == h.a*g.b)=false:=beq_eq_false_iff_ne.2 hx;clear hfin hx;go_enter Tryz.func126,Tryz.ntmps126
  go_wp2_with (fail)
  refine (k1 _).mono ?_;rintro e w1 ⟨rfl,hb_w1⟩;have r_w1:=Xt hb_w1;have l_w1_0:w.heap.size<w1.heap.size:=XN hb_w1;have l_w1_1:w.heap.size+1<w1.heap.size:=XN hb_w1;go_wp2_with (fail)
  refine (k2 _).mono ?_;rintro e w2 ⟨rfl,hb_w2⟩;have r_w2:=Xt hb_w2;have l_w2_0:w.heap.size<w2.heap.size:=XN hb_w2;have l_w2_1:w.heap.size+1<w2.heap.size:=XN hb_w2;go_wp2
  go_ret
  refine ⟨Xi e1.out.symm, ?_⟩;exact Xn
theorem sTighter_c (g h:Half) (w:World) (hg:Xq g=true) (hh:Xq h=true) (hs:Yc g h=true) :
 Calls Tryz.prog 127 #[Yf g,Yf h] w λ e w'=>e=.returned (Yf (Zk g h))/\Below w.heap.size w w':=by
 have c0:=λ W=>sSame_c g h W hg hh;rw [hs] at c0;have b1:=hn1_bd (KE hg);have b2:=hn1_bd (KE hh);have p:=Zp (a:=g.c) (b:=hn1 h) (A:=100000000) (B:=100000) (KE hg).c (by omega);have q:=Zp (a:=h.c) (b:=hn1 g) (A:=100000000) (B:=100000) (KE hh).c (by omega);have hfin:Hid (Zk g h=if h.c*hn1 g<g.c*hn1 h then h else g):=by
  unfold Hid Zk;by_cases e:h.c*hn1 g<g.c*hn1 h
  ·rw [if_pos e,if_pos ((tight_n1 (KE hg) (KE hh) hs).1 e)]
  ·rw [if_neg e,if_neg (λ e2=>e ((tight_n1 (KE hg) (KE hh) hs).2 e2))]
 obtain ⟨⟨a1,a2⟩,⟨a3,a4⟩,_,_⟩:=KE hg;obtain ⟨⟨a5,a6⟩,⟨a7,a8⟩,_,_⟩:=KE hh;clear hg hh hs;have em:g.a.natAbs+g.b.natAbs=hn1 g:=by unfold hn1;omega
 have en:h.a.natAbs+h.b.natAbs=hn1 h:=by unfold hn1;omega
 have f1:(if g.a < -g.a then -g.a else g.a)=(g.a.natAbs:Int):=by omega
 have f2:(if g.b < -g.b then -g.b else g.b)=(g.b.natAbs:Int):=by omega
 have f3:(if h.a < -h.a then -h.a else h.a)=(h.a.natAbs:Int):=by omega
 have f4:(if h.b < -h.b then -h.b else h.b)=(h.b.natAbs:Int):=by omega
 have n1:(0:Int)<=(g.a.natAbs:Int)/\(g.a.natAbs:Int)<=50000:=by omega
 have n2:(0:Int)<=(g.b.natAbs:Int)/\(g.b.natAbs:Int)<=50000:=by omega
 have n3:(0:Int)<=(h.a.natAbs:Int)/\(h.a.natAbs:Int)<=50000:=by omega
 have n4:(0:Int)<=(h.b.natAbs:Int)/\(h.b.natAbs:Int)<=50000:=by omega
 generalize (g.a.natAbs:Int)=A1 at *;generalize (g.b.natAbs:Int)=A2 at *;generalize (h.a.natAbs:Int)=A3 at *;generalize (h.b.natAbs:Int)=A4 at *;obtain ⟨n1,n1'⟩:=n1;obtain ⟨n2,n2'⟩:=n2;obtain ⟨n3,n3'⟩:=n3;obtain ⟨n4,n4'⟩:=n4;generalize hn1 g=m at *;generalize hn1 h=n at *;have HG:X0 (((w.alloc (.cells #[.int .i64 g.a,.int .i64 g.b,.int .i64 g.c] 85)).alloc (.cells #[.int .i64 h.a,.int .i64 h.b,.int .i64 h.c] 85)).alloc (.cells #[.int .i64 0,.int .i64 0,.int .i64 0] 85)) w.heap.size [.int .i64 g.a,.int .i64 g.b,.int .i64 g.c]:=by
  exact ZQ
 have HH:X0 (((w.alloc (.cells #[.int .i64 g.a,.int .i64 g.b,.int .i64 g.c] 85)).alloc (.cells #[.int .i64 h.a,.int .i64 h.b,.int .i64 h.c] 85)).alloc (.cells #[.int .i64 0,.int .i64 0,.int .i64 0] 85)) (w.heap.size+1) [.int .i64 h.a,.int .i64 h.b,.int .i64 h.c]:=by
  exact ZQ
 have HR:X0 (((w.alloc (.cells #[.int .i64 g.a,.int .i64 g.b,.int .i64 g.c] 85)).alloc (.cells #[.int .i64 h.a,.int .i64 h.b,.int .i64 h.c] 85)).alloc (.cells #[.int .i64 0,.int .i64 0,.int .i64 0] 85)) (w.heap.size+1+1) [.int .i64 0,.int .i64 0,.int .i64 0]:=by
  exact ZQ
 have hbw:Below w.heap.size w (((w.alloc (.cells #[.int .i64 g.a,.int .i64 g.b,.int .i64 g.c] 85)).alloc (.cells #[.int .i64 h.a,.int .i64 h.b,.int .i64 h.c] 85)).alloc (.cells #[.int .i64 0,.int .i64 0,.int .i64 0] 85)):=by
  exact Xn
 go_enter Tryz.func127,Tryz.ntmps127
 go_wp2_with (fail)
 refine (c0 _).mono ?_;rintro e w0 ⟨rfl,hb0⟩;replace HG:=HG.below hb0;replace HH:=HH.below hb0;replace HR:=HR.below hb0;replace hbw:=Xg hbw hb0;clear hb0 c0;obtain ⟨cHG_0,fHG_0⟩:=HG.2 0 _ rfl;obtain ⟨cHG_1,fHG_1⟩:=HG.2 1 _ rfl;obtain ⟨cHG_2,fHG_2⟩:=HG.2 2 _ rfl;obtain ⟨cHH_0,fHH_0⟩:=HH.2 0 _ rfl;obtain ⟨cHH_1,fHH_1⟩:=HH.2 1 _ rfl;obtain ⟨cHH_2,fHH_2⟩:=HH.2 2 _ rfl;obtain ⟨cHR_0,fHR_0⟩:=HR.2 0 _ rfl;obtain ⟨cHR_1,fHR_1⟩:=HR.2 1 _ rfl;obtain ⟨cHR_2,fHR_2⟩:=HR.2 2 _ rfl;have l1:=HG.1;have l2:=HH.1;have l3:=HR.1;go_upto_region 5 with fail
 obtain ⟨p1,p2⟩:=p;obtain ⟨q1,q2⟩:=q;by_cases hle:h.c*m<g.c*n
 ·have hf:=Lib.hid (show Zk g h=h by rw [hfin.out,if_pos hle]);clear hfin;go_wp2
  refine bodyPost_ret (v:=.agg #[.int .i64 h.a,.int .i64 h.b,.int .i64 h.c]) (by simp [results,Tryz.results127,go_sem,cHR_0,cHR_1,cHR_2]) rfl ⟨by rw [hf.out], ?_⟩;exact Xn
 ·have hf:=Lib.hid (show Zk g h=g by rw [hfin.out,if_neg hle]);clear hfin;go_wp2
  refine bodyPost_ret (v:=.agg #[.int .i64 g.a,.int .i64 g.b,.int .i64 g.c]) (by simp [results,Tryz.results127,go_sem,cHR_0,cHR_1,cHR_2]) rfl ⟨by rw [hf.out], ?_⟩;exact Xn
end Go.Proofs.YtbekjpkcicjcgabGreat
