/-
 The program's functions on directions of half planes.
 Conditions: valid half planes.
-/
import Derived.Test.YtabfdkpdppemaaaGreatGrH
import Derived.Deep.RegionHeld3
import Derived.Deep.RegionWith
import Derived.Deep.DeepMust
import Derived.Deep.DeepCutAuto
set_option maxHeartbeats 2000000
set_option maxRecDepth 100000
namespace Go.Proofs.YtabfdkpdppemaaaGreat
open Go.RowKit
structure HOk (h:Half):Prop where
 a : -50000<=h.a/\h.a<=50000
 b : -50000<=h.b/\h.b<=50000
 c : -100000000<=h.c/\h.c<=100000000
 n:Jv h
theorem JR {h:Half} (e:Xy h=true):HOk h:=by
 obtain ⟨h1,h2,h3,h4,_⟩:=Zv.1 e;exact ⟨h1,h2,h3,h4⟩
theorem hIn {h:Half} (e:HOk h):h.In:=by
 obtain ⟨h1,h2,h3,_⟩:=e;exact ⟨⟨by omega,by omega⟩,⟨by omega,by omega⟩,⟨by omega,by omega⟩⟩
structure CrB (g h:Half):Prop where
 ab : -2500000000<=g.a*h.b/\g.a*h.b<=2500000000
 ba : -2500000000<=g.b*h.a/\g.b*h.a<=2500000000
theorem crB {g h:Half} (hg:HOk g) (hh:HOk h):CrB g h:=by
 have p:=Kd (a:=g.a) (b:=h.b) (A:=50000) (B:=50000) hg.a hh.b;have q:=Kd (a:=g.b) (b:=h.a) (A:=50000) (B:=50000) hg.b hh.a;exact ⟨⟨by omega,by omega⟩,⟨by omega,by omega⟩⟩
theorem crs_bd {g h:Half} (hg:HOk g) (hh:HOk h) : -5000000000<=Xz g h/\Xz g h<=5000000000:=by
 obtain ⟨p,q⟩:=crB hg hh;unfold Xz;omega
theorem hsz_bd {h:Half} (e:HOk h):1<=Ye h/\Ye h<=50000:=by
 have h1:=Zf e.n;have h2:=e.a;have h3:=e.b;refine ⟨by omega, ?_⟩;unfold Ye;split<;>omega
theorem iUpper_c (h:Half) (w:World) :
 Calls Tryz.prog 283 #[Y8 h] w λ e w'=>e=.returned (.bool (KE h))/\Below w.heap.size w w':=by
 by_cases h1:0<h.b
 ·go_enter Tryz.func283,Tryz.ntmps283
  go_wp2
  go_ret
  refine ⟨Xo (by simp [KE,h1]), ?_⟩;exact XF
 ·by_cases h2:h.b=0
  ·go_enter Tryz.func283,Tryz.ntmps283
   go_wp2
   go_ret
   refine ⟨Xo (by simp [KE,h2]), ?_⟩;exact XF
  ·go_enter Tryz.func283,Tryz.ntmps283
   go_wp2
   go_ret
   refine ⟨Xo (by simp [KE,h1,h2]), ?_⟩;exact XF
theorem iCross_c (g h:Half) (w:World) (hg:HOk g) (hh:HOk h) :
 Calls Tryz.prog 267 #[Y8 g,Y8 h] w λ e w'=>e=.returned (.int .i64 (Xz g h))/\Below w.heap.size w w':=by
 obtain ⟨⟨p1,p2⟩,⟨q1,q2⟩⟩:=crB hg hh;clear hg hh;go_enter Tryz.func267,Tryz.ntmps267
 go_wp2
 go_ret
 refine ⟨Z4 (by simp only [Xz]), ?_⟩;exact XF
theorem iSize_c (h:Half) (w:World) (hh:HOk h) :
 Calls Tryz.prog 285 #[Y8 h] w λ e w'=>e=.returned (.int .i64 (Ye h))/\Below w.heap.size w w':=by
 obtain ⟨⟨a1,a2⟩,⟨b1,b2⟩,_,_⟩:=hh;by_cases h1:h.a=0
 ·go_enter Tryz.func285,Tryz.ntmps285
  go_wp2
  all_goals
   go_ret
   refine ⟨Z4 (by unfold Ye;rw [if_pos h1];omega), ?_⟩;exact XF
 ·go_enter Tryz.func285,Tryz.ntmps285
  go_wp2
  all_goals
   go_ret
   refine ⟨Z4 (by unfold Ye;rw [if_neg h1];omega), ?_⟩;exact XF
theorem iBef_c (g h:Half) (w:World) (hg:HOk g) (hh:HOk h) :
 Calls Tryz.prog 269 #[Y8 g,Y8 h] w λ e w'=>e=.returned (.bool (Kq g h))/\Below w.heap.size w w':=by
 have c1:=λ W=>iUpper_c g W;have c2:=λ W=>iUpper_c h W;have c3:=λ W=>iCross_c g h W hg hh;have hfin:Hid (Kq g h=if KE g=KE h then decide (0<Xz g h) else KE g):=rfl;clear hg hh;generalize KE g=u1 at *;generalize KE h=u2 at *;generalize Xz g h=x at *;cases u1<;>cases u2
 ·have e1:=Lib.hid (show Kq g h=decide (0<x) by rw [hfin.out];rfl);clear hfin;go_enter Tryz.func269,Tryz.ntmps269
  go_upto_region 1 with fail
  go_region_held3 (λ w'=>(∀ b o,b<w.heap.size+1+1->w'.cell? ⟨b,o,none⟩=((w.alloc (.cells #[.int .i64 g.a,.int .i64 g.b,.int .i64 g.c] 174)).alloc (.cells #[.int .i64 h.a,.int .i64 h.b,.int .i64 h.c] 174)).cell? ⟨b,o,none⟩)/\w.heap.size+1+1<=w'.heap.size) (first|exact ⟨λ _ _ _=>rfl,by simp⟩|exact Y3 (by assumption) (by assumption)|(repeat (first|(with_reducible assumption)|(with_reducible refine ZN _ ?_)|(with_reducible refine ZO ?_)|(with_reducible refine Zi ?_ _)|(with_reducible refine KC ?_ ?_ _)|(focus (simp;done))|(focus (simp;omega))|(focus omega))))
   (first|(go_at_call 283;go_must (first|((with_reducible refine (c1 _).mono ?_);rintro e w1 ⟨rfl,hb1⟩)|((with_reducible refine (c2 _).mono ?_);rintro e w2 ⟨rfl,hb2⟩))))
  have hbz:Below ((w.alloc (.cells #[.int .i64 g.a,.int .i64 g.b,.int .i64 g.c] 174)).alloc (.cells #[.int .i64 h.a,.int .i64 h.b,.int .i64 h.c] 174)).heap.size ((w.alloc (.cells #[.int .i64 g.a,.int .i64 g.b,.int .i64 g.c] 174)).alloc (.cells #[.int .i64 h.a,.int .i64 h.b,.int .i64 h.c] 174)) w2:=by exact XF
  have r2:=XI hbz;have l2:w.heap.size<w2.heap.size:=XT hbz;have m2:w.heap.size+1<w2.heap.size:=XT hbz;have hbw:Below w.heap.size w w2:=by exact XF
  go_wp2_with (fail)
  refine (c3 _).mono ?_;rintro e w3 ⟨rfl,hb3⟩;go_wp2
  go_ret
  refine ⟨Xo e1.out.symm, ?_⟩;exact XF
 ·have e1:=Lib.hid (show Kq g h=false by rw [hfin.out];rfl);clear hfin;go_enter Tryz.func269,Tryz.ntmps269
  go_upto_region 1 with fail
  go_region_held3 (λ w'=>(∀ b o,b<w.heap.size+1+1->w'.cell? ⟨b,o,none⟩=((w.alloc (.cells #[.int .i64 g.a,.int .i64 g.b,.int .i64 g.c] 174)).alloc (.cells #[.int .i64 h.a,.int .i64 h.b,.int .i64 h.c] 174)).cell? ⟨b,o,none⟩)/\w.heap.size+1+1<=w'.heap.size) (first|exact ⟨λ _ _ _=>rfl,by simp⟩|exact Y3 (by assumption) (by assumption)|(repeat (first|(with_reducible assumption)|(with_reducible refine ZN _ ?_)|(with_reducible refine ZO ?_)|(with_reducible refine Zi ?_ _)|(with_reducible refine KC ?_ ?_ _)|(focus (simp;done))|(focus (simp;omega))|(focus omega))))
   (first|(go_at_call 283;go_must (first|((with_reducible refine (c1 _).mono ?_);rintro e w1 ⟨rfl,hb1⟩)|((with_reducible refine (c2 _).mono ?_);rintro e w2 ⟨rfl,hb2⟩))))
  have hbz:Below ((w.alloc (.cells #[.int .i64 g.a,.int .i64 g.b,.int .i64 g.c] 174)).alloc (.cells #[.int .i64 h.a,.int .i64 h.b,.int .i64 h.c] 174)).heap.size ((w.alloc (.cells #[.int .i64 g.a,.int .i64 g.b,.int .i64 g.c] 174)).alloc (.cells #[.int .i64 h.a,.int .i64 h.b,.int .i64 h.c] 174)) w2:=by exact XF
  have r2:=XI hbz;have l2:w.heap.size<w2.heap.size:=XT hbz;have m2:w.heap.size+1<w2.heap.size:=XT hbz;have hbw:Below w.heap.size w w2:=by exact XF
  go_wp2_with (fail)
  refine (c1 _).mono ?_;rintro e w3 ⟨rfl,hb3⟩;go_wp2
  go_ret
  refine ⟨Xo e1.out.symm, ?_⟩;exact XF
 ·have e1:=Lib.hid (show Kq g h=true by rw [hfin.out];rfl);clear hfin;go_enter Tryz.func269,Tryz.ntmps269
  go_upto_region 1 with fail
  go_region_held3 (λ w'=>(∀ b o,b<w.heap.size+1+1->w'.cell? ⟨b,o,none⟩=((w.alloc (.cells #[.int .i64 g.a,.int .i64 g.b,.int .i64 g.c] 174)).alloc (.cells #[.int .i64 h.a,.int .i64 h.b,.int .i64 h.c] 174)).cell? ⟨b,o,none⟩)/\w.heap.size+1+1<=w'.heap.size) (first|exact ⟨λ _ _ _=>rfl,by simp⟩|exact Y3 (by assumption) (by assumption)|(repeat (first|(with_reducible assumption)|(with_reducible refine ZN _ ?_)|(with_reducible refine ZO ?_)|(with_reducible refine Zi ?_ _)|(with_reducible refine KC ?_ ?_ _)|(focus (simp;done))|(focus (simp;omega))|(focus omega))))
   (first|(go_at_call 283;go_must (first|((with_reducible refine (c1 _).mono ?_);rintro e w1 ⟨rfl,hb1⟩)|((with_reducible refine (c2 _).mono ?_);rintro e w2 ⟨rfl,hb2⟩))))
  have hbz:Below ((w.alloc (.cells #[.int .i64 g.a,.int .i64 g.b,.int .i64 g.c] 174)).alloc (.cells #[.int .i64 h.a,.int .i64 h.b,.int .i64 h.c] 174)).heap.size ((w.alloc (.cells #[.int .i64 g.a,.int .i64 g.b,.int .i64 g.c] 174)).alloc (.cells #[.int .i64 h.a,.int .i64 h.b,.int .i64 h.c] 174)) w2:=by exact XF
  have r2:=XI hbz;have l2:w.heap.size<w2.heap.size:=XT hbz;have m2:w.heap.size+1<w2.heap.size:=XT hbz;have hbw:Below w.heap.size w w2:=by exact XF
  go_wp2_with (fail)
  refine (c1 _).mono ?_;rintro e w3 ⟨rfl,hb3⟩;go_wp2
  go_ret
  refine ⟨Xo e1.out.symm, ?_⟩;exact XF
 ·have e1:=Lib.hid (show Kq g h=decide (0<x) by rw [hfin.out];rfl);clear hfin;go_enter Tryz.func269,Tryz.ntmps269
  go_upto_region 1 with fail
  go_region_held3 (λ w'=>(∀ b o,b<w.heap.size+1+1->w'.cell? ⟨b,o,none⟩=((w.alloc (.cells #[.int .i64 g.a,.int .i64 g.b,.int .i64 g.c] 174)).alloc (.cells #[.int .i64 h.a,.int .i64 h.b,.int .i64 h.c] 174)).cell? ⟨b,o,none⟩)/\w.heap.size+1+1<=w'.heap.size) (first|exact ⟨λ _ _ _=>rfl,by simp⟩|exact Y3 (by assumption) (by assumption)|(repeat (first|(with_reducible assumption)|(with_reducible refine ZN _ ?_)|(with_reducible refine ZO ?_)|(with_reducible refine Zi ?_ _)|(with_reducible refine KC ?_ ?_ _)|(focus (simp;done))|(focus (simp;omega))|(focus omega))))
   (first|(go_at_call 283;go_must (first|((with_reducible refine (c1 _).mono ?_);rintro e w1 ⟨rfl,hb1⟩)|((with_reducible refine (c2 _).mono ?_);rintro e w2 ⟨rfl,hb2⟩))))
  have hbz:Below ((w.alloc (.cells #[.int .i64 g.a,.int .i64 g.b,.int .i64 g.c] 174)).alloc (.cells #[.int .i64 h.a,.int .i64 h.b,.int .i64 h.c] 174)).heap.size ((w.alloc (.cells #[.int .i64 g.a,.int .i64 g.b,.int .i64 g.c] 174)).alloc (.cells #[.int .i64 h.a,.int .i64 h.b,.int .i64 h.c] 174)) w2:=by exact XF
  have r2:=XI hbz;have l2:w.heap.size<w2.heap.size:=XT hbz;have m2:w.heap.size+1<w2.heap.size:=XT hbz;have hbw:Below w.heap.size w w2:=by exact XF
  go_wp2_with (fail)
  refine (c3 _).mono ?_;rintro e w3 ⟨rfl,hb3⟩;go_wp2
  go_ret
  refine ⟨Xo e1.out.symm, ?_⟩;exact XF
theorem iSame_c (g h:Half) (w:World) (hg:HOk g) (hh:HOk h) :
 Calls Tryz.prog 270 #[Y8 g,Y8 h] w λ e w'=>e=.returned (.bool (YH g h))/\Below w.heap.size w w':=by
 have c1:=λ W=>iUpper_c g W;have c2:=λ W=>iUpper_c h W;have c3:=λ W=>iCross_c g h W hg hh;have hfin:Hid (YH g h=(decide (Xz g h=0)&&(KE g == KE h))):=rfl;clear hg hh;generalize KE g=u1 at *;generalize KE h=u2 at *;generalize Xz g h=x at *;by_cases hx:x=0
 ·subst hx;have e1:=Lib.hid (show YH g h=(u1 == u2) by rw [hfin.out];simp);clear hfin;go_enter Tryz.func270,Tryz.ntmps270
  go_upto_region 1 with fail
  go_region_held3 (λ w'=>(∀ b o,b<w.heap.size+1+1->w'.cell? ⟨b,o,none⟩=((w.alloc (.cells #[.int .i64 g.a,.int .i64 g.b,.int .i64 g.c] 174)).alloc (.cells #[.int .i64 h.a,.int .i64 h.b,.int .i64 h.c] 174)).cell? ⟨b,o,none⟩)/\w.heap.size+1+1<=w'.heap.size) (first|exact ⟨λ _ _ _=>rfl,by simp⟩|exact Y3 (by assumption) (by assumption)|(repeat (first|(with_reducible assumption)|(with_reducible refine ZN _ ?_)|(with_reducible refine ZO ?_)|(with_reducible refine Zi ?_ _)|(with_reducible refine KC ?_ ?_ _)|(focus (simp;done))|(focus (simp;omega))|(focus omega))))
   (first|(go_at_call 267;go_must ((with_reducible refine (c3 _).mono ?_);rintro e w3 ⟨rfl,hb3⟩))|(go_at_call 283;go_must (first|((with_reducible refine (c1 _).mono ?_);rintro e w1 ⟨rfl,hb1⟩)|((with_reducible refine (c2 _).mono ?_);rintro e w2 ⟨rfl,hb2⟩))))
  all_goals
   go_wp2
   go_ret
   refine ⟨Xo e1.out.symm, ?_⟩;exact XF
 ·have e1:=Lib.hid (show YH g h=false by rw [hfin.out];simp [hx]);have hd:decide (x=0)=false:=decide_eq_false hx;have hd2:(x == 0)=false:=beq_eq_false_iff_ne.2 hx;clear hfin hx;go_enter Tryz.func270,Tryz.ntmps270
  go_upto_region 1 with fail
  go_region_with
   (first|(go_at_call 267;go_must ((with_reducible refine (c3 _).mono ?_);rintro e w3 ⟨rfl,hb3⟩))|(go_at_call 283;go_must (first|((with_reducible refine (c1 _).mono ?_);rintro e w1 ⟨rfl,hb1⟩)|((with_reducible refine (c2 _).mono ?_);rintro e w2 ⟨rfl,hb2⟩))))
  all_goals
   go_wp2
   go_ret
   refine ⟨Xo e1.out.symm, ?_⟩;exact XF
theorem iSameD_c (g h:Half) (w:World) (hg:Xy g=true) (hh:Xy h=true) :
 Calls Tryz.prog 284 #[Y8 g,Y8 h] w λ e w'=>e=.returned (.bool (YH g h))/\Below w.heap.size w w':=by
 have c1:=λ W=>iHalfOk_c g W (hIn (JR hg));have c2:=λ W=>iHalfOk_c h W (hIn (JR hh));have c3:=λ W=>iSame_c g h W (JR hg) (JR hh);rw [hg] at c1;rw [hh] at c2;clear hg hh;generalize YH g h=s at *;go_enter Tryz.func284,Tryz.ntmps284
 go_wp2_with (fail)
 refine (c1 _).mono ?_;rintro e w1 ⟨rfl,hb_w1⟩;have r_w1:=XI hb_w1;have l_w1_0:w.heap.size<w1.heap.size:=XT hb_w1;have l_w1_1:w.heap.size+1<w1.heap.size:=XT hb_w1;go_wp2_with (fail)
 refine (c2 _).mono ?_;rintro e w2 ⟨rfl,hb_w2⟩;have r_w2:=XI hb_w2;have l_w2_0:w.heap.size<w2.heap.size:=XT hb_w2;have l_w2_1:w.heap.size+1<w2.heap.size:=XT hb_w2;go_wp2_with (fail)
 refine (c3 _).mono ?_;rintro e w3 ⟨rfl,hb_w3⟩;have r_w3:=XI hb_w3;have l_w3_0:w.heap.size<w3.heap.size:=XT hb_w3;have l_w3_1:w.heap.size+1<w3.heap.size:=XT hb_w3;go_wp2
 go_ret
 refine ⟨rfl, ?_⟩;exact XF
theorem iRoomy_c (g h:Half) (w:World) (hg:HOk g) (hh:HOk h) :
 Calls Tryz.prog 273 #[Y8 g,Y8 h] w λ e w'=>e=.returned (.bool (hroomy g h))/\Below w.heap.size w w':=by
 have c1:=λ W=>iSize_c g W hg;have c2:=λ W=>iSize_c h W hh;have p:=Kd (a:=g.c) (b:=Ye h) (A:=100000000) (B:=50000) hg.c (by have:=hsz_bd hh;omega);have q:=Kd (a:=h.c) (b:=Ye g) (A:=100000000) (B:=50000) hh.c (by have:=hsz_bd hg;omega);have hfin:Hid (hroomy g h=decide (0<g.c*Ye h+h.c*Ye g)):=rfl;clear hg hh;generalize Ye g=m at *;generalize Ye h=n at *;have p1:IntKind.i64.wrap (g.c*n)=g.c*n:=IntWalk.i64_in _ (by omega);have q1:IntKind.i64.wrap (h.c*m)=h.c*m:=IntWalk.i64_in _ (by omega);have s1:IntKind.i64.wrap (g.c*n+h.c*m)=g.c*n+h.c*m:=IntWalk.i64_in _ (by omega);go_enter Tryz.func273,Tryz.ntmps273
 go_upto_region 1 with fail
 go_region_held3 (λ w'=>(∀ b o,b<w.heap.size+1+1->w'.cell? ⟨b,o,none⟩=((w.alloc (.cells #[.int .i64 g.a,.int .i64 g.b,.int .i64 g.c] 174)).alloc (.cells #[.int .i64 h.a,.int .i64 h.b,.int .i64 h.c] 174)).cell? ⟨b,o,none⟩)/\w.heap.size+1+1<=w'.heap.size) (first|exact ⟨λ _ _ _=>rfl,by simp⟩|exact Y3 (by assumption) (by assumption)|(repeat (first|(with_reducible assumption)|(with_reducible refine ZN _ ?_)|(with_reducible refine ZO ?_)|(with_reducible refine Zi ?_ _)|(with_reducible refine KC ?_ ?_ _)|(focus (simp;done))|(focus (simp;omega))|(focus omega))))
  (first|(go_at_call 285;go_must (first|((with_reducible refine (c1 _).mono ?_);rintro e w1 ⟨rfl,hb1⟩)|((with_reducible refine (c2 _).mono ?_);rintro e w2 ⟨rfl,hb2⟩))))
 all_goals
  go_wp2
  go_ret
  refine ⟨Xo hfin.out.symm, ?_⟩;exact XF
theorem iTighter_c (g h:Half) (w:World) (hg:Xy g=true) (hh:Xy h=true) (hs:YH g h=true) :
 Calls Tryz.prog 271 #[Y8 g,Y8 h] w λ e w'=>e=.returned (Y8 (Z6 g h))/\Below w.heap.size w w':=by
 have c0:=λ W=>iSameD_c g h W hg hh;rw [hs] at c0;have c1:=λ W=>iSize_c g W (JR hg);have c2:=λ W=>iSize_c h W (JR hh);have p:=Kd (a:=g.c) (b:=Ye h) (A:=100000000) (B:=50000) (JR hg).c (by have:=hsz_bd (JR hh);omega);have q:=Kd (a:=h.c) (b:=Ye g) (A:=100000000) (B:=50000) (JR hh).c (by have:=hsz_bd (JR hg);omega);have hfin:Hid (Z6 g h=if h.c*Ye g<g.c*Ye h then h else g):=rfl;clear hg hh hs;generalize Ye g=m at *;generalize Ye h=n at *;have p1:IntKind.i64.wrap (g.c*n)=g.c*n:=IntWalk.i64_in _ (by omega);have q1:IntKind.i64.wrap (h.c*m)=h.c*m:=IntWalk.i64_in _ (by omega);have HG:Yi (((w.alloc (.cells #[.int .i64 g.a,.int .i64 g.b,.int .i64 g.c] 174)).alloc (.cells #[.int .i64 h.a,.int .i64 h.b,.int .i64 h.c] 174)).alloc (.cells #[.int .i64 0,.int .i64 0,.int .i64 0] 174)) w.heap.size [.int .i64 g.a,.int .i64 g.b,.int .i64 g.c]:=by
  exact ZC
 have HH:Yi (((w.alloc (.cells #[.int .i64 g.a,.int .i64 g.b,.int .i64 g.c] 174)).alloc (.cells #[.int .i64 h.a,.int .i64 h.b,.int .i64 h.c] 174)).alloc (.cells #[.int .i64 0,.int .i64 0,.int .i64 0] 174)) (w.heap.size+1) [.int .i64 h.a,.int .i64 h.b,.int .i64 h.c]:=by
  exact ZC
 have HR:Yi (((w.alloc (.cells #[.int .i64 g.a,.int .i64 g.b,.int .i64 g.c] 174)).alloc (.cells #[.int .i64 h.a,.int .i64 h.b,.int .i64 h.c] 174)).alloc (.cells #[.int .i64 0,.int .i64 0,.int .i64 0] 174)) (w.heap.size+1+1) [.int .i64 0,.int .i64 0,.int .i64 0]:=by
  exact ZC
 have hbw:Below w.heap.size w (((w.alloc (.cells #[.int .i64 g.a,.int .i64 g.b,.int .i64 g.c] 174)).alloc (.cells #[.int .i64 h.a,.int .i64 h.b,.int .i64 h.c] 174)).alloc (.cells #[.int .i64 0,.int .i64 0,.int .i64 0] 174)):=by
  exact XF
 go_enter Tryz.func271,Tryz.ntmps271
 go_wp2_with (fail)
 refine (c0 _).mono ?_;rintro e w0 ⟨rfl,hb0⟩;replace HG:=HG.below hb0;replace HH:=HH.below hb0;replace HR:=HR.below hb0;replace hbw:=Xh hbw hb0;clear hb0 c0;obtain ⟨cHG_0,fHG_0⟩:=HG.2 0 _ rfl;obtain ⟨cHG_1,fHG_1⟩:=HG.2 1 _ rfl;obtain ⟨cHG_2,fHG_2⟩:=HG.2 2 _ rfl;obtain ⟨cHH_0,fHH_0⟩:=HH.2 0 _ rfl;obtain ⟨cHH_1,fHH_1⟩:=HH.2 1 _ rfl;obtain ⟨cHH_2,fHH_2⟩:=HH.2 2 _ rfl;have l1:=HG.1;have l2:=HH.1;have l3:=HR.1;go_upto_region 3 with fail
 go_region_held3 (λ w'=>(∀ b o,b<w0.heap.size->w'.cell? ⟨b,o,none⟩=w0.cell? ⟨b,o,none⟩)/\w0.heap.size<=w'.heap.size) (first|exact ⟨λ _ _ _=>rfl,by simp⟩|exact Y3 (by assumption) (by assumption)|(repeat (first|(with_reducible assumption)|(with_reducible refine ZN _ ?_)|(with_reducible refine ZO ?_)|(with_reducible refine Zi ?_ _)|(with_reducible refine KC ?_ ?_ _)|(focus (simp;done))|(focus (simp;omega))|(focus omega))))
  (first|(go_at_call 285;go_must (first|((with_reducible refine (c1 _).mono ?_);rintro e w1 ⟨rfl,hb1⟩)|((with_reducible refine (c2 _).mono ?_);rintro e w2 ⟨rfl,hb2⟩))))
 have B2:Below w0.heap.size w0 w2:=by exact XF
 rename_i hh
 clear hh;clear cHG_0 cHG_1 cHG_2 fHG_0 fHG_1 fHG_2 cHH_0 cHH_1 cHH_2 fHH_0 fHH_1 fHH_2;replace HR:=HR.below B2;replace HG:=HG.below B2;replace HH:=HH.below B2;replace hbw:=Xh hbw B2;obtain ⟨cHR_0,fHR_0⟩:=HR.2 0 _ rfl;obtain ⟨cHR_1,fHR_1⟩:=HR.2 1 _ rfl;obtain ⟨cHR_2,fHR_2⟩:=HR.2 2 _ rfl;obtain ⟨cHG_0,fHG_0⟩:=HG.2 0 _ rfl;obtain ⟨cHG_1,fHG_1⟩:=HG.2 1 _ rfl;obtain ⟨cHG_2,fHG_2⟩:=HG.2 2 _ rfl;obtain ⟨cHH_0,fHH_0⟩:=HH.2 0 _ rfl;obtain ⟨cHH_1,fHH_1⟩:=HH.2 1 _ rfl;obtain ⟨cHH_2,fHH_2⟩:=HH.2 2 _ rfl;by_cases hle:h.c*m<g.c*n
 ·have hf:=Lib.hid (show Z6 g h=h by rw [hfin.out,if_pos hle]);clear hfin;go_wp2
  refine bodyPost_ret (v:=.agg #[.int .i64 h.a,.int .i64 h.b,.int .i64 h.c]) (by simp [results,Tryz.results271,go_sem,cHR_0,cHR_1,cHR_2]) rfl ⟨by rw [hf.out], ?_⟩;exact XF
 ·have hf:=Lib.hid (show Z6 g h=g by rw [hfin.out,if_neg hle]);clear hfin;go_wp2
  refine bodyPost_ret (v:=.agg #[.int .i64 g.a,.int .i64 g.b,.int .i64 g.c]) (by simp [results,Tryz.results271,go_sem,cHR_0,cHR_1,cHR_2]) rfl ⟨by rw [hf.out], ?_⟩;exact XF
theorem dot_same {g h:Half} (ng:Jv g) (nh:Jv h):(decide (g.a*h.b=h.a*g.b)&&decide (0<g.a*h.a+g.b*h.b))=YH g h:=by
 have hc:(g.a*h.b=h.a*g.b) ↔ Xz g h=0:=by unfold Xz;rw [Int.mul_comm h.a g.b];omega
 rw [show decide (g.a*h.b=h.a*g.b)=decide (Xz g h=0) from decide_eq_decide.2 hc];unfold YH;by_cases h0:Xz g h=0
 ·have sg:=Zf ng;have sh:=Zf nh;have hp:0<h.a*h.a+h.b*h.b:=nn2_pos nh;have k:=Int.mul_pos hp sg;rcases hpar ng nh h0 with ⟨h1,h2,h3⟩|⟨h1,h2,h3⟩
  ·rw [h1];have id:Ye h*(g.a*h.a+g.b*h.b)=(h.a*h.a+h.b*h.b)*Ye g:=by grind
   have:=gmp (a:=Ye h) (b:=g.a*h.a+g.b*h.b) (by omega) sh;simp [this]
  ·have id:Ye h*(g.a*h.a+g.b*h.b) = -((h.a*h.a+h.b*h.b)*Ye g):=by grind
   have:¬ 0<g.a*h.a+g.b*h.b:=by
    intro h4;have:=Int.mul_pos sh h4;omega
   rw [decide_eq_false this,show (KE g == KE h)=false from beq_eq_false_iff_ne.2 h1]
 ·rw [decide_eq_false h0];rfl
def hn1 (h:Half):Int:=max h.a (-h.a)+max h.b (-h.b)
theorem max_abs (x:Int):max x (-x)=(x.natAbs:Int):=by omega
theorem abs_scale {x y m n:Int} (hm:0<m) (hn:0<n) (h:x*m=y*n):max x (-x)*m=max y (-y)*n:=by
 rw [max_abs,max_abs];have:=congrArg (λ z=>(z.natAbs:Int)) h;simp only [Int.natAbs_mul,Int.natCast_mul] at this;have e1:(m.natAbs:Int)=m:=by omega
 have e2:(n.natAbs:Int)=n:=by omega
 rw [e1,e2] at this;exact this
theorem hn1_bd {h:Half} (e:HOk h):1<=hn1 h/\hn1 h<=100000:=by
 have h1:=e.a;have h2:=e.b;have h3:=e.n;unfold Jv at h3;unfold hn1;omega
theorem tight_n1 {g h:Half} (hg:HOk g) (hh:HOk h) (s:YH g h=true):h.c*hn1 g<g.c*hn1 h ↔ h.c*Ye g<g.c*Ye h:=by
 obtain ⟨h1,h2⟩:=same_scale hg.n hh.n s;have sg:=Zf hg.n;have sh:=Zf hh.n;have e1:=abs_scale sh sg h1;have e2:=abs_scale sh sg h2;have b:=hn1_bd hh;have e:hn1 g*Ye h=hn1 h*Ye g:=by unfold hn1;grind
 have id:Ye h*(g.c*hn1 h-h.c*hn1 g)=hn1 h*(g.c*Ye h-h.c*Ye g):=by grind
 have:=(gsign_eq sh (show 0<hn1 h by omega) id).1;omega
theorem sUpper_c (h:Half) (w:World) :
 Calls Tryz.prog 275 #[Y8 h] w λ e w'=>e=.returned (.int .i64 (if KE h=true then 0 else 1))/\Below w.heap.size w w':=by
 obtain ⟨r,hr⟩:∃ r:Int,r=(if KE h=true then (0:Int) else 1):=⟨_,rfl⟩;rw [<- hr];by_cases h1:0<h.b
 ·have e1:=Lib.hid (show r=0 by rw [hr];simp [KE,h1]);clear hr;go_enter Tryz.func275,Tryz.ntmps275
  go_wp2
  go_ret
  refine ⟨Z4 e1.out.symm, ?_⟩;exact XF
 ·by_cases h2:h.b=0
  ·by_cases h3:0<h.a
   ·have e1:=Lib.hid (show r=0 by rw [hr];simp [KE,h2,h3]);clear hr;go_enter Tryz.func275,Tryz.ntmps275
    go_wp2
    go_ret
    refine ⟨Z4 e1.out.symm, ?_⟩;exact XF
   ·have e1:=Lib.hid (show r=1 by rw [hr];simp [KE,h2,h3]);clear hr;go_enter Tryz.func275,Tryz.ntmps275
    go_wp2
    go_ret
    refine ⟨Z4 e1.out.symm, ?_⟩;exact XF
  ·have e1:=Lib.hid (show r=1 by rw [hr];simp [KE,h1,h2]);clear hr;go_enter Tryz.func275,Tryz.ntmps275
   go_wp2
   go_ret
   refine ⟨Z4 e1.out.symm, ?_⟩;exact XF
theorem sBef_c (g h:Half) (w:World) (hg:Xy g=true) (hh:Xy h=true) :
 Calls Tryz.prog 252 #[Y8 g,Y8 h] w λ e w'=>e=.returned (.bool (Kq g h))/\Below w.heap.size w w':=by
 have k1:=λ W=>sHalfOk_c g W (hIn (JR hg));have k2:=λ W=>sHalfOk_c h W (hIn (JR hh));rw [hg] at k1;rw [hh] at k2;have c1:=λ W=>sUpper_c g W;have c2:=λ W=>sUpper_c h W;obtain ⟨⟨p1,p2⟩,⟨q1,q2⟩⟩:=crB (JR hg) (JR hh);have hx:Xz g h=g.a*h.b-h.a*g.b:=by unfold Xz;rw [Int.mul_comm h.a g.b]
 rw [Int.mul_comm g.b h.a] at q1 q2;have hfin:Hid (Kq g h=if KE g=KE h then decide (0<g.a*h.b-h.a*g.b) else KE g):=by rw [<- hx];rfl
 clear hg hh hx;generalize KE g=u1 at *;generalize KE h=u2 at *;cases u1<;>cases u2
 ·have e1:=Lib.hid (show Kq g h=decide (0<g.a*h.b-h.a*g.b) by rw [hfin.out];rfl);clear hfin;have HG:Yi ((w.alloc (.cells #[.int .i64 g.a,.int .i64 g.b,.int .i64 g.c] 174)).alloc (.cells #[.int .i64 h.a,.int .i64 h.b,.int .i64 h.c] 174)) w.heap.size [.int .i64 g.a,.int .i64 g.b,.int .i64 g.c]:=by
   exact ZC
  have HH:Yi ((w.alloc (.cells #[.int .i64 g.a,.int .i64 g.b,.int .i64 g.c] 174)).alloc (.cells #[.int .i64 h.a,.int .i64 h.b,.int .i64 h.c] 174)) (w.heap.size+1) [.int .i64 h.a,.int .i64 h.b,.int .i64 h.c]:=by
   exact ZC
  have hbw:Below w.heap.size w ((w.alloc (.cells #[.int .i64 g.a,.int .i64 g.b,.int .i64 g.c] 174)).alloc (.cells #[.int .i64 h.a,.int .i64 h.b,.int .i64 h.c] 174)):=by
   exact XF
  go_enter Tryz.func252,Tryz.ntmps252
  go_wp2_with (fail)
  refine (k1 _).mono ?_;rintro e w1 ⟨rfl,hb_w1⟩;have r_w1:=XI hb_w1;have l_w1_0:w.heap.size<w1.heap.size:=XT hb_w1;have l_w1_1:w.heap.size+1<w1.heap.size:=XT hb_w1;go_wp2_with (fail)
  refine (k2 _).mono ?_;rintro e w2 ⟨rfl,hb_w2⟩;have r_w2:=XI hb_w2;have l_w2_0:w.heap.size<w2.heap.size:=XT hb_w2;have l_w2_1:w.heap.size+1<w2.heap.size:=XT hb_w2;replace HG:=(HG.below hb_w1).below hb_w2;replace HH:=(HH.below hb_w1).below hb_w2;replace hbw:=Xh (Xh hbw hb_w1) hb_w2;clear hb_w1 r_w1 l_w1_0 l_w1_1 hb_w2 r_w2 l_w2_0 l_w2_1;obtain ⟨cHG_0,fHG_0⟩:=HG.2 0 _ rfl;obtain ⟨cHG_1,fHG_1⟩:=HG.2 1 _ rfl;obtain ⟨cHG_2,fHG_2⟩:=HG.2 2 _ rfl;obtain ⟨cHH_0,fHH_0⟩:=HH.2 0 _ rfl;obtain ⟨cHH_1,fHH_1⟩:=HH.2 1 _ rfl;obtain ⟨cHH_2,fHH_2⟩:=HH.2 2 _ rfl;have lG:=HG.1;have lH:=HH.1;go_upto_region 3 with fail
  go_region_held3 (λ w'=>(∀ b o,b<w2.heap.size->w'.cell? ⟨b,o,none⟩=w2.cell? ⟨b,o,none⟩)/\w2.heap.size<=w'.heap.size) (first|exact ⟨λ _ _ _=>rfl,by simp⟩|exact Y3 (by assumption) (by assumption)|(repeat (first|(with_reducible assumption)|(with_reducible refine ZN _ ?_)|(with_reducible refine ZO ?_)|(with_reducible refine Zi ?_ _)|(with_reducible refine KC ?_ ?_ _)|(focus (simp;done))|(focus (simp;omega))|(focus omega))))
   (first|(go_at_call 275;go_must (first|((with_reducible refine (c1 _).mono ?_);rintro e w3 ⟨rfl,hbw3⟩)|((with_reducible refine (c2 _).mono ?_);rintro e w4 ⟨rfl,hbw4⟩))))
  rename_i hheld
  clear hheld;have Bw4:Below w2.heap.size w2 w4:=by exact XF
  clear cHG_0 cHG_1 cHG_2 fHG_0 fHG_1 fHG_2 cHH_0 cHH_1 cHH_2 fHH_0 fHH_1 fHH_2;replace HG:=HG.below Bw4;replace HH:=HH.below Bw4;replace hbw:=Xh hbw Bw4;obtain ⟨cHG_0,fHG_0⟩:=HG.2 0 _ rfl;obtain ⟨cHG_1,fHG_1⟩:=HG.2 1 _ rfl;obtain ⟨cHG_2,fHG_2⟩:=HG.2 2 _ rfl;obtain ⟨cHH_0,fHH_0⟩:=HH.2 0 _ rfl;obtain ⟨cHH_1,fHH_1⟩:=HH.2 1 _ rfl;obtain ⟨cHH_2,fHH_2⟩:=HH.2 2 _ rfl;have lGw4:=HG.1;have lHw4:=HH.1;go_wp2
  go_ret
  refine ⟨Xo (by rw [e1.out];exact decide_eq_decide.2 (by omega)), ?_⟩;exact XF
 ·have e1:=Lib.hid (show Kq g h=false by rw [hfin.out];rfl);clear hfin;have HG:Yi ((w.alloc (.cells #[.int .i64 g.a,.int .i64 g.b,.int .i64 g.c] 174)).alloc (.cells #[.int .i64 h.a,.int .i64 h.b,.int .i64 h.c] 174)) w.heap.size [.int .i64 g.a,.int .i64 g.b,.int .i64 g.c]:=by
   exact ZC
  have HH:Yi ((w.alloc (.cells #[.int .i64 g.a,.int .i64 g.b,.int .i64 g.c] 174)).alloc (.cells #[.int .i64 h.a,.int .i64 h.b,.int .i64 h.c] 174)) (w.heap.size+1) [.int .i64 h.a,.int .i64 h.b,.int .i64 h.c]:=by
   exact ZC
  have hbw:Below w.heap.size w ((w.alloc (.cells #[.int .i64 g.a,.int .i64 g.b,.int .i64 g.c] 174)).alloc (.cells #[.int .i64 h.a,.int .i64 h.b,.int .i64 h.c] 174)):=by
   exact XF
  go_enter Tryz.func252,Tryz.ntmps252
  go_wp2_with (fail)
  refine (k1 _).mono ?_;rintro e w1 ⟨rfl,hb_w1⟩;have r_w1:=XI hb_w1;have l_w1_0:w.heap.size<w1.heap.size:=XT hb_w1;have l_w1_1:w.heap.size+1<w1.heap.size:=XT hb_w1;go_wp2_with (fail)
  refine (k2 _).mono ?_;rintro e w2 ⟨rfl,hb_w2⟩;have r_w2:=XI hb_w2;have l_w2_0:w.heap.size<w2.heap.size:=XT hb_w2;have l_w2_1:w.heap.size+1<w2.heap.size:=XT hb_w2;replace HG:=(HG.below hb_w1).below hb_w2;replace HH:=(HH.below hb_w1).below hb_w2;replace hbw:=Xh (Xh hbw hb_w1) hb_w2;clear hb_w1 r_w1 l_w1_0 l_w1_1 hb_w2 r_w2 l_w2_0 l_w2_1;obtain ⟨cHG_0,fHG_0⟩:=HG.2 0 _ rfl;obtain ⟨cHG_1,fHG_1⟩:=HG.2 1 _ rfl;obtain ⟨cHG_2,fHG_2⟩:=HG.2 2 _ rfl;obtain ⟨cHH_0,fHH_0⟩:=HH.2 0 _ rfl;obtain ⟨cHH_1,fHH_1⟩:=HH.2 1 _ rfl;obtain ⟨cHH_2,fHH_2⟩:=HH.2 2 _ rfl;have lG:=HG.1;have lH:=HH.1;go_upto_region 3 with fail
  go_region_held3 (λ w'=>(∀ b o,b<w2.heap.size->w'.cell? ⟨b,o,none⟩=w2.cell? ⟨b,o,none⟩)/\w2.heap.size<=w'.heap.size) (first|exact ⟨λ _ _ _=>rfl,by simp⟩|exact Y3 (by assumption) (by assumption)|(repeat (first|(with_reducible assumption)|(with_reducible refine ZN _ ?_)|(with_reducible refine ZO ?_)|(with_reducible refine Zi ?_ _)|(with_reducible refine KC ?_ ?_ _)|(focus (simp;done))|(focus (simp;omega))|(focus omega))))
   (first|(go_at_call 275;go_must (first|((with_reducible refine (c1 _).mono ?_);rintro e w3 ⟨rfl,hbw3⟩)|((with_reducible refine (c2 _).mono ?_);rintro e w4 ⟨rfl,hbw4⟩))))
  rename_i hheld
  clear hheld;have Bw4:Below w2.heap.size w2 w4:=by exact XF
  clear cHG_0 cHG_1 cHG_2 fHG_0 fHG_1 fHG_2 cHH_0 cHH_1 cHH_2 fHH_0 fHH_1 fHH_2;replace HG:=HG.below Bw4;replace HH:=HH.below Bw4;replace hbw:=Xh hbw Bw4;obtain ⟨cHG_0,fHG_0⟩:=HG.2 0 _ rfl;obtain ⟨cHG_1,fHG_1⟩:=HG.2 1 _ rfl;obtain ⟨cHG_2,fHG_2⟩:=HG.2 2 _ rfl;obtain ⟨cHH_0,fHH_0⟩:=HH.2 0 _ rfl;obtain ⟨cHH_1,fHH_1⟩:=HH.2 1 _ rfl;obtain ⟨cHH_2,fHH_2⟩:=HH.2 2 _ rfl;have lGw4:=HG.1;have lHw4:=HH.1;go_upto_region 4 with fail
  go_region_held3 (λ w'=>(∀ b o,b<w4.heap.size->w'.cell? ⟨b,o,none⟩=w4.cell? ⟨b,o,none⟩)/\w4.heap.size<=w'.heap.size) (first|exact ⟨λ _ _ _=>rfl,by simp⟩|exact Y3 (by assumption) (by assumption)|(repeat (first|(with_reducible assumption)|(with_reducible refine ZN _ ?_)|(with_reducible refine ZO ?_)|(with_reducible refine Zi ?_ _)|(with_reducible refine KC ?_ ?_ _)|(focus (simp;done))|(focus (simp;omega))|(focus omega))))
   (first|(go_at_call 275;go_must (first|((with_reducible refine (c1 _).mono ?_);rintro e w5 ⟨rfl,hbw5⟩)|((with_reducible refine (c2 _).mono ?_);rintro e w6 ⟨rfl,hbw6⟩))))
  rename_i hheld
  clear hheld;have Bw6:Below w4.heap.size w4 w6:=by exact XF
  clear cHG_0 cHG_1 cHG_2 fHG_0 fHG_1 fHG_2 cHH_0 cHH_1 cHH_2 fHH_0 fHH_1 fHH_2;replace HG:=HG.below Bw6;replace HH:=HH.below Bw6;replace hbw:=Xh hbw Bw6;obtain ⟨cHG_0,fHG_0⟩:=HG.2 0 _ rfl;obtain ⟨cHG_1,fHG_1⟩:=HG.2 1 _ rfl;obtain ⟨cHG_2,fHG_2⟩:=HG.2 2 _ rfl;obtain ⟨cHH_0,fHH_0⟩:=HH.2 0 _ rfl;obtain ⟨cHH_1,fHH_1⟩:=HH.2 1 _ rfl;obtain ⟨cHH_2,fHH_2⟩:=HH.2 2 _ rfl;have lGw6:=HG.1;have lHw6:=HH.1;go_wp2
  go_ret
  refine ⟨Xo e1.out.symm, ?_⟩;exact XF
 ·have e1:=Lib.hid (show Kq g h=true by rw [hfin.out];rfl);clear hfin;have HG:Yi ((w.alloc (.cells #[.int .i64 g.a,.int .i64 g.b,.int .i64 g.c] 174)).alloc (.cells #[.int .i64 h.a,.int .i64 h.b,.int .i64 h.c] 174)) w.heap.size [.int .i64 g.a,.int .i64 g.b,.int .i64 g.c]:=by
   exact ZC
  have HH:Yi ((w.alloc (.cells #[.int .i64 g.a,.int .i64 g.b,.int .i64 g.c] 174)).alloc (.cells #[.int .i64 h.a,.int .i64 h.b,.int .i64 h.c] 174)) (w.heap.size+1) [.int .i64 h.a,.int .i64 h.b,.int .i64 h.c]:=by
   exact ZC
  have hbw:Below w.heap.size w ((w.alloc (.cells #[.int .i64 g.a,.int .i64 g.b,.int .i64 g.c] 174)).alloc (.cells #[.int .i64 h.a,.int .i64 h.b,.int .i64 h.c] 174)):=by
   exact XF
  go_enter Tryz.func252,Tryz.ntmps252
  go_wp2_with (fail)
  refine (k1 _).mono ?_;rintro e w1 ⟨rfl,hb_w1⟩;have r_w1:=XI hb_w1;have l_w1_0:w.heap.size<w1.heap.size:=XT hb_w1;have l_w1_1:w.heap.size+1<w1.heap.size:=XT hb_w1;go_wp2_with (fail)
  refine (k2 _).mono ?_;rintro e w2 ⟨rfl,hb_w2⟩;have r_w2:=XI hb_w2;have l_w2_0:w.heap.size<w2.heap.size:=XT hb_w2;have l_w2_1:w.heap.size+1<w2.heap.size:=XT hb_w2;replace HG:=(HG.below hb_w1).below hb_w2;replace HH:=(HH.below hb_w1).below hb_w2;replace hbw:=Xh (Xh hbw hb_w1) hb_w2;clear hb_w1 r_w1 l_w1_0 l_w1_1 hb_w2 r_w2 l_w2_0 l_w2_1;obtain ⟨cHG_0,fHG_0⟩:=HG.2 0 _ rfl;obtain ⟨cHG_1,fHG_1⟩:=HG.2 1 _ rfl;obtain ⟨cHG_2,fHG_2⟩:=HG.2 2 _ rfl;obtain ⟨cHH_0,fHH_0⟩:=HH.2 0 _ rfl;obtain ⟨cHH_1,fHH_1⟩:=HH.2 1 _ rfl;obtain ⟨cHH_2,fHH_2⟩:=HH.2 2 _ rfl;have lG:=HG.1;have lH:=HH.1;go_upto_region 3 with fail
  go_region_held3 (λ w'=>(∀ b o,b<w2.heap.size->w'.cell? ⟨b,o,none⟩=w2.cell? ⟨b,o,none⟩)/\w2.heap.size<=w'.heap.size) (first|exact ⟨λ _ _ _=>rfl,by simp⟩|exact Y3 (by assumption) (by assumption)|(repeat (first|(with_reducible assumption)|(with_reducible refine ZN _ ?_)|(with_reducible refine ZO ?_)|(with_reducible refine Zi ?_ _)|(with_reducible refine KC ?_ ?_ _)|(focus (simp;done))|(focus (simp;omega))|(focus omega))))
   (first|(go_at_call 275;go_must (first|((with_reducible refine (c1 _).mono ?_);rintro e w3 ⟨rfl,hbw3⟩)|((with_reducible refine (c2 _).mono ?_);rintro e w4 ⟨rfl,hbw4⟩))))
  rename_i hheld
  clear hheld;have Bw4:Below w2.heap.size w2 w4:=by exact XF
  clear cHG_0 cHG_1 cHG_2 fHG_0 fHG_1 fHG_2 cHH_0 cHH_1 cHH_2 fHH_0 fHH_1 fHH_2;replace HG:=HG.below Bw4;replace HH:=HH.below Bw4;replace hbw:=Xh hbw Bw4;obtain ⟨cHG_0,fHG_0⟩:=HG.2 0 _ rfl;obtain ⟨cHG_1,fHG_1⟩:=HG.2 1 _ rfl;obtain ⟨cHG_2,fHG_2⟩:=HG.2 2 _ rfl;obtain ⟨cHH_0,fHH_0⟩:=HH.2 0 _ rfl;obtain ⟨cHH_1,fHH_1⟩:=HH.2 1 _ rfl;obtain ⟨cHH_2,fHH_2⟩:=HH.2 2 _ rfl;have lGw4:=HG.1;have lHw4:=HH.1;go_upto_region 4 with fail
  go_region_held3 (λ w'=>(∀ b o,b<w4.heap.size->w'.cell? ⟨b,o,none⟩=w4.cell? ⟨b,o,none⟩)/\w4.heap.size<=w'.heap.size) (first|exact ⟨λ _ _ _=>rfl,by simp⟩|exact Y3 (by assumption) (by assumption)|(repeat (first|(with_reducible assumption)|(with_reducible refine ZN _ ?_)|(with_reducible refine ZO ?_)|(with_reducible refine Zi ?_ _)|(with_reducible refine KC ?_ ?_ _)|(focus (simp;done))|(focus (simp;omega))|(focus omega))))
   (first|(go_at_call 275;go_must (first|((with_reducible refine (c1 _).mono ?_);rintro e w5 ⟨rfl,hbw5⟩)|((with_reducible refine (c2 _).mono ?_);rintro e w6 ⟨rfl,hbw6⟩))))
  rename_i hheld
  clear hheld;have Bw6:Below w4.heap.size w4 w6:=by exact XF
  clear cHG_0 cHG_1 cHG_2 fHG_0 fHG_1 fHG_2 cHH_0 cHH_1 cHH_2 fHH_0 fHH_1 fHH_2;replace HG:=HG.below Bw6;replace HH:=HH.below Bw6;replace hbw:=Xh hbw Bw6;obtain ⟨cHG_0,fHG_0⟩:=HG.2 0 _ rfl;obtain ⟨cHG_1,fHG_1⟩:=HG.2 1 _ rfl;obtain ⟨cHG_2,fHG_2⟩:=HG.2 2 _ rfl;obtain ⟨cHH_0,fHH_0⟩:=HH.2 0 _ rfl;obtain ⟨cHH_1,fHH_1⟩:=HH.2 1 _ rfl;obtain ⟨cHH_2,fHH_2⟩:=HH.2 2 _ rfl;have lGw6:=HG.1;have lHw6:=HH.1;go_wp2
  go_ret
  refine ⟨Xo e1.out.symm, ?_⟩;exact XF
 ·have e1:=Lib.hid (show Kq g h=decide (0<g.a*h.b-h.a*g.b) by rw [hfin.out];rfl);clear hfin;have HG:Yi ((w.alloc (.cells #[.int .i64 g.a,.int .i64 g.b,.int .i64 g.c] 174)).alloc (.cells #[.int .i64 h.a,.int .i64 h.b,.int .i64 h.c] 174)) w.heap.size [.int .i64 g.a,.int .i64 g.b,.int .i64 g.c]:=by
   exact ZC
  have HH:Yi ((w.alloc (.cells #[.int .i64 g.a,.int .i64 g.b,.int .i64 g.c] 174)).alloc (.cells #[.int .i64 h.a,.int .i64 h.b,.int .i64 h.c] 174)) (w.heap.size+1) [.int .i64 h.a,.int .i64 h.b,.int .i64 h.c]:=by
   exact ZC
  have hbw:Below w.heap.size w ((w.alloc (.cells #[.int .i64 g.a,.int .i64 g.b,.int .i64 g.c] 174)).alloc (.cells #[.int .i64 h.a,.int .i64 h.b,.int .i64 h.c] 174)):=by
   exact XF
  go_enter Tryz.func252,Tryz.ntmps252
  go_wp2_with (fail)
  refine (k1 _).mono ?_;rintro e w1 ⟨rfl,hb_w1⟩;have r_w1:=XI hb_w1;have l_w1_0:w.heap.size<w1.heap.size:=XT hb_w1;have l_w1_1:w.heap.size+1<w1.heap.size:=XT hb_w1;go_wp2_with (fail)
  refine (k2 _).mono ?_;rintro e w2 ⟨rfl,hb_w2⟩;have r_w2:=XI hb_w2;have l_w2_0:w.heap.size<w2.heap.size:=XT hb_w2;have l_w2_1:w.heap.size+1<w2.heap.size:=XT hb_w2;replace HG:=(HG.below hb_w1).below hb_w2;replace HH:=(HH.below hb_w1).below hb_w2;replace hbw:=Xh (Xh hbw hb_w1) hb_w2;clear hb_w1 r_w1 l_w1_0 l_w1_1 hb_w2 r_w2 l_w2_0 l_w2_1;obtain ⟨cHG_0,fHG_0⟩:=HG.2 0 _ rfl;obtain ⟨cHG_1,fHG_1⟩:=HG.2 1 _ rfl;obtain ⟨cHG_2,fHG_2⟩:=HG.2 2 _ rfl;obtain ⟨cHH_0,fHH_0⟩:=HH.2 0 _ rfl;obtain ⟨cHH_1,fHH_1⟩:=HH.2 1 _ rfl;obtain ⟨cHH_2,fHH_2⟩:=HH.2 2 _ rfl;have lG:=HG.1;have lH:=HH.1;go_upto_region 3 with fail
  go_region_held3 (λ w'=>(∀ b o,b<w2.heap.size->w'.cell? ⟨b,o,none⟩=w2.cell? ⟨b,o,none⟩)/\w2.heap.size<=w'.heap.size) (first|exact ⟨λ _ _ _=>rfl,by simp⟩|exact Y3 (by assumption) (by assumption)|(repeat (first|(with_reducible assumption)|(with_reducible refine ZN _ ?_)|(with_reducible refine ZO ?_)|(with_reducible refine Zi ?_ _)|(with_reducible refine KC ?_ ?_ _)|(focus (simp;done))|(focus (simp;omega))|(focus omega))))
   (first|(go_at_call 275;go_must (first|((with_reducible refine (c1 _).mono ?_);rintro e w3 ⟨rfl,hbw3⟩)|((with_reducible refine (c2 _).mono ?_);rintro e w4 ⟨rfl,hbw4⟩))))
  rename_i hheld
  clear hheld;have Bw4:Below w2.heap.size w2 w4:=by exact XF
  clear cHG_0 cHG_1 cHG_2 fHG_0 fHG_1 fHG_2 cHH_0 cHH_1 cHH_2 fHH_0 fHH_1 fHH_2;replace HG:=HG.below Bw4;replace HH:=HH.below Bw4;replace hbw:=Xh hbw Bw4;obtain ⟨cHG_0,fHG_0⟩:=HG.2 0 _ rfl;obtain ⟨cHG_1,fHG_1⟩:=HG.2 1 _ rfl;obtain ⟨cHG_2,fHG_2⟩:=HG.2 2 _ rfl;obtain ⟨cHH_0,fHH_0⟩:=HH.2 0 _ rfl;obtain ⟨cHH_1,fHH_1⟩:=HH.2 1 _ rfl;obtain ⟨cHH_2,fHH_2⟩:=HH.2 2 _ rfl;have lGw4:=HG.1;have lHw4:=HH.1;go_wp2
  go_ret
  refine ⟨Xo (by rw [e1.out];exact decide_eq_decide.2 (by omega)), ?_⟩;exact XF
theorem sSame_c (g h:Half) (w:World) (hg:Xy g=true) (hh:Xy h=true) :
 Calls Tryz.prog 253 #[Y8 g,Y8 h] w λ e w'=>e=.returned (.bool (YH g h))/\Below w.heap.size w w':=by
 have k1:=λ W=>sHalfOk_c g W (hIn (JR hg));have k2:=λ W=>sHalfOk_c h W (hIn (JR hh));rw [hg] at k1;rw [hh] at k2;obtain ⟨⟨p1,p2⟩,⟨q1,q2⟩⟩:=crB (JR hg) (JR hh);rw [Int.mul_comm g.b h.a] at q1 q2;have r1:=Kd (a:=g.a) (b:=h.a) (A:=50000) (B:=50000) (JR hg).a (JR hh).a;have r2:=Kd (a:=g.b) (b:=h.b) (A:=50000) (B:=50000) (JR hg).b (JR hh).b;have hfin:=Lib.hid (dot_same (JR hg).n (JR hh).n);clear hg hh;generalize YH g h=s at *;by_cases hx:g.a*h.b=h.a*g.b
 ·have e1:=Lib.hid (show s=decide (0<g.a*h.a+g.b*h.b) by rw [<- hfin.out,decide_eq_true hx];rfl);have hx2:(g.a*h.b == h.a*g.b)=true:=beq_iff_eq.2 hx;clear hfin hx;go_enter Tryz.func253,Tryz.ntmps253
  go_wp2_with (fail)
  refine (k1 _).mono ?_;rintro e w1 ⟨rfl,hb_w1⟩;have r_w1:=XI hb_w1;have l_w1_0:w.heap.size<w1.heap.size:=XT hb_w1;have l_w1_1:w.heap.size+1<w1.heap.size:=XT hb_w1;go_wp2_with (fail)
  refine (k2 _).mono ?_;rintro e w2 ⟨rfl,hb_w2⟩;have r_w2:=XI hb_w2;have l_w2_0:w.heap.size<w2.heap.size:=XT hb_w2;have l_w2_1:w.heap.size+1<w2.heap.size:=XT hb_w2;go_wp2
  go_ret
  refine ⟨Xo e1.out.symm, ?_⟩;exact XF
 ·have e1:=Lib.hid (show s=false by rw [<- hfin.out,decide_eq_false hx];rfl);have hx2:(g.a*h.b == h.a*g.b)=false:=beq_eq_false_iff_ne.2 hx;clear hfin hx;go_enter Tryz.func253,Tryz.ntmps253
  go_wp2_with (fail)
  refine (k1 _).mono ?_;rintro e w1 ⟨rfl,hb_w1⟩;have r_w1:=XI hb_w1;have l_w1_0:w.heap.size<w1.heap.size:=XT hb_w1;have l_w1_1:w.heap.size+1<w1.heap.size:=XT hb_w1;go_wp2_with (fail)
  refine (k2 _).mono ?_;rintro e w2 ⟨rfl,hb_w2⟩;have r_w2:=XI hb_w2;have l_w2_0:w.heap.size<w2.heap.size:=XT hb_w2;have l_w2_1:w.heap.size+1<w2.heap.size:=XT hb_w2;go_wp2
  go_ret
  refine ⟨Xo e1.out.symm, ?_⟩;exact XF
theorem sTighter_c (g h:Half) (w:World) (hg:Xy g=true) (hh:Xy h=true) (hs:YH g h=true) :
 Calls Tryz.prog 254 #[Y8 g,Y8 h] w λ e w'=>e=.returned (Y8 (Z6 g h))/\Below w.heap.size w w':=by
 have c0:=λ W=>sSame_c g h W hg hh;rw [hs] at c0;have b1:=hn1_bd (JR hg);have b2:=hn1_bd (JR hh);have p:=Kd (a:=g.c) (b:=hn1 h) (A:=100000000) (B:=100000) (JR hg).c (by omega);have q:=Kd (a:=h.c) (b:=hn1 g) (A:=100000000) (B:=100000) (JR hh).c (by omega);have hfin:Hid (Z6 g h=if h.c*hn1 g<g.c*hn1 h then h else g):=by
  unfold Hid Z6;by_cases e:h.c*hn1 g<g.c*hn1 h
  ·rw [if_pos e,if_pos ((tight_n1 (JR hg) (JR hh) hs).1 e)]
  ·rw [if_neg e,if_neg (λ e2=>e ((tight_n1 (JR hg) (JR hh) hs).2 e2))]
 obtain ⟨⟨a1,a2⟩,⟨a3,a4⟩,_,_⟩:=JR hg;obtain ⟨⟨a5,a6⟩,⟨a7,a8⟩,_,_⟩:=JR hh;clear hg hh hs;have em:g.a.natAbs+g.b.natAbs=hn1 g:=by unfold hn1;omega
 have en:h.a.natAbs+h.b.natAbs=hn1 h:=by unfold hn1;omega
 have f1:(if g.a < -g.a then -g.a else g.a)=(g.a.natAbs:Int):=by omega
 have f2:(if g.b < -g.b then -g.b else g.b)=(g.b.natAbs:Int):=by omega
 have f3:(if h.a < -h.a then -h.a else h.a)=(h.a.natAbs:Int):=by omega
 have f4:(if h.b < -h.b then -h.b else h.b)=(h.b.natAbs:Int):=by omega
 have n1:(0:Int)<=(g.a.natAbs:Int)/\(g.a.natAbs:Int)<=50000:=by omega
 have n2:(0:Int)<=(g.b.natAbs:Int)/\(g.b.natAbs:Int)<=50000:=by omega
 have n3:(0:Int)<=(h.a.natAbs:Int)/\(h.a.natAbs:Int)<=50000:=by omega
 have n4:(0:Int)<=(h.b.natAbs:Int)/\(h.b.natAbs:Int)<=50000:=by omega
 generalize (g.a.natAbs:Int)=A1 at *;generalize (g.b.natAbs:Int)=A2 at *;generalize (h.a.natAbs:Int)=A3 at *;generalize (h.b.natAbs:Int)=A4 at *;obtain ⟨n1,n1'⟩:=n1;obtain ⟨n2,n2'⟩:=n2;obtain ⟨n3,n3'⟩:=n3;obtain ⟨n4,n4'⟩:=n4;generalize hn1 g=m at *;generalize hn1 h=n at *;have HG:Yi (((w.alloc (.cells #[.int .i64 g.a,.int .i64 g.b,.int .i64 g.c] 174)).alloc (.cells #[.int .i64 h.a,.int .i64 h.b,.int .i64 h.c] 174)).alloc (.cells #[.int .i64 0,.int .i64 0,.int .i64 0] 174)) w.heap.size [.int .i64 g.a,.int .i64 g.b,.int .i64 g.c]:=by
  exact ZC
 have HH:Yi (((w.alloc (.cells #[.int .i64 g.a,.int .i64 g.b,.int .i64 g.c] 174)).alloc (.cells #[.int .i64 h.a,.int .i64 h.b,.int .i64 h.c] 174)).alloc (.cells #[.int .i64 0,.int .i64 0,.int .i64 0] 174)) (w.heap.size+1) [.int .i64 h.a,.int .i64 h.b,.int .i64 h.c]:=by
  exact ZC
 have HR:Yi (((w.alloc (.cells #[.int .i64 g.a,.int .i64 g.b,.int .i64 g.c] 174)).alloc (.cells #[.int .i64 h.a,.int .i64 h.b,.int .i64 h.c] 174)).alloc (.cells #[.int .i64 0,.int .i64 0,.int .i64 0] 174)) (w.heap.size+1+1) [.int .i64 0,.int .i64 0,.int .i64 0]:=by
  exact ZC
 have hbw:Below w.heap.size w (((w.alloc (.cells #[.int .i64 g.a,.int .i64 g.b,.int .i64 g.c] 174)).alloc (.cells #[.int .i64 h.a,.int .i64 h.b,.int .i64 h.c] 174)).alloc (.cells #[.int .i64 0,.int .i64 0,.int .i64 0] 174)):=by
  exact XF
 go_enter Tryz.func254,Tryz.ntmps254
 go_wp2_with (fail)
 refine (c0 _).mono ?_;rintro e w0 ⟨rfl,hb0⟩;replace HG:=HG.below hb0;replace HH:=HH.below hb0;replace HR:=HR.below hb0;replace hbw:=Xh hbw hb0;clear hb0 c0;obtain ⟨cHG_0,fHG_0⟩:=HG.2 0 _ rfl;obtain ⟨cHG_1,fHG_1⟩:=HG.2 1 _ rfl;obtain ⟨cHG_2,fHG_2⟩:=HG.2 2 _ rfl;obtain ⟨cHH_0,fHH_0⟩:=HH.2 0 _ rfl;obtain ⟨cHH_1,fHH_1⟩:=HH.2 1 _ rfl;obtain ⟨cHH_2,fHH_2⟩:=HH.2 2 _ rfl;obtain ⟨cHR_0,fHR_0⟩:=HR.2 0 _ rfl;obtain ⟨cHR_1,fHR_1⟩:=HR.2 1 _ rfl;obtain ⟨cHR_2,fHR_2⟩:=HR.2 2 _ rfl;have l1:=HG.1;have l2:=HH.1;have l3:=HR.1;go_upto_region 5 with fail
 obtain ⟨p1,p2⟩:=p;obtain ⟨q1,q2⟩:=q;by_cases hle:h.c*m<g.c*n
 ·have hf:=Lib.hid (show Z6 g h=h by rw [hfin.out,if_pos hle]);clear hfin;go_wp2
  refine bodyPost_ret (v:=.agg #[.int .i64 h.a,.int .i64 h.b,.int .i64 h.c]) (by simp [results,Tryz.results254,go_sem,cHR_0,cHR_1,cHR_2]) rfl ⟨by rw [hf.out], ?_⟩;exact XF
 ·have hf:=Lib.hid (show Z6 g h=g by rw [hfin.out,if_neg hle]);clear hfin;go_wp2
  refine bodyPost_ret (v:=.agg #[.int .i64 g.a,.int .i64 g.b,.int .i64 g.c]) (by simp [results,Tryz.results254,go_sem,cHR_0,cHR_1,cHR_2]) rfl ⟨by rw [hf.out], ?_⟩;exact XF
end Go.Proofs.YtabfdkpdppemaaaGreat
