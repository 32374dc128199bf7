/-
 The program's functions on directions of half planes.
 Conditions: valid half planes.
-/
import Derived.Test.YtbekjpkcicjcgaaGreatGrH
import Derived.Deep.RegionHeld3
import Derived.Deep.RegionWith
import Derived.Deep.DeepMust
import Derived.Deep.DeepCutAuto
set_option maxHeartbeats 2000000
set_option maxRecDepth 100000
namespace Go.Proofs.YtbekjpkcicjcgaaGreat
open Go.RowKit
structure HOk (h:Half):Prop where
 a : -50000<=h.a/\h.a<=50000
 b : -50000<=h.b/\h.b<=50000
 c : -100000000<=h.c/\h.c<=100000000
 n:KH h
theorem KS {h:Half} (e:Xt h=true):HOk h:=by
 obtain ⟨h1,h2,h3,h4,_⟩:=Y0.1 e;exact ⟨h1,h2,h3,h4⟩
theorem hIn {h:Half} (e:HOk h):h.In:=by
 obtain ⟨h1,h2,h3,_⟩:=e;exact ⟨⟨Oz,Oz⟩,⟨Oz,Oz⟩,⟨Oz,Oz⟩⟩
structure CrB (g h:Half):Prop where
 ab : -2500000000<=g.a*h.b/\g.a*h.b<=2500000000
 ba : -2500000000<=g.b*h.a/\g.b*h.a<=2500000000
theorem crB {g h:Half} (hg:HOk g) (hh:HOk h):CrB g h:=by
 have p:=Zr (a:=g.a) (b:=h.b) (A:=50000) (B:=50000) hg.a hh.b;have q:=Zr (a:=g.b) (b:=h.a) (A:=50000) (B:=50000) hg.b hh.a;exact ⟨⟨Oz,Oz⟩,⟨Oz,Oz⟩⟩
theorem crs_bd {g h:Half} (hg:HOk g) (hh:HOk h) : -5000000000<=XC g h/\XC g h<=5000000000:=by
 obtain ⟨p,q⟩:=crB hg hh;unfold XC;omega
theorem hsz_bd {h:Half} (e:HOk h):1<=X5 h/\X5 h<=50000:=by
 have h1:=YW e.n;have h2:=e.a;have h3:=e.b;refine ⟨Oz, ?_⟩;unfold X5;split<;>omega
theorem iUpper_c (h:Half) (w:World) :
 Calls Tryz.prog 204 #[X3 h] w λ e w'=>e=.returned (.bool (Z0 h))/\Below w.heap.size w w':=by
 by_cases h1:0<h.b
 ·go_enter Tryz.func204,Tryz.ntmps204
  go_wp2
  go_ret
  refine ⟨Xi (by simp [Z0,h1]), ?_⟩;exact Xl
 ·by_cases h2:h.b=0
  ·go_enter Tryz.func204,Tryz.ntmps204
   go_wp2
   go_ret
   refine ⟨Xi (by simp [Z0,h2]), ?_⟩;exact Xl
  ·go_enter Tryz.func204,Tryz.ntmps204
   go_wp2
   go_ret
   refine ⟨Xi (by simp [Z0,h1,h2]), ?_⟩;exact Xl
theorem iCross_c (g h:Half) (w:World) (hg:HOk g) (hh:HOk h) :
 Calls Tryz.prog 171 #[X3 g,X3 h] w λ e w'=>e=.returned (.int .i64 (XC g h))/\Below w.heap.size w w':=by
 obtain ⟨⟨p1,p2⟩,⟨q1,q2⟩⟩:=crB hg hh;clear hg hh;go_enter Tryz.func171,Tryz.ntmps171
 go_wp2
 go_ret
 refine ⟨YB (by simp only [XC]), ?_⟩;exact Xl
theorem iSize_c (h:Half) (w:World) (hh:HOk h) :
 Calls Tryz.prog 206 #[X3 h] w λ e w'=>e=.returned (.int .i64 (X5 h))/\Below w.heap.size w w':=by
 obtain ⟨⟨a1,a2⟩,⟨b1,b2⟩,_,_⟩:=hh;by_cases h1:h.a=0
 ·go_enter Tryz.func206,Tryz.ntmps206
  go_wp2
  all_goals
   go_ret
   refine ⟨YB (by unfold X5;rw [if_pos h1];omega), ?_⟩;exact Xl
 ·go_enter Tryz.func206,Tryz.ntmps206
  go_wp2
  all_goals
   go_ret
   refine ⟨YB (by unfold X5;rw [if_neg h1];omega), ?_⟩;exact Xl
theorem iBef_c (g h:Half) (w:World) (hg:HOk g) (hh:HOk h) :
 Calls Tryz.prog 188 #[X3 g,X3 h] w λ e w'=>e=.returned (.bool (ZU g h))/\Below w.heap.size w w':=by
 have c1:=λ W=>iUpper_c g W;have c2:=λ W=>iUpper_c h W;have c3:=λ W=>iCross_c g h W hg hh;have hfin:Hid (ZU g h=if Z0 g=Z0 h then decide (0<XC g h) else Z0 g):=rfl;clear hg hh;generalize Z0 g=u1 at *;generalize Z0 h=u2 at *;generalize XC g h=x at *;cases u1<;>cases u2
 ·have e1:=Lib.hid (show ZU g h=decide (0<x) by rw [hfin.out];rfl);clear hfin;go_enter Tryz.func188,Tryz.ntmps188
  go_upto_region 1 with fail
  go_region_held3 (λ w'=>(∀ b o,b<w.heap.size+1+1->w'.cell? ⟨b,o,none⟩=((w.alloc (.cells #[.int .i64 g.a,.int .i64 g.b,.int .i64 g.c] 136)).alloc (.cells #[.int .i64 h.a,.int .i64 h.b,.int .i64 h.c] 136)).cell? ⟨b,o,none⟩)/\w.heap.size+1+1<=w'.heap.size) (first|exact ⟨λ _ _ _=>rfl,by simp⟩|exact Yw (by assumption) (by assumption)|(repeat (first|(with_reducible assumption)|(with_reducible refine Zb _ ?_)|(with_reducible refine Zc ?_)|(with_reducible refine YH ?_ _)|(with_reducible refine ZT ?_ ?_ _)|(focus (simp;done))|(focus (simp;omega))|(focus omega))))
   (first|(go_at_call 204;go_must (first|((with_reducible refine (c1 _).mono ?_);rintro e w1 ⟨rfl,hb1⟩)|((with_reducible refine (c2 _).mono ?_);rintro e w2 ⟨rfl,hb2⟩))))
  have hbz:Below ((w.alloc (.cells #[.int .i64 g.a,.int .i64 g.b,.int .i64 g.c] 136)).alloc (.cells #[.int .i64 h.a,.int .i64 h.b,.int .i64 h.c] 136)).heap.size ((w.alloc (.cells #[.int .i64 g.a,.int .i64 g.b,.int .i64 g.c] 136)).alloc (.cells #[.int .i64 h.a,.int .i64 h.b,.int .i64 h.c] 136)) w2:=by exact Xl
  have r2:=Xh hbz;have l2:w.heap.size<w2.heap.size:=Xo hbz;have m2:w.heap.size+1<w2.heap.size:=Xo hbz;have hbw:Below w.heap.size w w2:=by exact Xl
  go_wp2_with (fail)
  refine (c3 _).mono ?_;rintro e w3 ⟨rfl,hb3⟩;go_wp2
  go_ret
  refine ⟨Xi e1.out.symm, ?_⟩;exact Xl
 ·have e1:=Lib.hid (show ZU g h=false by rw [hfin.out];rfl);clear hfin;go_enter Tryz.func188,Tryz.ntmps188
  go_upto_region 1 with fail
  go_region_held3 (λ w'=>(∀ b o,b<w.heap.size+1+1->w'.cell? ⟨b,o,none⟩=((w.alloc (.cells #[.int .i64 g.a,.int .i64 g.b,.int .i64 g.c] 136)).alloc (.cells #[.int .i64 h.a,.int .i64 h.b,.int .i64 h.c] 136)).cell? ⟨b,o,none⟩)/\w.heap.size+1+1<=w'.heap.size) (first|exact ⟨λ _ _ _=>rfl,by simp⟩|exact Yw (by assumption) (by assumption)|(repeat (first|(with_reducible assumption)|(with_reducible refine Zb _ ?_)|(with_reducible refine Zc ?_)|(with_reducible refine YH ?_ _)|(with_reducible refine ZT ?_ ?_ _)|(focus (simp;done))|(focus (simp;omega))|(focus omega))))
   (first|(go_at_call 204;go_must (first|((with_reducible refine (c1 _).mono ?_);rintro e w1 ⟨rfl,hb1⟩)|((with_reducible refine (c2 _).mono ?_);rintro e w2 ⟨rfl,hb2⟩))))
  have hbz:Below ((w.alloc (.cells #[.int .i64 g.a,.int .i64 g.b,.int .i64 g.c] 136)).alloc (.cells #[.int .i64 h.a,.int .i64 h.b,.int .i64 h.c] 136)).heap.size ((w.alloc (.cells #[.int .i64 g.a,.int .i64 g.b,.int .i64 g.c] 136)).alloc (.cells #[.int .i64 h.a,.int .i64 h.b,.int .i64 h.c] 136)) w2:=by exact Xl
  have r2:=Xh hbz;have l2:w.heap.size<w2.heap.size:=Xo hbz;have m2:w.heap.size+1<w2.heap.size:=Xo hbz;have hbw:Below w.heap.size w w2:=by exact Xl
  go_wp2_with (fail)
  refine (c1 _).mono ?_;rintro e w3 ⟨rfl,hb3⟩;go_wp2
  go_ret
  refine ⟨Xi e1.out.symm, ?_⟩;exact Xl
 ·have e1:=Lib.hid (show ZU g h=true by rw [hfin.out];rfl);clear hfin;go_enter Tryz.func188,Tryz.ntmps188
  go_upto_region 1 with fail
  go_region_held3 (λ w'=>(∀ b o,b<w.heap.size+1+1->w'.cell? ⟨b,o,none⟩=((w.alloc (.cells #[.int .i64 g.a,.int .i64 g.b,.int .i64 g.c] 136)).alloc (.cells #[.int .i64 h.a,.int .i64 h.b,.int .i64 h.c] 136)).cell? ⟨b,o,none⟩)/\w.heap.size+1+1<=w'.heap.size) (first|exact ⟨λ _ _ _=>rfl,by simp⟩|exact Yw (by assumption) (by assumption)|(repeat (first|(with_reducible assumption)|(with_reducible refine Zb _ ?_)|(with_reducible refine Zc ?_)|(with_reducible refine YH ?_ _)|(with_reducible refine ZT ?_ ?_ _)|(focus (simp;done))|(focus (simp;omega))|(focus omega))))
   (first|(go_at_call 204;go_must (first|((with_reducible refine (c1 _).mono ?_);rintro e w1 ⟨rfl,hb1⟩)|((with_reducible refine (c2 _).mono ?_);rintro e w2 ⟨rfl,hb2⟩))))
  have hbz:Below ((w.alloc (.cells #[.int .i64 g.a,.int .i64 g.b,.int .i64 g.c] 136)).alloc (.cells #[.int .i64 h.a,.int .i64 h.b,.int .i64 h.c] 136)).heap.size ((w.alloc (.cells #[.int .i64 g.a,.int .i64 g.b,.int .i64 g.c] 136)).alloc (.cells #[.int .i64 h.a,.int .i64 h.b,.int .i64 h.c] 136)) w2:=by exact Xl
  have r2:=Xh hbz;have l2:w.heap.size<w2.heap.size:=Xo hbz;have m2:w.heap.size+1<w2.heap.size:=Xo hbz;have hbw:Below w.heap.size w w2:=by exact Xl
  go_wp2_with (fail)
  refine (c1 _).mono ?_;rintro e w3 ⟨rfl,hb3⟩;go_wp2
  go_ret
  refine ⟨Xi e1.out.symm, ?_⟩;exact Xl
 ·have e1:=Lib.hid (show ZU g h=decide (0<x) by rw [hfin.out];rfl);clear hfin;go_enter Tryz.func188,Tryz.ntmps188
  go_upto_region 1 with fail
  go_region_held3 (λ w'=>(∀ b o,b<w.heap.size+1+1->w'.cell? ⟨b,o,none⟩=((w.alloc (.cells #[.int .i64 g.a,.int .i64 g.b,.int .i64 g.c] 136)).alloc (.cells #[.int .i64 h.a,.int .i64 h.b,.int .i64 h.c] 136)).cell? ⟨b,o,none⟩)/\w.heap.size+1+1<=w'.heap.size) (first|exact ⟨λ _ _ _=>rfl,by simp⟩|exact Yw (by assumption) (by assumption)|(repeat (first|(with_reducible assumption)|(with_reducible refine Zb _ ?_)|(with_reducible refine Zc ?_)|(with_reducible refine YH ?_ _)|(with_reducible refine ZT ?_ ?_ _)|(focus (simp;done))|(focus (simp;omega))|(focus omega))))
   (first|(go_at_call 204;go_must (first|((with_reducible refine (c1 _).mono ?_);rintro e w1 ⟨rfl,hb1⟩)|((with_reducible refine (c2 _).mono ?_);rintro e w2 ⟨rfl,hb2⟩))))
  have hbz:Below ((w.alloc (.cells #[.int .i64 g.a,.int .i64 g.b,.int .i64 g.c] 136)).alloc (.cells #[.int .i64 h.a,.int .i64 h.b,.int .i64 h.c] 136)).heap.size ((w.alloc (.cells #[.int .i64 g.a,.int .i64 g.b,.int .i64 g.c] 136)).alloc (.cells #[.int .i64 h.a,.int .i64 h.b,.int .i64 h.c] 136)) w2:=by exact Xl
  have r2:=Xh hbz;have l2:w.heap.size<w2.heap.size:=Xo hbz;have m2:w.heap.size+1<w2.heap.size:=Xo hbz;have hbw:Below w.heap.size w w2:=by exact Xl
  go_wp2_with (fail)
  refine (c3 _).mono ?_;rintro e w3 ⟨rfl,hb3⟩;go_wp2
  go_ret
  refine ⟨Xi e1.out.symm, ?_⟩;exact Xl
theorem iSame_c (g h:Half) (w:World) (hg:HOk g) (hh:HOk h) :
 Calls Tryz.prog 189 #[X3 g,X3 h] w λ e w'=>e=.returned (.bool (Yo g h))/\Below w.heap.size w w':=by
 have c1:=λ W=>iUpper_c g W;have c2:=λ W=>iUpper_c h W;have c3:=λ W=>iCross_c g h W hg hh;have hfin:Hid (Yo g h=(decide (XC g h=0)&&(Z0 g == Z0 h))):=rfl;clear hg hh;generalize Z0 g=u1 at *;generalize Z0 h=u2 at *;generalize XC g h=x at *;by_cases hx:x=0
 ·subst hx;have e1:=Lib.hid (show Yo g h=(u1 == u2) by rw [hfin.out];simp);clear hfin;go_enter Tryz.func189,Tryz.ntmps189
  go_upto_region 1 with fail
  go_region_held3 (λ w'=>(∀ b o,b<w.heap.size+1+1->w'.cell? ⟨b,o,none⟩=((w.alloc (.cells #[.int .i64 g.a,.int .i64 g.b,.int .i64 g.c] 136)).alloc (.cells #[.int .i64 h.a,.int .i64 h.b,.int .i64 h.c] 136)).cell? ⟨b,o,none⟩)/\w.heap.size+1+1<=w'.heap.size) (first|exact ⟨λ _ _ _=>rfl,by simp⟩|exact Yw (by assumption) (by assumption)|(repeat (first|(with_reducible assumption)|(with_reducible refine Zb _ ?_)|(with_reducible refine Zc ?_)|(with_reducible refine YH ?_ _)|(with_reducible refine ZT ?_ ?_ _)|(focus (simp;done))|(focus (simp;omega))|(focus omega))))
   (first|(go_at_call 171;go_must ((with_reducible refine (c3 _).mono ?_);rintro e w3 ⟨rfl,hb3⟩))|(go_at_call 204;go_must (first|((with_reducible refine (c1 _).mono ?_);rintro e w1 ⟨rfl,hb1⟩)|((with_reducible refine (c2 _).mono ?_);rintro e w2 ⟨rfl,hb2⟩))))
  all_goals
   go_wp2
   go_ret
   refine ⟨Xi e1.out.symm, ?_⟩;exact Xl
 ·have e1:=Lib.hid (show Yo g h=false by rw [hfin.out];simp [hx]);have hd:decide (x=0)=false:=decide_eq_false hx;have hd2:(x == 0)=false:=beq_eq_false_iff_ne.2 hx;clear hfin hx;go_enter Tryz.func189,Tryz.ntmps189
  go_upto_region 1 with fail
  go_region_with
   (first|(go_at_call 171;go_must ((with_reducible refine (c3 _).mono ?_);rintro e w3 ⟨rfl,hb3⟩))|(go_at_call 204;go_must (first|((with_reducible refine (c1 _).mono ?_);rintro e w1 ⟨rfl,hb1⟩)|((with_reducible refine (c2 _).mono ?_);rintro e w2 ⟨rfl,hb2⟩))))
  all_goals
   go_wp2
   go_ret
   refine ⟨Xi e1.out.symm, ?_⟩;exact Xl
theorem iSameD_c (g h:Half) (w:World) (hg:Xt g=true) (hh:Xt h=true) :
 Calls Tryz.prog 205 #[X3 g,X3 h] w λ e w'=>e=.returned (.bool (Yo g h))/\Below w.heap.size w w':=by
 have c1:=λ W=>JD g W (hIn (KS hg));have c2:=λ W=>JD h W (hIn (KS hh));have c3:=λ W=>iSame_c g h W (KS hg) (KS hh);rw [hg] at c1;rw [hh] at c2;clear hg hh;generalize Yo g h=s at *;go_enter Tryz.func205,Tryz.ntmps205
 go_wp2_with (fail)
 refine (c1 _).mono ?_;rintro e w1 ⟨rfl,hb_w1⟩;have r_w1:=Xh hb_w1;have l_w1_0:w.heap.size<w1.heap.size:=Xo hb_w1;have l_w1_1:w.heap.size+1<w1.heap.size:=Xo hb_w1;go_wp2_with (fail)
 refine (c2 _).mono ?_;rintro e w2 ⟨rfl,hb_w2⟩;have r_w2:=Xh hb_w2;have l_w2_0:w.heap.size<w2.heap.size:=Xo hb_w2;have l_w2_1:w.heap.size+1<w2.heap.size:=Xo hb_w2;go_wp2_with (fail)
 refine (c3 _).mono ?_;rintro e w3 ⟨rfl,hb_w3⟩;have r_w3:=Xh hb_w3;have l_w3_0:w.heap.size<w3.heap.size:=Xo hb_w3;have l_w3_1:w.heap.size+1<w3.heap.size:=Xo hb_w3;go_wp2
 go_ret
 refine ⟨rfl, ?_⟩;exact Xl
theorem iRoomy_c (g h:Half) (w:World) (hg:HOk g) (hh:HOk h) :
 Calls Tryz.prog 192 #[X3 g,X3 h] w λ e w'=>e=.returned (.bool (hroomy g h))/\Below w.heap.size w w':=by
 have c1:=λ W=>iSize_c g W hg;have c2:=λ W=>iSize_c h W hh;have p:=Zr (a:=g.c) (b:=X5 h) (A:=100000000) (B:=50000) hg.c (by have:=hsz_bd hh;omega);have q:=Zr (a:=h.c) (b:=X5 g) (A:=100000000) (B:=50000) hh.c (by have:=hsz_bd hg;omega);have hfin:Hid (hroomy g h=decide (0<g.c*X5 h+h.c*X5 g)):=rfl;clear hg hh;generalize X5 g=m at *;generalize X5 h=n at *;have p1:IntKind.i64.wrap (g.c*n)=g.c*n:=IntWalk.i64_in _ (by omega);have q1:IntKind.i64.wrap (h.c*m)=h.c*m:=IntWalk.i64_in _ (by omega);have s1:IntKind.i64.wrap (g.c*n+h.c*m)=g.c*n+h.c*m:=IntWalk.i64_in _ (by omega);go_enter Tryz.func192,Tryz.ntmps192
 go_upto_region 1 with fail
 go_region_held3 (λ w'=>(∀ b o,b<w.heap.size+1+1->w'.cell? ⟨b,o,none⟩=((w.alloc (.cells #[.int .i64 g.a,.int .i64 g.b,.int .i64 g.c] 136)).alloc (.cells #[.int .i64 h.a,.int .i64 h.b,.int .i64 h.c] 136)).cell? ⟨b,o,none⟩)/\w.heap.size+1+1<=w'.heap.size) (first|exact ⟨λ _ _ _=>rfl,by simp⟩|exact Yw (by assumption) (by assumption)|(repeat (first|(with_reducible assumption)|(with_reducible refine Zb _ ?_)|(with_reducible refine Zc ?_)|(with_reducible refine YH ?_ _)|(with_reducible refine ZT ?_ ?_ _)|(focus (simp;done))|(focus (simp;omega))|(focus omega))))
  (first|(go_at_call 206;go_must (first|((with_reducible refine (c1 _).mono ?_);rintro e w1 ⟨rfl,hb1⟩)|((with_reducible refine (c2 _).mono ?_);rintro e w2 ⟨rfl,hb2⟩))))
 all_goals
  go_wp2
  go_ret
  refine ⟨Xi hfin.out.symm, ?_⟩;exact Xl
theorem iTighter_c (g h:Half) (w:World) (hg:Xt g=true) (hh:Xt h=true) (hs:Yo g h=true) :
 Calls Tryz.prog 190 #[X3 g,X3 h] w λ e w'=>e=.returned (X3 (Zu g h))/\Below w.heap.size w w':=by
 have c0:=λ W=>iSameD_c g h W hg hh;rw [hs] at c0;have c1:=λ W=>iSize_c g W (KS hg);have c2:=λ W=>iSize_c h W (KS hh);have p:=Zr (a:=g.c) (b:=X5 h) (A:=100000000) (B:=50000) (KS hg).c (by have:=hsz_bd (KS hh);omega);have q:=Zr (a:=h.c) (b:=X5 g) (A:=100000000) (B:=50000) (KS hh).c (by have:=hsz_bd (KS hg);omega);have hfin:Hid (Zu g h=if h.c*X5 g<g.c*X5 h then h else g):=rfl;clear hg hh hs;generalize X5 g=m at *;generalize X5 h=n at *;have p1:IntKind.i64.wrap (g.c*n)=g.c*n:=IntWalk.i64_in _ Oz;have q1:IntKind.i64.wrap (h.c*m)=h.c*m:=IntWalk.i64_in _ Oz;have HG:XV (((w.alloc (.cells #[.int .i64 g.a,.int .i64 g.b,.int .i64 g.c] 136)).alloc (.cells #[.int .i64 h.a,.int .i64 h.b,.int .i64 h.c] 136)).alloc (.cells #[.int .i64 0,.int .i64 0,.int .i64 0] 136)) w.heap.size [.int .i64 g.a,.int .i64 g.b,.int .i64 g.c]:=by
  exact Ys
 have HH:XV (((w.alloc (.cells #[.int .i64 g.a,.int .i64 g.b,.int .i64 g.c] 136)).alloc (.cells #[.int .i64 h.a,.int .i64 h.b,.int .i64 h.c] 136)).alloc (.cells #[.int .i64 0,.int .i64 0,.int .i64 0] 136)) (w.heap.size+1) [.int .i64 h.a,.int .i64 h.b,.int .i64 h.c]:=by
  exact Ys
 have HR:XV (((w.alloc (.cells #[.int .i64 g.a,.int .i64 g.b,.int .i64 g.c] 136)).alloc (.cells #[.int .i64 h.a,.int .i64 h.b,.int .i64 h.c] 136)).alloc (.cells #[.int .i64 0,.int .i64 0,.int .i64 0] 136)) (w.heap.size+1+1) [.int .i64 0,.int .i64 0,.int .i64 0]:=by
  exact Ys
 have hbw:Below w.heap.size w (((w.alloc (.cells #[.int .i64 g.a,.int .i64 g.b,.int .i64 g.c] 136)).alloc (.cells #[.int .i64 h.a,.int .i64 h.b,.int .i64 h.c] 136)).alloc (.cells #[.int .i64 0,.int .i64 0,.int .i64 0] 136)):=by
  exact Xl
 go_enter Tryz.func190,Tryz.ntmps190
 go_wp2_with (fail)
 refine (c0 _).mono ?_;rintro e w0 ⟨rfl,hb0⟩;replace HG:=HG.below hb0;replace HH:=HH.below hb0;replace HR:=HR.below hb0;replace hbw:=Xe hbw hb0;clear hb0 c0;obtain ⟨cHG_0,fHG_0⟩:=HG.2 0 _ rfl;obtain ⟨cHG_1,fHG_1⟩:=HG.2 1 _ rfl;obtain ⟨cHG_2,fHG_2⟩:=HG.2 2 _ rfl;obtain ⟨cHH_0,fHH_0⟩:=HH.2 0 _ rfl;obtain ⟨cHH_1,fHH_1⟩:=HH.2 1 _ rfl;obtain ⟨cHH_2,fHH_2⟩:=HH.2 2 _ rfl;have l1:=HG.1;have l2:=HH.1;have l3:=HR.1;go_upto_region 3 with fail
 go_region_held3 (λ w'=>(∀ b o,b<w0.heap.size->w'.cell? ⟨b,o,none⟩=w0.cell? ⟨b,o,none⟩)/\w0.heap.size<=w'.heap.size) (first|exact ⟨λ _ _ _=>rfl,by simp⟩|exact Yw (by assumption) (by assumption)|(repeat (first|(with_reducible assumption)|(with_reducible refine Zb _ ?_)|(with_reducible refine Zc ?_)|(with_reducible refine YH ?_ _)|(with_reducible refine ZT ?_ ?_ _)|(focus (simp;done))|(focus (simp;omega))|(focus omega))))
  (first|(go_at_call 206;go_must (first|((with_reducible refine (c1 _).mono ?_);rintro e w1 ⟨rfl,hb1⟩)|((with_reducible refine (c2 _).mono ?_);rintro e w2 ⟨rfl,hb2⟩))))
 have B2:Below w0.heap.size w0 w2:=by exact Xl
 rename_i hh
 clear hh;clear cHG_0 cHG_1 cHG_2 fHG_0 fHG_1 fHG_2 cHH_0 cHH_1 cHH_2 fHH_0 fHH_1 fHH_2;replace HR:=HR.below B2;replace HG:=HG.below B2;replace HH:=HH.below B2;replace hbw:=Xe hbw B2;obtain ⟨cHR_0,fHR_0⟩:=HR.2 0 _ rfl;obtain ⟨cHR_1,fHR_1⟩:=HR.2 1 _ rfl;obtain ⟨cHR_2,fHR_2⟩:=HR.2 2 _ rfl;obtain ⟨cHG_0,fHG_0⟩:=HG.2 0 _ rfl;obtain ⟨cHG_1,fHG_1⟩:=HG.2 1 _ rfl;obtain ⟨cHG_2,fHG_2⟩:=HG.2 2 _ rfl;obtain ⟨cHH_0,fHH_0⟩:=HH.2 0 _ rfl;obtain ⟨cHH_1,fHH_1⟩:=HH.2 1 _ rfl;obtain ⟨cHH_2,fHH_2⟩:=HH.2 2 _ rfl;by_cases hle:h.c*m<g.c*n
 ·have hf:=Lib.hid (show Zu g h=h by rw [hfin.out,if_pos hle]);clear hfin;go_wp2
  refine bodyPost_ret (v:=.agg #[.int .i64 h.a,.int .i64 h.b,.int .i64 h.c]) (by simp [results,Tryz.results190,go_sem,cHR_0,cHR_1,cHR_2]) rfl ⟨by rw [hf.out], ?_⟩;exact Xl
 ·have hf:=Lib.hid (show Zu g h=g by rw [hfin.out,if_neg hle]);clear hfin;go_wp2
  refine bodyPost_ret (v:=.agg #[.int .i64 g.a,.int .i64 g.b,.int .i64 g.c]) (by simp [results,Tryz.results190,go_sem,cHR_0,cHR_1,cHR_2]) rfl ⟨by rw [hf.out], ?_⟩;exact Xl
theorem dot_same {g h:Half} (ng:KH g) (nh:KH h):(decide (g.a*h.b=h.a*g.b)&&decide (0<g.a*h.a+g.b*h.b))=Yo g h:=by
 have hc:(g.a*h.b=h.a*g.b) ↔ XC g h=0:=by unfold XC;rw [Int.mul_comm h.a g.b];omega
 rw [show decide (g.a*h.b=h.a*g.b)=decide (XC g h=0) from decide_eq_decide.2 hc];unfold Yo;by_cases h0:XC g h=0
 ·have sg:=YW ng;have sh:=YW nh;have hp:0<h.a*h.a+h.b*h.b:=nn2_pos nh;have k:=Int.mul_pos hp sg;rcases hpar ng nh h0 with ⟨h1,h2,h3⟩|⟨h1,h2,h3⟩
  ·rw [h1];have id:X5 h*(g.a*h.a+g.b*h.b)=(h.a*h.a+h.b*h.b)*X5 g:=by grind
   have:=gmp (a:=X5 h) (b:=g.a*h.a+g.b*h.b) Oz sh;simp [this]
  ·have id:X5 h*(g.a*h.a+g.b*h.b) = -((h.a*h.a+h.b*h.b)*X5 g):=by grind
   have:¬ 0<g.a*h.a+g.b*h.b:=by
    intro h4;have:=Int.mul_pos sh h4;omega
   rw [decide_eq_false this,show (Z0 g == Z0 h)=false from beq_eq_false_iff_ne.2 h1]
 ·rw [decide_eq_false h0];rfl
def JW (h:Half):Int:=max h.a (-h.a)+max h.b (-h.b)
theorem max_abs (x:Int):max x (-x)=(x.natAbs:Int):=Oz
theorem abs_scale {x y m n:Int} (hm:0<m) (hn:0<n) (h:x*m=y*n):max x (-x)*m=max y (-y)*n:=by
 rw [max_abs,max_abs];have:=congrArg (λ z=>(z.natAbs:Int)) h;simp only [Int.natAbs_mul,Int.natCast_mul] at this;have e1:(m.natAbs:Int)=m:=Oz
 have e2:(n.natAbs:Int)=n:=Oz
 rw [e1,e2] at this;exact this
theorem hn1_bd {h:Half} (e:HOk h):1<=JW h/\JW h<=100000:=by
 have h1:=e.a;have h2:=e.b;have h3:=e.n;unfold KH at h3;unfold JW;omega
theorem tight_n1 {g h:Half} (hg:HOk g) (hh:HOk h) (s:Yo g h=true):h.c*JW g<g.c*JW h ↔ h.c*X5 g<g.c*X5 h:=by
 obtain ⟨h1,h2⟩:=J2 hg.n hh.n s;have sg:=YW hg.n;have sh:=YW hh.n;have e1:=abs_scale sh sg h1;have e2:=abs_scale sh sg h2;have b:=hn1_bd hh;have e:JW g*X5 h=JW h*X5 g:=by unfold JW;grind
 have id:X5 h*(g.c*JW h-h.c*JW g)=JW h*(g.c*X5 h-h.c*X5 g):=by grind
 have:=(gsign_eq sh (show 0<JW h by omega) id).1;omega
theorem sUpper_c (h:Half) (w:World) :
 Calls Tryz.prog 202 #[X3 h] w λ e w'=>e=.returned (.int .i64 (if Z0 h=true then 0 else 1))/\Below w.heap.size w w':=by
 obtain ⟨r,hr⟩:∃ r:Int,r=(if Z0 h=true then (0:Int) else 1):=⟨_,rfl⟩;rw [<- hr];by_cases h1:0<h.b
 ·have e1:=Lib.hid (show r=0 by rw [hr];simp [Z0,h1]);clear hr;go_enter Tryz.func202,Tryz.ntmps202
  go_wp2
  go_ret
  refine ⟨YB e1.out.symm, ?_⟩;exact Xl
 ·by_cases h2:h.b=0
  ·by_cases h3:0<h.a
   ·have e1:=Lib.hid (show r=0 by rw [hr];simp [Z0,h2,h3]);clear hr;go_enter Tryz.func202,Tryz.ntmps202
    go_wp2
    go_ret
    refine ⟨YB e1.out.symm, ?_⟩;exact Xl
   ·have e1:=Lib.hid (show r=1 by rw [hr];simp [Z0,h2,h3]);clear hr;go_enter Tryz.func202,Tryz.ntmps202
    go_wp2
    go_ret
    refine ⟨YB e1.out.symm, ?_⟩;exact Xl
  ·have e1:=Lib.hid (show r=1 by rw [hr];simp [Z0,h1,h2]);clear hr;go_enter Tryz.func202,Tryz.ntmps202
   go_wp2
   go_ret
   refine ⟨YB e1.out.symm, ?_⟩;exact Xl
theorem sBef_c (g h:Half) (w:World) (hg:Xt g=true) (hh:Xt h=true) :
 Calls Tryz.prog 180 #[X3 g,X3 h] w λ e w'=>e=.returned (.bool (ZU g h))/\Below w.heap.size w w':=by
 have k1:=λ W=>JY g W (hIn (KS hg));have k2:=λ W=>JY h W (hIn (KS hh));rw [hg] at k1;rw [hh] at k2;have c1:=λ W=>sUpper_c g W;have c2:=λ W=>sUpper_c h W;obtain ⟨⟨p1,p2⟩,⟨q1,q2⟩⟩:=crB (KS hg) (KS hh);have hx:XC g h=g.a*h.b-h.a*g.b:=by unfold XC;rw [Int.mul_comm h.a g.b]
 rw [Int.mul_comm g.b h.a] at q1 q2;have hfin:Hid (ZU g h=if Z0 g=Z0 h then decide (0<g.a*h.b-h.a*g.b) else Z0 g):=by rw [<- hx];rfl
 clear hg hh hx;generalize Z0 g=u1 at *;generalize Z0 h=u2 at *;cases u1<;>cases u2
 ·have e1:=Lib.hid (show ZU g h=decide (0<g.a*h.b-h.a*g.b) by rw [hfin.out];rfl);clear hfin;have HG:XV ((w.alloc (.cells #[.int .i64 g.a,.int .i64 g.b,.int .i64 g.c] 136)).alloc (.cells #[.int .i64 h.a,.int .i64 h.b,.int .i64 h.c] 136)) w.heap.size [.int .i64 g.a,.int .i64 g.b,.int .i64 g.c]:=by
   exact Ys
  have HH:XV ((w.alloc (.cells #[.int .i64 g.a,.int .i64 g.b,.int .i64 g.c] 136)).alloc (.cells #[.int .i64 h.a,.int .i64 h.b,.int .i64 h.c] 136)) (w.heap.size+1) [.int .i64 h.a,.int .i64 h.b,.int .i64 h.c]:=by
   exact Ys
  have hbw:Below w.heap.size w ((w.alloc (.cells #[.int .i64 g.a,.int .i64 g.b,.int .i64 g.c] 136)).alloc (.cells #[.int .i64 h.a,.int .i64 h.b,.int .i64 h.c] 136)):=by
   exact Xl
  go_enter Tryz.func180,Tryz.ntmps180
  go_wp2_with (fail)
  refine (k1 _).mono ?_;rintro e w1 ⟨rfl,hb_w1⟩;have r_w1:=Xh hb_w1;have l_w1_0:w.heap.size<w1.heap.size:=Xo hb_w1;have l_w1_1:w.heap.size+1<w1.heap.size:=Xo hb_w1;go_wp2_with (fail)
  refine (k2 _).mono ?_;rintro e w2 ⟨rfl,hb_w2⟩;have r_w2:=Xh hb_w2;have l_w2_0:w.heap.size<w2.heap.size:=Xo hb_w2;have l_w2_1:w.heap.size+1<w2.heap.size:=Xo hb_w2;replace HG:=(HG.below hb_w1).below hb_w2;replace HH:=(HH.below hb_w1).below hb_w2;replace hbw:=Xe (Xe hbw hb_w1) hb_w2;clear hb_w1 r_w1 l_w1_0 l_w1_1 hb_w2 r_w2 l_w2_0 l_w2_1;obtain ⟨cHG_0,fHG_0⟩:=HG.2 0 _ rfl;obtain ⟨cHG_1,fHG_1⟩:=HG.2 1 _ rfl;obtain ⟨cHG_2,fHG_2⟩:=HG.2 2 _ rfl;obtain ⟨cHH_0,fHH_0⟩:=HH.2 0 _ rfl;obtain ⟨cHH_1,fHH_1⟩:=HH.2 1 _ rfl;obtain ⟨cHH_2,fHH_2⟩:=HH.2 2 _ rfl;have lG:=HG.1;have lH:=HH.1;go_upto_region 3 with fail
  go_region_held3 (λ w'=>(∀ b o,b<w2.heap.size->w'.cell? ⟨b,o,none⟩=w2.cell? ⟨b,o,none⟩)/\w2.heap.size<=w'.heap.size) (first|exact ⟨λ _ _ _=>rfl,by simp⟩|exact Yw (by assumption) (by assumption)|(repeat (first|(with_reducible assumption)|(with_reducible refine Zb _ ?_)|(with_reducible refine Zc ?_)|(with_reducible refine YH ?_ _)|(with_reducible refine ZT ?_ ?_ _)|(focus (simp;done))|(focus (simp;omega))|(focus omega))))
   (first|(go_at_call 202;go_must (first|((with_reducible refine (c1 _).mono ?_);rintro e w3 ⟨rfl,hbw3⟩)|((with_reducible refine (c2 _).mono ?_);rintro e w4 ⟨rfl,hbw4⟩))))
  rename_i hheld
  clear hheld;have Bw4:Below w2.heap.size w2 w4:=by exact Xl
  clear cHG_0 cHG_1 cHG_2 fHG_0 fHG_1 fHG_2 cHH_0 cHH_1 cHH_2 fHH_0 fHH_1 fHH_2;replace HG:=HG.below Bw4;replace HH:=HH.below Bw4;replace hbw:=Xe hbw Bw4;obtain ⟨cHG_0,fHG_0⟩:=HG.2 0 _ rfl;obtain ⟨cHG_1,fHG_1⟩:=HG.2 1 _ rfl;obtain ⟨cHG_2,fHG_2⟩:=HG.2 2 _ rfl;obtain ⟨cHH_0,fHH_0⟩:=HH.2 0 _ rfl;obtain ⟨cHH_1,fHH_1⟩:=HH.2 1 _ rfl;obtain ⟨cHH_2,fHH_2⟩:=HH.2 2 _ rfl;have lGw4:=HG.1;have lHw4:=HH.1;go_wp2
  go_ret
  refine ⟨Xi (by rw [e1.out];exact decide_eq_decide.2 Oz), ?_⟩;exact Xl
 ·have e1:=Lib.hid (show ZU g h=false by rw [hfin.out];rfl);clear hfin;have HG:XV ((w.alloc (.cells #[.int .i64 g.a,.int .i64 g.b,.int .i64 g.c] 136)).alloc (.cells #[.int .i64 h.a,.int .i64 h.b,.int .i64 h.c] 136)) w.heap.size [.int .i64 g.a,.int .i64 g.b,.int .i64 g.c]:=by
   exact Ys
  have HH:XV ((w.alloc (.cells #[.int .i64 g.a,.int .i64 g.b,.int .i64 g.c] 136)).alloc (.cells #[.int .i64 h.a,.int .i64 h.b,.int .i64 h.c] 136)) (w.heap.size+1) [.int .i64 h.a,.int .i64 h.b,.int .i64 h.c]:=by
   exact Ys
  have hbw:Below w.heap.size w ((w.alloc (.cells #[.int .i64 g.a,.int .i64 g.b,.int .i64 g.c] 136)).alloc (.cells #[.int .i64 h.a,.int .i64 h.b,.int .i64 h.c] 136)):=by
   exact Xl
  go_enter Tryz.func180,Tryz.ntmps180
  go_wp2_with (fail)
  refine (k1 _).mono ?_;rintro e w1 ⟨rfl,hb_w1⟩;have r_w1:=Xh hb_w1;have l_w1_0:w.heap.size<w1.heap.size:=Xo hb_w1;have l_w1_1:w.heap.size+1<w1.heap.size:=Xo hb_w1;go_wp2_with (fail)
  refine (k2 _).mono ?_;rintro e w2 ⟨rfl,hb_w2⟩;have r_w2:=Xh hb_w2;have l_w2_0:w.heap.size<w2.heap.size:=Xo hb_w2;have l_w2_1:w.heap.size+1<w2.heap.size:=Xo hb_w2;replace HG:=(HG.below hb_w1).below hb_w2;replace HH:=(HH.below hb_w1).below hb_w2;replace hbw:=Xe (Xe hbw hb_w1) hb_w2;clear hb_w1 r_w1 l_w1_0 l_w1_1 hb_w2 r_w2 l_w2_0 l_w2_1;obtain ⟨cHG_0,fHG_0⟩:=HG.2 0 _ rfl;obtain ⟨cHG_1,fHG_1⟩:=HG.2 1 _ rfl;obtain ⟨cHG_2,fHG_2⟩:=HG.2 2 _ rfl;obtain ⟨cHH_0,fHH_0⟩:=HH.2 0 _ rfl;obtain ⟨cHH_1,fHH_1⟩:=HH.2 1 _ rfl;obtain ⟨cHH_2,fHH_2⟩:=HH.2 2 _ rfl;have lG:=HG.1;have lH:=HH.1;go_upto_region 3 with fail
  go_region_held3 (λ w'=>(∀ b o,b<w2.heap.size->w'.cell? ⟨b,o,none⟩=w2.cell? ⟨b,o,none⟩)/\w2.heap.size<=w'.heap.size) (first|exact ⟨λ _ _ _=>rfl,by simp⟩|exact Yw (by assumption) (by assumption)|(repeat (first|(with_reducible assumption)|(with_reducible refine Zb _ ?_)|(with_reducible refine Zc ?_)|(with_reducible refine YH ?_ _)|(with_reducible refine ZT ?_ ?_ _)|(focus (simp;done))|(focus (simp;omega))|(focus omega))))
   (first|(go_at_call 202;go_must (first|((with_reducible refine (c1 _).mono ?_);rintro e w3 ⟨rfl,hbw3⟩)|((with_reducible refine (c2 _).mono ?_);rintro e w4 ⟨rfl,hbw4⟩))))
  rename_i hheld
  clear hheld;have Bw4:Below w2.heap.size w2 w4:=by exact Xl
  clear cHG_0 cHG_1 cHG_2 fHG_0 fHG_1 fHG_2 cHH_0 cHH_1 cHH_2 fHH_0 fHH_1 fHH_2;replace HG:=HG.below Bw4;replace HH:=HH.below Bw4;replace hbw:=Xe hbw Bw4;obtain ⟨cHG_0,fHG_0⟩:=HG.2 0 _ rfl;obtain ⟨cHG_1,fHG_1⟩:=HG.2 1 _ rfl;obtain ⟨cHG_2,fHG_2⟩:=HG.2 2 _ rfl;obtain ⟨cHH_0,fHH_0⟩:=HH.2 0 _ rfl;obtain ⟨cHH_1,fHH_1⟩:=HH.2 1 _ rfl;obtain ⟨cHH_2,fHH_2⟩:=HH.2 2 _ rfl;have lGw4:=HG.1;have lHw4:=HH.1;go_upto_region 4 with fail
  go_region_held3 (λ w'=>(∀ b o,b<w4.heap.size->w'.cell? ⟨b,o,none⟩=w4.cell? ⟨b,o,none⟩)/\w4.heap.size<=w'.heap.size) (first|exact ⟨λ _ _ _=>rfl,by simp⟩|exact Yw (by assumption) (by assumption)|(repeat (first|(with_reducible assumption)|(with_reducible refine Zb _ ?_)|(with_reducible refine Zc ?_)|(with_reducible refine YH ?_ _)|(with_reducible refine ZT ?_ ?_ _)|(focus (simp;done))|(focus (simp;omega))|(focus omega))))
   (first|(go_at_call 202;go_must (first|((with_reducible refine (c1 _).mono ?_);rintro e w5 ⟨rfl,hbw5⟩)|((with_reducible refine (c2 _).mono ?_);rintro e w6 ⟨rfl,hbw6⟩))))
  rename_i hheld
  clear hheld;have Bw6:Below w4.heap.size w4 w6:=by exact Xl
  clear cHG_0 cHG_1 cHG_2 fHG_0 fHG_1 fHG_2 cHH_0 cHH_1 cHH_2 fHH_0 fHH_1 fHH_2;replace HG:=HG.below Bw6;replace HH:=HH.below Bw6;replace hbw:=Xe hbw Bw6;obtain ⟨cHG_0,fHG_0⟩:=HG.2 0 _ rfl;obtain ⟨cHG_1,fHG_1⟩:=HG.2 1 _ rfl;obtain ⟨cHG_2,fHG_2⟩:=HG.2 2 _ rfl;obtain ⟨cHH_0,fHH_0⟩:=HH.2 0 _ rfl;obtain ⟨cHH_1,fHH_1⟩:=HH.2 1 _ rfl;obtain ⟨cHH_2,fHH_2⟩:=HH.2 2 _ rfl;have lGw6:=HG.1;have lHw6:=HH.1;go_wp2
  go_ret
  refine ⟨Xi e1.out.symm, ?_⟩;exact Xl
 ·have e1:=Lib.hid (show ZU g h=true by rw [hfin.out];rfl);clear hfin;have HG:XV ((w.alloc (.cells #[.int .i64 g.a,.int .i64 g.b,.int .i64 g.c] 136)).alloc (.cells #[.int .i64 h.a,.int .i64 h.b,.int .i64 h.c] 136)) w.heap.size [.int .i64 g.a,.int .i64 g.b,.int .i64 g.c]:=by
   exact Ys
  have HH:XV ((w.alloc (.cells #[.int .i64 g.a,.int .i64 g.b,.int .i64 g.c] 136)).alloc (.cells #[.int .i64 h.a,.int .i64 h.b,.int .i64 h.c] 136)) (w.heap.size+1) [.int .i64 h.a,.int .i64 h.b,.int .i64 h.c]:=by
   exact Ys
  have hbw:Below w.heap.size w ((w.alloc (.cells #[.int .i64 g.a,.int .i64 g.b,.int .i64 g.c] 136)).alloc (.cells #[.int .i64 h.a,.int .i64 h.b,.int .i64 h.c] 136)):=by
   exact Xl
  go_enter Tryz.func180,Tryz.ntmps180
  go_wp2_with (fail)
  refine (k1 _).mono ?_;rintro e w1 ⟨rfl,hb_w1⟩;have r_w1:=Xh hb_w1;have l_w1_0:w.heap.size<w1.heap.size:=Xo hb_w1;have l_w1_1:w.heap.size+1<w1.heap.size:=Xo hb_w1;go_wp2_with (fail)
  refine (k2 _).mono ?_;rintro e w2 ⟨rfl,hb_w2⟩;have r_w2:=Xh hb_w2;have l_w2_0:w.heap.size<w2.heap.size:=Xo hb_w2;have l_w2_1:w.heap.size+1<w2.heap.size:=Xo hb_w2;replace HG:=(HG.below hb_w1).below hb_w2;replace HH:=(HH.below hb_w1).below hb_w2;replace hbw:=Xe (Xe hbw hb_w1) hb_w2;clear hb_w1 r_w1 l_w1_0 l_w1_1 hb_w2 r_w2 l_w2_0 l_w2_1;obtain ⟨cHG_0,fHG_0⟩:=HG.2 0 _ rfl;obtain ⟨cHG_1,fHG_1⟩:=HG.2 1 _ rfl;obtain ⟨cHG_2,fHG_2⟩:=HG.2 2 _ rfl;obtain ⟨cHH_0,fHH_0⟩:=HH.2 0 _ rfl;obtain ⟨cHH_1,fHH_1⟩:=HH.2 1 _ rfl;obtain ⟨cHH_2,fHH_2⟩:=HH.2 2 _ rfl;have lG:=HG.1;have lH:=HH.1;go_upto_region 3 with fail
  go_region_held3 (λ w'=>(∀ b o,b<w2.heap.size->w'.cell? ⟨b,o,none⟩=w2.cell? ⟨b,o,none⟩)/\w2.heap.size<=w'.heap.size) (first|exact ⟨λ _ _ _=>rfl,by simp⟩|exact Yw (by assumption) (by assumption)|(repeat (first|(with_reducible assumption)|(with_reducible refine Zb _ ?_)|(with_reducible refine Zc ?_)|(with_reducible refine YH ?_ _)|(with_reducible refine ZT ?_ ?_ _)|(focus (simp;done))|(focus (simp;omega))|(focus omega))))
   (first|(go_at_call 202;go_must (first|((with_reducible refine (c1 _).mono ?_);rintro e w3 ⟨rfl,hbw3⟩)|((with_reducible refine (c2 _).mono ?_);rintro e w4 ⟨rfl,hbw4⟩))))
  rename_i hheld
  clear hheld;have Bw4:Below w2.heap.size w2 w4:=by exact Xl
  clear cHG_0 cHG_1 cHG_2 fHG_0 fHG_1 fHG_2 cHH_0 cHH_1 cHH_2 fHH_0 fHH_1 fHH_2;replace HG:=HG.below Bw4;replace HH:=HH.below Bw4;replace hbw:=Xe hbw Bw4;obtain ⟨cHG_0,fHG_0⟩:=HG.2 0 _ rfl;obtain ⟨cHG_1,fHG_1⟩:=HG.2 1 _ rfl;obtain ⟨cHG_2,fHG_2⟩:=HG.2 2 _ rfl;obtain ⟨cHH_0,fHH_0⟩:=HH.2 0 _ rfl;obtain ⟨cHH_1,fHH_1⟩:=HH.2 1 _ rfl;obtain ⟨cHH_2,fHH_2⟩:=HH.2 2 _ rfl;have lGw4:=HG.1;have lHw4:=HH.1;go_upto_region 4 with fail
  go_region_held3 (λ w'=>(∀ b o,b<w4.heap.size->w'.cell? ⟨b,o,none⟩=w4.cell? ⟨b,o,none⟩)/\w4.heap.size<=w'.heap.size) (first|exact ⟨λ _ _ _=>rfl,by simp⟩|exact Yw (by assumption) (by assumption)|(repeat (first|(with_reducible assumption)|(with_reducible refine Zb _ ?_)|(with_reducible refine Zc ?_)|(with_reducible refine YH ?_ _)|(with_reducible refine ZT ?_ ?_ _)|(focus (simp;done))|(focus (simp;omega))|(focus omega))))
   (first|(go_at_call 202;go_must (first|((with_reducible refine (c1 _).mono ?_);rintro e w5 ⟨rfl,hbw5⟩)|((with_reducible refine (c2 _).mono ?_);rintro e w6 ⟨rfl,hbw6⟩))))
  rename_i hheld
  clear hheld;have Bw6:Below w4.heap.size w4 w6:=by exact Xl
  clear cHG_0 cHG_1 cHG_2 fHG_0 fHG_1 fHG_2 cHH_0 cHH_1 cHH_2 fHH_0 fHH_1 fHH_2;replace HG:=HG.below Bw6;replace HH:=HH.below Bw6;replace hbw:=Xe hbw Bw6;obtain ⟨cHG_0,fHG_0⟩:=HG.2 0 _ rfl;obtain ⟨cHG_1,fHG_1⟩:=HG.2 1 _ rfl;obtain ⟨cHG_2,fHG_2⟩:=HG.2 2 _ rfl;obtain ⟨cHH_0,fHH_0⟩:=HH.2 0 _ rfl;obtain ⟨cHH_1,fHH_1⟩:=HH.2 1 _ rfl;obtain ⟨cHH_2,fHH_2⟩:=HH.2 2 _ rfl;have lGw6:=HG.1;have lHw6:=HH.1;go_wp2
  go_ret
  refine ⟨Xi e1.out.symm, ?_⟩;exact Xl
 ·have e1:=Lib.hid (show ZU g h=decide (0<g.a*h.b-h.a*g.b) by rw [hfin.out];rfl);clear hfin;have HG:XV ((w.alloc (.cells #[.int .i64 g.a,.int .i64 g.b,.int .i64 g.c] 136)).alloc (.cells #[.int .i64 h.a,.int .i64 h.b,.int .i64 h.c] 136)) w.heap.size [.int .i64 g.a,.int .i64 g.b,.int .i64 g.c]:=by
   exact Ys
  have HH:XV ((w.alloc (.cells #[.int .i64 g.a,.int .i64 g.b,.int .i64 g.c] 136)).alloc (.cells #[.int .i64 h.a,.int .i64 h.b,.int .i64 h.c] 136)) (w.heap.size+1) [.int .i64 h.a,.int .i64 h.b,.int .i64 h.c]:=by
   exact Ys
  have hbw:Below w.heap.size w ((w.alloc (.cells #[.int .i64 g.a,.int .i64 g.b,.int .i64 g.c] 136)).alloc (.cells #[.int .i64 h.a,.int .i64 h.b,.int .i64 h.c] 136)):=by
   exact Xl
  go_enter Tryz.func180,Tryz.ntmps180
  go_wp2_with (fail)
  refine (k1 _).mono ?_;rintro e w1 ⟨rfl,hb_w1⟩;have r_w1:=Xh hb_w1;have l_w1_0:w.heap.size<w1.heap.size:=Xo hb_w1;have l_w1_1:w.heap.size+1<w1.heap.size:=Xo hb_w1;go_wp2_with (fail)
  refine (k2 _).mono ?_;rintro e w2 ⟨rfl,hb_w2⟩;have r_w2:=Xh hb_w2;have l_w2_0:w.heap.size<w2.heap.size:=Xo hb_w2;have l_w2_1:w.heap.size+1<w2.heap.size:=Xo hb_w2;replace HG:=(HG.below hb_w1).below hb_w2;replace HH:=(HH.below hb_w1).below hb_w2;replace hbw:=Xe (Xe hbw hb_w1) hb_w2;clear hb_w1 r_w1 l_w1_0 l_w1_1 hb_w2 r_w2 l_w2_0 l_w2_1;obtain ⟨cHG_0,fHG_0⟩:=HG.2 0 _ rfl;obtain ⟨cHG_1,fHG_1⟩:=HG.2 1 _ rfl;obtain ⟨cHG_2,fHG_2⟩:=HG.2 2 _ rfl;obtain ⟨cHH_0,fHH_0⟩:=HH.2 0 _ rfl;obtain ⟨cHH_1,fHH_1⟩:=HH.2 1 _ rfl;obtain ⟨cHH_2,fHH_2⟩:=HH.2 2 _ rfl;have lG:=HG.1;have lH:=HH.1;go_upto_region 3 with fail
  go_region_held3 (λ w'=>(∀ b o,b<w2.heap.size->w'.cell? ⟨b,o,none⟩=w2.cell? ⟨b,o,none⟩)/\w2.heap.size<=w'.heap.size) (first|exact ⟨λ _ _ _=>rfl,by simp⟩|exact Yw (by assumption) (by assumption)|(repeat (first|(with_reducible assumption)|(with_reducible refine Zb _ ?_)|(with_reducible refine Zc ?_)|(with_reducible refine YH ?_ _)|(with_reducible refine ZT ?_ ?_ _)|(focus (simp;done))|(focus (simp;omega))|(focus omega))))
   (first|(go_at_call 202;go_must (first|((with_reducible refine (c1 _).mono ?_);rintro e w3 ⟨rfl,hbw3⟩)|((with_reducible refine (c2 _).mono ?_);rintro e w4 ⟨rfl,hbw4⟩))))
  rename_i hheld
  clear hheld;have Bw4:Below w2.heap.size w2 w4:=by exact Xl
  clear cHG_0 cHG_1 cHG_2 fHG_0 fHG_1 fHG_2 cHH_0 cHH_1 cHH_2 fHH_0 fHH_1 fHH_2;replace HG:=HG.below Bw4;replace HH:=HH.below Bw4;replace hbw:=Xe hbw Bw4;obtain ⟨cHG_0,fHG_0⟩:=HG.2 0 _ rfl;obtain ⟨cHG_1,fHG_1⟩:=HG.2 1 _ rfl;obtain ⟨cHG_2,fHG_2⟩:=HG.2 2 _ rfl;obtain ⟨cHH_0,fHH_0⟩:=HH.2 0 _ rfl;obtain ⟨cHH_1,fHH_1⟩:=HH.2 1 _ rfl;obtain ⟨cHH_2,fHH_2⟩:=HH.2 2 _ rfl;have lGw4:=HG.1;have lHw4:=HH.1;go_wp2
  go_ret
  refine ⟨Xi (by rw [e1.out];exact decide_eq_decide.2 Oz), ?_⟩;exact Xl
theorem sSame_c (g h:Half) (w:World) (hg:Xt g=true) (hh:Xt h=true) :
 Calls Tryz.prog 181 #[X3 g,X3 h] w λ e w'=>e=.returned (.bool (Yo g h))/\Below w.heap.size w w':=by
 have k1:=λ W=>JY g W (hIn (KS hg));have k2:=λ W=>JY h W (hIn (KS hh));rw [hg] at k1;rw [hh] at k2;obtain ⟨⟨p1,p2⟩,⟨q1,q2⟩⟩:=crB (KS hg) (KS hh);rw [Int.mul_comm g.b h.a] at q1 q2;have r1:=Zr (a:=g.a) (b:=h.a) (A:=50000) (B:=50000) (KS hg).a (KS hh).a;have r2:=Zr (a:=g.b) (b:=h.b) (A:=50000) (B:=50000) (KS hg).b (KS hh).b;have hfin:=Lib.hid (dot_same (KS hg).n (KS hh).n);clear hg hh;generalize Yo g h=s at *;by_cases hx:g.a*h.b=h.a*g.b
 ·have e1:=Lib.hid (show s=decide (0<g.a*h.a+g.b*h.b) by rw [<- hfin.out,decide_eq_true hx];rfl);have hx2:(g.a*h.b == h.a*g.b)=true:=beq_iff_eq.2 hx;clear hfin hx;go_enter Tryz.func181,Tryz.ntmps181
  go_wp2_with (fail)
  refine (k1 _).mono ?_;rintro e w1 ⟨rfl,hb_w1⟩;have r_w1:=Xh hb_w1;have l_w1_0:w.heap.size<w1.heap.size:=Xo hb_w1;have l_w1_1:w.heap.size+1<w1.heap.size:=Xo hb_w1;go_wp2_with (fail)
  refine (k2 _).mono ?_;rintro e w2 ⟨rfl,hb_w2⟩;have r_w2:=Xh hb_w2;have l_w2_0:w.heap.size<w2.heap.size:=Xo hb_w2;have l_w2_1:w.heap.size+1<w2.heap.size:=Xo hb_w2;go_wp2
  go_ret
  refine ⟨Xi e1.out.symm, ?_⟩;exact Xl
 ·have e1:=Lib.hid (show s=false by rw [<- hfin.out,decide_eq_false hx];rfl);have hx2:(g.a*h.b == h.a*g.b)=false:=beq_eq_false_iff_ne.2 hx;clear hfin hx;go_enter Tryz.func181,Tryz.ntmps181
  go_wp2_with (fail)
  refine (k1 _).mono ?_;rintro e w1 ⟨rfl,hb_w1⟩;have r_w1:=Xh hb_w1;have l_w1_0:w.heap.size<w1.heap.size:=Xo hb_w1;have l_w1_1:w.heap.size+1<w1.heap.size:=Xo hb_w1;go_wp2_with (fail)
  refine (k2 _).mono ?_;rintro e w2 ⟨rfl,hb_w2⟩;have r_w2:=Xh hb_w2;have l_w2_0:w.heap.size<w2.heap.size:=Xo hb_w2;have l_w2_1:w.heap.size+1<w2.heap.size:=Xo hb_w2;go_wp2
  go_ret
  refine ⟨Xi e1.out.symm, ?_⟩;exact Xl
theorem sTighter_c (g h:Half) (w:World) (hg:Xt g=true) (hh:Xt h=true) (hs:Yo g h=true) :
 Calls Tryz.prog 182 #[X3 g,X3 h] w λ e w'=>e=.returned (X3 (Zu g h))/\Below w.heap.size w w':=by
 have c0:=λ W=>sSame_c g h W hg hh;rw [hs] at c0;have b1:=hn1_bd (KS hg);have b2:=hn1_bd (KS hh);have p:=Zr (a:=g.c) (b:=JW h) (A:=100000000) (B:=100000) (KS hg).c Oz;have q:=Zr (a:=h.c) (b:=JW g) (A:=100000000) (B:=100000) (KS hh).c Oz;have hfin:Hid (Zu g h=if h.c*JW g<g.c*JW h then h else g):=by
  unfold Hid Zu;by_cases e:h.c*JW g<g.c*JW h
  ·rw [if_pos e,if_pos ((tight_n1 (KS hg) (KS hh) hs).1 e)]
  ·rw [if_neg e,if_neg (λ e2=>e ((tight_n1 (KS hg) (KS hh) hs).2 e2))]
 obtain ⟨⟨a1,a2⟩,⟨a3,a4⟩,_,_⟩:=KS hg;obtain ⟨⟨a5,a6⟩,⟨a7,a8⟩,_,_⟩:=KS hh;clear hg hh hs;have em:g.a.natAbs+g.b.natAbs=JW g:=by unfold JW;omega
 have en:h.a.natAbs+h.b.natAbs=JW h:=by unfold JW;omega
 have f1:(if g.a < -g.a then -g.a else g.a)=(g.a.natAbs:Int):=Oz
 have f2:(if g.b < -g.b then -g.b else g.b)=(g.b.natAbs:Int):=Oz
 have f3:(if h.a < -h.a then -h.a else h.a)=(h.a.natAbs:Int):=Oz
 have f4:(if h.b < -h.b then -h.b else h.b)=(h.b.natAbs:Int):=Oz
 have n1:(0:Int)<=(g.a.natAbs:Int)/\(g.a.natAbs:Int)<=50000:=Oz
 have n2:(0:Int)<=(g.b.natAbs:Int)/\(g.b.natAbs:Int)<=50000:=Oz
 have n3:(0:Int)<=(h.a.natAbs:Int)/\(h.a.natAbs:Int)<=50000:=Oz
 have n4:(0:Int)<=(h.b.natAbs:Int)/\(h.b.natAbs:Int)<=50000:=Oz
 generalize (g.a.natAbs:Int)=A1 at *;generalize (g.b.natAbs:Int)=A2 at *;generalize (h.a.natAbs:Int)=A3 at *;generalize (h.b.natAbs:Int)=A4 at *;obtain ⟨n1,n1'⟩:=n1;obtain ⟨n2,n2'⟩:=n2;obtain ⟨n3,n3'⟩:=n3;obtain ⟨n4,n4'⟩:=n4;generalize JW g=m at *;generalize JW h=n at *;have HG:XV (((w.alloc (.cells #[.int .i64 g.a,.int .i64 g.b,.int .i64 g.c] 136)).alloc (.cells #[.int .i64 h.a,.int .i64 h.b,.int .i64 h.c] 136)).alloc (.cells #[.int .i64 0,.int .i64 0,.int .i64 0] 136)) w.heap.size [.int .i64 g.a,.int .i64 g.b,.int .i64 g.c]:=by
  exact Ys
 have HH:XV (((w.alloc (.cells #[.int .i64 g.a,.int .i64 g.b,.int .i64 g.c] 136)).alloc (.cells #[.int .i64 h.a,.int .i64 h.b,.int .i64 h.c] 136)).alloc (.cells #[.int .i64 0,.int .i64 0,.int .i64 0] 136)) (w.heap.size+1) [.int .i64 h.a,.int .i64 h.b,.int .i64 h.c]:=by
  exact Ys
 have HR:XV (((w.alloc (.cells #[.int .i64 g.a,.int .i64 g.b,.int .i64 g.c] 136)).alloc (.cells #[.int .i64 h.a,.int .i64 h.b,.int .i64 h.c] 136)).alloc (.cells #[.int .i64 0,.int .i64 0,.int .i64 0] 136)) (w.heap.size+1+1) [.int .i64 0,.int .i64 0,.int .i64 0]:=by
  exact Ys
 have hbw:Below w.heap.size w (((w.alloc (.cells #[.int .i64 g.a,.int .i64 g.b,.int .i64 g.c] 136)).alloc (.cells #[.int .i64 h.a,.int .i64 h.b,.int .i64 h.c] 136)).alloc (.cells #[.int .i64 0,.int .i64 0,.int .i64 0] 136)):=by
  exact Xl
 go_enter Tryz.func182,Tryz.ntmps182
 go_wp2_with (fail)
 refine (c0 _).mono ?_;rintro e w0 ⟨rfl,hb0⟩;replace HG:=HG.below hb0;replace HH:=HH.below hb0;replace HR:=HR.below hb0;replace hbw:=Xe hbw hb0;clear hb0 c0;obtain ⟨cHG_0,fHG_0⟩:=HG.2 0 _ rfl;obtain ⟨cHG_1,fHG_1⟩:=HG.2 1 _ rfl;obtain ⟨cHG_2,fHG_2⟩:=HG.2 2 _ rfl;obtain ⟨cHH_0,fHH_0⟩:=HH.2 0 _ rfl;obtain ⟨cHH_1,fHH_1⟩:=HH.2 1 _ rfl;obtain ⟨cHH_2,fHH_2⟩:=HH.2 2 _ rfl;obtain ⟨cHR_0,fHR_0⟩:=HR.2 0 _ rfl;obtain ⟨cHR_1,fHR_1⟩:=HR.2 1 _ rfl;obtain ⟨cHR_2,fHR_2⟩:=HR.2 2 _ rfl;have l1:=HG.1;have l2:=HH.1;have l3:=HR.1;go_upto_region 5 with fail
 obtain ⟨p1,p2⟩:=p;obtain ⟨q1,q2⟩:=q;by_cases hle:h.c*m<g.c*n
 ·have hf:=Lib.hid (show Zu g h=h by rw [hfin.out,if_pos hle]);clear hfin;go_wp2
  refine bodyPost_ret (v:=.agg #[.int .i64 h.a,.int .i64 h.b,.int .i64 h.c]) (by simp [results,Tryz.results182,go_sem,cHR_0,cHR_1,cHR_2]) rfl ⟨by rw [hf.out], ?_⟩;exact Xl
 ·have hf:=Lib.hid (show Zu g h=g by rw [hfin.out,if_neg hle]);clear hfin;go_wp2
  refine bodyPost_ret (v:=.agg #[.int .i64 g.a,.int .i64 g.b,.int .i64 g.c]) (by simp [results,Tryz.results182,go_sem,cHR_0,cHR_1,cHR_2]) rfl ⟨by rw [hf.out], ?_⟩;exact Xl
end Go.Proofs.YtbekjpkcicjcgaaGreat
