/-
 One rule for regions, in the text's order or in an order that is drawn: one obligation for each operation.
 Conditions: none.
-/
import Derived.Deep.QuietTactic
import Derived.BigQuiet
import Derived.Shelf.Bits.Mul64
import Derived.Test.YtkjimfapbjdafaaGreatGrGQk
import Derived.Test.YtkjimfapbjdafaaGreatGrV
set_option maxHeartbeats 8000000
set_option maxRecDepth 100000
namespace Go.Proofs.YtkjimfapbjdafaaGreat
open Go.RowKit
section
variable {W w w':World} {a:Act} {s T g g':Nat} {z:List Value} {b:Bool} {C:World->List Value->Prop} {k:Option Nat} {v:Value}
end
section
variable {P:Program} {o:Oper} {a:Act} {w:World} {N:Act->World->Prop} {Q:Exit->Act->World->Prop}
end
section
variable {K:Act->World->Prop} {Q:Exit->Act->World->Prop} {a:Act} {w:World} {i k:Nat}
end
theorem oEDT {P:Program} {a0:Act} {w0:World} {D M ss:List Nat} {dl:List (List Nat)} {vs:List (Option Value)} {o:Oper} {i:Nat} (j:Nat) {k:Nat} {us:Array Value} {v:Value} (h:o.op=.extract (.tmp (ss.getD j 0)) k) (hj:vs[j]? = some (some (.tuple us))) (hc:(dl.getD i []).contains j=true) (hu:us[k]? = some v) (hv:KW vs[i]? v) :
 ∀ (Lk:Nat->Bool) (a:Act) (w:World),OX a0 w0 D M ss dl vs (λ _ _ _=>True) i Lk a w->∀ (N:Act->World->Prop) (Q:Exit->Act->World->Prop),(∀ v w',Kp M w0 w'->KW vs[i]? v->True->N (a.put o.dst v) w')->o.wp P a w N Q :=
 λ _ _ _ H _ _ hN=>XM h (ev (H.d j hj hc)) hu (hN _ _ H.k hv trivial)
theorem iGcdOf_c (a b:Int) (w:World) (ha:Zv a) (hb:Zv b) :
 Calls Tryz.prog 198 #[.int .i64 a,.int .i64 b] w λ e w'=>e=.returned (.int .i64 (Zq a b))/\Below w.heap.size w w':=by
 have hall:∀ n∈[a,b],Zv n:=by simp [ha,hb]
 have hG:Hid (Zq a b=if Zi a||Zi b then 0 else ((XJ [a,b]:Nat):Int)):=gcdOf_eq a b;have hsl:Sl 1 Y6 (w.alloc (.cells #[.int .i64 a,.int .i64 b] 3)) (some ⟨w.heap.size,0,none⟩) [a,b]:=sl_new YQ _ _ _ rfl;have hg:=gcdOfAll_c _ [a,b] 2 _ (by simp) hall hsl;have hle:=gcdAll_le [a,b] hall;have hlt:=gcd_pair_le ha hb;generalize XJ [a,b]=G at *;have hm1:=isLeast_c a;have hm2:=isLeast_c b;generalize Zi a=ma at *;generalize Zi b=mb at *;have hGG:ma=false->mb=false->G<=9223372036854775807:=hlt;clear hlt;cases ma<;>cases mb
 ·have:=hGG rfl rfl;clear hGG;go_enter Tryz.func198,Tryz.ntmps198
  go_wp2_with (fail)
  refine (hg).mono ?_;rintro e w1 ⟨rfl,hb_w1⟩;go_wp2_with (fail)
  refine (hm1 _ ha).mono ?_;rintro e w' ⟨rfl,rfl⟩;go_wp2_with (fail)
  refine (hm2 _ hb).mono ?_;rintro e w' ⟨rfl,rfl⟩;go_wp2
  go_ret
  exact ⟨Zo (by rw [hG.out];rfl),(bR.alloc Xh _).trans (hb_w1.mono (by simp))⟩
 ·clear hGG;go_enter Tryz.func198,Tryz.ntmps198
  go_wp2_with (fail)
  refine (hg).mono ?_;rintro e w1 ⟨rfl,hb_w1⟩;go_wp2_with (fail)
  refine (hm1 _ ha).mono ?_;rintro e w' ⟨rfl,rfl⟩;go_wp2_with (fail)
  refine (hm2 _ hb).mono ?_;rintro e w' ⟨rfl,rfl⟩;go_wp2
  go_ret
  exact ⟨Zo (by rw [hG.out];rfl),(bR.alloc Xh _).trans (hb_w1.mono (by simp))⟩
 all_goals
  clear hGG;go_enter Tryz.func198,Tryz.ntmps198
  go_wp2_with (fail)
  refine (hg).mono ?_;rintro e w1 ⟨rfl,hb_w1⟩;go_wp2_with (fail)
  refine (hm1 _ ha).mono ?_;rintro e w' ⟨rfl,rfl⟩;go_wp2
  go_ret
  exact ⟨Zo (by rw [hG.out];rfl),(bR.alloc Xh _).trans (hb_w1.mono (by simp))⟩
theorem KT (r:YA) (w:World) (hr:r.In) :
 Calls Tryz.prog 136 #[X7 r] w λ e w'=>e=.returned (.bool (Xr r))/\Below w.heap.size w w':=by
 obtain ⟨h1,h2⟩:=hr;cases e1:ZD r.d 1 1000000000000000
 ·go_enter Tryz.func136,Tryz.ntmps136
  go_wp2_with (first|(go_at_call 129;refine (Zj _ _ _ _).mono ?_;rintro e w' ⟨rfl,rfl⟩))
  go_ret
  refine ⟨Xx (by simp [Xr,e1]), ?_⟩;exact XA
 ·cases e2:ZD r.n (-1000000000000000000) 1000000000000000000
  ·go_enter Tryz.func136,Tryz.ntmps136
   go_wp2_with (first|(go_at_call 129;refine (Zj _ _ _ _).mono ?_;rintro e w' ⟨rfl,rfl⟩))
   go_ret
   refine ⟨Xx (by simp [Xr,e1,e2]), ?_⟩;exact XA
  ·cases e3:(Zq r.n r.d == 1);all_goals
    go_enter Tryz.func136,Tryz.ntmps136
    go_wp2_with (go_at_call 129;refine (Zj _ _ _ _).mono ?_;rintro e w' ⟨rfl,rfl⟩)
    refine (iGcdOf_c _ _ _ h1 h2).mono ?_;rintro e w1 ⟨rfl,hb1⟩;go_wp2
    go_ret
    refine ⟨Xx (by rw [Bool.eq_iff_iff];simp [Xr,e1,e2] at e3 ⊢;exact e3), ?_⟩;exact Xn (Xd bR _) hb1
theorem JV (r s:YA) : -1<=XC r s/\XC r s<=1:=by
 unfold XC;split
 ·exact cmpF_bd _ _ _ _
 ·omega
abbrev Y9 (w:ZP):Value:=.agg #[.int .i64 w.low.n,.int .i64 w.low.d,.int .i64 w.high.n,.int .i64 w.high.d]
def Xj:ZP:=⟨Z8,Z8⟩
theorem ratioMin_ok {r s:YA} (hr:Xr r=true) (hs:Xr s=true):Xr (Yw r s)=true:=by
 unfold Yw;rw [if_pos ⟨hr,hs⟩];split<;>assumption
theorem ratioMax_ok {r s:YA} (hr:Xr r=true) (hs:Xr s=true):Xr (Yp r s)=true:=by
 unfold Yp;rw [if_pos ⟨hr,hs⟩];split<;>assumption
theorem Jp (r s:YA) (w:World) (hr:r.In) (hs:s.In) :
 Calls Tryz.prog 137 #[X7 r,X7 s] w λ e w'=>e=.returned (.int .i64 (XC r s))/\Below w.heap.size w w':=by
 have c0:=λ W=>KT r W hr;have c1:=λ W=>KT s W hs;cases e0:Xr r
 ·rw [e0] at c0;go_enter Tryz.func137,Tryz.ntmps137
  go_wp2_with (fail)
  refine (c0 _).mono ?_;rintro e w0 ⟨rfl,hb0⟩;have r0:=Xz hb0;have l0_0:w.heap.size<w0.heap.size:=XO hb0;have l0_1:w.heap.size+1<w0.heap.size:=XO hb0;go_wp2
  go_ret
  refine ⟨Zo (by simp [XC,e0]), ?_⟩;exact XA
 ·rw [e0] at c0;cases e1:Xr s
  ·rw [e1] at c1;go_enter Tryz.func137,Tryz.ntmps137
   go_wp2_with (fail)
   refine (c0 _).mono ?_;rintro e w0 ⟨rfl,hb0⟩;have r0:=Xz hb0;have l0_0:w.heap.size<w0.heap.size:=XO hb0;have l0_1:w.heap.size+1<w0.heap.size:=XO hb0;go_wp2_with (fail)
   refine (c1 _).mono ?_;rintro e w1 ⟨rfl,hb1⟩;have r1:=Xz hb1;have l1_0:w.heap.size<w1.heap.size:=XO hb1;have l1_1:w.heap.size+1<w1.heap.size:=XO hb1;go_wp2
   go_ret
   refine ⟨Zo (by simp [XC,e1]), ?_⟩;exact XA
  ·rw [e1] at c1;have hv:=Lib.hid (show XC r s=KY r.n r.d s.n s.d by simp [XC,e0,e1]);have c2:=λ W=>J4 r.n r.d s.n s.d W hr.1 hr.2 hs.1 hs.2 (by have:=ratioOk_bd e0;omega) (by have:=ratioOk_bd e1;omega);go_enter Tryz.func137,Tryz.ntmps137
   go_wp2_with (fail)
   refine (c0 _).mono ?_;rintro e w0 ⟨rfl,hb0⟩;have r0:=Xz hb0;have l0_0:w.heap.size<w0.heap.size:=XO hb0;have l0_1:w.heap.size+1<w0.heap.size:=XO hb0;go_wp2_with (fail)
   refine (c1 _).mono ?_;rintro e w1 ⟨rfl,hb1⟩;have r1:=Xz hb1;have l1_0:w.heap.size<w1.heap.size:=XO hb1;have l1_1:w.heap.size+1<w1.heap.size:=XO hb1;go_wp2_with (fail)
   refine (c2 _).mono ?_;rintro e w' ⟨rfl,rfl⟩;go_wp2
   go_ret
   refine ⟨Zo hv.out.symm, ?_⟩;exact XA
theorem iRatioMin_c (r s:YA) (w:World) (hr:r.In) (hs:s.In) :
 Calls Tryz.prog 222 #[X7 r,X7 s] w λ e w'=>e=.returned (X7 (Yw r s))/\Below w.heap.size w w':=by
 have c0:=λ W=>KT r W hr;have c1:=λ W=>KT s W hs;have c2:=λ W=>Jp r s W hr hs;cases e0:Xr r
 ·rw [e0] at c0;have hv:=Lib.hid (show Yw r s=Z8 by simp [Yw,e0]);go_enter Tryz.func222,Tryz.ntmps222
  go_wp2_with (fail)
  refine (c0 _).mono ?_;rintro e w0 ⟨rfl,hb0⟩;have r0:=Xz hb0;have l0_0:w.heap.size<w0.heap.size:=XO hb0;have l0_1:w.heap.size+1<w0.heap.size:=XO hb0;have l0_2:w.heap.size+1+1<w0.heap.size:=XO hb0;have H:YI w0 (w.heap.size+1+1) [.int .i64 0,.int .i64 0]:=by
   exact Zp
  obtain ⟨cH_0,fH_0⟩:=H.2 0 _ rfl;obtain ⟨cH_1,fH_1⟩:=H.2 1 _ rfl;go_wp2
  refine bodyPost_ret (v:=.agg #[.int .i64 0,.int .i64 0]) (by simp [results,Tryz.results222,go_sem,cH_0,cH_1]) rfl ⟨by rw [hv.out];rfl, ?_⟩;exact XA
 ·rw [e0] at c0;cases e1:Xr s
  ·rw [e1] at c1;have hv:=Lib.hid (show Yw r s=Z8 by simp [Yw,e1]);go_enter Tryz.func222,Tryz.ntmps222
   go_wp2_with (fail)
   refine (c0 _).mono ?_;rintro e w0 ⟨rfl,hb0⟩;have r0:=Xz hb0;have l0_0:w.heap.size<w0.heap.size:=XO hb0;have l0_1:w.heap.size+1<w0.heap.size:=XO hb0;have l0_2:w.heap.size+1+1<w0.heap.size:=XO hb0;go_wp2_with (fail)
   refine (c1 _).mono ?_;rintro e w1 ⟨rfl,hb1⟩;have r1:=Xz hb1;have l1_0:w.heap.size<w1.heap.size:=XO hb1;have l1_1:w.heap.size+1<w1.heap.size:=XO hb1;have l1_2:w.heap.size+1+1<w1.heap.size:=XO hb1;have H:YI w1 (w.heap.size+1+1) [.int .i64 0,.int .i64 0]:=by
    exact Zp
   obtain ⟨cH_0,fH_0⟩:=H.2 0 _ rfl;obtain ⟨cH_1,fH_1⟩:=H.2 1 _ rfl;go_wp2
   refine bodyPost_ret (v:=.agg #[.int .i64 0,.int .i64 0]) (by simp [results,Tryz.results222,go_sem,cH_0,cH_1]) rfl ⟨by rw [hv.out];rfl, ?_⟩;exact XA
  ·rw [e1] at c1;have bd:=JV r s;cases e2:decide (XC r s<=0)
   ·have hv:=Lib.hid (show Yw r s=s by simp only [decide_eq_false_iff_not] at e2;simp [Yw,e0,e1,e2]);simp only [decide_eq_false_iff_not] at e2;clear e0 e1;generalize XC r s=q at *;go_enter Tryz.func222,Tryz.ntmps222
    go_wp2_with (fail)
    refine (c0 _).mono ?_;rintro e w0 ⟨rfl,hb0⟩;have r0:=Xz hb0;have l0_0:w.heap.size<w0.heap.size:=XO hb0;have l0_1:w.heap.size+1<w0.heap.size:=XO hb0;have l0_2:w.heap.size+1+1<w0.heap.size:=XO hb0;go_wp2_with (fail)
    refine (c1 _).mono ?_;rintro e w1 ⟨rfl,hb1⟩;have r1:=Xz hb1;have l1_0:w.heap.size<w1.heap.size:=XO hb1;have l1_1:w.heap.size+1<w1.heap.size:=XO hb1;have l1_2:w.heap.size+1+1<w1.heap.size:=XO hb1;go_wp2_with (fail)
    refine (c2 _).mono ?_;rintro e w2 ⟨rfl,hb2⟩;have r2:=Xz hb2;have l2_0:w.heap.size<w2.heap.size:=XO hb2;have l2_1:w.heap.size+1<w2.heap.size:=XO hb2;have l2_2:w.heap.size+1+1<w2.heap.size:=XO hb2;have H:YI w2 (w.heap.size+1+1) [.int .i64 0,.int .i64 0]:=by
     exact Zp
    obtain ⟨cH_0,fH_0⟩:=H.2 0 _ rfl;obtain ⟨cH_1,fH_1⟩:=H.2 1 _ rfl;go_wp2
    refine bodyPost_ret (v:=.agg #[.int .i64 s.n,.int .i64 s.d]) (by simp [results,Tryz.results222,go_sem,cH_0,cH_1]) rfl ⟨by rw [hv.out], ?_⟩;exact XA
   ·have hv:=Lib.hid (show Yw r s=r by simp only [decide_eq_true_eq] at e2;simp [Yw,e0,e1,e2]);simp only [decide_eq_true_eq] at e2;clear e0 e1;generalize XC r s=q at *;go_enter Tryz.func222,Tryz.ntmps222
    go_wp2_with (fail)
    refine (c0 _).mono ?_;rintro e w0 ⟨rfl,hb0⟩;have r0:=Xz hb0;have l0_0:w.heap.size<w0.heap.size:=XO hb0;have l0_1:w.heap.size+1<w0.heap.size:=XO hb0;have l0_2:w.heap.size+1+1<w0.heap.size:=XO hb0;go_wp2_with (fail)
    refine (c1 _).mono ?_;rintro e w1 ⟨rfl,hb1⟩;have r1:=Xz hb1;have l1_0:w.heap.size<w1.heap.size:=XO hb1;have l1_1:w.heap.size+1<w1.heap.size:=XO hb1;have l1_2:w.heap.size+1+1<w1.heap.size:=XO hb1;go_wp2_with (fail)
    refine (c2 _).mono ?_;rintro e w2 ⟨rfl,hb2⟩;have r2:=Xz hb2;have l2_0:w.heap.size<w2.heap.size:=XO hb2;have l2_1:w.heap.size+1<w2.heap.size:=XO hb2;have l2_2:w.heap.size+1+1<w2.heap.size:=XO hb2;have H:YI w2 (w.heap.size+1+1) [.int .i64 0,.int .i64 0]:=by
     exact Zp
    obtain ⟨cH_0,fH_0⟩:=H.2 0 _ rfl;obtain ⟨cH_1,fH_1⟩:=H.2 1 _ rfl;go_wp2
    refine bodyPost_ret (v:=.agg #[.int .i64 r.n,.int .i64 r.d]) (by simp [results,Tryz.results222,go_sem,cH_0,cH_1]) rfl ⟨by rw [hv.out], ?_⟩;exact XA
theorem iRatioMax_c (r s:YA) (w:World) (hr:r.In) (hs:s.In) :
 Calls Tryz.prog 224 #[X7 r,X7 s] w λ e w'=>e=.returned (X7 (Yp r s))/\Below w.heap.size w w':=by
 have c0:=λ W=>KT r W hr;have c1:=λ W=>KT s W hs;have c2:=λ W=>Jp r s W hr hs;cases e0:Xr r
 ·rw [e0] at c0;have hv:=Lib.hid (show Yp r s=Z8 by simp [Yp,e0]);go_enter Tryz.func224,Tryz.ntmps224
  go_wp2_with (fail)
  refine (c0 _).mono ?_;rintro e w0 ⟨rfl,hb0⟩;have r0:=Xz hb0;have l0_0:w.heap.size<w0.heap.size:=XO hb0;have l0_1:w.heap.size+1<w0.heap.size:=XO hb0;have l0_2:w.heap.size+1+1<w0.heap.size:=XO hb0;have H:YI w0 (w.heap.size+1+1) [.int .i64 0,.int .i64 0]:=by
   exact Zp
  obtain ⟨cH_0,fH_0⟩:=H.2 0 _ rfl;obtain ⟨cH_1,fH_1⟩:=H.2 1 _ rfl;go_wp2
  refine bodyPost_ret (v:=.agg #[.int .i64 0,.int .i64 0]) (by simp [results,Tryz.results224,go_sem,cH_0,cH_1]) rfl ⟨by rw [hv.out];rfl, ?_⟩;exact XA
 ·rw [e0] at c0;cases e1:Xr s
  ·rw [e1] at c1;have hv:=Lib.hid (show Yp r s=Z8 by simp [Yp,e1]);go_enter Tryz.func224,Tryz.ntmps224
   go_wp2_with (fail)
   refine (c0 _).mono ?_;rintro e w0 ⟨rfl,hb0⟩;have r0:=Xz hb0;have l0_0:w.heap.size<w0.heap.size:=XO hb0;have l0_1:w.heap.size+1<w0.heap.size:=XO hb0;have l0_2:w.heap.size+1+1<w0.heap.size:=XO hb0;go_wp2_with (fail)
   refine (c1 _).mono ?_;rintro e w1 ⟨rfl,hb1⟩;have r1:=Xz hb1;have l1_0:w.heap.size<w1.heap.size:=XO hb1;have l1_1:w.heap.size+1<w1.heap.size:=XO hb1;have l1_2:w.heap.size+1+1<w1.heap.size:=XO hb1;have H:YI w1 (w.heap.size+1+1) [.int .i64 0,.int .i64 0]:=by
    exact Zp
   obtain ⟨cH_0,fH_0⟩:=H.2 0 _ rfl;obtain ⟨cH_1,fH_1⟩:=H.2 1 _ rfl;go_wp2
   refine bodyPost_ret (v:=.agg #[.int .i64 0,.int .i64 0]) (by simp [results,Tryz.results224,go_sem,cH_0,cH_1]) rfl ⟨by rw [hv.out];rfl, ?_⟩;exact XA
  ·rw [e1] at c1;have bd:=JV r s;cases e2:decide (0<=XC r s)
   ·have hv:=Lib.hid (show Yp r s=s by simp only [decide_eq_false_iff_not] at e2;simp [Yp,e0,e1,e2]);simp only [decide_eq_false_iff_not] at e2;clear e0 e1;generalize XC r s=q at *;go_enter Tryz.func224,Tryz.ntmps224
    go_wp2_with (fail)
    refine (c0 _).mono ?_;rintro e w0 ⟨rfl,hb0⟩;have r0:=Xz hb0;have l0_0:w.heap.size<w0.heap.size:=XO hb0;have l0_1:w.heap.size+1<w0.heap.size:=XO hb0;have l0_2:w.heap.size+1+1<w0.heap.size:=XO hb0;go_wp2_with (fail)
    refine (c1 _).mono ?_;rintro e w1 ⟨rfl,hb1⟩;have r1:=Xz hb1;have l1_0:w.heap.size<w1.heap.size:=XO hb1;have l1_1:w.heap.size+1<w1.heap.size:=XO hb1;have l1_2:w.heap.size+1+1<w1.heap.size:=XO hb1;go_wp2_with (fail)
    refine (c2 _).mono ?_;rintro e w2 ⟨rfl,hb2⟩;have r2:=Xz hb2;have l2_0:w.heap.size<w2.heap.size:=XO hb2;have l2_1:w.heap.size+1<w2.heap.size:=XO hb2;have l2_2:w.heap.size+1+1<w2.heap.size:=XO hb2;have H:YI w2 (w.heap.size+1+1) [.int .i64 0,.int .i64 0]:=by
     exact Zp
    obtain ⟨cH_0,fH_0⟩:=H.2 0 _ rfl;obtain ⟨cH_1,fH_1⟩:=H.2 1 _ rfl;go_wp2
    refine bodyPost_ret (v:=.agg #[.int .i64 s.n,.int .i64 s.d]) (by simp [results,Tryz.results224,go_sem,cH_0,cH_1]) rfl ⟨by rw [hv.out], ?_⟩;exact XA
   ·have hv:=Lib.hid (show Yp r s=r by simp only [decide_eq_true_eq] at e2;simp [Yp,e0,e1,e2]);simp only [decide_eq_true_eq] at e2;clear e0 e1;generalize XC r s=q at *;go_enter Tryz.func224,Tryz.ntmps224
    go_wp2_with (fail)
    refine (c0 _).mono ?_;rintro e w0 ⟨rfl,hb0⟩;have r0:=Xz hb0;have l0_0:w.heap.size<w0.heap.size:=XO hb0;have l0_1:w.heap.size+1<w0.heap.size:=XO hb0;have l0_2:w.heap.size+1+1<w0.heap.size:=XO hb0;go_wp2_with (fail)
    refine (c1 _).mono ?_;rintro e w1 ⟨rfl,hb1⟩;have r1:=Xz hb1;have l1_0:w.heap.size<w1.heap.size:=XO hb1;have l1_1:w.heap.size+1<w1.heap.size:=XO hb1;have l1_2:w.heap.size+1+1<w1.heap.size:=XO hb1;go_wp2_with (fail)
    refine (c2 _).mono ?_;rintro e w2 ⟨rfl,hb2⟩;have r2:=Xz hb2;have l2_0:w.heap.size<w2.heap.size:=XO hb2;have l2_1:w.heap.size+1<w2.heap.size:=XO hb2;have l2_2:w.heap.size+1+1<w2.heap.size:=XO hb2;have H:YI w2 (w.heap.size+1+1) [.int .i64 0,.int .i64 0]:=by
     exact Zp
    obtain ⟨cH_0,fH_0⟩:=H.2 0 _ rfl;obtain ⟨cH_1,fH_1⟩:=H.2 1 _ rfl;go_wp2
    refine bodyPost_ret (v:=.agg #[.int .i64 r.n,.int .i64 r.d]) (by simp [results,Tryz.results224,go_sem,cH_0,cH_1]) rfl ⟨by rw [hv.out], ?_⟩;exact XA
theorem iSpanOk_c (x:ZP) (w:World) (hx:x.In) :
 Calls Tryz.prog 168 #[Y9 x] w λ e w'=>e=.returned (.bool (Yg x))/\Below w.heap.size w w':=by
 have c0:=λ W=>KT x.low W hx.1;have c1:=λ W=>KT x.high W hx.2;have c2:=λ W=>Jp x.low x.high W hx.1 hx.2;cases e0:Xr x.low
 ·rw [e0] at c0;have hv:=Lib.hid (show Yg x=false by simp [Yg,e0]);go_enter Tryz.func168,Tryz.ntmps168
  go_wp2_with (fail)
  refine (c0 _).mono ?_;rintro e w0 ⟨rfl,hb0⟩;have r0:=Xz hb0;have l0_0:w.heap.size<w0.heap.size:=XO hb0;go_wp2
  go_ret
  refine ⟨?_, ?_⟩
  ·first
   | exact Xx hv.out.symm
   | exact Xx (by rw [hv.out];simp;omega)
  ·exact XA
 ·rw [e0] at c0;cases e1:Xr x.high
  ·rw [e1] at c1;have hv:=Lib.hid (show Yg x=false by simp [Yg,e1]);go_enter Tryz.func168,Tryz.ntmps168
   go_wp2_with (fail)
   refine (c0 _).mono ?_;rintro e w0 ⟨rfl,hb0⟩;have r0:=Xz hb0;have l0_0:w.heap.size<w0.heap.size:=XO hb0;go_wp2_with (fail)
   refine (c1 _).mono ?_;rintro e w1 ⟨rfl,hb1⟩;have r1:=Xz hb1;have l1_0:w.heap.size<w1.heap.size:=XO hb1;go_wp2
   go_ret
   refine ⟨?_, ?_⟩
   ·first
    | exact Xx hv.out.symm
    | exact Xx (by rw [hv.out];simp;omega)
   ·exact XA
  ·rw [e1] at c1;cases e2:decide (XC x.low x.high<=0)
   ·have hv:=Lib.hid (show Yg x=false by simp only [Yg,e0,e1,e2];rfl);simp only [decide_eq_false_iff_not] at e2;have bd:=JV x.low x.high;generalize XC x.low x.high=q at *;go_enter Tryz.func168,Tryz.ntmps168
    go_wp2_with (fail)
    refine (c0 _).mono ?_;rintro e w0 ⟨rfl,hb0⟩;have r0:=Xz hb0;have l0_0:w.heap.size<w0.heap.size:=XO hb0;go_wp2_with (fail)
    refine (c1 _).mono ?_;rintro e w1 ⟨rfl,hb1⟩;have r1:=Xz hb1;have l1_0:w.heap.size<w1.heap.size:=XO hb1;go_wp2_with (fail)
    refine (c2 _).mono ?_;rintro e w2 ⟨rfl,hb2⟩;have r2:=Xz hb2;have l2_0:w.heap.size<w2.heap.size:=XO hb2;go_wp2
    go_ret
    refine ⟨?_, ?_⟩
    ·first
     | exact Xx hv.out.symm
     | exact Xx (by rw [hv.out];simp;omega)
    ·exact XA
   ·have hv:=Lib.hid (show Yg x=true by simp only [Yg,e0,e1,e2];rfl);simp only [decide_eq_true_eq] at e2;have bd:=JV x.low x.high;generalize XC x.low x.high=q at *;go_enter Tryz.func168,Tryz.ntmps168
    go_wp2_with (fail)
    refine (c0 _).mono ?_;rintro e w0 ⟨rfl,hb0⟩;have r0:=Xz hb0;have l0_0:w.heap.size<w0.heap.size:=XO hb0;go_wp2_with (fail)
    refine (c1 _).mono ?_;rintro e w1 ⟨rfl,hb1⟩;have r1:=Xz hb1;have l1_0:w.heap.size<w1.heap.size:=XO hb1;go_wp2_with (fail)
    refine (c2 _).mono ?_;rintro e w2 ⟨rfl,hb2⟩;have r2:=Xz hb2;have l2_0:w.heap.size<w2.heap.size:=XO hb2;go_wp2
    go_ret
    refine ⟨?_, ?_⟩
    ·first
     | exact Xx hv.out.symm
     | exact Xx (by rw [hv.out];simp;omega)
    ·exact XA
theorem sRatioMin_c (r s:YA) (w:World) (hr:r.In) (hs:s.In) :
 Calls Tryz.prog 217 #[X7 r,X7 s] w λ e w'=>e=.returned (X7 (Yw r s))/\Below w.heap.size w w':=by
 have c0:=λ W=>Z6 r W hr;have c1:=λ W=>Z6 s W hs;have c2:=λ W=>sRatioCmp_c r s W hr hs;cases e0:Xr r
 ·rw [e0] at c0;have hv:=Lib.hid (show Yw r s=Z8 by simp [Yw,e0]);go_enter Tryz.func217,Tryz.ntmps217
  go_wp2_with (fail)
  refine (c0 _).mono ?_;rintro e w0 ⟨rfl,hb0⟩;have r0:=Xz hb0;have l0_0:w.heap.size<w0.heap.size:=XO hb0;have l0_1:w.heap.size+1<w0.heap.size:=XO hb0;have l0_2:w.heap.size+1+1<w0.heap.size:=XO hb0;have H:YI w0 (w.heap.size+1+1) [.int .i64 0,.int .i64 0]:=by
   exact Zp
  obtain ⟨cH_0,fH_0⟩:=H.2 0 _ rfl;obtain ⟨cH_1,fH_1⟩:=H.2 1 _ rfl;go_wp2
  refine bodyPost_ret (v:=.agg #[.int .i64 0,.int .i64 0]) (by simp [results,Tryz.results217,go_sem,cH_0,cH_1]) rfl ⟨by rw [hv.out];rfl, ?_⟩;exact XA
 ·rw [e0] at c0;cases e1:Xr s
  ·rw [e1] at c1;have hv:=Lib.hid (show Yw r s=Z8 by simp [Yw,e1]);go_enter Tryz.func217,Tryz.ntmps217
   go_wp2_with (fail)
   refine (c0 _).mono ?_;rintro e w0 ⟨rfl,hb0⟩;have r0:=Xz hb0;have l0_0:w.heap.size<w0.heap.size:=XO hb0;have l0_1:w.heap.size+1<w0.heap.size:=XO hb0;have l0_2:w.heap.size+1+1<w0.heap.size:=XO hb0;go_wp2_with (fail)
   refine (c1 _).mono ?_;rintro e w1 ⟨rfl,hb1⟩;have r1:=Xz hb1;have l1_0:w.heap.size<w1.heap.size:=XO hb1;have l1_1:w.heap.size+1<w1.heap.size:=XO hb1;have l1_2:w.heap.size+1+1<w1.heap.size:=XO hb1;have H:YI w1 (w.heap.size+1+1) [.int .i64 0,.int .i64 0]:=by
    exact Zp
   obtain ⟨cH_0,fH_0⟩:=H.2 0 _ rfl;obtain ⟨cH_1,fH_1⟩:=H.2 1 _ rfl;go_wp2
   refine bodyPost_ret (v:=.agg #[.int .i64 0,.int .i64 0]) (by simp [results,Tryz.results217,go_sem,cH_0,cH_1]) rfl ⟨by rw [hv.out];rfl, ?_⟩;exact XA
  ·rw [e1] at c1;have bd:=JV r s;cases e2:decide (XC r s<=0)
   ·have hv:=Lib.hid (show Yw r s=s by simp only [decide_eq_false_iff_not] at e2;simp [Yw,e0,e1,e2]);simp only [decide_eq_false_iff_not] at e2;clear e0 e1;generalize XC r s=q at *;go_enter Tryz.func217,Tryz.ntmps217
    go_wp2_with (fail)
    refine (c0 _).mono ?_;rintro e w0 ⟨rfl,hb0⟩;have r0:=Xz hb0;have l0_0:w.heap.size<w0.heap.size:=XO hb0;have l0_1:w.heap.size+1<w0.heap.size:=XO hb0;have l0_2:w.heap.size+1+1<w0.heap.size:=XO hb0;go_wp2_with (fail)
    refine (c1 _).mono ?_;rintro e w1 ⟨rfl,hb1⟩;have r1:=Xz hb1;have l1_0:w.heap.size<w1.heap.size:=XO hb1;have l1_1:w.heap.size+1<w1.heap.size:=XO hb1;have l1_2:w.heap.size+1+1<w1.heap.size:=XO hb1;go_wp2_with (fail)
    refine (c2 _).mono ?_;rintro e w2 ⟨rfl,hb2⟩;have r2:=Xz hb2;have l2_0:w.heap.size<w2.heap.size:=XO hb2;have l2_1:w.heap.size+1<w2.heap.size:=XO hb2;have l2_2:w.heap.size+1+1<w2.heap.size:=XO hb2;have H:YI w2 (w.heap.size+1+1) [.int .i64 0,.int .i64 0]:=by
     exact Zp
    obtain ⟨cH_0,fH_0⟩:=H.2 0 _ rfl;obtain ⟨cH_1,fH_1⟩:=H.2 1 _ rfl;go_wp2
    refine bodyPost_ret (v:=.agg #[.int .i64 s.n,.int .i64 s.d]) (by simp [results,Tryz.results217,go_sem,cH_0,cH_1]) rfl ⟨by rw [hv.out], ?_⟩;exact XA
   ·have hv:=Lib.hid (show Yw r s=r by simp only [decide_eq_true_eq] at e2;simp [Yw,e0,e1,e2]);simp only [decide_eq_true_eq] at e2;clear e0 e1;generalize XC r s=q at *;go_enter Tryz.func217,Tryz.ntmps217
    go_wp2_with (fail)
    refine (c0 _).mono ?_;rintro e w0 ⟨rfl,hb0⟩;have r0:=Xz hb0;have l0_0:w.heap.size<w0.heap.size:=XO hb0;have l0_1:w.heap.size+1<w0.heap.size:=XO hb0;have l0_2:w.heap.size+1+1<w0.heap.size:=XO hb0;go_wp2_with (fail)
    refine (c1 _).mono ?_;rintro e w1 ⟨rfl,hb1⟩;have r1:=Xz hb1;have l1_0:w.heap.size<w1.heap.size:=XO hb1;have l1_1:w.heap.size+1<w1.heap.size:=XO hb1;have l1_2:w.heap.size+1+1<w1.heap.size:=XO hb1;go_wp2_with (fail)
    refine (c2 _).mono ?_;rintro e w2 ⟨rfl,hb2⟩;have r2:=Xz hb2;have l2_0:w.heap.size<w2.heap.size:=XO hb2;have l2_1:w.heap.size+1<w2.heap.size:=XO hb2;have l2_2:w.heap.size+1+1<w2.heap.size:=XO hb2;have H:YI w2 (w.heap.size+1+1) [.int .i64 0,.int .i64 0]:=by
     exact Zp
    obtain ⟨cH_0,fH_0⟩:=H.2 0 _ rfl;obtain ⟨cH_1,fH_1⟩:=H.2 1 _ rfl;go_wp2
    refine bodyPost_ret (v:=.agg #[.int .i64 r.n,.int .i64 r.d]) (by simp [results,Tryz.results217,go_sem,cH_0,cH_1]) rfl ⟨by rw [hv.out], ?_⟩;exact XA
theorem sRatioMax_c (r s:YA) (w:World) (hr:r.In) (hs:s.In) :
 Calls Tryz.prog 218 #[X7 r,X7 s] w λ e w'=>e=.returned (X7 (Yp r s))/\Below w.heap.size w w':=by
 have c0:=λ W=>Z6 r W hr;have c1:=λ W=>Z6 s W hs;have c2:=λ W=>sRatioCmp_c r s W hr hs;cases e0:Xr r
 ·rw [e0] at c0;have hv:=Lib.hid (show Yp r s=Z8 by simp [Yp,e0]);go_enter Tryz.func218,Tryz.ntmps218
  go_wp2_with (fail)
  refine (c0 _).mono ?_;rintro e w0 ⟨rfl,hb0⟩;have r0:=Xz hb0;have l0_0:w.heap.size<w0.heap.size:=XO hb0;have l0_1:w.heap.size+1<w0.heap.size:=XO hb0;have l0_2:w.heap.size+1+1<w0.heap.size:=XO hb0;have H:YI w0 (w.heap.size+1+1) [.int .i64 0,.int .i64 0]:=by
   exact Zp
  obtain ⟨cH_0,fH_0⟩:=H.2 0 _ rfl;obtain ⟨cH_1,fH_1⟩:=H.2 1 _ rfl;go_wp2
  refine bodyPost_ret (v:=.agg #[.int .i64 0,.int .i64 0]) (by simp [results,Tryz.results218,go_sem,cH_0,cH_1]) rfl ⟨by rw [hv.out];rfl, ?_⟩;exact XA
 ·rw [e0] at c0;cases e1:Xr s
  ·rw [e1] at c1;have hv:=Lib.hid (show Yp r s=Z8 by simp [Yp,e1]);go_enter Tryz.func218,Tryz.ntmps218
   go_wp2_with (fail)
   refine (c0 _).mono ?_;rintro e w0 ⟨rfl,hb0⟩;have r0:=Xz hb0;have l0_0:w.heap.size<w0.heap.size:=XO hb0;have l0_1:w.heap.size+1<w0.heap.size:=XO hb0;have l0_2:w.heap.size+1+1<w0.heap.size:=XO hb0;go_wp2_with (fail)
   refine (c1 _).mono ?_;rintro e w1 ⟨rfl,hb1⟩;have r1:=Xz hb1;have l1_0:w.heap.size<w1.heap.size:=XO hb1;have l1_1:w.heap.size+1<w1.heap.size:=XO hb1;have l1_2:w.heap.size+1+1<w1.heap.size:=XO hb1;have H:YI w1 (w.heap.size+1+1) [.int .i64 0,.int .i64 0]:=by
    exact Zp
   obtain ⟨cH_0,fH_0⟩:=H.2 0 _ rfl;obtain ⟨cH_1,fH_1⟩:=H.2 1 _ rfl;go_wp2
   refine bodyPost_ret (v:=.agg #[.int .i64 0,.int .i64 0]) (by simp [results,Tryz.results218,go_sem,cH_0,cH_1]) rfl ⟨by rw [hv.out];rfl, ?_⟩;exact XA
  ·rw [e1] at c1;have bd:=JV r s;cases e2:decide (0<=XC r s)
   ·have hv:=Lib.hid (show Yp r s=s by simp only [decide_eq_false_iff_not] at e2;simp [Yp,e0,e1,e2]);simp only [decide_eq_false_iff_not] at e2;clear e0 e1;generalize XC r s=q at *;go_enter Tryz.func218,Tryz.ntmps218
    go_wp2_with (fail)
    refine (c0 _).mono ?_;rintro e w0 ⟨rfl,hb0⟩;have r0:=Xz hb0;have l0_0:w.heap.size<w0.heap.size:=XO hb0;have l0_1:w.heap.size+1<w0.heap.size:=XO hb0;have l0_2:w.heap.size+1+1<w0.heap.size:=XO hb0;go_wp2_with (fail)
    refine (c1 _).mono ?_;rintro e w1 ⟨rfl,hb1⟩;have r1:=Xz hb1;have l1_0:w.heap.size<w1.heap.size:=XO hb1;have l1_1:w.heap.size+1<w1.heap.size:=XO hb1;have l1_2:w.heap.size+1+1<w1.heap.size:=XO hb1;go_wp2_with (fail)
    refine (c2 _).mono ?_;rintro e w2 ⟨rfl,hb2⟩;have r2:=Xz hb2;have l2_0:w.heap.size<w2.heap.size:=XO hb2;have l2_1:w.heap.size+1<w2.heap.size:=XO hb2;have l2_2:w.heap.size+1+1<w2.heap.size:=XO hb2;have H:YI w2 (w.heap.size+1+1) [.int .i64 0,.int .i64 0]:=by
     exact Zp
    obtain ⟨cH_0,fH_0⟩:=H.2 0 _ rfl;obtain ⟨cH_1,fH_1⟩:=H.2 1 _ rfl;go_wp2
    refine bodyPost_ret (v:=.agg #[.int .i64 s.n,.int .i64 s.d]) (by simp [results,Tryz.results218,go_sem,cH_0,cH_1]) rfl ⟨by rw [hv.out], ?_⟩;exact XA
   ·have hv:=Lib.hid (show Yp r s=r by simp only [decide_eq_true_eq] at e2;simp [Yp,e0,e1,e2]);simp only [decide_eq_true_eq] at e2;clear e0 e1;generalize XC r s=q at *;go_enter Tryz.func218,Tryz.ntmps218
    go_wp2_with (fail)
    refine (c0 _).mono ?_;rintro e w0 ⟨rfl,hb0⟩;have r0:=Xz hb0;have l0_0:w.heap.size<w0.heap.size:=XO hb0;have l0_1:w.heap.size+1<w0.heap.size:=XO hb0;have l0_2:w.heap.size+1+1<w0.heap.size:=XO hb0;go_wp2_with (fail)
    refine (c1 _).mono ?_;rintro e w1 ⟨rfl,hb1⟩;have r1:=Xz hb1;have l1_0:w.heap.size<w1.heap.size:=XO hb1;have l1_1:w.heap.size+1<w1.heap.size:=XO hb1;have l1_2:w.heap.size+1+1<w1.heap.size:=XO hb1;go_wp2_with (fail)
    refine (c2 _).mono ?_;rintro e w2 ⟨rfl,hb2⟩;have r2:=Xz hb2;have l2_0:w.heap.size<w2.heap.size:=XO hb2;have l2_1:w.heap.size+1<w2.heap.size:=XO hb2;have l2_2:w.heap.size+1+1<w2.heap.size:=XO hb2;have H:YI w2 (w.heap.size+1+1) [.int .i64 0,.int .i64 0]:=by
     exact Zp
    obtain ⟨cH_0,fH_0⟩:=H.2 0 _ rfl;obtain ⟨cH_1,fH_1⟩:=H.2 1 _ rfl;go_wp2
    refine bodyPost_ret (v:=.agg #[.int .i64 r.n,.int .i64 r.d]) (by simp [results,Tryz.results218,go_sem,cH_0,cH_1]) rfl ⟨by rw [hv.out], ?_⟩;exact XA
theorem sSpanOk_c (x:ZP) (w:World) (hx:x.In) :
 Calls Tryz.prog 165 #[Y9 x] w λ e w'=>e=.returned (.bool (Yg x))/\Below w.heap.size w w':=by
 have c0:=λ W=>Z6 x.low W hx.1;have c1:=λ W=>Z6 x.high W hx.2;have c2:=λ W=>sRatioCmp_c x.low x.high W hx.1 hx.2;cases e0:Xr x.low
 ·rw [e0] at c0;have hv:=Lib.hid (show Yg x=false by simp [Yg,e0]);go_enter Tryz.func165,Tryz.ntmps165
  go_wp2_with (fail)
  refine (c0 _).mono ?_;rintro e w0 ⟨rfl,hb0⟩;have r0:=Xz hb0;have l0_0:w.heap.size<w0.heap.size:=XO hb0;go_wp2
  go_ret
  refine ⟨?_, ?_⟩
  ·first
   | exact Xx hv.out.symm
   | exact Xx (by rw [hv.out];simp;omega)
  ·exact XA
 ·rw [e0] at c0;cases e1:Xr x.high
  ·rw [e1] at c1;have hv:=Lib.hid (show Yg x=false by simp [Yg,e1]);go_enter Tryz.func165,Tryz.ntmps165
   go_wp2_with (fail)
   refine (c0 _).mono ?_;rintro e w0 ⟨rfl,hb0⟩;have r0:=Xz hb0;have l0_0:w.heap.size<w0.heap.size:=XO hb0;go_wp2_with (fail)
   refine (c1 _).mono ?_;rintro e w1 ⟨rfl,hb1⟩;have r1:=Xz hb1;have l1_0:w.heap.size<w1.heap.size:=XO hb1;go_wp2
   go_ret
   refine ⟨?_, ?_⟩
   ·first
    | exact Xx hv.out.symm
    | exact Xx (by rw [hv.out];simp;omega)
   ·exact XA
  ·rw [e1] at c1;cases e2:decide (XC x.low x.high<=0)
   ·have hv:=Lib.hid (show Yg x=false by simp only [Yg,e0,e1,e2];rfl);simp only [decide_eq_false_iff_not] at e2;have bd:=JV x.low x.high;generalize XC x.low x.high=q at *;go_enter Tryz.func165,Tryz.ntmps165
    go_wp2_with (fail)
    refine (c0 _).mono ?_;rintro e w0 ⟨rfl,hb0⟩;have r0:=Xz hb0;have l0_0:w.heap.size<w0.heap.size:=XO hb0;go_wp2_with (fail)
    refine (c1 _).mono ?_;rintro e w1 ⟨rfl,hb1⟩;have r1:=Xz hb1;have l1_0:w.heap.size<w1.heap.size:=XO hb1;go_wp2_with (fail)
    refine (c2 _).mono ?_;rintro e w2 ⟨rfl,hb2⟩;have r2:=Xz hb2;have l2_0:w.heap.size<w2.heap.size:=XO hb2;go_wp2
    go_ret
    refine ⟨?_, ?_⟩
    ·first
     | exact Xx hv.out.symm
     | exact Xx (by rw [hv.out];simp;omega)
    ·exact XA
   ·have hv:=Lib.hid (show Yg x=true by simp only [Yg,e0,e1,e2];rfl);simp only [decide_eq_true_eq] at e2;have bd:=JV x.low x.high;generalize XC x.low x.high=q at *;go_enter Tryz.func165,Tryz.ntmps165
    go_wp2_with (fail)
    refine (c0 _).mono ?_;rintro e w0 ⟨rfl,hb0⟩;have r0:=Xz hb0;have l0_0:w.heap.size<w0.heap.size:=XO hb0;go_wp2_with (fail)
    refine (c1 _).mono ?_;rintro e w1 ⟨rfl,hb1⟩;have r1:=Xz hb1;have l1_0:w.heap.size<w1.heap.size:=XO hb1;go_wp2_with (fail)
    refine (c2 _).mono ?_;rintro e w2 ⟨rfl,hb2⟩;have r2:=Xz hb2;have l2_0:w.heap.size<w2.heap.size:=XO hb2;go_wp2
    go_ret
    refine ⟨?_, ?_⟩
    ·first
     | exact Xx hv.out.symm
     | exact Xx (by rw [hv.out];simp;omega)
    ·exact XA
theorem admL_take {r:X3} {s:Ya} {l:List Half} {k:Nat} (h:k<l.length):admL r s (l.take (k+1))=(admL r s (l.take k)).bind λ w=>admStep r s w l[k]:=by
 unfold admL;rw [Kn l k h,List.foldl_append];rfl
theorem admL_none {r:X3} {s:Ya}:∀ (l m:List Half),admL r s l=none->admL r s (l++m)=none:=by
 intro l m h;unfold admL at h ⊢;rw [List.foldl_append,h];clear h;induction m with
 | nil=>rfl
 | cons x t ih=>exact ih
theorem admL_no {r:X3} {s:Ya} {l:List Half} {k:Nat} (_:k<l.length) (h1:admL r s (l.take (k+1))=none):admL r s l=none:=by
 have:=admL_none (l.take (k+1)) (l.drop (k+1)) h1;rwa [List.take_append_drop] at this
structure MapB (r:X3) (s:Ya):Prop where
 x0 : -2000000000<=r.map.getD 0 0*s.x/\r.map.getD 0 0*s.x<=2000000000
 x1 : -2000000000<=r.map.getD 1 0*s.y/\r.map.getD 1 0*s.y<=2000000000
 y0 : -2000000000<=r.map.getD 2 0*s.x/\r.map.getD 2 0*s.x<=2000000000
 y1 : -2000000000<=r.map.getD 3 0*s.y/\r.map.getD 3 0*s.y<=2000000000
 d:1<=YU r s/\YU r s<=2000000
theorem mapB {r:X3} {s:Ya} (B:RoomB r) (hs:Xu s=true) (hd:s.d<=100000):MapB r s:=by
 obtain ⟨h1,h2,h3,_⟩:=JM.1 hs;have p:=λ i (x:Int) (hx : -100000000<=x/\x<=100000000)=>JC (a:=r.map.getD i 0) (b:=x) (A:=20) (B:=100000000) ⟨by have:=B.m i;omega,by have:=B.m i;omega⟩ ⟨by omega,by omega⟩;have q:=JC (a:=r.div) (b:=s.d) (A:=20) (B:=100000) ⟨by have:=B.div;omega,by have:=B.div;omega⟩ ⟨by omega,by omega⟩;have q0:=Int.mul_pos (show 0<r.div by have:=B.div;omega) (show 0<s.d by omega);have a:=p 0 s.x ⟨by omega,by omega⟩;have b:=p 1 s.y ⟨by omega,by omega⟩;have c:=p 2 s.x ⟨by omega,by omega⟩;have d:=p 3 s.y ⟨by omega,by omega⟩;exact ⟨⟨by omega,by omega⟩,⟨by omega,by omega⟩,⟨by omega,by omega⟩,⟨by omega,by omega⟩,⟨by unfold YU;omega,by unfold YU;omega⟩⟩
structure AdmP (r:X3) (s:Ya) (h:Half):Prop where
 a : -5000000<=h.a*r.bx/\h.a*r.bx<=5000000
 b : -5000000<=h.b*r.by_/\h.b*r.by_<=5000000
 c : -200000000000000<=h.c*YU r s/\h.c*YU r s<=200000000000000
 x : -200000000000000<=h.a*mapX r s/\h.a*mapX r s<=200000000000000
 y : -200000000000000<=h.b*mapY r s/\h.b*mapY r s<=200000000000000
 n : -20000000000000<=YU r s*Ku r h/\YU r s*Ku r h<=20000000000000
theorem admP {r:X3} {s:Ya} {h:Half} (B:RoomB r) (M:MapB r s) (hh:XW h=true):AdmP r s h:=by
 obtain ⟨a1,a2,a3,_⟩:=Kd.1 hh;have hd:=M.d;have h0:=M.x0;have h1:=M.x1;have h2:=M.y0;have h3:=M.y1;have p:=JC (a:=h.a) (b:=r.bx) (A:=50000) (B:=100) ⟨by omega,by omega⟩ ⟨by have:=B.bx;omega,by have:=B.bx;omega⟩;have q:=JC (a:=h.b) (b:=r.by_) (A:=50000) (B:=100) ⟨by omega,by omega⟩ ⟨by have:=B.by_;omega,by have:=B.by_;omega⟩;have c:=JC (a:=h.c) (b:=YU r s) (A:=100000000) (B:=2000000) ⟨by omega,by omega⟩ ⟨by omega,by omega⟩;have x:=JC (a:=h.a) (b:=mapX r s) (A:=50000) (B:=4000000000) ⟨by omega,by omega⟩ ⟨by unfold mapX;omega,by unfold mapX;omega⟩;have y:=JC (a:=h.b) (b:=mapY r s) (A:=50000) (B:=4000000000) ⟨by omega,by omega⟩ ⟨by unfold mapY;omega,by unfold mapY;omega⟩;have n:=JC (a:=YU r s) (b:=Ku r h) (A:=2000000) (B:=10000000) ⟨by omega,by omega⟩ ⟨by unfold Ku;omega,by unfold Ku;omega⟩;exact ⟨⟨by omega,by omega⟩,⟨by omega,by omega⟩,⟨by omega,by omega⟩,⟨by omega,by omega⟩,⟨by omega,by omega⟩,⟨by omega,by omega⟩⟩
theorem adm_high {r:X3} {s:Ya} {h:Half} (P:AdmP r s h) (M:MapB r s) (hn:0<Ku r h):(-1000000000000000000<=topA r s h/\topA r s h<=1000000000000000000)/\(1<=YU r s*Ku r h/\YU r s*Ku r h<=1000000000000000):=by
 have:=Int.mul_pos (show 0<YU r s by have:=M.d;omega) hn;have hc:=P.c;have hx:=P.x;have hy:=P.y;have hp:=P.n;unfold topA;exact ⟨⟨by omega,by omega⟩,⟨by omega,by omega⟩⟩
theorem adm_low {r:X3} {s:Ya} {h:Half} (P:AdmP r s h) (M:MapB r s) (hn:Ku r h<0):(-1000000000000000000<=-(topA r s h)/\-(topA r s h)<=1000000000000000000)/\(1<=-(YU r s)*Ku r h/\-(YU r s)*Ku r h<=1000000000000000):=by
 have:=Int.mul_pos (show 0<YU r s by have:=M.d;omega) (show 0 < -(Ku r h) by omega);rw [Int.mul_neg] at this;have hc:=P.c;have hx:=P.x;have hy:=P.y;have hp:=P.n;rw [Int.neg_mul];unfold topA;exact ⟨⟨by omega,by omega⟩,⟨by omega,by omega⟩⟩
theorem one_ok {n:Int} (h : -1000<=n/\n<=1000):Xr ⟨n,1⟩=true:=by
 refine ZJ.2 ⟨⟨by simp,by simp⟩,⟨by simp only;omega,by simp only;omega⟩, ?_⟩;simp
theorem admL_ok {r:X3} {s:Ya} {l:List Half} (B:RoomB r) (M:MapB r s) (hl:∀ h∈l,XW h=true):∀ k,k<=l.length->∀ w,admL r s (l.take k)=some w->Xr w.low=true/\Xr w.high=true
 | 0,_,w,h=>by
  have:=B.low;have:=B.high;cases h;exact ⟨one_ok ⟨by omega,by omega⟩,one_ok ⟨by omega,by omega⟩⟩
 | k+1,hk,w,h=>by
  rw [admL_take (by omega)] at h;cases e:admL r s (l.take k) with
  | none=>rw [e] at h;cases h
  | some v =>
   rw [e] at h;obtain ⟨h1,h2⟩:=admL_ok B M hl k (by omega) v e;simp only [Option.bind_some] at h;have P:=admP B M (hl _ (List.getElem_mem (show k<l.length by omega)));unfold admStep at h;split at h
   ·rename_i hn
    cases h;obtain ⟨t,d⟩:=adm_high P M hn;exact ⟨h1,ratioMin_ok h2 (ZF t d).1⟩
   split at h
   ·rename_i hn
    cases h;obtain ⟨t,d⟩:=adm_low P M hn;exact ⟨ratioMax_ok h1 (ZF t d).1,h2⟩
   split at h
   ·cases h
   ·cases h;exact ⟨h1,h2⟩
theorem JF {r:YA} (h:Xr r=true):r.In:=by
 obtain ⟨⟨a,b⟩,⟨c,d⟩,_⟩:=ZJ.1 h;exact ⟨⟨by omega,by omega⟩,⟨by omega,by omega⟩⟩
def Za (r:X3) (p:List Half):Bool:=!decide (p.length=0)&&Jr r p && !decide ((Zs r p).length=0)
theorem rpR_ok (r:X3) (p:List Half):Xf (Zs r p)=true:=by
 unfold Zs;split
 ·exact movR_ok (λ h _ g e=>eroH_ok e)
 ·rfl
def Jz:Option ZP->Value
 | some w=>.tuple #[Y9 w,.bool true]
 | none=>.tuple #[Y9 Xj,.bool false]
theorem iRob_c (r:X3) (p:List Half) (a:YO) (b:ZY) (w:World) (hn:Xs r<=1048576) (hin:Zu r) (hs:YH w r a) (hnl:Zk a) (hlp:p.length<=1048576) (hpi:∀ h∈p,h.In) (hsp:Sl 3 Xk w b.A p) (hnb:b.A=none->b.c=0) :
 Calls Tryz.prog 185 #[XN r a,Zb p b] w λ e w'=>∃ v,e=.returned (.tuple #[.agg #[v],.bool (Jr r p)])/\XI 175 3 Xk w' w.heap.size v (Zs r p)/\Below w.heap.size w w':=by
 have c1:=λ W h=>iRoomOk_c r a W hn hin h hnl;have c2:=λ W h=>JW p b W hlp hpi h hnb;obtain ⟨W,hW⟩:∃ W,W=((w.alloc (.cells #[.slice a.map.A (List.length r.map) a.map.c,.int .i64 r.div,.int .i64 r.bx,.int .i64 r.by_,.int .i64 r.low,.int .i64 r.high,.slice a.noise.A (List.length r.noise) a.noise.c,.slice a.limits.A (List.length r.limits) a.limits.c] 39)).alloc (.cells #[.slice b.A p.length b.c] 37)).alloc (.cells #[.slice none 0 0] 37):=⟨_,rfl⟩;have HA:YI W w.heap.size [.slice a.map.A (List.length r.map) a.map.c,.int .i64 r.div,.int .i64 r.bx,.int .i64 r.by_,.int .i64 r.low,.int .i64 r.high,.slice a.noise.A (List.length r.noise) a.noise.c,.slice a.limits.A (List.length r.limits) a.limits.c]:=by
  rw [hW];exact Zp
 have HB:YI W (w.heap.size+1) [.slice b.A p.length b.c]:=by
  rw [hW];exact Zp
 have HR:YI W (w.heap.size+1+1) [.slice none 0 0]:=by
  rw [hW];exact Zp
 have b0:Below w.heap.size w W:=by
  rw [hW];exact XA
 have zW:w.heap.size+1+1<W.heap.size:=HR.1;have hs0:=hs.below b0;have sp:=hsp.below b0;have hW':=Lib.hid hW;clear hW hs hsp;obtain ⟨cHA_0,fHA_0⟩:=HA.2 0 _ rfl;obtain ⟨cHA_1,fHA_1⟩:=HA.2 1 _ rfl;obtain ⟨cHA_2,fHA_2⟩:=HA.2 2 _ rfl;obtain ⟨cHA_3,fHA_3⟩:=HA.2 3 _ rfl;obtain ⟨cHA_4,fHA_4⟩:=HA.2 4 _ rfl;obtain ⟨cHA_5,fHA_5⟩:=HA.2 5 _ rfl;obtain ⟨cHA_6,fHA_6⟩:=HA.2 6 _ rfl;obtain ⟨cHA_7,fHA_7⟩:=HA.2 7 _ rfl;obtain ⟨cHB_0,fHB_0⟩:=HB.2 0 _ rfl;have lA:=HA.1;have lB:=HB.1;cases e1:Xw r
 ·have hF:=Lib.hid (rp_no (r:=r) (p:=p) (.inl e1));rw [e1] at c1;go_enter Tryz.func185,Tryz.ntmps185
  go_upto_region 1 with fail
  rw [<- hW'.out];clear hW';go_wp2_with (fail)
  refine (c1 _ hs0).mono ?_;rintro e w1 ⟨rfl,hb1⟩;have R9:=HR.below hb1;have b9:=Xn b0 hb1;obtain ⟨cR9_0,fR9_0⟩:=R9.2 0 _ rfl;have lR:=R9.1;go_wp2
  refine bodyPost_ret (v:=.tuple #[.agg #[.slice none 0 0],.bool false]) (by simp [results,Tryz.results185,go_sem,cR9_0]) rfl ⟨.slice none 0 0,by rw [hF.out.1], ?_,Zz b9 (by simp only;omega) _⟩;rw [hF.out.2];exact ⟨none,0,rfl,World.ownsRow_nil _ _ _ _⟩
 rw [e1] at c1;cases e2:Xf p
 ·have hF:=Lib.hid (rp_no (r:=r) (p:=p) (.inr e2));rw [e2] at c2;go_enter Tryz.func185,Tryz.ntmps185
  go_upto_region 1 with fail
  rw [<- hW'.out];clear hW';go_wp2_with (fail)
  refine (c1 _ hs0).mono ?_;rintro e w1 ⟨rfl,hb1⟩;have l2:=blt hb1 lB;have r1:=Xz hb1;go_wp2_with (fail)
  refine (c2 _ (sp.below hb1)).mono ?_;rintro e w2 ⟨rfl,hb2⟩;have R9:=(HR.below hb1).below hb2;have b9:=Xn (Xn b0 hb1) hb2;obtain ⟨cR9_0,fR9_0⟩:=R9.2 0 _ rfl;have lR:=R9.1;go_wp2
  refine bodyPost_ret (v:=.tuple #[.agg #[.slice none 0 0],.bool false]) (by simp [results,Tryz.results185,go_sem,cR9_0]) rfl ⟨.slice none 0 0,by rw [hF.out.1], ?_,Zz b9 (by simp only;omega) _⟩;rw [hF.out.2];exact ⟨none,0,rfl,World.ownsRow_nil _ _ _ _⟩
 rw [e2] at c2;have hF:=Lib.hid (rp_yes e1 e2);have hq:=room_noise e1;have c4:=λ W h1 h2=>iErode_c p r.noise b a.noise W e2 hq.1 hq.2 h1 h2;generalize hok:ZA (ZO r.noise) p=ok at *;generalize hR:ZZ (ZO r.noise) p=R at *;clear hok hR hq;go_enter Tryz.func185,Tryz.ntmps185
 go_upto_region 1 with fail
 rw [<- hW'.out];clear hW';go_wp2_with (fail)
 refine (c1 _ hs0).mono ?_;rintro e w1 ⟨rfl,hb1⟩;have l1:=blt hb1 lA;have l2:=blt hb1 lB;have r1:=Xz hb1;go_wp2_with (fail)
 refine (c2 _ (sp.below hb1)).mono ?_;rintro e w2 ⟨rfl,hb2⟩;have l3:=blt hb2 l1;have l4:=blt hb2 l2;have r2:=Xz hb2;have z4:=Nat.lt_of_lt_of_le zW (Nat.le_trans hb1.size hb2.size);go_wp2_with (fail)
 refine (c4 _ ((sp.below hb1).below hb2) ((hs0.below hb1).below hb2).noise.halves).mono ?_;rintro e w4 ⟨v4,rfl,N4,hb4⟩;have R9:=((HR.below hb1).below hb2).below hb4;have b9:=Xn (Xn (Xn b0 hb1) hb2) hb4;obtain ⟨cR9_0,fR9_0⟩:=R9.2 0 _ rfl;have lR:=R9.1;obtain ⟨Av,cv,rfl,o3⟩:=N4;have N5:XI 175 3 Xk w4 w2.heap.size (.slice Av R.length cv) R:=⟨Av,cv,rfl,o3⟩;go_wp2
 refine bodyPost_ret (v:=.tuple #[.agg #[.slice Av R.length cv],.bool ok]) (by simp [results,Tryz.results185,go_sem, *]) rfl ⟨.slice Av R.length cv,by rw [hF.out.1], ?_,Zz b9 (by simp only;omega) _⟩;rw [hF.out.2];exact (N5.lowC (q:=⟨w.heap.size+1+1,0,none⟩) (by simp only;omega) [.slice Av R.length cv]).mono (by omega)
end Go.Proofs.YtkjimfapbjdafaaGreat
