/-
 How fractions are compared: of the program (products of 128 bits) and of the reference (continued remainders); the lesser and the greater one; spans.
 Conditions: the numbers are ints of the machine.
-/
import Derived.Shelf.Bits.Mul64
import Derived.Test.YtabfdkpdppemaaaGreatGrCQa
import Derived.Test.YtabfdkpdppemaaaGreatGrG
set_option maxHeartbeats 1000000
set_option maxRecDepth 100000
namespace Go.Proofs.YtabfdkpdppemaaaGreat
open Go.RowKit
theorem JY (r s:Y3) : -1<=XK r s/\XK r s<=1:=by
 unfold XK;split
 ·exact cmpF_bd _ _ _ _
 ·omega
theorem ratioOk_bd {r:Y3} (h:Xy r=true):(1<=r.d/\r.d<=1000000000000000)/\(-1000000000000000000<=r.n/\r.n<=1000000000000000000):=by
 have:=KO.1 h;exact ⟨this.1,this.2.1⟩
def X0 (r s:Y3):Y3:=if Xy r=true/\Xy s=true then (if XK r s<=0 then r else s) else ZS
def X1 (r s:Y3):Y3:=if Xy r=true/\Xy s=true then (if 0<=XK r s then r else s) else ZS
abbrev Kg (w:YT):Value:=.agg #[.int .i64 w.low.n,.int .i64 w.low.d,.int .i64 w.high.n,.int .i64 w.high.d]
def XC:YT:=⟨ZS,ZS⟩
theorem ratioMin_in {r s:Y3} (hr:r.In) (hs:s.In):(X0 r s).In:=by
 unfold X0;split
 ·split<;>assumption
 ·exact ⟨⟨by decide,by decide⟩,⟨by decide,by decide⟩⟩
theorem ratioMax_in {r s:Y3} (hr:r.In) (hs:s.In):(X1 r s).In:=by
 unfold X1;split
 ·split<;>assumption
 ·exact ⟨⟨by decide,by decide⟩,⟨by decide,by decide⟩⟩
theorem ratioMin_ok {r s:Y3} (hr:Xy r=true) (hs:Xy s=true):Xy (X0 r s)=true:=by
 unfold X0;rw [if_pos ⟨hr,hs⟩];split<;>assumption
theorem ratioMax_ok {r s:Y3} (hr:Xy r=true) (hs:Xy s=true):Xy (X1 r s)=true:=by
 unfold X1;rw [if_pos ⟨hr,hs⟩];split<;>assumption
theorem Js (r s:Y3) (w:World) (hr:r.In) (hs:s.In) :
 Calls Tryz.prog 54 #[ZX r,ZX s] w λ e w'=>e=.returned (.int .i64 (XK r s))/\Below w.heap.size w w':=by
 have c0:=λ W=>Ky r W hr;have c1:=λ W=>Ky s W hs;cases e0:Xy r
 ·rw [e0] at c0;go_enter Tryz.func54,Tryz.ntmps54
  go_wp2_with (fail)
  refine (c0 _).mono ?_;rintro e w0 ⟨rfl,hb0⟩;have r0:=Xo hb0;have l0_0:w.heap.size<w0.heap.size:=Xw hb0;have l0_1:w.heap.size+1<w0.heap.size:=Xw hb0;go_wp2
  go_ret
  refine ⟨Y0 (by simp [XK,e0]), ?_⟩;exact Xi
 ·rw [e0] at c0;cases e1:Xy s
  ·rw [e1] at c1;go_enter Tryz.func54,Tryz.ntmps54
   go_wp2_with (fail)
   refine (c0 _).mono ?_;rintro e w0 ⟨rfl,hb0⟩;have r0:=Xo hb0;have l0_0:w.heap.size<w0.heap.size:=Xw hb0;have l0_1:w.heap.size+1<w0.heap.size:=Xw hb0;go_wp2_with (fail)
   refine (c1 _).mono ?_;rintro e w1 ⟨rfl,hb1⟩;have r1:=Xo hb1;have l1_0:w.heap.size<w1.heap.size:=Xw hb1;have l1_1:w.heap.size+1<w1.heap.size:=Xw hb1;go_wp2
   go_ret
   refine ⟨Y0 (by simp [XK,e1]), ?_⟩;exact Xi
  ·rw [e1] at c1;have hv:=Lib.hid (show XK r s=KH r.n r.d s.n s.d by simp [XK,e0,e1]);have c2:=λ W=>Kb r.n r.d s.n s.d W hr.1 hr.2 hs.1 hs.2 (by have:=ratioOk_bd e0;omega) (by have:=ratioOk_bd e1;omega);go_enter Tryz.func54,Tryz.ntmps54
   go_wp2_with (fail)
   refine (c0 _).mono ?_;rintro e w0 ⟨rfl,hb0⟩;have r0:=Xo hb0;have l0_0:w.heap.size<w0.heap.size:=Xw hb0;have l0_1:w.heap.size+1<w0.heap.size:=Xw hb0;go_wp2_with (fail)
   refine (c1 _).mono ?_;rintro e w1 ⟨rfl,hb1⟩;have r1:=Xo hb1;have l1_0:w.heap.size<w1.heap.size:=Xw hb1;have l1_1:w.heap.size+1<w1.heap.size:=Xw hb1;go_wp2_with (fail)
   refine (c2 _).mono ?_;rintro e w' ⟨rfl,rfl⟩;go_wp2
   go_ret
   refine ⟨Y0 hv.out.symm, ?_⟩;exact Xi
theorem iRatioMin_c (r s:Y3) (w:World) (hr:r.In) (hs:s.In) :
 Calls Tryz.prog 193 #[ZX r,ZX s] w λ e w'=>e=.returned (ZX (X0 r s))/\Below w.heap.size w w':=by
 have c0:=λ W=>Ky r W hr;have c1:=λ W=>Ky s W hs;have c2:=λ W=>Js r s W hr hs;cases e0:Xy r
 ·rw [e0] at c0;have hv:=Lib.hid (show X0 r s=ZS by simp [X0,e0]);go_enter Tryz.func193,Tryz.ntmps193
  go_wp2_with (fail)
  refine (c0 _).mono ?_;rintro e w0 ⟨rfl,hb0⟩;have r0:=Xo hb0;have l0_0:w.heap.size<w0.heap.size:=Xw hb0;have l0_1:w.heap.size+1<w0.heap.size:=Xw hb0;have l0_2:w.heap.size+1+1<w0.heap.size:=Xw hb0;have H:XR w0 (w.heap.size+1+1) [.int .i64 0,.int .i64 0]:=by
   exact YX
  obtain ⟨cH_0,fH_0⟩:=H.2 0 _ rfl;obtain ⟨cH_1,fH_1⟩:=H.2 1 _ rfl;go_wp2
  refine bodyPost_ret (v:=.agg #[.int .i64 0,.int .i64 0]) (by simp [results,Tryz.results193,go_sem,cH_0,cH_1]) rfl ⟨by rw [hv.out];rfl, ?_⟩;exact Xi
 ·rw [e0] at c0;cases e1:Xy s
  ·rw [e1] at c1;have hv:=Lib.hid (show X0 r s=ZS by simp [X0,e1]);go_enter Tryz.func193,Tryz.ntmps193
   go_wp2_with (fail)
   refine (c0 _).mono ?_;rintro e w0 ⟨rfl,hb0⟩;have r0:=Xo hb0;have l0_0:w.heap.size<w0.heap.size:=Xw hb0;have l0_1:w.heap.size+1<w0.heap.size:=Xw hb0;have l0_2:w.heap.size+1+1<w0.heap.size:=Xw hb0;go_wp2_with (fail)
   refine (c1 _).mono ?_;rintro e w1 ⟨rfl,hb1⟩;have r1:=Xo hb1;have l1_0:w.heap.size<w1.heap.size:=Xw hb1;have l1_1:w.heap.size+1<w1.heap.size:=Xw hb1;have l1_2:w.heap.size+1+1<w1.heap.size:=Xw hb1;have H:XR w1 (w.heap.size+1+1) [.int .i64 0,.int .i64 0]:=by
    exact YX
   obtain ⟨cH_0,fH_0⟩:=H.2 0 _ rfl;obtain ⟨cH_1,fH_1⟩:=H.2 1 _ rfl;go_wp2
   refine bodyPost_ret (v:=.agg #[.int .i64 0,.int .i64 0]) (by simp [results,Tryz.results193,go_sem,cH_0,cH_1]) rfl ⟨by rw [hv.out];rfl, ?_⟩;exact Xi
  ·rw [e1] at c1;have bd:=JY r s;cases e2:decide (XK r s<=0)
   ·have hv:=Lib.hid (show X0 r s=s by simp only [decide_eq_false_iff_not] at e2;simp [X0,e0,e1,e2]);simp only [decide_eq_false_iff_not] at e2;clear e0 e1;generalize XK r s=q at *;go_enter Tryz.func193,Tryz.ntmps193
    go_wp2_with (fail)
    refine (c0 _).mono ?_;rintro e w0 ⟨rfl,hb0⟩;have r0:=Xo hb0;have l0_0:w.heap.size<w0.heap.size:=Xw hb0;have l0_1:w.heap.size+1<w0.heap.size:=Xw hb0;have l0_2:w.heap.size+1+1<w0.heap.size:=Xw hb0;go_wp2_with (fail)
    refine (c1 _).mono ?_;rintro e w1 ⟨rfl,hb1⟩;have r1:=Xo hb1;have l1_0:w.heap.size<w1.heap.size:=Xw hb1;have l1_1:w.heap.size+1<w1.heap.size:=Xw hb1;have l1_2:w.heap.size+1+1<w1.heap.size:=Xw hb1;go_wp2_with (fail)
    refine (c2 _).mono ?_;rintro e w2 ⟨rfl,hb2⟩;have r2:=Xo hb2;have l2_0:w.heap.size<w2.heap.size:=Xw hb2;have l2_1:w.heap.size+1<w2.heap.size:=Xw hb2;have l2_2:w.heap.size+1+1<w2.heap.size:=Xw hb2;have H:XR w2 (w.heap.size+1+1) [.int .i64 0,.int .i64 0]:=by
     exact YX
    obtain ⟨cH_0,fH_0⟩:=H.2 0 _ rfl;obtain ⟨cH_1,fH_1⟩:=H.2 1 _ rfl;go_wp2
    refine bodyPost_ret (v:=.agg #[.int .i64 s.n,.int .i64 s.d]) (by simp [results,Tryz.results193,go_sem,cH_0,cH_1]) rfl ⟨by rw [hv.out], ?_⟩;exact Xi
   ·have hv:=Lib.hid (show X0 r s=r by simp only [decide_eq_true_eq] at e2;simp [X0,e0,e1,e2]);simp only [decide_eq_true_eq] at e2;clear e0 e1;generalize XK r s=q at *;go_enter Tryz.func193,Tryz.ntmps193
    go_wp2_with (fail)
    refine (c0 _).mono ?_;rintro e w0 ⟨rfl,hb0⟩;have r0:=Xo hb0;have l0_0:w.heap.size<w0.heap.size:=Xw hb0;have l0_1:w.heap.size+1<w0.heap.size:=Xw hb0;have l0_2:w.heap.size+1+1<w0.heap.size:=Xw hb0;go_wp2_with (fail)
    refine (c1 _).mono ?_;rintro e w1 ⟨rfl,hb1⟩;have r1:=Xo hb1;have l1_0:w.heap.size<w1.heap.size:=Xw hb1;have l1_1:w.heap.size+1<w1.heap.size:=Xw hb1;have l1_2:w.heap.size+1+1<w1.heap.size:=Xw hb1;go_wp2_with (fail)
    refine (c2 _).mono ?_;rintro e w2 ⟨rfl,hb2⟩;have r2:=Xo hb2;have l2_0:w.heap.size<w2.heap.size:=Xw hb2;have l2_1:w.heap.size+1<w2.heap.size:=Xw hb2;have l2_2:w.heap.size+1+1<w2.heap.size:=Xw hb2;have H:XR w2 (w.heap.size+1+1) [.int .i64 0,.int .i64 0]:=by
     exact YX
    obtain ⟨cH_0,fH_0⟩:=H.2 0 _ rfl;obtain ⟨cH_1,fH_1⟩:=H.2 1 _ rfl;go_wp2
    refine bodyPost_ret (v:=.agg #[.int .i64 r.n,.int .i64 r.d]) (by simp [results,Tryz.results193,go_sem,cH_0,cH_1]) rfl ⟨by rw [hv.out], ?_⟩;exact Xi
theorem iRatioMax_c (r s:Y3) (w:World) (hr:r.In) (hs:s.In) :
 Calls Tryz.prog 194 #[ZX r,ZX s] w λ e w'=>e=.returned (ZX (X1 r s))/\Below w.heap.size w w':=by
 have c0:=λ W=>Ky r W hr;have c1:=λ W=>Ky s W hs;have c2:=λ W=>Js r s W hr hs;cases e0:Xy r
 ·rw [e0] at c0;have hv:=Lib.hid (show X1 r s=ZS by simp [X1,e0]);go_enter Tryz.func194,Tryz.ntmps194
  go_wp2_with (fail)
  refine (c0 _).mono ?_;rintro e w0 ⟨rfl,hb0⟩;have r0:=Xo hb0;have l0_0:w.heap.size<w0.heap.size:=Xw hb0;have l0_1:w.heap.size+1<w0.heap.size:=Xw hb0;have l0_2:w.heap.size+1+1<w0.heap.size:=Xw hb0;have H:XR w0 (w.heap.size+1+1) [.int .i64 0,.int .i64 0]:=by
   exact YX
  obtain ⟨cH_0,fH_0⟩:=H.2 0 _ rfl;obtain ⟨cH_1,fH_1⟩:=H.2 1 _ rfl;go_wp2
  refine bodyPost_ret (v:=.agg #[.int .i64 0,.int .i64 0]) (by simp [results,Tryz.results194,go_sem,cH_0,cH_1]) rfl ⟨by rw [hv.out];rfl, ?_⟩;exact Xi
 ·rw [e0] at c0;cases e1:Xy s
  ·rw [e1] at c1;have hv:=Lib.hid (show X1 r s=ZS by simp [X1,e1]);go_enter Tryz.func194,Tryz.ntmps194
   go_wp2_with (fail)
   refine (c0 _).mono ?_;rintro e w0 ⟨rfl,hb0⟩;have r0:=Xo hb0;have l0_0:w.heap.size<w0.heap.size:=Xw hb0;have l0_1:w.heap.size+1<w0.heap.size:=Xw hb0;have l0_2:w.heap.size+1+1<w0.heap.size:=Xw hb0;go_wp2_with (fail)
   refine (c1 _).mono ?_;rintro e w1 ⟨rfl,hb1⟩;have r1:=Xo hb1;have l1_0:w.heap.size<w1.heap.size:=Xw hb1;have l1_1:w.heap.size+1<w1.heap.size:=Xw hb1;have l1_2:w.heap.size+1+1<w1.heap.size:=Xw hb1;have H:XR w1 (w.heap.size+1+1) [.int .i64 0,.int .i64 0]:=by
    exact YX
   obtain ⟨cH_0,fH_0⟩:=H.2 0 _ rfl;obtain ⟨cH_1,fH_1⟩:=H.2 1 _ rfl;go_wp2
   refine bodyPost_ret (v:=.agg #[.int .i64 0,.int .i64 0]) (by simp [results,Tryz.results194,go_sem,cH_0,cH_1]) rfl ⟨by rw [hv.out];rfl, ?_⟩;exact Xi
  ·rw [e1] at c1;have bd:=JY r s;cases e2:decide (0<=XK r s)
   ·have hv:=Lib.hid (show X1 r s=s by simp only [decide_eq_false_iff_not] at e2;simp [X1,e0,e1,e2]);simp only [decide_eq_false_iff_not] at e2;clear e0 e1;generalize XK r s=q at *;go_enter Tryz.func194,Tryz.ntmps194
    go_wp2_with (fail)
    refine (c0 _).mono ?_;rintro e w0 ⟨rfl,hb0⟩;have r0:=Xo hb0;have l0_0:w.heap.size<w0.heap.size:=Xw hb0;have l0_1:w.heap.size+1<w0.heap.size:=Xw hb0;have l0_2:w.heap.size+1+1<w0.heap.size:=Xw hb0;go_wp2_with (fail)
    refine (c1 _).mono ?_;rintro e w1 ⟨rfl,hb1⟩;have r1:=Xo hb1;have l1_0:w.heap.size<w1.heap.size:=Xw hb1;have l1_1:w.heap.size+1<w1.heap.size:=Xw hb1;have l1_2:w.heap.size+1+1<w1.heap.size:=Xw hb1;go_wp2_with (fail)
    refine (c2 _).mono ?_;rintro e w2 ⟨rfl,hb2⟩;have r2:=Xo hb2;have l2_0:w.heap.size<w2.heap.size:=Xw hb2;have l2_1:w.heap.size+1<w2.heap.size:=Xw hb2;have l2_2:w.heap.size+1+1<w2.heap.size:=Xw hb2;have H:XR w2 (w.heap.size+1+1) [.int .i64 0,.int .i64 0]:=by
     exact YX
    obtain ⟨cH_0,fH_0⟩:=H.2 0 _ rfl;obtain ⟨cH_1,fH_1⟩:=H.2 1 _ rfl;go_wp2
    refine bodyPost_ret (v:=.agg #[.int .i64 s.n,.int .i64 s.d]) (by simp [results,Tryz.results194,go_sem,cH_0,cH_1]) rfl ⟨by rw [hv.out], ?_⟩;exact Xi
   ·have hv:=Lib.hid (show X1 r s=r by simp only [decide_eq_true_eq] at e2;simp [X1,e0,e1,e2]);simp only [decide_eq_true_eq] at e2;clear e0 e1;generalize XK r s=q at *;go_enter Tryz.func194,Tryz.ntmps194
    go_wp2_with (fail)
    refine (c0 _).mono ?_;rintro e w0 ⟨rfl,hb0⟩;have r0:=Xo hb0;have l0_0:w.heap.size<w0.heap.size:=Xw hb0;have l0_1:w.heap.size+1<w0.heap.size:=Xw hb0;have l0_2:w.heap.size+1+1<w0.heap.size:=Xw hb0;go_wp2_with (fail)
    refine (c1 _).mono ?_;rintro e w1 ⟨rfl,hb1⟩;have r1:=Xo hb1;have l1_0:w.heap.size<w1.heap.size:=Xw hb1;have l1_1:w.heap.size+1<w1.heap.size:=Xw hb1;have l1_2:w.heap.size+1+1<w1.heap.size:=Xw hb1;go_wp2_with (fail)
    refine (c2 _).mono ?_;rintro e w2 ⟨rfl,hb2⟩;have r2:=Xo hb2;have l2_0:w.heap.size<w2.heap.size:=Xw hb2;have l2_1:w.heap.size+1<w2.heap.size:=Xw hb2;have l2_2:w.heap.size+1+1<w2.heap.size:=Xw hb2;have H:XR w2 (w.heap.size+1+1) [.int .i64 0,.int .i64 0]:=by
     exact YX
    obtain ⟨cH_0,fH_0⟩:=H.2 0 _ rfl;obtain ⟨cH_1,fH_1⟩:=H.2 1 _ rfl;go_wp2
    refine bodyPost_ret (v:=.agg #[.int .i64 r.n,.int .i64 r.d]) (by simp [results,Tryz.results194,go_sem,cH_0,cH_1]) rfl ⟨by rw [hv.out], ?_⟩;exact Xi
theorem iSpanOk_c (x:YT) (w:World) (hx:x.In) :
 Calls Tryz.prog 111 #[Kg x] w λ e w'=>e=.returned (.bool (XQ x))/\Below w.heap.size w w':=by
 have c0:=λ W=>Ky x.low W hx.1;have c1:=λ W=>Ky x.high W hx.2;have c2:=λ W=>Js x.low x.high W hx.1 hx.2;cases e0:Xy x.low
 ·rw [e0] at c0;have hv:=Lib.hid (show XQ x=false by simp [XQ,e0]);go_enter Tryz.func111,Tryz.ntmps111
  go_wp2_with (fail)
  refine (c0 _).mono ?_;rintro e w0 ⟨rfl,hb0⟩;have r0:=Xo hb0;have l0_0:w.heap.size<w0.heap.size:=Xw hb0;go_wp2
  go_ret
  refine ⟨?_, ?_⟩
  ·first
   | exact Xg hv.out.symm
   | exact Xg (by rw [hv.out];simp;omega)
  ·exact Xi
 ·rw [e0] at c0;cases e1:Xy x.high
  ·rw [e1] at c1;have hv:=Lib.hid (show XQ x=false by simp [XQ,e1]);go_enter Tryz.func111,Tryz.ntmps111
   go_wp2_with (fail)
   refine (c0 _).mono ?_;rintro e w0 ⟨rfl,hb0⟩;have r0:=Xo hb0;have l0_0:w.heap.size<w0.heap.size:=Xw hb0;go_wp2_with (fail)
   refine (c1 _).mono ?_;rintro e w1 ⟨rfl,hb1⟩;have r1:=Xo hb1;have l1_0:w.heap.size<w1.heap.size:=Xw hb1;go_wp2
   go_ret
   refine ⟨?_, ?_⟩
   ·first
    | exact Xg hv.out.symm
    | exact Xg (by rw [hv.out];simp;omega)
   ·exact Xi
  ·rw [e1] at c1;cases e2:decide (XK x.low x.high<=0)
   ·have hv:=Lib.hid (show XQ x=false by simp only [XQ,e0,e1,e2];rfl);simp only [decide_eq_false_iff_not] at e2;have bd:=JY x.low x.high;generalize XK x.low x.high=q at *;go_enter Tryz.func111,Tryz.ntmps111
    go_wp2_with (fail)
    refine (c0 _).mono ?_;rintro e w0 ⟨rfl,hb0⟩;have r0:=Xo hb0;have l0_0:w.heap.size<w0.heap.size:=Xw hb0;go_wp2_with (fail)
    refine (c1 _).mono ?_;rintro e w1 ⟨rfl,hb1⟩;have r1:=Xo hb1;have l1_0:w.heap.size<w1.heap.size:=Xw hb1;go_wp2_with (fail)
    refine (c2 _).mono ?_;rintro e w2 ⟨rfl,hb2⟩;have r2:=Xo hb2;have l2_0:w.heap.size<w2.heap.size:=Xw hb2;go_wp2
    go_ret
    refine ⟨?_, ?_⟩
    ·first
     | exact Xg hv.out.symm
     | exact Xg (by rw [hv.out];simp;omega)
    ·exact Xi
   ·have hv:=Lib.hid (show XQ x=true by simp only [XQ,e0,e1,e2];rfl);simp only [decide_eq_true_eq] at e2;have bd:=JY x.low x.high;generalize XK x.low x.high=q at *;go_enter Tryz.func111,Tryz.ntmps111
    go_wp2_with (fail)
    refine (c0 _).mono ?_;rintro e w0 ⟨rfl,hb0⟩;have r0:=Xo hb0;have l0_0:w.heap.size<w0.heap.size:=Xw hb0;go_wp2_with (fail)
    refine (c1 _).mono ?_;rintro e w1 ⟨rfl,hb1⟩;have r1:=Xo hb1;have l1_0:w.heap.size<w1.heap.size:=Xw hb1;go_wp2_with (fail)
    refine (c2 _).mono ?_;rintro e w2 ⟨rfl,hb2⟩;have r2:=Xo hb2;have l2_0:w.heap.size<w2.heap.size:=Xw hb2;go_wp2
    go_ret
    refine ⟨?_, ?_⟩
    ·first
     | exact Xg hv.out.symm
     | exact Xg (by rw [hv.out];simp;omega)
    ·exact Xi
end Go.Proofs.YtabfdkpdppemaaaGreat
