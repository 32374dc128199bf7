/-
 LawAt: of the program and of the reference.
 Conditions: the slices hold at most 2^20 elements.
-/
import Derived.Deep.DeepCutAuto
import Derived.Test.YtabfdkpdppemaaaGreatGrN
import Derived.Deep.RegionHeld3
import Derived.Deep.DeepMust
import Derived.Test.YtabfdkpdppemaaaGreatGrT
namespace Go.Proofs.YtabfdkpdppemaaaGreat
open Go.RowKit
def Kc (x:Law) (s:XQ):Zg:=⟨(actL x s).2,(actH x s).2⟩
def XY (x:Law) (s:XQ):Bool:=lawOk x&&X6 (Kc x s)
def Yr (x:Law) (s:XQ):Zg:=if XY x s=true then Kc x s else Xw
theorem lawSpan_in {x:Law} {s:XQ} (h:lawOk x=true):(Kc x s).In:=by
 unfold Kc actL actH;rw [if_pos h,if_pos h];exact ⟨bestR_in,bestR_in⟩
theorem lawSpan_bad {x:Law} {s:XQ} (h:lawOk x=true) (h1:Xv s=false):X6 (Kc x s)=false:=by
 have hl:=lawOk_iff.1 h;unfold Kc actL actH;rw [if_pos h,if_pos h,best_bad hl.1 h1,best_bad hl.2 h1];simp [X6,ratioOk_zero]
set_option maxRecDepth 100000 in
set_option maxHeartbeats 4000000 in
theorem iLawAt_c (x:Law) (a:LawA) (s:XQ) (w:World) (hn:lawLen x<=1048576) (hin:LawIn x) (hsi:s.In) (hs:LawSl w x a) :
 Calls Tryz.prog 61 #[lawV x a,YQ s] w λ e w'=>e=.returned (.tuple #[Zm (Yr x s),.bool (XY x s)])/\Below w.heap.size w w':=by
 have c0:=λ W h=>iLawOk_c x a W hn hin h;have c1:=λ W=>Jj s W hsi;simp only [lawLen] at hn;cases e0:lawOk x
 ·rw [e0] at c0;have h1:=Lib.hid (show Yr x s=Xw by simp [Yr,XY,e0]);have h2:=Lib.hid (show XY x s=false by simp [XY,e0]);go_enter Tryz.func61,Tryz.ntmps61
  go_wp2_with (fail)
  refine (c0 _ (LawSl.below hs (by exact Xp))).mono ?_;rintro e w1 ⟨rfl,hb1⟩;have H:Yk w1 (w.heap.size+1+1) [.int .i64 0,.int .i64 0,.int .i64 0,.int .i64 0]:=by
   exact ZK
  obtain ⟨cH_0,fH_0⟩:=H.2 0 _ rfl;obtain ⟨cH_1,fH_1⟩:=H.2 1 _ rfl;obtain ⟨cH_2,fH_2⟩:=H.2 2 _ rfl;obtain ⟨cH_3,fH_3⟩:=H.2 3 _ rfl;have lH:=H.1;go_wp2
  refine bodyPost_ret (v:=.tuple #[.agg #[.int .i64 0,.int .i64 0,.int .i64 0,.int .i64 0],.bool false]) (by simp [results,Tryz.results61,go_sem,cH_0,cH_1,cH_2,cH_3]) rfl ⟨by rw [h1.out,h2.out];rfl, ?_⟩;exact Xp
 ·rw [e0] at c0;have hl:=lawOk_iff.1 e0;cases e1:Xv s
  ·rw [e1] at c1;have h2:=Lib.hid (show XY x s=false by simp [XY,lawSpan_bad e0 e1]);have h1:=Lib.hid (show Yr x s=Xw by unfold Yr;rw [h2.out];rfl);clear hl;go_enter Tryz.func61,Tryz.ntmps61
   go_wp2_with (fail)
   refine (c0 _ (LawSl.below hs (by exact Xp))).mono ?_;rintro e w1 ⟨rfl,hb1⟩;have r1:=XD hb1;have l1:w.heap.size+1<w1.heap.size:=XL hb1;go_wp2_with (fail)
   refine (c1 _).mono ?_;rintro e w2 ⟨rfl,hb2⟩;have H:Yk w2 (w.heap.size+1+1) [.int .i64 0,.int .i64 0,.int .i64 0,.int .i64 0]:=by
    exact ZK
   obtain ⟨cH_0,fH_0⟩:=H.2 0 _ rfl;obtain ⟨cH_1,fH_1⟩:=H.2 1 _ rfl;obtain ⟨cH_2,fH_2⟩:=H.2 2 _ rfl;obtain ⟨cH_3,fH_3⟩:=H.2 3 _ rfl;have lH:=H.1;go_wp2
   refine bodyPost_ret (v:=.tuple #[.agg #[.int .i64 0,.int .i64 0,.int .i64 0,.int .i64 0],.bool false]) (by simp [results,Tryz.results61,go_sem,cH_0,cH_1,cH_2,cH_3]) rfl ⟨by rw [h1.out,h2.out];rfl, ?_⟩;exact Xp
  ·rw [e1] at c1;have c2:=λ W h=>extreme_c a.lows.A x.lows a.lows.c s 1 W (by decide) (by omega) (JO hl.1) e1 h;have c3:=λ W h=>extreme_c a.highs.A x.highs a.highs.c s (-1) W (by decide) (by omega) (JO hl.2) e1 h;have hL:=show actL x s=J0 (valV x.lows s) 1 x.lows.length by unfold actL;rw [if_pos e0,best_same hl.1 e1]
   have hH:=show actH x s=J0 (valV x.highs s) (-1) x.highs.length by unfold actH;rw [if_pos e0,best_same hl.2 e1]
   have bL:=λ h=>@bestR_bad (valV x.lows s) 1 x.lows.length h;have bH:=λ h=>@bestR_bad (valV x.highs s) (-1) x.highs.length h;rw [<- hL] at c2 bL;rw [<- hH] at c3 bH;have c4:=λ W=>iSpanOk_c (Kc x s) W (lawSpan_in e0);have h2:=show XY x s=X6 (Kc x s) by simp [XY,e0]
   clear hL hH;have hsp:Kc x s=⟨(actL x s).2,(actH x s).2⟩:=rfl;have h1:Yr x s=if X6 (Kc x s)=true then Kc x s else Xw:=by unfold Yr;rw [h2]
   rw [h1,h2];rw [hsp] at c4 ⊢;clear h1 h2 hsp hl;generalize actL x s=L at *;generalize actH x s=R at *;generalize allOk (valV x.lows s) x.lows.length=oL at *;generalize allOk (valV x.highs s) x.highs.length=oH at *;have hbL:oL=false->X6 ⟨L.2,R.2⟩=false:=λ h=>by simp [X6,bL h,ratioOk_zero]
   have hbH:oH=false->X6 ⟨L.2,R.2⟩=false:=λ h=>by simp [X6,bH h,ratioOk_zero]
   clear bL bH;cases oL
   ·rw [hbL rfl];clear hbL hbH c4;cases oH
    ·go_enter Tryz.func61,Tryz.ntmps61
     go_wp2_with (fail)
     refine (c0 _ (LawSl.below hs (by exact Xp))).mono ?_;rintro e w1 ⟨rfl,hb1⟩;have r1:=XD hb1;have l0:w.heap.size<w1.heap.size:=XL hb1;have l1:w.heap.size+1<w1.heap.size:=XL hb1;go_wp2_with (fail)
     refine (c1 _).mono ?_;rintro e w2 ⟨rfl,hb2⟩;have r2:=XD hb2;have m0:w.heap.size<w2.heap.size:=XL hb2;have m1:w.heap.size+1<w2.heap.size:=XL hb2;go_wp2_with (fail)
     refine (c2 _ (Sl.below hs.lows (by exact Xp))).mono ?_;rintro e w3 ⟨rfl,hb3⟩;have r3:=XD hb3;have n0:w.heap.size<w3.heap.size:=XL hb3;have n1:w.heap.size+1<w3.heap.size:=XL hb3;go_wp2_with (fail)
     refine (c3 _ (Sl.below hs.highs (by exact Xp))).mono ?_;rintro e w4 ⟨rfl,hb4⟩;have r4:=XD hb4;have o3:w3.heap.size<w4.heap.size:=XL hb4;have H0:Yk w4 (w.heap.size+1+1) [.int .i64 0,.int .i64 0,.int .i64 0,.int .i64 0]:=by
      exact ZK
     have H:=(H0.alloc (.cells #[.int .i64 R.2.n,.int .i64 R.2.d] 36)).alloc (.cells #[.int .i64 L.2.n,.int .i64 L.2.d,.int .i64 R.2.n,.int .i64 R.2.d] 49);have BW:Below w.heap.size w ((w4.alloc (.cells #[.int .i64 R.2.n,.int .i64 R.2.d] 36)).alloc (.cells #[.int .i64 L.2.n,.int .i64 L.2.d,.int .i64 R.2.n,.int .i64 R.2.d] 49)):=by
      exact Xp
     go_upto_region 6 with fail
     generalize hW:(w4.alloc (.cells #[.int .i64 R.2.n,.int .i64 R.2.d] 36)).alloc (.cells #[.int .i64 L.2.n,.int .i64 L.2.d,.int .i64 R.2.n,.int .i64 R.2.d] 49)=w5 at *;clear hW;obtain ⟨cH_0,fH_0⟩:=H.2 0 _ rfl;obtain ⟨cH_1,fH_1⟩:=H.2 1 _ rfl;obtain ⟨cH_2,fH_2⟩:=H.2 2 _ rfl;obtain ⟨cH_3,fH_3⟩:=H.2 3 _ rfl;have lH:=H.1;go_wp2
     refine bodyPost_ret (v:=.tuple #[.agg #[.int .i64 0,.int .i64 0,.int .i64 0,.int .i64 0],.bool false]) (by simp [results,Tryz.results61,go_sem,cH_0,cH_1,cH_2,cH_3]) rfl ⟨rfl, ?_⟩;exact Xp
    ·go_enter Tryz.func61,Tryz.ntmps61
     go_wp2_with (fail)
     refine (c0 _ (LawSl.below hs (by exact Xp))).mono ?_;rintro e w1 ⟨rfl,hb1⟩;have r1:=XD hb1;have l0:w.heap.size<w1.heap.size:=XL hb1;have l1:w.heap.size+1<w1.heap.size:=XL hb1;go_wp2_with (fail)
     refine (c1 _).mono ?_;rintro e w2 ⟨rfl,hb2⟩;have r2:=XD hb2;have m0:w.heap.size<w2.heap.size:=XL hb2;have m1:w.heap.size+1<w2.heap.size:=XL hb2;go_wp2_with (fail)
     refine (c2 _ (Sl.below hs.lows (by exact Xp))).mono ?_;rintro e w3 ⟨rfl,hb3⟩;have r3:=XD hb3;have n0:w.heap.size<w3.heap.size:=XL hb3;have n1:w.heap.size+1<w3.heap.size:=XL hb3;go_wp2_with (fail)
     refine (c3 _ (Sl.below hs.highs (by exact Xp))).mono ?_;rintro e w4 ⟨rfl,hb4⟩;have r4:=XD hb4;have o3:w3.heap.size<w4.heap.size:=XL hb4;have H0:Yk w4 (w.heap.size+1+1) [.int .i64 0,.int .i64 0,.int .i64 0,.int .i64 0]:=by
      exact ZK
     have H:=(H0.alloc (.cells #[.int .i64 R.2.n,.int .i64 R.2.d] 36)).alloc (.cells #[.int .i64 L.2.n,.int .i64 L.2.d,.int .i64 R.2.n,.int .i64 R.2.d] 49);have BW:Below w.heap.size w ((w4.alloc (.cells #[.int .i64 R.2.n,.int .i64 R.2.d] 36)).alloc (.cells #[.int .i64 L.2.n,.int .i64 L.2.d,.int .i64 R.2.n,.int .i64 R.2.d] 49)):=by
      exact Xp
     go_upto_region 6 with fail
     generalize hW:(w4.alloc (.cells #[.int .i64 R.2.n,.int .i64 R.2.d] 36)).alloc (.cells #[.int .i64 L.2.n,.int .i64 L.2.d,.int .i64 R.2.n,.int .i64 R.2.d] 49)=w5 at *;clear hW;obtain ⟨cH_0,fH_0⟩:=H.2 0 _ rfl;obtain ⟨cH_1,fH_1⟩:=H.2 1 _ rfl;obtain ⟨cH_2,fH_2⟩:=H.2 2 _ rfl;obtain ⟨cH_3,fH_3⟩:=H.2 3 _ rfl;have lH:=H.1;go_wp2
     refine bodyPost_ret (v:=.tuple #[.agg #[.int .i64 0,.int .i64 0,.int .i64 0,.int .i64 0],.bool false]) (by simp [results,Tryz.results61,go_sem,cH_0,cH_1,cH_2,cH_3]) rfl ⟨rfl, ?_⟩;exact Xp
   ·cases oH
    ·rw [hbH rfl];clear hbL hbH c4;go_enter Tryz.func61,Tryz.ntmps61
     go_wp2_with (fail)
     refine (c0 _ (LawSl.below hs (by exact Xp))).mono ?_;rintro e w1 ⟨rfl,hb1⟩;have r1:=XD hb1;have l0:w.heap.size<w1.heap.size:=XL hb1;have l1:w.heap.size+1<w1.heap.size:=XL hb1;go_wp2_with (fail)
     refine (c1 _).mono ?_;rintro e w2 ⟨rfl,hb2⟩;have r2:=XD hb2;have m0:w.heap.size<w2.heap.size:=XL hb2;have m1:w.heap.size+1<w2.heap.size:=XL hb2;go_wp2_with (fail)
     refine (c2 _ (Sl.below hs.lows (by exact Xp))).mono ?_;rintro e w3 ⟨rfl,hb3⟩;have r3:=XD hb3;have n0:w.heap.size<w3.heap.size:=XL hb3;have n1:w.heap.size+1<w3.heap.size:=XL hb3;go_wp2_with (fail)
     refine (c3 _ (Sl.below hs.highs (by exact Xp))).mono ?_;rintro e w4 ⟨rfl,hb4⟩;have r4:=XD hb4;have o3:w3.heap.size<w4.heap.size:=XL hb4;have H0:Yk w4 (w.heap.size+1+1) [.int .i64 0,.int .i64 0,.int .i64 0,.int .i64 0]:=by
      exact ZK
     have H:=(H0.alloc (.cells #[.int .i64 R.2.n,.int .i64 R.2.d] 36)).alloc (.cells #[.int .i64 L.2.n,.int .i64 L.2.d,.int .i64 R.2.n,.int .i64 R.2.d] 49);have BW:Below w.heap.size w ((w4.alloc (.cells #[.int .i64 R.2.n,.int .i64 R.2.d] 36)).alloc (.cells #[.int .i64 L.2.n,.int .i64 L.2.d,.int .i64 R.2.n,.int .i64 R.2.d] 49)):=by
      exact Xp
     go_upto_region 6 with fail
     generalize hW:(w4.alloc (.cells #[.int .i64 R.2.n,.int .i64 R.2.d] 36)).alloc (.cells #[.int .i64 L.2.n,.int .i64 L.2.d,.int .i64 R.2.n,.int .i64 R.2.d] 49)=w5 at *;clear hW;obtain ⟨cH_0,fH_0⟩:=H.2 0 _ rfl;obtain ⟨cH_1,fH_1⟩:=H.2 1 _ rfl;obtain ⟨cH_2,fH_2⟩:=H.2 2 _ rfl;obtain ⟨cH_3,fH_3⟩:=H.2 3 _ rfl;have lH:=H.1;go_wp2
     refine bodyPost_ret (v:=.tuple #[.agg #[.int .i64 0,.int .i64 0,.int .i64 0,.int .i64 0],.bool false]) (by simp [results,Tryz.results61,go_sem,cH_0,cH_1,cH_2,cH_3]) rfl ⟨rfl, ?_⟩;exact Xp
    ·clear hbL hbH;cases e2:X6 ⟨L.2,R.2⟩
     ·rw [e2] at c4;go_enter Tryz.func61,Tryz.ntmps61
      go_wp2_with (fail)
      refine (c0 _ (LawSl.below hs (by exact Xp))).mono ?_;rintro e w1 ⟨rfl,hb1⟩;have r1:=XD hb1;have l0:w.heap.size<w1.heap.size:=XL hb1;have l1:w.heap.size+1<w1.heap.size:=XL hb1;go_wp2_with (fail)
      refine (c1 _).mono ?_;rintro e w2 ⟨rfl,hb2⟩;have r2:=XD hb2;have m0:w.heap.size<w2.heap.size:=XL hb2;have m1:w.heap.size+1<w2.heap.size:=XL hb2;go_wp2_with (fail)
      refine (c2 _ (Sl.below hs.lows (by exact Xp))).mono ?_;rintro e w3 ⟨rfl,hb3⟩;have r3:=XD hb3;have n0:w.heap.size<w3.heap.size:=XL hb3;have n1:w.heap.size+1<w3.heap.size:=XL hb3;go_wp2_with (fail)
      refine (c3 _ (Sl.below hs.highs (by exact Xp))).mono ?_;rintro e w4 ⟨rfl,hb4⟩;have r4:=XD hb4;have o3:w3.heap.size<w4.heap.size:=XL hb4;go_wp2_with (fail)
      refine (c4 _).mono ?_;rintro e w5 ⟨rfl,hb5⟩;have r5:=XD hb5;have p4:w4.heap.size<w5.heap.size:=XL hb5;have p5:w4.heap.size+1<w5.heap.size:=XL hb5;have H:Yk w5 (w.heap.size+1+1) [.int .i64 0,.int .i64 0,.int .i64 0,.int .i64 0]:=by
       exact ZK
      obtain ⟨cH_0,fH_0⟩:=H.2 0 _ rfl;obtain ⟨cH_1,fH_1⟩:=H.2 1 _ rfl;obtain ⟨cH_2,fH_2⟩:=H.2 2 _ rfl;obtain ⟨cH_3,fH_3⟩:=H.2 3 _ rfl;have lH:=H.1;go_wp2
      refine bodyPost_ret (v:=.tuple #[.agg #[.int .i64 0,.int .i64 0,.int .i64 0,.int .i64 0],.bool false]) (by simp [results,Tryz.results61,go_sem,cH_0,cH_1,cH_2,cH_3]) rfl ⟨rfl, ?_⟩;exact Xp
     ·rw [e2] at c4;go_enter Tryz.func61,Tryz.ntmps61
      go_wp2_with (fail)
      refine (c0 _ (LawSl.below hs (by exact Xp))).mono ?_;rintro e w1 ⟨rfl,hb1⟩;have r1:=XD hb1;have l0:w.heap.size<w1.heap.size:=XL hb1;have l1:w.heap.size+1<w1.heap.size:=XL hb1;go_wp2_with (fail)
      refine (c1 _).mono ?_;rintro e w2 ⟨rfl,hb2⟩;have r2:=XD hb2;have m0:w.heap.size<w2.heap.size:=XL hb2;have m1:w.heap.size+1<w2.heap.size:=XL hb2;go_wp2_with (fail)
      refine (c2 _ (Sl.below hs.lows (by exact Xp))).mono ?_;rintro e w3 ⟨rfl,hb3⟩;have r3:=XD hb3;have n0:w.heap.size<w3.heap.size:=XL hb3;have n1:w.heap.size+1<w3.heap.size:=XL hb3;go_wp2_with (fail)
      refine (c3 _ (Sl.below hs.highs (by exact Xp))).mono ?_;rintro e w4 ⟨rfl,hb4⟩;have r4:=XD hb4;have o3:w3.heap.size<w4.heap.size:=XL hb4;go_wp2_with (fail)
      refine (c4 _).mono ?_;rintro e w5 ⟨rfl,hb5⟩;have r5:=XD hb5;have p4:w4.heap.size<w5.heap.size:=XL hb5;have p5:w4.heap.size+1<w5.heap.size:=XL hb5;have H:Yk w5 (w.heap.size+1+1) [.int .i64 0,.int .i64 0,.int .i64 0,.int .i64 0]:=by
       exact ZK
      obtain ⟨cH_0,fH_0⟩:=H.2 0 _ rfl;obtain ⟨cH_1,fH_1⟩:=H.2 1 _ rfl;obtain ⟨cH_2,fH_2⟩:=H.2 2 _ rfl;obtain ⟨cH_3,fH_3⟩:=H.2 3 _ rfl;have lH:=H.1;go_wp2
      refine bodyPost_ret (v:=.tuple #[.agg #[.int .i64 L.2.n,.int .i64 L.2.d,.int .i64 R.2.n,.int .i64 R.2.d],.bool true]) (by simp [results,Tryz.results61,go_sem,cH_0,cH_1,cH_2,cH_3]) rfl ⟨rfl, ?_⟩;exact Xp
end Go.Proofs.YtabfdkpdppemaaaGreat
