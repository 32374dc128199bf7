/-
 Words on memory that the contracts of this claim use: a slice that reads as a list of structs, a slice of the call's own.
 Conditions: none.
-/
import Derived.Test.YtkjimfapbjdafaaGreatRows
import Derived.WalkKit
import Derived.WalkSpells
import Derived.WalkLawsBesides
import Derived.Deep.Draws
import Derived.Lib.Hide
import Derived.Deep.Slices
import Derived.Deep.Fields
import Derived.ChangeSame
import Derived.ArgAppend
import Derived.StillTailTactics
import Derived.Test.YtkjimfapbjdafaaGreatGrUQh
import Derived.Test.YtkjimfapbjdafaaGreatGrXgQi
namespace Go.Proofs.YtkjimfapbjdafaaGreat
open Go.RowKit
section
variable {α:Type} {sz:Nat} {enc:α->List Value} {w w':World} {A:Option Addr} {xs:List α}
end
section
variable {α:Type} {T sz:Nat} {enc:α->List Value} {w w':World} {v:Value} {xs:List α} {base:Nat}
end
section
variable {α:Type} {T sz:Nat} {enc:α->List Value} {w w':World} {g N k:Nat} {xs:List α}
end
section
variable {w w':World} {g:Nat} {vs:List Value}
end
def mkSpot (r:List Int):Ya:=⟨r.getD 0 0,r.getD 1 0,r.getD 2 0⟩
theorem mkSpot_In {r:List Int} (h:r.length=3) (h2:∀ n∈r,Zv n):(mkSpot r).In:=by
 match r,h with
 | [a,b,c],_=>simpa [Ya.In,mkSpot] using h2
theorem eqRatio_t (x:YA) (w:World) :
 Calls Tryz.prog 59 #[X7 x,X7 x] w λ e w'=>e=.returned (.bool true)/\Below w.heap.size w w':=by
 go_enter Tryz.func59,Tryz.ntmps59
 go_wp2
 go_ret
 refine ⟨rfl, ?_⟩;exact XA
theorem toSpot_c (x:Ya) (w:World) :
 Calls Tryz.prog 21 #[Yj x] w λ e w'=>e=.returned (Yj x)/\Below w.heap.size w w':=by
 go_enter Tryz.func21,Tryz.ntmps21
 go_wp2
 refine bodyPost_ret (v:=.agg #[.int .i64 x.x,.int .i64 x.y,.int .i64 x.d]) (by simp [results,Tryz.results21,go_sem]) rfl ⟨rfl, ?_⟩;exact XA
def XL (r:X3) (p:List Half) (s:Ya):Option ZP:=if Za r p=true/\Xu s=true then XF r (Zs r p) s else none
theorem rpOk_room {r:X3} {p:List Half} (h:Jr r p=true):Xw r=true:=by
 simp only [Jr,Bool.and_eq_true] at h;exact h.1.1
theorem admAt_no1 {r:X3} {p:List Half} {s:Ya} (h:(!(Xf p) || !(Xu s)||decide (s.d > 100000))=true):XL r p s=none:=by
 unfold XL Za Jr;rcases Bool.eq_false_or_eq_true (Xf p) with h1|h1
 ·rcases Bool.eq_false_or_eq_true (Xu s) with h2|h2
  ·rw [h1,h2] at h;have h3:100000<s.d:=by simpa using h
   rw [adm_no h3];split<;>rfl
  ·rw [h2,if_neg (by simp)]
 ·rw [h1,if_neg (by simp)]
theorem admAt_no2 {r:X3} {p:List Half} {s:Ya} (h:(!(Jr r p)||decide ((Zs r p).length=0))=true):XL r p s=none:=by
 unfold XL Za;rcases Bool.eq_false_or_eq_true (Jr r p) with h1|h1
 ·rw [h1] at h;have h2:decide ((Zs r p).length=0)=true:=by simpa using h
  rw [h2,if_neg (by simp)]
 ·rw [h1,if_neg (by simp)]
theorem admAt_yes {r:X3} {p:List Half} {s:Ya} (h1:Xu s=true) (h:(!(Jr r p)||decide ((Zs r p).length=0))=false):XL r p s=XF r (Zs r p) s:=by
 have h2:=Yn (Z9 h);have h3:=Jy h;unfold XL Za;have hp:decide (p.length=0)=false:=by
  cases hq:decide (p.length=0)
  ·rfl
  ·have:=of_decide_eq_true hq;have h5:Zs r p=[]:=by
    unfold Zs;split
    ·exact (mov_void this).2
    ·rfl
   rw [h5] at h3;cases h3
 rw [hp,h2,h3,h1,if_pos (by simp)]
set_option maxRecDepth 100000 in
set_option maxHeartbeats 3000000 in
theorem sAdmAt_c (r:X3) (p:List Half) (s:Ya) (ra:YO) (b:ZY) (w:World) (hn:Xs r<=1048576) (hin:Zu r) (hs:YH w r ra) (hnl:Zk ra) (hlp:p.length<=1048576) (hpi:∀ h∈p,h.In) (hsp:Sl 3 Xk w b.A p) (hnb:b.A=none->b.c=0) (hsi:s.In) :
 Calls Tryz.prog 84 #[XN r ra,.agg #[.slice b.A p.length b.c],Yj s] w λ x w'=>x=.returned (Jz (XL r p s))/\Below w.heap.size w w':=by
 refine YF Tryz.func84 rfl (n:=43) Tryz.ntmps84 (by simp) ?_;intro a0 O J ha;have s0:a0.tmps[0]?.getD undef=XN r ra:=ha 0 _ rfl;have s1:a0.tmps[1]?.getD undef=.agg #[.slice b.A p.length b.c]:=ha 1 _ rfl;have s2:a0.tmps[2]?.getD undef=Yj s:=ha 2 _ rfl;clear ha;have P:=Below.refl w.heap.size w;have V:=Nat.le_refl w.heap.size;refine wp_seq ?_;refine Ys [3,4,5,6,7] [.pointer (some ⟨w.heap.size,0,none⟩),.pointer (some ⟨(w.heap.size+1),0,none⟩),.pointer (some ⟨(w.heap.size+2),0,none⟩),.pointer (some ⟨(w.heap.size+3),0,none⟩),.bool false] [some (.cells (Zf r ra).toArray 39),some (.cells [.slice b.A p.length b.c].toArray 37),some (.cells [.int .i64 s.x,.int .i64 s.y,.int .i64 s.d].toArray 44),some (.cells [.int .i64 0,.int .i64 0,.int .i64 0,.int .i64 0].toArray 72),none] [0,1,2,3,4] [3,4,5,6,7] [0,1,2,3,4] (by kernel_rfl) (by rw [O];decide) (ec ?_ (ec ?_ (ec ?_ (ec ?_ (ec ?_ .nil))))) ?_
 ·intro a w' D hs N Q B;simp [go_sem,D.g rfl s0];rw [hs];exact B
 ·intro a w' D hs N Q B;simp [go_sem,D.g rfl s1];rw [hs];exact B
 ·intro a w' D hs N Q B;simp [go_sem,D.g rfl s2];rw [hs];exact B
 ·intro a w' D hs N Q B;simp [go_sem];rw [hs];exact B
 ·intro a w' D hs N Q B;simp [go_sem];exact B
 intro a1 w2 D R hb hO;replace O:=D.size.trans O;replace J:=D.defers.trans J;have s3:a1.tmps[3]?.getD undef=.pointer (some ⟨w.heap.size,0,none⟩):=R 0 (by decide);have s4:a1.tmps[4]?.getD undef=.pointer (some ⟨(w.heap.size+1),0,none⟩):=R 1 (by decide);have s5:a1.tmps[5]?.getD undef=.pointer (some ⟨(w.heap.size+2),0,none⟩):=R 2 (by decide);have s6:a1.tmps[6]?.getD undef=.pointer (some ⟨(w.heap.size+3),0,none⟩):=R 3 (by decide);have b3:Xy w2 w.heap.size 39 (Zf r ra):=hO 0 _ rfl;have b4:Xy w2 (w.heap.size+1) 37 [.slice b.A p.length b.c]:=hO 1 _ rfl;have b5:Xy w2 (w.heap.size+2) 44 [.int .i64 s.x,.int .i64 s.y,.int .i64 s.d]:=hO 2 _ rfl;have b6:Xy w2 (w.heap.size+3) 72 [.int .i64 0,.int .i64 0,.int .i64 0,.int .i64 0]:=hO 3 _ rfl;have hG:=b6.lt;replace P:=Xn P hb;have zw2:=Nat.le_trans V hb.size;replace V:=Nat.le_refl w2.heap.size;clear D R hb hO s0 s1 s2;refine Xg (wp_seq (wp_seq ?_));refine Xe (by kernel_rfl) [10,11,12,13,14,15,16,17,18,19,20,21,22] [some (.agg #[.slice b.A p.length b.c]),some (.bool (Xf p)),some (.bool (!(Xf p))),some (.bool (!(Xf p))),some ((bif !(Xf p) then undef else (Yj s:Value))),some ((bif !(Xf p) then undef else (.bool (Xu s):Value))),some ((bif !(Xf p) then undef else (.bool (!(Xu s)):Value))),some (.bool (!(Xf p) || !(Xu s))),some (.bool (!(Xf p) || !(Xu s))),some ((bif (!(Xf p) || !(Xu s)) then undef else (.pointer (some ⟨(w.heap.size+2),2,none⟩):Value))),some ((bif (!(Xf p) || !(Xu s)) then undef else (.int .i64 s.d:Value))),some ((bif (!(Xf p) || !(Xu s)) then undef else (.bool (decide (s.d > 100000)):Value))),some (.bool ((!(Xf p) || !(Xu s))||decide (s.d > 100000)))] (XR 13) [10,11,12,13,14,15,16,17,18,19,20,21,22] [0,1,2,3,4,5,6,7,8,9,10,11,12] [] (λ _ _ _=>True) (by kernel_rfl) (by rw [O];decide) ?_ (en rfl ?_ (en rfl ?_ (en rfl ?_ (en rfl ?_ (eg ?_ (eg ?_ (eg ?_ (en rfl ?_ (en rfl ?_ (eg ?_ (eg ?_ (eg ?_ (en rfl ?_ .nil))))))))))))) ?_
 ·exact λ _ _=>trivial
 ·intro M F C H _ _ B;simp [go_sem,H.f.g rfl s4,(b4.k0 H.k).cell];exact (B _ _ H.k rfl trivial)
 ·intro M F C H _ _ B;simp [go_sem,(gS F 10 (H.d 0 rfl rfl))];have hBi:=H.k.below0 P;refine (YC p b C hlp hpi (hsp.below hBi) hnb).mono ?_;rintro x wx ⟨rfl,hb⟩;exact (B _ _ (H.k.call hb) rfl trivial)
 ·exact Z4 1 rfl rfl rfl rfl
 ·exact Zy 2 rfl rfl rfl rfl
 ·intro M F C H _ _ B;refine ZE rfl rfl rfl (H.d 3 rfl rfl) (λ qg=>B _ _ H.k (Xt qg).symm trivial) λ qg=>?_;simp [go_sem,H.f.g rfl s5,(b5.k0 H.k).cell];exact (B _ _ H.k (Xp qg).symm trivial)
 ·intro M F C H _ _ B;refine ZE rfl rfl rfl (H.d 3 rfl rfl) (λ qg=>B _ _ H.k (Xt qg).symm trivial) λ qg=>?_;simp [go_sem,(show F.tmps[14]?.getD undef=_ from (H.d 4 rfl rfl).trans (Xp qg))];refine (sSpotOk_c s C hsi).mono ?_;rintro x wx ⟨rfl,hb⟩;exact (B _ _ (H.k.call hb) (Xp qg).symm trivial)
 ·intro M F C H _ _ B;refine ZE rfl rfl rfl (H.d 3 rfl rfl) (λ qg=>B _ _ H.k (Xt qg).symm trivial) λ qg=>?_;exact ZT rfl (ev ((H.d 5 rfl rfl).trans (Xp qg))) (B _ _ H.k (Xp qg).symm trivial)
 ·exact Js 3 6 rfl rfl rfl rfl rfl rfl
 ·exact Zy 7 rfl rfl rfl rfl
 ·intro M F C H _ _ B;refine ZE rfl rfl rfl (H.d 8 rfl rfl) (λ qg=>B _ _ H.k (Xt qg).symm trivial) λ qg=>?_;simp [go_sem,H.f.g rfl s5];exact (B _ _ H.k (Xp qg).symm trivial)
 ·intro M F C H _ _ B;refine ZE rfl rfl rfl (H.d 8 rfl rfl) (λ qg=>B _ _ H.k (Xt qg).symm trivial) λ qg=>?_;simp [go_sem,(show F.tmps[19]?.getD undef=_ from (H.d 9 rfl rfl).trans (Xp qg)),(b5.k0 H.k).cell];exact (B _ _ H.k (Xp qg).symm trivial)
 ·intro M F C H _ _ B;refine ZE rfl rfl rfl (H.d 8 rfl rfl) (λ qg=>B _ _ H.k (Xt qg).symm trivial) λ qg=>?_;exact Ye rfl (ev ((H.d 10 rfl rfl).trans (Xp qg))) rfl rfl rfl (B _ _ H.k (Xp qg).symm trivial)
 ·exact Js 8 11 rfl rfl rfl rfl rfl rfl
 intro L a7 w8 U D I R S;replace O:=D.Z O;replace J:=D.E J;replace s3:=D.G s3;replace s4:=D.G s4;replace s5:=D.G s5;replace s6:=D.G s6;have s22:=gS a7 22 (R 12 _ rfl);replace b3:=b3.k0 I;replace b4:=b4.k0 I;replace b5:=b5.k0 I;replace b6:=b6.k0 I;replace V:=Nat.le_trans V I.size;replace P:=I.below0 P;clear D I R U S;refine Xg ?_;rcases Bool.eq_false_or_eq_true ((!(Xf p) || !(Xu s))||decide (s.d > 100000)) with q9|q9
 ·refine wp_cond_true (ev (vb s22 q9)) ?_;refine wp_seq ?_;have K:Xq [] (λ L aa C=>X6 C (w.heap.size+3) 72 [.int .i64 0,.int .i64 0,.int .i64 0,.int .i64 0] (L 1) (λ _ vs=>vs=[.int .i64 0,.int .i64 0,.int .i64 0,.int .i64 0])):=by
   intro L aa C w' kk vv hkk hb S;have x0:=S;exact (x0.bel hb (λ _ h=>h))
  refine Xl K (by kernel_rfl) [23,0,7] [some (.agg #[.int .i64 0,.int .i64 0,.int .i64 0,.int .i64 0]),none,some (.bool false)] (XR 3) [23,7] [0,1,2] [(w.heap.size+3)] (by kernel_rfl) (by rw [O];decide) ?_ (en rfl ?_ (en rfl ?_ (en rfl ?_ .nil))) ?_
  ·exact λ _ h=>(⟨λ _=>b6.kp h (by simp),(λ h=>by cases h)⟩)
  ·intro M F C H _ _ B;simp [go_sem];exact (B _ _ H.k rfl H.x)
  ·intro M F C H _ _ B;have x0:=H.x;have T:=x0.1 H.n;simp [go_sem,(gS F 23 (H.d 0 rfl rfl)),H.f.g rfl s6,T.cell,T.frz];exact B undef _ (H.k.store (.inr (by simp)) [.int .i64 0,.int .i64 0,.int .i64 0,.int .i64 0] 0) trivial (X6.set T (us:=[.int .i64 0,.int .i64 0,.int .i64 0,.int .i64 0]) rfl rfl)
  ·exact ZN rfl rfl λ _ _ _ _ h=>h
  intro L a10 w11 U D I R S;have x0:=S;replace O:=D.Z O;replace J:=D.E J;replace s6:=D.G s6;have s7:=gS a10 7 (R 2 _ rfl);clear b6;obtain ⟨_,b6,rfl⟩:=x0.2 (U 1 (by decide));replace V:=Nat.le_trans V I.size;replace P:=I.below P P.size (by simp<;>omega);clear D I R U x0 K s3 s4 s5 s22 b3 b4 b5;refine Xg (wp_ret (Yz ?_));refine bodyPost_ret (v:=.tuple #[.agg #[.int .i64 0,.int .i64 0,.int .i64 0,.int .i64 0],.bool false]) (by simp [results,Tryz.results84,go_sem,s6,b6.cell,s7]) J ?_;exact ⟨by rw [admAt_no1 q9];rfl,P⟩
 ·refine wp_cond_false (ev (vb s22 q9)) ?_;refine wp_skip (Xg (wp_seq ?_));have K:Xq [8,24,27,28] (λ L aa C=>(L 2=true->(λ C v=>∃ A1 c1,v=.tuple #[.agg #[.slice A1 ((Zs r p).length) c1],.bool (Jr r p)]/\XI 175 3 Xk C w8.heap.size (.slice A1 (Zs r p).length c1) (Zs r p)) C (aa.tmps[27]?.getD undef))/\(L 3=true->(λ C v=>∃ A1 c1,v=.tuple #[.agg #[.slice A1 ((Zs r p).length) c1],.bool (Jr r p)]/\XI 175 3 Xk C w8.heap.size (.slice A1 (Zs r p).length c1) (Zs r p)) C (aa.tmps[24]?.getD undef))/\(L 4=true->(λ C v=>∃ A1 c1,v=.agg #[.slice A1 ((Zs r p).length) c1]/\XI 175 3 Xk C w8.heap.size (.slice A1 (Zs r p).length c1) (Zs r p)) C (aa.tmps[28]?.getD undef))/\(L 6=true->XS w8 aa C 8 37 [.slice none 0 0] (L 7) (λ C vs=>∃ A1 c1,vs=[.slice A1 ((Zs r p).length) c1]/\XI 175 3 Xk C w8.heap.size (.slice A1 (Zs r p).length c1) (Zs r p)))):=by
   intro L aa C w' kk vv hkk hb S;obtain ⟨x0,x1,x2,x3⟩:=S;exact ⟨(λ h=>by rw [Xa (hkk 27 (by simp))];obtain ⟨A1',c1',e,f1'⟩:=x0 h;exact ⟨A1',c1',e,f1'.below hb Xh⟩),(λ h=>by rw [Xa (hkk 24 (by simp))];obtain ⟨A1',c1',e,f1'⟩:=x1 h;exact ⟨A1',c1',e,f1'.below hb Xh⟩),(λ h=>by rw [Xa (hkk 28 (by simp))];obtain ⟨A1',c1',e,f1'⟩:=x2 h;exact ⟨A1',c1',e,f1'.below hb Xh⟩),(λ h=>((x3 h).bel hb (λ _ ⟨A1',c1',e,f1'⟩=>⟨A1',c1',e,f1'.below hb Xh⟩)).put (hkk 8 (by simp)) _)⟩
  refine Xl K (by kernel_rfl) [25,26,27,24,28,29,8,0,9] [some (XN r ra),some (.agg #[.slice b.A p.length b.c]),none,none,none,some (.bool (Jr r p)),none,none,some (.bool (Jr r p))] (XR 9) [25,26,27,24,28,29,8,9] [0,1,2,3,4,5,6,7,8] [] (by kernel_rfl) (by rw [O];decide) ?_ (en rfl ?_ (en rfl ?_ (en rfl ?_ (en rfl ?_ (en rfl ?_ (en rfl ?_ (en rfl ?_ (en rfl ?_ (en rfl ?_ .nil))))))))) ?_
  ·exact λ _ h=>⟨(λ h=>by cases h),(λ h=>by cases h),(λ h=>by cases h),(λ h=>by cases h)⟩
  ·intro M F C H _ _ B;simp [go_sem,H.f.g rfl s3,(b3.k0 H.k).cell];exact (B _ _ H.k rfl (K.q rfl H.x))
  ·intro M F C H _ _ B;simp [go_sem,H.f.g rfl s4,(b4.k0 H.k).cell];exact (B _ _ H.k rfl (K.q rfl H.x))
  ·intro M F C H _ _ B;obtain ⟨x0,x1,x2,x3⟩:=H.x;simp [go_sem,(gS F 25 (H.d 0 rfl rfl)),(gS F 26 (H.d 1 rfl rfl))];have hBi:=H.k.below0 P;refine (sRob_c r p ra b C hn hin (hs.below hBi) hnl hlp hpi (hsp.below hBi) hnb).mono ?_;rintro x wx ⟨_,rfl,⟨A1,c1,rfl,f0⟩,hb⟩;have f1:=XI.mono (show XI 175 3 Xk wx C.heap.size (.slice A1 (Zs r p).length c1) (Zs r p) from ⟨_,_,rfl,f0⟩) H.k.size;exact (B _ _ (H.k.call hb) trivial ⟨(λ _=>by rw [Xb (H.f.lt (by rw [O];decide))];exact ⟨A1,c1,rfl,f1⟩),(λ h=>by rw [Xa (by decide)];obtain ⟨A1',c1',e,f1'⟩:=x1 h;exact ⟨A1',c1',e,f1'.below hb Xh⟩),(λ h=>by rw [Xa (by decide)];obtain ⟨A1',c1',e,f1'⟩:=x2 h;exact ⟨A1',c1',e,f1'.below hb Xh⟩),(λ h=>((x3 h).bel hb (λ _ ⟨A1',c1',e,f1'⟩=>⟨A1',c1',e,f1'.below hb Xh⟩)).put (by decide) _)⟩)
  ·intro M F C H _ _ B;obtain ⟨x0,x1,x2,x3⟩:=H.x;obtain ⟨A1,c1,ee2,f1⟩:=x0 (H.r 2 rfl);exact Xv rfl (ev ee2) (B _ _ H.k trivial ⟨(λ h=>by rw [Xa (by decide)];obtain ⟨A1',c1',e,f1'⟩:=x0 h;exact ⟨A1',c1',e,f1'.below bR Xh⟩),(λ _=>by rw [Xb (H.f.lt (by rw [O];decide))];exact ⟨A1,c1,rfl,f1⟩),(λ h=>by rw [Xa (by decide)];obtain ⟨A1',c1',e,f1'⟩:=x2 h;exact ⟨A1',c1',e,f1'.below bR Xh⟩),(λ h=>((x3 h).bel bR (λ _ ⟨A1',c1',e,f1'⟩=>⟨A1',c1',e,f1'.below bR Xh⟩)).put (by decide) _)⟩)
  ·intro M F C H _ _ B;obtain ⟨x0,x1,x2,x3⟩:=H.x;obtain ⟨A1,c1,ee3,f1⟩:=x1 (H.r 3 rfl);exact XM rfl (ev ee3) rfl (B _ _ H.k trivial ⟨(λ h=>by rw [Xa (by decide)];obtain ⟨A1',c1',e,f1'⟩:=x0 h;exact ⟨A1',c1',e,f1'.below bR Xh⟩),(λ h=>by rw [Xa (by decide)];obtain ⟨A1',c1',e,f1'⟩:=x1 h;exact ⟨A1',c1',e,f1'.below bR Xh⟩),(λ _=>by rw [Xb (H.f.lt (by rw [O];decide))];exact ⟨A1,c1,rfl,f1⟩),(λ h=>((x3 h).bel bR (λ _ ⟨A1',c1',e,f1'⟩=>⟨A1',c1',e,f1'.below bR Xh⟩)).put (by decide) _)⟩)
  ·intro M F C H _ _ B;obtain ⟨x0,x1,x2,x3⟩:=H.x;obtain ⟨A1,c1,ee3,f1⟩:=x1 (H.r 3 rfl);exact XM rfl (ev ee3) rfl (B _ _ H.k rfl (K.q rfl H.x))
  ·intro M F C H _ _ B;obtain ⟨x0,x1,x2,x3⟩:=H.x;simp [go_sem];exact B _ _ (H.k.alloc _) trivial ⟨(λ h=>by rw [Xa (by decide)];obtain ⟨A1',c1',e,f1'⟩:=x0 h;exact ⟨A1',c1',e,f1'.below (Xd bR _) Xh⟩),(λ h=>by rw [Xa (by decide)];obtain ⟨A1',c1',e,f1'⟩:=x1 h;exact ⟨A1',c1',e,f1'.below (Xd bR _) Xh⟩),(λ h=>by rw [Xa (by decide)];obtain ⟨A1',c1',e,f1'⟩:=x2 h;exact ⟨A1',c1',e,f1'.below (Xd bR _) Xh⟩),(λ _=>by rw [show Y5 M 6 7=false from H.t 7 rfl];exact XS.new (s:=8) (H.f.lt (by rw [O];decide)) H.k.size [.slice none 0 0])⟩
  ·intro M F C H _ _ B;obtain ⟨x0,x1,x2,x3⟩:=H.x;obtain ⟨A1,c1,ee4,f1⟩:=x2 (H.r 4 rfl);obtain ⟨g,eg,hg,y,_⟩:=x3 (H.r 6 rfl);have T:=y H.n;simp [go_sem,ee4,eg,T.cell,T.frz];have f1:=f1.otherC (f1.typ T (by decide)) [.slice A1 ((Zs r p).length) c1] 0;exact B undef _ (H.k.store (.inl hg) [.slice A1 ((Zs r p).length) c1] 0) trivial ⟨(λ h=>by obtain ⟨A1',c1',e,f1'⟩:=x0 h;exact ⟨A1',c1',e,f1'.otherC (f1'.typ T (by decide)) [.slice A1 ((Zs r p).length) c1] 0⟩),(λ h=>by obtain ⟨A1',c1',e,f1'⟩:=x1 h;exact ⟨A1',c1',e,f1'.otherC (f1'.typ T (by decide)) [.slice A1 ((Zs r p).length) c1] 0⟩),(λ h=>by obtain ⟨A1',c1',e,f1'⟩:=x2 h;exact ⟨A1',c1',e,f1'.otherC (f1'.typ T (by decide)) [.slice A1 ((Zs r p).length) c1] 0⟩),(λ _=>XS.set eg hg T (us:=[.slice A1 ((Zs r p).length) c1]) rfl ⟨A1,c1,rfl,f1⟩)⟩
  ·exact Kl 5 rfl rfl rfl rfl λ _ _ _ _=>K.q rfl
  intro L a12 w13 U D I R S;obtain ⟨x0,x1,x2,x3⟩:=S;replace O:=D.Z O;replace J:=D.E J;replace s3:=D.G s3;replace s5:=D.G s5;replace s6:=D.G s6;have s9:=gS a12 9 (R 8 _ rfl);replace b3:=b3.k0 I;replace b5:=b5.k0 I;replace b6:=b6.k0 I;obtain ⟨g14,s8,lg14,-,b14⟩:=x3 (U 6 (by decide));obtain ⟨_,b14,A1,c1,rfl,N1⟩:=b14 (U 7 (by decide));have i1:∀ p,A1=some p->p.block<w13.heap.size:=λ p hp=>(N1.blk p hp).2;have ug14:=b14.lt;have zw8:=V;have zw13:=I.size;replace V:=Nat.le_refl w13.heap.size;replace P:=I.below0 P;clear D I R U x0 x1 x2 x3 K s4 s22 b4;refine Xg (wp_seq (wp_seq ?_));refine Xe (by kernel_rfl) [30,31,32,33,34,35] [some (.bool (Jr r p)),some (.bool (!(Jr r p))),some (.bool (!(Jr r p))),some ((bif !(Jr r p) then undef else (.agg #[.slice A1 ((Zs r p).length) c1]:Value))),some ((bif !(Jr r p) then undef else (.bool (decide ((Zs r p).length=0)):Value))),some (.bool (!(Jr r p)||decide ((Zs r p).length=0)))] (XR 6) [30,31,32,33,34,35] [0,1,2,3,4,5] [] (λ _ _ _=>True) (by kernel_rfl) (by rw [O];decide) ?_ (en rfl ?_ (en rfl ?_ (en rfl ?_ (eg ?_ (eg ?_ (en rfl ?_ .nil)))))) ?_
  ·exact λ _ _=>trivial
  ·exact YJ s9 rfl rfl rfl
  ·exact Z4 0 rfl rfl rfl rfl
  ·exact Zy 1 rfl rfl rfl rfl
  ·intro M F C H _ _ B;refine ZE rfl rfl rfl (H.d 2 rfl rfl) (λ qg=>B _ _ H.k (Xt qg).symm trivial) λ qg=>?_;simp [go_sem,H.f.g rfl s8,(b14.k0 H.k).cell];exact (B _ _ H.k (Xp qg).symm trivial)
  ·intro M F C H _ _ B;refine ZE rfl rfl rfl (H.d 2 rfl rfl) (λ qg=>B _ _ H.k (Xt qg).symm trivial) λ qg=>?_;simp [go_sem,(show F.tmps[33]?.getD undef=_ from (H.d 3 rfl rfl).trans (Xp qg))];refine (Y7 (Zs r p) ⟨A1,c1⟩ C).mono ?_;rintro x wx ⟨rfl,hb⟩;exact (B _ _ (H.k.call hb) (Xp qg).symm trivial)
  ·exact Js 2 4 rfl rfl rfl rfl rfl rfl
  intro L a15 w16 U D I R S;replace O:=D.Z O;replace J:=D.E J;replace s3:=D.G s3;replace s5:=D.G s5;replace s6:=D.G s6;replace s8:=D.G s8;have s35:=gS a15 35 (R 5 _ rfl);replace b3:=b3.k0 I;replace b5:=b5.k0 I;replace b6:=b6.k0 I;replace b14:=b14.k0 I;replace N1:=N1.below I.toBelow Xh;replace V:=Nat.le_trans V I.size;replace P:=I.below0 P;clear D I R U S s9;refine Xg ?_;rcases Bool.eq_false_or_eq_true (!(Jr r p)||decide ((Zs r p).length=0)) with q17|q17
  ·refine wp_cond_true (ev (vb s35 q17)) ?_;refine wp_seq ?_;have K:Xq [] (λ L aa C=>X6 C (w.heap.size+3) 72 [.int .i64 0,.int .i64 0,.int .i64 0,.int .i64 0] (L 1) (λ _ vs=>vs=[.int .i64 0,.int .i64 0,.int .i64 0,.int .i64 0])):=by
    intro L aa C w' kk vv hkk hb S;have x0:=S;exact (x0.bel hb (λ _ h=>h))
   refine Xl K (by kernel_rfl) [36,0,7] [some (.agg #[.int .i64 0,.int .i64 0,.int .i64 0,.int .i64 0]),none,some (.bool false)] (XR 3) [36,7] [0,1,2] [(w.heap.size+3)] (by kernel_rfl) (by rw [O];decide) ?_ (en rfl ?_ (en rfl ?_ (en rfl ?_ .nil))) ?_
   ·exact λ _ h=>(⟨λ _=>b6.kp h (by simp),(λ h=>by cases h)⟩)
   ·intro M F C H _ _ B;simp [go_sem];exact (B _ _ H.k rfl H.x)
   ·intro M F C H _ _ B;have x0:=H.x;have T:=x0.1 H.n;simp [go_sem,(gS F 36 (H.d 0 rfl rfl)),H.f.g rfl s6,T.cell,T.frz];exact B undef _ (H.k.store (.inr (by simp)) [.int .i64 0,.int .i64 0,.int .i64 0,.int .i64 0] 0) trivial (X6.set T (us:=[.int .i64 0,.int .i64 0,.int .i64 0,.int .i64 0]) rfl rfl)
   ·exact ZN rfl rfl λ _ _ _ _ h=>h
   intro L a18 w19 U D I R S;have x0:=S;replace O:=D.Z O;replace J:=D.E J;replace s6:=D.G s6;have s7:=gS a18 7 (R 2 _ rfl);clear b6;obtain ⟨_,b6,rfl⟩:=x0.2 (U 1 (by decide));replace V:=Nat.le_trans V I.size;replace P:=I.below P P.size (by simp<;>omega);clear D I R U x0 K s3 s5 s8 s35 b3 b5 b14 N1 i1;refine Xg (wp_ret (Yz ?_));refine bodyPost_ret (v:=.tuple #[.agg #[.int .i64 0,.int .i64 0,.int .i64 0,.int .i64 0],.bool false]) (by simp [results,Tryz.results84,go_sem,s6,b6.cell,s7]) J ?_;exact ⟨by rw [admAt_no2 q17];rfl,P⟩
  ·refine wp_cond_false (ev (vb s35 q17)) ?_;refine wp_skip (Xg (wp_seq ?_));have K:Xq [] (λ L aa C=>X6 C (w.heap.size+3) 72 [.int .i64 0,.int .i64 0,.int .i64 0,.int .i64 0] (L 6) (λ _ vs=>vs=[.int .i64 (((XF r (Zs r p) s).getD Xj).low.n),.int .i64 (((XF r (Zs r p) s).getD Xj).low.d),.int .i64 (((XF r (Zs r p) s).getD Xj).high.n),.int .i64 (((XF r (Zs r p) s).getD Xj).high.d)])):=by
    intro L aa C w' kk vv hkk hb S;have x0:=S;exact (x0.bel hb (λ _ h=>h))
   refine Xl K (by kernel_rfl) [37,38,39,40,41,42,0,7] [some (XN r ra),some (.agg #[.slice A1 ((Zs r p).length) c1]),some (Yj s),some (.tuple #[Y9 ((XF r (Zs r p) s).getD Xj),.bool ((XF r (Zs r p) s).isSome)]),some (Y9 ((XF r (Zs r p) s).getD Xj)),some (.bool ((XF r (Zs r p) s).isSome)),none,some (.bool ((XF r (Zs r p) s).isSome))] (XR 8) [37,38,39,40,41,42,7] [0,1,2,3,4,5,6,7] [(w.heap.size+3)] (by kernel_rfl) (by rw [O];decide) ?_ (en rfl ?_ (en rfl ?_ (en rfl ?_ (en rfl ?_ (en rfl ?_ (en rfl ?_ (en rfl ?_ (en rfl ?_ .nil)))))))) ?_
   ·exact λ _ h=>(⟨λ _=>b6.kp h (by simp),(λ h=>by cases h)⟩)
   ·intro M F C H _ _ B;simp [go_sem,H.f.g rfl s3,(b3.kp H.k (by simp<;>omega)).cell];exact (B _ _ H.k rfl H.x)
   ·intro M F C H _ _ B;simp [go_sem,H.f.g rfl s8,(b14.kp H.k (by simp<;>omega)).cell];exact (B _ _ H.k rfl H.x)
   ·intro M F C H _ _ B;simp [go_sem,H.f.g rfl s5,(b5.kp H.k (by simp<;>omega)).cell];exact (B _ _ H.k rfl H.x)
   ·intro M F C H _ _ B;simp [go_sem,(gS F 37 (H.d 0 rfl rfl)),(gS F 38 (H.d 1 rfl rfl)),(gS F 39 (H.d 2 rfl rfl))];have hBi:=H.k.below P P.size (by simp<;>omega);refine (sAdmit_c r (Zs r p) s ra ⟨A1,c1⟩ C (rpOk_room (Yn (Z9 q17))) (Kj (rpR_ok r p)) (YX (rpR_ok r p)) (Yn (Jy (Z9 q9))) (Xo (Jy q9)) (hs.below hBi) ((N1.kp H.k i1 (by omega) (by simp<;>omega)).out XD)).mono ?_;rintro x wx ⟨rfl,hb⟩;exact (B _ _ (H.k.call hb) (KE _) (K M F C _ none undef (by simp) hb H.x))
   ·exact KO 3 rfl rfl rfl rfl rfl λ _ _ _ _ h=>h
   ·exact KO 3 rfl rfl rfl rfl rfl λ _ _ _ _ h=>h
   ·intro M F C H _ _ B;have x0:=H.x;have T:=x0.1 H.n;simp [go_sem,(gS F 41 (H.d 4 rfl rfl)),H.f.g rfl s6,T.cell,T.frz];exact B undef _ (H.k.store (.inr (by simp)) [.int .i64 (((XF r (Zs r p) s).getD Xj).low.n),.int .i64 (((XF r (Zs r p) s).getD Xj).low.d),.int .i64 (((XF r (Zs r p) s).getD Xj).high.n),.int .i64 (((XF r (Zs r p) s).getD Xj).high.d)] 0) trivial (X6.set T (us:=[.int .i64 (((XF r (Zs r p) s).getD Xj).low.n),.int .i64 (((XF r (Zs r p) s).getD Xj).low.d),.int .i64 (((XF r (Zs r p) s).getD Xj).high.n),.int .i64 (((XF r (Zs r p) s).getD Xj).high.d)]) rfl rfl)
   ·exact Kl 5 rfl rfl rfl rfl λ _ _ _ _ h=>h
   intro L a20 w21 U D I R S;have x0:=S;replace O:=D.Z O;replace J:=D.E J;replace s6:=D.G s6;have s7:=gS a20 7 (R 7 _ rfl);clear b6;obtain ⟨_,b6,rfl⟩:=x0.2 (U 6 (by decide));replace V:=Nat.le_trans V I.size;replace P:=I.below P P.size (by simp<;>omega);clear D I R U x0 K s3 s5 s8 s35 b3 b5 b14 N1 i1;refine Xg (wp_ret ?_);refine bodyPost_ret (v:=.tuple #[Y9 ((XF r (Zs r p) s).getD Xj),.bool ((XF r (Zs r p) s).isSome)]) (by simp [results,Tryz.results84,go_sem,s6,b6.cell,s7]) J ?_;exact ⟨by rw [admAt_yes (Yn (Jy (Z9 q9))) q17,KE],P⟩
end Go.Proofs.YtkjimfapbjdafaaGreat
