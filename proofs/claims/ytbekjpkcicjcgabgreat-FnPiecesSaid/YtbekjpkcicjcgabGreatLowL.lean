/-
 The list of the regions of a law's pieces: of the program.
 Conditions: the slices hold at most 2^20 elements.
-/
import Derived.Test.YtbekjpkcicjcgabGreatLowI
namespace Go.Proofs.YtbekjpkcicjcgabGreat
open Go.RowKit
theorem lr_pre_i {r:XK} {p:List Half} {l:KS} (h:(!(Yd l)||decide ((p.length:Int)+(l.lows.length:Int) > 40) || !(XG r) || !(Xc p))=true):lrPre r p l=false:=by
 unfold lrPre;by_cases h4:p.length+l.lows.length<=40
 ·rw [decide_eq_false (show ¬ (p.length:Int)+(l.lows.length:Int) > 40 by omega)] at h;cases h1:Yd l<;>cases h2:XG r<;>cases h3:Xc p<;>simp_all
 ·rw [decide_eq_false h4];simp
theorem lr_pre_t {r:XK} {p:List Half} {l:KS} (h1:Yd l=true) (h2:¬ (p.length:Int)+(l.lows.length:Int) > 40) (h3:XG r=true) (h4:Xc p=true):lrPre r p l=true:=by
 unfold lrPre;rw [h1,decide_eq_true (show p.length+l.lows.length<=40 by omega),h3,h4];rfl
theorem big_or {d:Int} {n:Nat} (h:(decide (d > 1000000)&&decide ((n:Int) > 1))=false):¬ d > 1000000∨¬ 1<n:=by
 rcases Bool.and_eq_false_iff.1 h with h|h
 ·exact .inl (of_decide_eq_false h)
 ·have:=of_decide_eq_false h;exact .inr (by omega)
set_option maxRecDepth 100000 in
set_option maxHeartbeats 3000000 in
theorem iLowRegions_c (r:XK) (p:List Half) (l:KS) (ra:Yq) (b:ZC) (la:KW) (w:World) (hn:XA r<=1048576) (hin:ZR r) (hs:Y4 w r ra) (hnl:Zq ra) (hlp:p.length<=1048576) (hpi:∀ h∈p,h.In) (hsp:Sl 3 Xe w b.A p) (hnb:b.A=none->b.c=0) (hll:YJ l<=1048576) (hli:LawIn l) (hsl:J3 w l la) (hcl:l.lows.length<=la.lows.c) :
 Calls Tryz.prog 8 #[Ye r ra,.agg #[.slice b.A p.length b.c],.agg #[.slice la.lows.A l.lows.length la.lows.c,.slice la.highs.A l.highs.length la.highs.c]] w λ x w'=>∃ v,x=.returned (.tuple #[v,.bool (Z2 r p l)])/\Jq w' w.heap.size v (ZA r p l)/\Below w.heap.size w w':=by
 have hllw:l.lows.length<=1048576:=by unfold YJ at hll;omega
 refine ZY Tryz.func8 rfl (n:=76) Tryz.ntmps8 (by simp) ?_;intro a0 P F ha;have s0:a0.tmps[0]?.getD undef=Ye r ra:=ha 0 _ rfl;have s1:a0.tmps[1]?.getD undef=.agg #[.slice b.A p.length b.c]:=ha 1 _ rfl;have s2:a0.tmps[2]?.getD undef=.agg #[.slice la.lows.A l.lows.length la.lows.c,.slice la.highs.A l.highs.length la.highs.c]:=ha 2 _ rfl;clear ha;have M:=Below.refl w.heap.size w;have R:=Nat.le_refl w.heap.size;refine wp_seq ?_;refine ZD [3,4,5,6,7] [.pointer (some ⟨w.heap.size,0,none⟩),.pointer (some ⟨(w.heap.size+1),0,none⟩),.pointer (some ⟨(w.heap.size+2),0,none⟩),.slice none 0 0,.bool false] [some (.cells (Zr r ra).toArray 28),some (.cells [.slice b.A p.length b.c].toArray 26),some (.cells [.slice la.lows.A l.lows.length la.lows.c,.slice la.highs.A l.highs.length la.highs.c].toArray 36),none,none] [0,1,2,3,3] [3,4,5,6,7] [0,1,2,3,4] (by kernel_rfl) (by rw [P];decide) (ec ?_ (ec ?_ (ec ?_ (ec ?_ (ec ?_ .nil))))) ?_
 ·intro a w' B hs N Q C;simp [go_sem,B.g rfl s0];rw [hs];exact C
 ·intro a w' B hs N Q C;simp [go_sem,B.g rfl s1];rw [hs];exact C
 ·intro a w' B hs N Q C;simp [go_sem,B.g rfl s2];rw [hs];exact C
 ·intro a w' B hs N Q C;simp [go_sem];exact C
 ·intro a w' B hs N Q C;simp [go_sem];exact C
 intro a1 w2 B K hb hO;replace P:=B.size.trans P;replace F:=B.defers.trans F;have s3:a1.tmps[3]?.getD undef=.pointer (some ⟨w.heap.size,0,none⟩):=K 0 (by decide);have s4:a1.tmps[4]?.getD undef=.pointer (some ⟨(w.heap.size+1),0,none⟩):=K 1 (by decide);have s5:a1.tmps[5]?.getD undef=.pointer (some ⟨(w.heap.size+2),0,none⟩):=K 2 (by decide);have b3:Xv w2 w.heap.size 28 (Zr r ra):=hO 0 _ rfl;have b4:Xv w2 (w.heap.size+1) 26 [.slice b.A p.length b.c]:=hO 1 _ rfl;have b5:Xv w2 (w.heap.size+2) 36 [.slice la.lows.A l.lows.length la.lows.c,.slice la.highs.A l.highs.length la.highs.c]:=hO 2 _ rfl;have hG:=b5.lt;replace M:=Xg M hb;have zw2:=Nat.le_trans R hb.size;replace R:=Nat.le_refl w2.heap.size;clear B K hb hO s0 s1 s2;refine Xl (wp_seq (wp_seq ?_));refine Xf [14,15,16,17,18,19,20,21,22,23,24,25,26,27,28,29,30,31,32,33,34,35,36] [some (.agg #[.slice la.lows.A l.lows.length la.lows.c,.slice la.highs.A l.highs.length la.highs.c]),some (.bool (Yd l)),some (.bool (!(Yd l))),some (.bool (!(Yd l))),some ((bif !(Yd l) then undef else (.pointer (some ⟨(w.heap.size+1),0,none⟩):Value))),some ((bif !(Yd l) then undef else (.slice b.A p.length b.c:Value))),some ((bif !(Yd l) then undef else (.int .i64 (p.length:Int):Value))),some ((bif !(Yd l) then undef else (.pointer (some ⟨(w.heap.size+2),0,none⟩):Value))),some ((bif !(Yd l) then undef else (.slice la.lows.A l.lows.length la.lows.c:Value))),some ((bif !(Yd l) then undef else (.int .i64 (l.lows.length:Int):Value))),some ((bif !(Yd l) then undef else (.int .i64 ((p.length:Int)+(l.lows.length:Int)):Value))),some ((bif !(Yd l) then undef else (.bool (decide ((p.length:Int)+(l.lows.length:Int) > 40)):Value))),some (.bool (!(Yd l)||decide ((p.length:Int)+(l.lows.length:Int) > 40))),some (.bool (!(Yd l)||decide ((p.length:Int)+(l.lows.length:Int) > 40))),some ((bif (!(Yd l)||decide ((p.length:Int)+(l.lows.length:Int) > 40)) then undef else (Ye r ra:Value))),some ((bif (!(Yd l)||decide ((p.length:Int)+(l.lows.length:Int) > 40)) then undef else (.bool (XG r):Value))),some ((bif (!(Yd l)||decide ((p.length:Int)+(l.lows.length:Int) > 40)) then undef else (.bool (!(XG r)):Value))),some (.bool ((!(Yd l)||decide ((p.length:Int)+(l.lows.length:Int) > 40)) || !(XG r))),some (.bool ((!(Yd l)||decide ((p.length:Int)+(l.lows.length:Int) > 40)) || !(XG r))),some ((bif ((!(Yd l)||decide ((p.length:Int)+(l.lows.length:Int) > 40)) || !(XG r)) then undef else (.agg #[.slice b.A p.length b.c]:Value))),some ((bif ((!(Yd l)||decide ((p.length:Int)+(l.lows.length:Int) > 40)) || !(XG r)) then undef else (.bool (Xc p):Value))),some ((bif ((!(Yd l)||decide ((p.length:Int)+(l.lows.length:Int) > 40)) || !(XG r)) then undef else (.bool (!(Xc p)):Value))),some (.bool (((!(Yd l)||decide ((p.length:Int)+(l.lows.length:Int) > 40)) || !(XG r)) || !(Xc p)))] (X5 23) [14,15,16,17,18,19,20,21,22,23,24,25,26,27,28,29,30,31,32,33,34,35,36] [] (λ _ _ _=>True) ?_ (e4 ?_ ?_ ?_ ?_ (eg ?_ (eg ?_ (eg ?_ (eg ?_ (eg ?_ (eg ?_ (eg ?_ (eg ?_ (e2 ?_ ?_ (eg ?_ (eg ?_ (eg ?_ (e2 ?_ ?_ (eg ?_ (eg ?_ (eg ?_ (en rfl ?_ .nil)))))))))))))))))) ?_
 ·exact λ _ _=>trivial
 ·intro O J I H _ _ C;simp [go_sem,H.f.g rfl s5,(b5.k0 H.k).cell];exact (C _ _ H.k rfl trivial)
 ·intro O J I H _ _ C;simp [go_sem,(gS J 14 (H.d 0 rfl rfl))];have hBi:=H.k.below0 M;refine (iLawOk_c l la I hll hli (hsl.below hBi)).mono ?_;rintro x wx ⟨rfl,hb⟩;exact (C _ _ (H.k.call hb) rfl trivial)
 ·exact oNDT 1 rfl rfl rfl rfl
 ·exact JW 2 rfl rfl rfl rfl
 ·intro O J I H _ _ C;refine KF rfl rfl rfl (H.d 3 rfl rfl) (λ qg=>C _ _ H.k (XL qg).symm trivial) λ qg=>?_;simp [go_sem,H.f.g rfl s4];exact (C _ _ H.k (Xx qg).symm trivial)
 ·intro O J I H _ _ C;refine KF rfl rfl rfl (H.d 3 rfl rfl) (λ qg=>C _ _ H.k (XL qg).symm trivial) λ qg=>?_;simp [go_sem,(show J.tmps[18]?.getD undef=_ from (H.d 4 rfl rfl).trans (Xx qg)),(b4.k0 H.k).cell];exact (C _ _ H.k (Xx qg).symm trivial)
 ·intro O J I H _ _ C;refine KF rfl rfl rfl (H.d 3 rfl rfl) (λ qg=>C _ _ H.k (XL qg).symm trivial) λ qg=>?_;simp [go_sem,(show J.tmps[19]?.getD undef=_ from (H.d 5 rfl rfl).trans (Xx qg))];exact (C _ _ H.k (Xx qg).symm trivial)
 ·intro O J I H _ _ C;refine KF rfl rfl rfl (H.d 3 rfl rfl) (λ qg=>C _ _ H.k (XL qg).symm trivial) λ qg=>?_;simp [go_sem,H.f.g rfl s5];exact (C _ _ H.k (Xx qg).symm trivial)
 ·intro O J I H _ _ C;refine KF rfl rfl rfl (H.d 3 rfl rfl) (λ qg=>C _ _ H.k (XL qg).symm trivial) λ qg=>?_;simp [go_sem,(show J.tmps[21]?.getD undef=_ from (H.d 7 rfl rfl).trans (Xx qg)),(b5.k0 H.k).cell];exact (C _ _ H.k (Xx qg).symm trivial)
 ·intro O J I H _ _ C;refine KF rfl rfl rfl (H.d 3 rfl rfl) (λ qg=>C _ _ H.k (XL qg).symm trivial) λ qg=>?_;simp [go_sem,(show J.tmps[22]?.getD undef=_ from (H.d 8 rfl rfl).trans (Xx qg))];exact (C _ _ H.k (Xx qg).symm trivial)
 ·intro O J I H _ _ C;refine KF rfl rfl rfl (H.d 3 rfl rfl) (λ qg=>C _ _ H.k (XL qg).symm trivial) λ qg=>?_;exact Y0 rfl (ev ((H.d 6 rfl rfl).trans (Xx qg))) (ev ((H.d 9 rfl rfl).trans (Xx qg))) (by omega) (C _ _ H.k (Xx qg).symm trivial)
 ·intro O J I H _ _ C;refine KF rfl rfl rfl (H.d 3 rfl rfl) (λ qg=>C _ _ H.k (XL qg).symm trivial) λ qg=>?_;exact X3 rfl (ev ((H.d 10 rfl rfl).trans (Xx qg))) rfl rfl rfl (C _ _ H.k (Xx qg).symm trivial)
 ·exact oPOT 3 11 rfl rfl rfl rfl rfl rfl
 ·exact JW 12 rfl rfl rfl rfl
 ·intro O J I H _ _ C;refine KF rfl rfl rfl (H.d 13 rfl rfl) (λ qg=>C _ _ H.k (XL qg).symm trivial) λ qg=>?_;simp [go_sem,H.f.g rfl s3,(b3.k0 H.k).cell];exact (C _ _ H.k (Xx qg).symm trivial)
 ·intro O J I H _ _ C;refine KF rfl rfl rfl (H.d 13 rfl rfl) (λ qg=>C _ _ H.k (XL qg).symm trivial) λ qg=>?_;simp [go_sem,(show J.tmps[28]?.getD undef=_ from (H.d 14 rfl rfl).trans (Xx qg))];have hBi:=H.k.below0 M;refine (iRoomOk_c r ra I hn hin (hs.below hBi) hnl).mono ?_;rintro x wx ⟨rfl,hb⟩;exact (C _ _ (H.k.call hb) (Xx qg).symm trivial)
 ·intro O J I H _ _ C;refine KF rfl rfl rfl (H.d 13 rfl rfl) (λ qg=>C _ _ H.k (XL qg).symm trivial) λ qg=>?_;exact wp_not rfl (ev ((H.d 15 rfl rfl).trans (Xx qg))) (C _ _ H.k (Xx qg).symm trivial)
 ·exact oPOT 13 16 rfl rfl rfl rfl rfl rfl
 ·exact JW 17 rfl rfl rfl rfl
 ·intro O J I H _ _ C;refine KF rfl rfl rfl (H.d 18 rfl rfl) (λ qg=>C _ _ H.k (XL qg).symm trivial) λ qg=>?_;simp [go_sem,H.f.g rfl s4,(b4.k0 H.k).cell];exact (C _ _ H.k (Xx qg).symm trivial)
 ·intro O J I H _ _ C;refine KF rfl rfl rfl (H.d 18 rfl rfl) (λ qg=>C _ _ H.k (XL qg).symm trivial) λ qg=>?_;simp [go_sem,(show J.tmps[33]?.getD undef=_ from (H.d 19 rfl rfl).trans (Xx qg))];have hBi:=H.k.below0 M;refine (KL p b I hlp hpi (hsp.below hBi) hnb).mono ?_;rintro x wx ⟨rfl,hb⟩;exact (C _ _ (H.k.call hb) (Xx qg).symm trivial)
 ·intro O J I H _ _ C;refine KF rfl rfl rfl (H.d 18 rfl rfl) (λ qg=>C _ _ H.k (XL qg).symm trivial) λ qg=>?_;exact wp_not rfl (ev ((H.d 20 rfl rfl).trans (Xx qg))) (C _ _ H.k (Xx qg).symm trivial)
 ·exact oPOT 18 21 rfl rfl rfl rfl rfl rfl
 intro L a6 w7 S B D K U;replace P:=B.Z P;replace F:=B.E F;replace s4:=B.G s4;replace s5:=B.G s5;have s36:=gS a6 36 (K 22 _ rfl);replace b4:=b4.k0 D;replace b5:=b5.k0 D;replace R:=Nat.le_trans R D.size;replace M:=D.below0 M;clear B D K S U s3 b3;refine Xl ?_;rcases Bool.eq_false_or_eq_true (((!(Yd l)||decide ((p.length:Int)+(l.lows.length:Int) > 40)) || !(XG r)) || !(Xc p)) with q8|q8
 ·refine wp_cond_true (ev (vb s36 q8)) ?_;refine wp_seq ?_;refine Xf [6,7] [some (.slice none 0 0),some (.bool false)] (X5 2) [6,7] [] (λ _ _ _=>True) ?_ (e2 ?_ ?_ .nil) ?_
  ·exact λ _ _=>trivial
  ·exact Kw rfl rfl
  ·exact Kw rfl rfl
  intro L a9 w10 S B D K U;replace P:=B.Z P;replace F:=B.E F;have s6:=gS a9 6 (K 0 _ rfl);have s7:=gS a9 7 (K 1 _ rfl);replace R:=Nat.le_trans R D.size;replace M:=D.below0 M;clear B D K S U s4 s5 s36 b4 b5;refine Xl (wp_ret (Kl ?_));refine bodyPost_ret (v:=.tuple #[.slice none 0 0,.bool false]) (by simp [results,Tryz.results8,go_sem,s6,s7]) F ?_;have h0:=lr_pre (lr_pre_i q8);exact ⟨_,by rw [h0.1],by rw [h0.2];exact Jq.nil _ _,M⟩
 ·have hpre:=lr_pre_t (r:=r) (p:=p) (l:=l) (Kx (YW (YW (YW q8)))) (XB (JP (YW (YW q8)))) (Kx (JP (YW q8))) (Kx (JP q8));have hpar:=lr_parts hpre;have hlo:=law_lows hpar.1;refine wp_cond_false (ev (vb s36 q8)) ?_;refine wp_skip (Xl (wp_seq (wp_seq ?_)));refine Xf [37,38,39,40] [some (.pointer (some ⟨(w.heap.size+2),0,none⟩)),some (.slice la.lows.A l.lows.length la.lows.c),some (.int .i64 (l.lows.length:Int)),some (.int .i64 0)] (X5 4) [37,38,39,40] [] (λ _ _ _=>True) ?_ (e4 ?_ ?_ ?_ ?_ .nil) ?_
  ·exact λ _ _=>trivial
  ·intro O J I H _ _ C;simp [go_sem,H.f.g rfl s5];exact (C _ _ H.k rfl trivial)
  ·intro O J I H _ _ C;simp [go_sem,(gS J 37 (H.d 0 rfl rfl)),(b5.k0 H.k).cell];exact (C _ _ H.k rfl trivial)
  ·intro O J I H _ _ C;simp [go_sem,(gS J 38 (H.d 1 rfl rfl))];exact (C _ _ H.k rfl trivial)
  ·exact oMCT rfl rfl
  intro L a11 w12 S B D K U;replace P:=B.Z P;replace F:=B.E F;replace s4:=B.G s4;replace s5:=B.G s5;have s38:=gS a11 38 (K 1 _ rfl);have s39:=gS a11 39 (K 2 _ rfl);have s40:=gS a11 40 (K 3 _ rfl);replace b4:=b4.k0 D;replace b5:=b5.k0 D;replace R:=Nat.le_trans R D.size;replace M:=D.below0 M;clear B D K S U s36;refine Xl (wp_block ?_);refine wp_loop (λ al wl=>al.tmps.size=76/\al.defers=[]/\∃ (i:Nat),(i<=l.lows.length)/\(∀ j,j<i->¬ (l.lows.getD j Xo).d > 1000000∨¬ 1<l.lows.length)/\al.tmps[4]?.getD undef=.pointer (some ⟨(w.heap.size+1),0,none⟩)/\al.tmps[5]?.getD undef=.pointer (some ⟨(w.heap.size+2),0,none⟩)/\al.tmps[38]?.getD undef=.slice la.lows.A l.lows.length la.lows.c/\al.tmps[39]?.getD undef=.int .i64 (l.lows.length:Int)/\al.tmps[40]?.getD undef=.int .i64 (i:Int)/\Xv wl (w.heap.size+1) 26 [.slice b.A p.length b.c]/\Xv wl (w.heap.size+2) 36 [.slice la.lows.A l.lows.length la.lows.c,.slice la.highs.A l.highs.length la.highs.c]/\Below w.heap.size w wl/\w2.heap.size<=wl.heap.size) (λ al _=>(l.lows.length-(intOf (al.tmps[40]?.getD undef)).toNat)) ?_ ?_
  ·exact ⟨P,F,(0),(Nat.zero_le _),(λ j hj=>absurd hj (Nat.not_lt_zero _)),s4,s5,s38,s39,s40,b4,b5,M,(by omega)⟩
  clear P F M R s4 s5 s38 s39 s40 b4 b5;rintro a13 w14 ⟨P,F,i,hi1,hbg,s4,s5,s38,s39,s40,b4,b5,M,R⟩;have zw14:=R;replace R:=Nat.le_refl w14.heap.size;have hmu:(l.lows.length-(intOf (a13.tmps[40]?.getD undef)).toNat)=(l.lows.length-(intOf ((.int .i64 (i:Int)))).toNat):=by rw [s40]
  refine wp_seq ?_;refine Xf [41] [some (.bool (decide ((i:Int)<(l.lows.length:Int))))] (X5 1) [41] [] (λ _ _ _=>True) ?_ (en rfl ?_ .nil) ?_
  ·exact λ _ _=>trivial
  ·exact λ O J I H _ _ C=>X3 rfl (ev (H.f.g rfl s40)) (ev (H.f.g rfl s39)) rfl rfl (C _ _ H.k rfl trivial)
  intro L a15 w16 S B D K U;replace P:=B.Z P;replace F:=B.E F;replace s4:=B.G s4;replace s5:=B.G s5;replace s38:=B.G s38;replace s39:=B.G s39;replace s40:=B.G s40;have s41:=gS a15 41 (K 0 _ rfl);replace b4:=b4.k0 D;replace b5:=b5.k0 D;replace R:=Nat.le_trans R D.size;replace M:=D.below0 M;clear B D K S U;refine Xl (wp_seq ?_);rcases Bool.eq_false_or_eq_true (decide ((i:Int)<(l.lows.length:Int))) with q17|q17
  ·have hkl:i<l.lows.length:=by have:=Kk q17;omega
   obtain ⟨bl,ol,el,fe⟩:=ElS.open_ (hsl.below M).lows (by omega);refine wp_cond_true (ev (vb s41 q17)) ?_;refine wp_skip (Xl (wp_seq (wp_block (wp_seq ?_))));have T:=Xd.x 9 2 3 w16 49 [.int .i64 0,.int .i64 0,.int .i64 0,.int .i64 0] (λ _ vs=>vs=[.int .i64 ((l.lows.getD i Xo).a),.int .i64 ((l.lows.getD i Xo).b),.int .i64 ((l.lows.getD i Xo).c),.int .i64 ((l.lows.getD i Xo).d)]) (λ _ _ h=>h);refine Xz T [42,43,9,0] [some (.pointer (some ⟨bl,ol+i*4,none⟩)),some (XZ (l.lows.getD i Xo)),none,none] (X5 4) [42,43,9] [] ?_ (e4 ?_ ?_ ?_ ?_ .nil) ?_
   ·exact λ _ h=>(λ h=>by cases h)
   ·intro O J I H _ _ C;simp [go_sem,H.f.g rfl s38,H.f.g rfl s40,hkl,el];exact (C _ _ H.k rfl (T.q rfl H.x))
   ·intro O J I H _ _ C;have hE:=fe.kp H.k (by simp);simp [go_sem,(gS J 42 (H.d 0 rfl rfl)),(hE.at_ Xo (i:=i) (by omega) 0 (p:=ol+i*4) (by omega) rfl),(hE.at_ Xo (i:=i) (by omega) 1 (p:=ol+i*4+1) (by omega) rfl),(hE.at_ Xo (i:=i) (by omega) 2 (p:=ol+i*4+2) (by omega) rfl),(hE.at_ Xo (i:=i) (by omega) 3 (p:=ol+i*4+3) (by omega) rfl)];exact (C _ _ H.k rfl (T.q rfl H.x))
   ·intro O J I H _ _ C;have x0:=H.x;simp [go_sem];exact C _ _ (H.k.alloc _) trivial (λ _=>by rw [show Yb O 2 3=false from H.t 3 rfl];exact Ys.new (s:=9) (H.f.lt (by rw [P];decide)) H.k.size [.int .i64 0,.int .i64 0,.int .i64 0,.int .i64 0])
   ·intro O J I H _ _ C;have x0:=H.x;obtain ⟨g,eg,hg,y,_⟩:=x0 (H.r 2 rfl);have V:=y H.n;simp [go_sem,(gS J 43 (H.d 1 rfl rfl)),eg,V.cell,V.frz];exact C undef _ (H.k.store (.inl hg) [.int .i64 ((l.lows.getD i Xo).a),.int .i64 ((l.lows.getD i Xo).b),.int .i64 ((l.lows.getD i Xo).c),.int .i64 ((l.lows.getD i Xo).d)] 0) trivial (λ _=>Ys.set eg hg V (us:=[.int .i64 ((l.lows.getD i Xo).a),.int .i64 ((l.lows.getD i Xo).b),.int .i64 ((l.lows.getD i Xo).c),.int .i64 ((l.lows.getD i Xo).d)]) rfl rfl)
   intro L a18 w19 S B D K U;have x0:=U;replace P:=B.Z P;replace F:=B.E F;replace s4:=B.G s4;replace s5:=B.G s5;replace s38:=B.G s38;replace s39:=B.G s39;replace s40:=B.G s40;replace b4:=b4.k0 D;replace b5:=b5.k0 D;obtain ⟨g20,s9,lg20,-,b20⟩:=x0 (S 2 (by decide));obtain ⟨_,b20,rfl⟩:=b20 (S 3 (by decide));have ug20:=b20.lt;have zw16:=R;have zw19:=D.size;replace R:=Nat.le_refl w19.heap.size;replace M:=D.below0 M;clear B D K S x0 T s41 fe;refine Xl (wp_seq ?_);refine Xf [44,45,46,47,48,49,50,51,52] [some (.pointer (some ⟨g20,3,none⟩)),some (.int .i64 ((l.lows.getD i Xo).d)),some (.bool (decide ((l.lows.getD i Xo).d > 1000000))),some (.bool (decide ((l.lows.getD i Xo).d > 1000000))),some ((bif decide ((l.lows.getD i Xo).d > 1000000) then (.pointer (some ⟨(w.heap.size+2),0,none⟩):Value) else undef)),some ((bif decide ((l.lows.getD i Xo).d > 1000000) then (.slice la.lows.A l.lows.length la.lows.c:Value) else undef)),some ((bif decide ((l.lows.getD i Xo).d > 1000000) then (.int .i64 (l.lows.length:Int):Value) else undef)),some ((bif decide ((l.lows.getD i Xo).d > 1000000) then (.bool (decide ((l.lows.length:Int) > 1)):Value) else undef)),some (.bool (decide ((l.lows.getD i Xo).d > 1000000)&&decide ((l.lows.length:Int) > 1)))] (X5 9) [44,45,46,47,48,49,50,51,52] [] (λ _ _ _=>True) ?_ (e4 ?_ ?_ ?_ ?_ (eg ?_ (eg ?_ (eg ?_ (eg ?_ (en rfl ?_ .nil)))))) ?_
   ·exact λ _ _=>trivial
   ·intro O J I H _ _ C;simp [go_sem,H.f.g rfl s9];exact (C _ _ H.k rfl trivial)
   ·intro O J I H _ _ C;simp [go_sem,(gS J 44 (H.d 0 rfl rfl)),(b20.k0 H.k).cell];exact (C _ _ H.k rfl trivial)
   ·exact λ O J I H _ _ C=>X3 rfl (ev (H.d 1 rfl rfl)) rfl rfl rfl (C _ _ H.k rfl trivial)
   ·exact JW 2 rfl rfl rfl rfl
   ·intro O J I H _ _ C;refine wgt rfl rfl rfl (H.d 3 rfl rfl) (λ qg=>C _ _ H.k (Xx qg).symm trivial) λ qg=>?_;simp [go_sem,H.f.g rfl s5];exact (C _ _ H.k (XL qg).symm trivial)
   ·intro O J I H _ _ C;refine wgt rfl rfl rfl (H.d 3 rfl rfl) (λ qg=>C _ _ H.k (Xx qg).symm trivial) λ qg=>?_;simp [go_sem,(show J.tmps[48]?.getD undef=_ from (H.d 4 rfl rfl).trans (XL qg)),(b5.k0 H.k).cell];exact (C _ _ H.k (XL qg).symm trivial)
   ·intro O J I H _ _ C;refine wgt rfl rfl rfl (H.d 3 rfl rfl) (λ qg=>C _ _ H.k (Xx qg).symm trivial) λ qg=>?_;simp [go_sem,(show J.tmps[49]?.getD undef=_ from (H.d 5 rfl rfl).trans (XL qg))];exact (C _ _ H.k (XL qg).symm trivial)
   ·intro O J I H _ _ C;refine wgt rfl rfl rfl (H.d 3 rfl rfl) (λ qg=>C _ _ H.k (Xx qg).symm trivial) λ qg=>?_;exact X3 rfl (ev ((H.d 6 rfl rfl).trans (XL qg))) rfl rfl rfl (C _ _ H.k (XL qg).symm trivial)
   ·exact λ O J I H _ _ C=>Z3 rfl (ev (H.d 3 rfl rfl)) (λ h=>(ev ((H.d 7 rfl rfl).trans (XL h))).trans (vand_t h)) (λ h=>vand_f h) (C _ _ H.k rfl trivial)
   intro L a21 w22 S B D K U;replace P:=B.Z P;replace F:=B.E F;replace s4:=B.G s4;replace s5:=B.G s5;replace s38:=B.G s38;replace s39:=B.G s39;replace s40:=B.G s40;have s52:=gS a21 52 (K 8 _ rfl);replace b4:=b4.k0 D;replace b5:=b5.k0 D;replace R:=Nat.le_trans R D.size;replace M:=D.below0 M;clear B D K S U s9 b20;refine Xl ?_;rcases Bool.eq_false_or_eq_true (decide ((l.lows.getD i Xo).d > 1000000)&&decide ((l.lows.length:Int) > 1)) with q23|q23
   ·refine wp_cond_true (ev (vb s52 q23)) ?_;refine wp_seq ?_;refine Xf [6,7] [some (.slice none 0 0),some (.bool false)] (X5 2) [6,7] [] (λ _ _ _=>True) ?_ (e2 ?_ ?_ .nil) ?_
    ·exact λ _ _=>trivial
    ·exact Kw rfl rfl
    ·exact Kw rfl rfl
    intro L a24 w25 S B D K U;replace P:=B.Z P;replace F:=B.E F;have s6:=gS a24 6 (K 0 _ rfl);have s7:=gS a24 7 (K 1 _ rfl);replace R:=Nat.le_trans R D.size;replace M:=D.below0 M;clear B D K S U s4 s5 s38 s39 s40 s52 b4 b5;refine Xl (wp_ret ?_);refine ib_r (Kl (Kl (ib_r (Kl ?_))));refine bodyPost_ret (v:=.tuple #[.slice none 0 0,.bool false]) (by simp [results,Tryz.results8,go_sem,s6,s7]) F ?_;have h0:=lr_big (r:=r) (p:=p) (big_yes hkl (by have:=Kk (and_t2 q23);omega) (Kk (and_t1 q23)));exact ⟨_,by rw [h0.1],by rw [h0.2];exact Jq.nil _ _,M⟩
   ·refine wp_cond_false (ev (vb s52 q23)) ?_;refine wp_skip ?_;refine ib_n (Xl ?_);refine Xf [53,40] [some (.int .i64 ((i:Int)+1)),some (.int .i64 ((i:Int)+1))] (X5 2) [53,40] [] (λ L aa I=>(L 1=false->aa.tmps[40]?.getD undef=.int .i64 (i:Int))) ?_ (e2 ?_ ?_ .nil) ?_
    ·exact λ _ h=>(λ _=>s40)
    ·intro O J I H _ _ C;have x0:=H.x;exact Y0 rfl (ev (x0 (H.t 1 rfl))) rfl (by omega) (C _ _ H.k rfl (λ h=>(Xj (by decide) _).trans (x0 h)))
    ·intro O J I H _ _ C;have x0:=H.x;exact Xy rfl (ev (H.d 0 rfl rfl)) (C _ _ H.k rfl (λ h=>by simp [Yb] at h))
    intro L a26 w27 S B D K U;have x0:=U;replace P:=B.Z P;replace F:=B.E F;replace s4:=B.G s4;replace s5:=B.G s5;replace s38:=B.G s38;replace s39:=B.G s39;have s40:=gS a26 40 (K 1 _ rfl);replace b4:=b4.k0 D;replace b5:=b5.k0 D;replace R:=Nat.le_trans R D.size;replace M:=D.below0 M;clear B D K S x0 s52;refine Xl ?_;refine ⟨?_, ?_⟩
    ·exact ⟨P,F,(i+1),(by omega),(λ j hj=>(Nat.lt_succ_iff_lt_or_eq.1 hj).elim (hbg j) (λ e=>by rw [e];exact big_or q23)),s4,s5,s38,s39,s40,b4,b5,M,(by omega)⟩
    ·show (l.lows.length-(intOf (a26.tmps[40]?.getD undef)).toNat)<_;rw [s40,hmu];simp only [intOf];omega
  ·have ei:i=l.lows.length:=by have:=XB q17;omega
   have hbig:lowBig l.lows=false:=big_no (by rw [ei] at hbg;exact hbg);refine wp_cond_false (ev (vb s41 q17)) ?_;refine wp_exit ?_;refine JN (JN (ib_x (Xl (wp_seq ?_))));refine Xf [10] [some (.slice none 0 0)] (X5 1) [10] [] (λ _ _ _=>True) ?_ (en rfl ?_ .nil) ?_
   ·exact λ _ _=>trivial
   ·exact Kw rfl rfl
   intro L a28 w29 S B D K U;replace P:=B.Z P;replace F:=B.E F;replace s4:=B.G s4;replace s5:=B.G s5;have s10:=gS a28 10 (K 0 _ rfl);replace b4:=b4.k0 D;replace b5:=b5.k0 D;replace R:=Nat.le_trans R D.size;replace M:=D.below0 M;clear B D K S U s38 s39 s40 s41;refine Xl (wp_seq (wp_seq ?_));refine Xf [54,55,56,57] [some (.pointer (some ⟨(w.heap.size+2),0,none⟩)),some (.slice la.lows.A l.lows.length la.lows.c),some (.int .i64 (l.lows.length:Int)),some (.int .i64 0)] (X5 4) [54,55,56,57] [] (λ _ _ _=>True) ?_ (e4 ?_ ?_ ?_ ?_ .nil) ?_
   ·exact λ _ _=>trivial
   ·intro O J I H _ _ C;simp [go_sem,H.f.g rfl s5];exact (C _ _ H.k rfl trivial)
   ·intro O J I H _ _ C;simp [go_sem,(gS J 54 (H.d 0 rfl rfl)),(b5.k0 H.k).cell];exact (C _ _ H.k rfl trivial)
   ·intro O J I H _ _ C;simp [go_sem,(gS J 55 (H.d 1 rfl rfl))];exact (C _ _ H.k rfl trivial)
   ·exact oMCT rfl rfl
   intro L a30 w31 S B D K U;replace P:=B.Z P;replace F:=B.E F;replace s4:=B.G s4;replace s5:=B.G s5;replace s10:=B.G s10;have s56:=gS a30 56 (K 2 _ rfl);have s57:=gS a30 57 (K 3 _ rfl);replace b4:=b4.k0 D;replace b5:=b5.k0 D;replace R:=Nat.le_trans R D.size;replace M:=D.below0 M;clear B D K S U;refine Xl (wp_block ?_);obtain ⟨i0g,hi0g,hz0g,hz1g,hz2g⟩:=info_parts (show (Tryz.prog.info? 26).map (λ i=>(i.zero,i.size,i.bytes))=some (some (.agg #[.slice none 0 0]),1,24) by kernel_rfl);refine wp_loop (λ al wl=>al.tmps.size=76/\al.defers=[]/\∃ (k:Nat) (es:List Ju) (A1:Option Addr) (c1:Nat),(k<=l.lows.length)/\(∀ j,j<k->Zi l.lows j=true)/\(ZM wl w.heap.size es (lrL p l.lows k))/\al.tmps[4]?.getD undef=.pointer (some ⟨(w.heap.size+1),0,none⟩)/\al.tmps[5]?.getD undef=.pointer (some ⟨(w.heap.size+2),0,none⟩)/\al.tmps[10]?.getD undef=.slice A1 es.length c1/\al.tmps[56]?.getD undef=.int .i64 (l.lows.length:Int)/\al.tmps[57]?.getD undef=.int .i64 (k:Int)/\Xv wl (w.heap.size+1) 26 [.slice b.A p.length b.c]/\Xv wl (w.heap.size+2) 36 [.slice la.lows.A l.lows.length la.lows.c,.slice la.highs.A l.highs.length la.highs.c]/\XI 26 1 J5 wl w14.heap.size (.slice A1 es.length c1) es/\Below w.heap.size w wl/\w14.heap.size<=wl.heap.size) (λ al _=>(l.lows.length-(intOf (al.tmps[57]?.getD undef)).toNat)) ?_ ?_
   ·exact ⟨P,F,(0),([]),(none),(0),(Nat.zero_le _),(λ j hj=>absurd hj (Nat.not_lt_zero _)),(ZM.nil _ _),s4,s5,s10,s56,s57,b4,b5,(XI.nilN _ _ _ _ _),M,(by omega)⟩
   clear P F M R s4 s5 s10 s56 s57 b4 b5;rintro a32 w33 ⟨P,F,k,es,A1,c1,hk,hgd,hrg,s4,s5,s10,s56,s57,b4,b5,N1,M,R⟩;have zw33:=R;replace R:=Nat.le_refl w33.heap.size;have i1:∀ p,A1=some p->p.block<w33.heap.size:=λ p hp=>(N1.blk p hp).2;have hmu:(l.lows.length-(intOf (a32.tmps[57]?.getD undef)).toNat)=(l.lows.length-(intOf ((.int .i64 (k:Int)))).toNat):=by rw [s57]
   refine wp_seq ?_;refine Xf [58] [some (.bool (decide ((k:Int)<(l.lows.length:Int))))] (X5 1) [58] [] (λ _ _ _=>True) ?_ (en rfl ?_ .nil) ?_
   ·exact λ _ _=>trivial
   ·exact λ O J I H _ _ C=>X3 rfl (ev (H.f.g rfl s57)) (ev (H.f.g rfl s56)) rfl rfl (C _ _ H.k rfl trivial)
   intro L a34 w35 S B D K U;replace P:=B.Z P;replace F:=B.E F;replace s4:=B.G s4;replace s5:=B.G s5;replace s10:=B.G s10;replace s56:=B.G s56;replace s57:=B.G s57;have s58:=gS a34 58 (K 0 _ rfl);replace b4:=b4.k0 D;replace b5:=b5.k0 D;replace hrg:=hrg.kp D (by first|exact X8 N1 (by decide)|simp);replace N1:=N1.below D.toBelow Xs;replace R:=Nat.le_trans R D.size;replace M:=D.below0 M;clear B D K S U;refine Xl (wp_seq ?_);rcases Bool.eq_false_or_eq_true (decide ((k:Int)<(l.lows.length:Int))) with q36|q36
   ·have hkl:k<l.lows.length:=by have:=Kk q36;omega
    refine wp_cond_true (ev (vb s58 q36)) ?_;refine wp_skip (Xl (wp_seq (wp_block (wp_seq ?_))));refine Xf [59,11] [some (.int .i64 (k:Int)),some (.int .i64 (k:Int))] (X5 2) [59,11] [] (λ _ _ _=>True) ?_ (e2 ?_ ?_ .nil) ?_
    ·exact λ _ _=>trivial
    ·exact Za s57 rfl rfl rfl
    ·exact Ja 0 rfl rfl rfl rfl
    intro L a37 w38 S B D K U;replace P:=B.Z P;replace F:=B.E F;replace s4:=B.G s4;replace s5:=B.G s5;replace s10:=B.G s10;replace s56:=B.G s56;replace s57:=B.G s57;have s11:=gS a37 11 (K 1 _ rfl);replace b4:=b4.k0 D;replace b5:=b5.k0 D;replace hrg:=hrg.kp D (by first|exact X8 N1 (by decide)|simp);replace N1:=N1.below D.toBelow Xs;replace R:=Nat.le_trans R D.size;replace M:=D.below0 M;clear B D K S U s58;refine Xl (wp_seq ?_);have hrt:=hrg.top;have hwt:=M.size;have hX0:=Xd.e 65 4 (λ I v=>∃ A2 c2,v=.tuple #[.agg #[.slice A2 ((grR p l.lows k).length) c2],.bool (Zi l.lows k)]/\XI 85 3 Xe I w38.heap.size (.slice A2 (grR p l.lows k).length c2) (grR p l.lows k)) (λ hb _ h=>by obtain ⟨A2',c2',e,f2'⟩:=h;exact ⟨A2',c2',e,f2'.below hb Xs⟩);have hX1:=Xd.e 60 5 (λ I v=>∃ A2 c2,v=.tuple #[.agg #[.slice A2 ((grR p l.lows k).length) c2],.bool (Zi l.lows k)]/\XI 85 3 Xe I w38.heap.size (.slice A2 (grR p l.lows k).length c2) (grR p l.lows k)) (λ hb _ h=>by obtain ⟨A2',c2',e,f2'⟩:=h;exact ⟨A2',c2',e,f2'.below hb Xs⟩);have hX2:=Xd.e 66 6 (λ I v=>∃ A2 c2,v=.agg #[.slice A2 ((grR p l.lows k).length) c2]/\XI 85 3 Xe I w38.heap.size (.slice A2 (grR p l.lows k).length c2) (grR p l.lows k)) (λ hb _ h=>by obtain ⟨A2',c2',e,f2'⟩:=h;exact ⟨A2',c2',e,f2'.below hb Xs⟩);have hX3:=Xd.x 12 8 9 w38 26 [.slice none 0 0] (λ I vs=>∃ A2 c2,vs=[.slice A2 ((grR p l.lows k).length) c2]/\XI 85 3 Xe I w38.heap.size (.slice A2 (grR p l.lows k).length c2) (grR p l.lows k)) (λ hb _ h=>by obtain ⟨A2',c2',e,f2'⟩:=h;exact ⟨A2',c2',e,f2'.below hb Xs⟩);have T:=hX0.a (hX1.a (hX2.a hX3));refine Xz T [61,62,63,64,65,60,66,67,12,0,13] [some (.agg #[.slice b.A p.length b.c]),some (.pointer (some ⟨(w.heap.size+2),0,none⟩)),some (.slice la.lows.A l.lows.length la.lows.c),some (.int .i64 (k:Int)),none,none,none,some (.bool (Zi l.lows k)),none,none,some (.bool (Zi l.lows k))] (X5 11) [61,62,63,64,65,60,66,67,12,13] [] ?_ (e4 ?_ ?_ ?_ ?_ (e4 ?_ ?_ ?_ ?_ (e2 ?_ ?_ (en rfl ?_ .nil)))) ?_
    ·exact λ _ h=>⟨(λ h=>by cases h),(λ h=>by cases h),(λ h=>by cases h),(λ h=>by cases h)⟩
    ·intro O J I H _ _ C;simp [go_sem,H.f.g rfl s4,(b4.k0 H.k).cell];exact (C _ _ H.k rfl (T.q rfl H.x))
    ·intro O J I H _ _ C;simp [go_sem,H.f.g rfl s5];exact (C _ _ H.k rfl (T.q rfl H.x))
    ·intro O J I H _ _ C;simp [go_sem,(gS J 62 (H.d 1 rfl rfl)),(b5.k0 H.k).cell];exact (C _ _ H.k rfl (T.q rfl H.x))
    ·exact Yx s11 rfl rfl rfl λ _ _ _ _=>T.q rfl
    ·intro O J I H _ _ C;obtain ⟨x0,x1,x2,x3⟩:=H.x;simp [go_sem,(gS J 61 (H.d 0 rfl rfl)),(gS J 63 (H.d 2 rfl rfl)),(gS J 64 (H.d 3 rfl rfl))];have hBi:=H.k.below0 M;refine (greatestIn_c p l.lows k b la.lows.A la.lows.c I hpar.2.2.2 hlo (λ h1 _ hk2=>big_d hbig h1 hk2) hkl hpar.2.1 hcl (hsp.below hBi) (hsl.below hBi).lows).mono ?_;rintro x wx ⟨_,rfl,⟨A2,c2,rfl,f0⟩,hb⟩;have f2:=XI.mono (show XI 85 3 Xe wx I.heap.size (.slice A2 (grR p l.lows k).length c2) (grR p l.lows k) from ⟨_,_,rfl,f0⟩) H.k.size;exact (C _ _ (H.k.call hb) trivial ⟨(λ _=>⟨A2,c2,H.f.s P,f2⟩),(hX1.b rfl hb x1),(hX2.b rfl hb x2),(hX3.b rfl hb x3)⟩)
    ·intro O J I H _ _ C;obtain ⟨x0,x1,x2,x3⟩:=H.x;obtain ⟨A2,c2,ee4,f2⟩:=x0 (H.r 4 rfl);exact Xy rfl (ev ee4) (C _ _ H.k trivial ⟨(hX0.q rfl x0),(λ _=>⟨A2,c2,H.f.s P,f2⟩),(hX2.q rfl x2),(hX3.q rfl x3)⟩)
    ·intro O J I H _ _ C;obtain ⟨x0,x1,x2,x3⟩:=H.x;obtain ⟨A2,c2,ee5,f2⟩:=x1 (H.r 5 rfl);exact X1 rfl (ev ee5) rfl (C _ _ H.k trivial ⟨(hX0.q rfl x0),(hX1.q rfl x1),(λ _=>⟨A2,c2,H.f.s P,f2⟩),(hX3.q rfl x3)⟩)
    ·intro O J I H _ _ C;obtain ⟨x0,x1,x2,x3⟩:=H.x;obtain ⟨A2,c2,ee5,f2⟩:=x1 (H.r 5 rfl);exact X1 rfl (ev ee5) rfl (C _ _ H.k rfl (T.q rfl H.x))
    ·intro O J I H _ _ C;obtain ⟨x0,x1,x2,x3⟩:=H.x;simp [go_sem];exact C _ _ (H.k.alloc _) trivial ⟨(hX0.b rfl (Xa bR _) x0),(hX1.b rfl (Xa bR _) x1),(hX2.b rfl (Xa bR _) x2),(λ _=>by rw [show Yb O 8 9=false from H.t 9 rfl];exact Ys.new (s:=12) (H.f.lt (by rw [P];decide)) H.k.size [.slice none 0 0])⟩
    ·intro O J I H _ _ C;obtain ⟨x0,x1,x2,x3⟩:=H.x;obtain ⟨A2,c2,ee6,f2⟩:=x2 (H.r 6 rfl);obtain ⟨g,eg,hg,y,_⟩:=x3 (H.r 8 rfl);have V:=y H.n;simp [go_sem,ee6,eg,V.cell,V.frz];have f2:=f2.otherC (f2.typ V (by decide)) [.slice A2 ((grR p l.lows k).length) c2] 0;exact C undef _ (H.k.store (.inl hg) [.slice A2 ((grR p l.lows k).length) c2] 0) trivial ⟨(λ h=>by obtain ⟨A2',c2',e,f2'⟩:=x0 h;exact ⟨A2',c2',e,f2'.otherC (f2'.typ V (by decide)) [.slice A2 ((grR p l.lows k).length) c2] 0⟩),(λ h=>by obtain ⟨A2',c2',e,f2'⟩:=x1 h;exact ⟨A2',c2',e,f2'.otherC (f2'.typ V (by decide)) [.slice A2 ((grR p l.lows k).length) c2] 0⟩),(λ h=>by obtain ⟨A2',c2',e,f2'⟩:=x2 h;exact ⟨A2',c2',e,f2'.otherC (f2'.typ V (by decide)) [.slice A2 ((grR p l.lows k).length) c2] 0⟩),(λ _=>Ys.set eg hg V (us:=[.slice A2 ((grR p l.lows k).length) c2]) rfl ⟨A2,c2,rfl,f2⟩)⟩
    ·exact Jg 7 rfl rfl rfl rfl λ _ _ _ _=>T.q rfl
    intro L a39 w40 S B D K U;obtain ⟨x0,x1,x2,x3⟩:=U;replace P:=B.Z P;replace F:=B.E F;replace s4:=B.G s4;replace s5:=B.G s5;replace s10:=B.G s10;replace s56:=B.G s56;replace s57:=B.G s57;have s13:=gS a39 13 (K 10 _ rfl);replace b4:=b4.k0 D;replace b5:=b5.k0 D;obtain ⟨g41,s12,lg41,-,b41⟩:=x3 (S 8 (by decide));obtain ⟨_,b41,A2,c2,rfl,N2⟩:=b41 (S 9 (by decide));have i2:∀ p,A2=some p->p.block<w40.heap.size:=λ p hp=>(N2.blk p hp).2;have ug41:=b41.lt;replace hrg:=hrg.kp D (by first|exact X8 N1 (by decide)|simp);replace N1:=N1.below D.toBelow Xs;have zw38:=R;have zw40:=D.size;replace R:=Nat.le_refl w40.heap.size;replace M:=D.below0 M;clear B D K S x0 x1 x2 x3 T hX0 hX1 hX2 hX3 s11;refine Xl (wp_seq (wp_seq ?_));refine Xf [68,69] [some (.bool (Zi l.lows k)),some (.bool (!(Zi l.lows k)))] (X5 2) [68,69] [] (λ _ _ _=>True) ?_ (e2 ?_ ?_ .nil) ?_
    ·exact λ _ _=>trivial
    ·exact Za s13 rfl rfl rfl
    ·exact oNDT 0 rfl rfl rfl rfl
    intro L a42 w43 S B D K U;replace P:=B.Z P;replace F:=B.E F;replace s4:=B.G s4;replace s5:=B.G s5;replace s10:=B.G s10;replace s56:=B.G s56;replace s57:=B.G s57;replace s12:=B.G s12;have s69:=gS a42 69 (K 1 _ rfl);replace b4:=b4.k0 D;replace b5:=b5.k0 D;replace b41:=b41.k0 D;replace hrg:=hrg.kp D (by first|exact X8 N1 (by decide)|simp);replace N1:=N1.below D.toBelow Xs;replace N2:=N2.below D.toBelow Xs;replace R:=Nat.le_trans R D.size;replace M:=D.below0 M;clear B D K S U s13;refine Xl ?_;rcases Bool.eq_false_or_eq_true (!(Zi l.lows k)) with q44|q44
    ·refine wp_cond_true (ev (vb s69 q44)) ?_;refine wp_seq ?_;refine Xf [6,7] [some (.slice none 0 0),some (.bool false)] (X5 2) [6,7] [] (λ _ _ _=>True) ?_ (e2 ?_ ?_ .nil) ?_
     ·exact λ _ _=>trivial
     ·exact Kw rfl rfl
     ·exact Kw rfl rfl
     intro L a45 w46 S B D K U;replace P:=B.Z P;replace F:=B.E F;have s6:=gS a45 6 (K 0 _ rfl);have s7:=gS a45 7 (K 1 _ rfl);replace hrg:=hrg.kp D (by first|exact X8 N1 (by decide)|simp);replace N2:=N2.below D.toBelow Xs;replace R:=Nat.le_trans R D.size;replace M:=D.below0 M;clear B D K S U s4 s5 s10 s56 s57 s12 s69 b4 b5 b41 N1 i1;refine Xl (wp_ret ?_);refine Kl (ib_r (Kl (Kl (ib_r (Kl ?_)))));refine bodyPost_ret (v:=.tuple #[.slice none 0 0,.bool false]) (by simp [results,Tryz.results8,go_sem,s6,s7]) F ?_;have h0:=lr_bad (r:=r) (p:=p) hkl (not_t q44);exact ⟨_,by rw [h0.1],by rw [h0.2];exact Jq.nil _ _,M⟩
    ·refine wp_cond_false (ev (vb s69 q44)) ?_;refine wp_skip (Xl ?_);have hX0:=Xd.e 72 2 (λ I v=>∃ g3,v=.slice (some ⟨g3,0,none⟩) 1 1/\Xv I g3 26 [.slice A2 ((grR p l.lows k).length) c2]/\w43.heap.size<=g3) (λ hb _ h=>by obtain ⟨g3',e,f3'⟩:=h;exact ⟨g3',e,⟨f3'.1.bel hb,f3'.2⟩⟩);have hX1:=Xd.e 73 3 (λ I v=>∃ A4 c4,v=.slice A4 ((es++[(⟨A2,(grR p l.lows k).length,c2⟩:Ju)]).length) c4/\XI 26 1 J5 I w14.heap.size (.slice A4 (es++[(⟨A2,(grR p l.lows k).length,c2⟩:Ju)]).length c4) (es++[(⟨A2,(grR p l.lows k).length,c2⟩:Ju)])) (λ hb _ h=>by obtain ⟨A4',c4',e,f4'⟩:=h;exact ⟨A4',c4',e,f4'.below hb Xs⟩);have hX2:=Xd.e 10 4 (λ I v=>∃ A4 c4,v=.slice A4 ((es++[(⟨A2,(grR p l.lows k).length,c2⟩:Ju)]).length) c4/\XI 26 1 J5 I w14.heap.size (.slice A4 (es++[(⟨A2,(grR p l.lows k).length,c2⟩:Ju)]).length c4) (es++[(⟨A2,(grR p l.lows k).length,c2⟩:Ju)])) (λ hb _ h=>by obtain ⟨A4',c4',e,f4'⟩:=h;exact ⟨A4',c4',e,f4'.below hb Xs⟩);have hX3:Xd [] (λ L aa I=>(L 3=false->XI 26 1 J5 I w14.heap.size (.slice A1 es.length c1) es)):=λ L aa I w' kk vv hkk hb x3=>(λ h=>(x3 h).below hb Xs);have hX4:Xd [10] (λ L aa I=>(L 4=false->aa.tmps[10]?.getD undef=.slice A1 es.length c1)):=λ L aa I w' kk vv hkk hb x4=>(λ h=>(Xj (hkk 10 (by simp)) vv).trans (x4 h));have T:=hX0.a (hX1.a (hX2.a (hX3.a hX4)));refine Xz T [70,71,72,73,10] [some (.slice A1 es.length c1),some (.agg #[.slice A2 ((grR p l.lows k).length) c2]),none,none,none] (X5 5) [70,71,72,73,10] (blkL A1) ?_ (e4 ?_ ?_ ?_ ?_ (en rfl ?_ .nil)) ?_
     ·exact λ _ h=>⟨(λ h=>by cases h),(λ h=>by cases h),(λ h=>by cases h),(λ _=>N1.below h.toBelow Xs),(λ _=>s10)⟩
     ·intro O J I H _ _ C;obtain ⟨x0,x1,x2,x3,x4⟩:=H.x;exact Xy rfl (ev (x4 (H.t 4 rfl))) (C _ _ H.k rfl (T.q rfl H.x))
     ·intro O J I H _ _ C;simp [go_sem,H.f.g rfl s12,(b41.kp H.k (Yg (λ p hp=>by have q1:=N1.blk p hp;have q2:=i1 p hp;omega))).cell];exact (C _ _ H.k rfl (T.q rfl H.x))
     ·intro O J I H _ _ C;obtain ⟨x0,x1,x2,x3,x4⟩:=H.x;simp [go_sem,(gS J 71 (H.d 1 rfl rfl))];have f3:Xv (I.alloc (.cells #[.slice A2 ((grR p l.lows k).length) c2] 26)) I.heap.size 26 [.slice A2 ((grR p l.lows k).length) c2]/\w43.heap.size<=I.heap.size:=⟨Xv.new _ _ _,H.k.size⟩;exact C _ _ (H.k.alloc _) trivial ⟨(λ _=>⟨_,H.f.s P,f3⟩),(hX1.b rfl (Xa bR _) x1),(hX2.b rfl (Xa bR _) x2),(λ h=>(x3 h).below (Xa bR _) Xs),(λ h=>(Xj (by decide) _).trans (x4 h))⟩
     ·intro O J I H _ _ C;obtain ⟨x0,x1,x2,x3,x4⟩:=H.x;obtain ⟨g3,ee2,f3⟩:=x0 (H.r 2 rfl);refine wp_app1 rgEC_len rfl w14.heap.size i0g _ 24 Tryz.underlying39 hi0g hz0g hz1g hz2g rfl (by decide) (ev (H.d 0 rfl rfl)) (x3 H.n) (ev ee2) (y:=(⟨A2,(grR p l.lows k).length,c2⟩:Ju)) f3.1 rgEC_one (by have:=H.k.size;omega) (by have:=hrg.len;rw [J7] at this;omega) (by decide) ?_;intro A4 c4 wx f4 hG;exact C _ _ (H.k.trans2 hG (λ m h=>.inl h)) trivial ⟨(λ h=>by rw [Xj (by decide)];obtain ⟨g',e,f'⟩:=x0 h;exact ⟨g',e,f'.1.kp hG (Yg (λ p hp=>by have q1:=N1.blk p hp;have q2:=f'.2;omega)),f'.2⟩),(λ _=>⟨A4,c4,H.f.s P,f4⟩),(λ h=>absurd (H.t 4 rfl) (by rw [show O 4=true by simpa [Yb] using h];decide)),(λ h=>by simp [Yb] at h),(λ h=>(Xj (by decide) _).trans (x4 h))⟩
     ·intro O J I H _ _ C;obtain ⟨x0,x1,x2,x3,x4⟩:=H.x;obtain ⟨A4,c4,ee3,f4⟩:=x1 (H.r 3 rfl);exact XR rfl (ev ee3) (C _ _ H.k trivial ⟨(hX0.q rfl x0),(hX1.q rfl x1),(λ _=>⟨A4,c4,H.f.s P,f4⟩),(λ h=>(x3 h).below bR Xs),(λ h=>by simp [Yb] at h)⟩)
     intro L a47 w48 S B D K U;obtain ⟨x0,x1,x2,x3,x4⟩:=U;replace P:=B.Z P;replace F:=B.E F;have hB9:=D.below M M.size (λ m hm=>by obtain ⟨p,hp,rfl⟩:=Yh hm;have q1:=N1.blk p hp;have q2:=i1 p hp;omega);replace s4:=B.G s4;replace s5:=B.G s5;replace s56:=B.G s56;replace s57:=B.G s57;replace b4:=b4.kp D (Yg (λ p hp=>by have q1:=N1.blk p hp;have q2:=i1 p hp;omega));replace b5:=b5.kp D (Yg (λ p hp=>by have q1:=N1.blk p hp;have q2:=i1 p hp;omega));obtain ⟨A4,c4,s10,N4⟩:=x2 (S 4 (by decide));have i4:∀ p,A4=some p->p.block<w48.heap.size:=λ p hp=>(N4.blk p hp).2;replace hrg:=hrg.kp D (by first|exact X8 N1 (by decide)|simp);replace N2:=N2.kp D i2 (by omega) (λ m hm=>by obtain ⟨p,hp,rfl⟩:=Yh hm;have q1:=N1.blk p hp;have q2:=i1 p hp;omega);have zw43:=R;have zw48:=D.size;replace R:=Nat.le_refl w48.heap.size;replace M:=hB9;clear B D K S x0 x1 x2 x3 x4 T hX0 hX1 hX2 hX3 hX4 s12 s69 b41 N1 i1;refine ib_n (Xl ?_);refine Xf [74,57] [some (.int .i64 ((k:Int)+1)),some (.int .i64 ((k:Int)+1))] (X5 2) [74,57] [] (λ L aa I=>(L 1=false->aa.tmps[57]?.getD undef=.int .i64 (k:Int))) ?_ (e2 ?_ ?_ .nil) ?_
     ·exact λ _ h=>(λ _=>s57)
     ·intro O J I H _ _ C;have x0:=H.x;exact Y0 rfl (ev (x0 (H.t 1 rfl))) rfl (by omega) (C _ _ H.k rfl (λ h=>(Xj (by decide) _).trans (x0 h)))
     ·intro O J I H _ _ C;have x0:=H.x;exact Xy rfl (ev (H.d 0 rfl rfl)) (C _ _ H.k rfl (λ h=>by simp [Yb] at h))
     intro L a49 w50 S B D K U;have x0:=U;replace P:=B.Z P;replace F:=B.E F;replace s4:=B.G s4;replace s5:=B.G s5;replace s56:=B.G s56;replace s10:=B.G s10;have s57:=gS a49 57 (K 1 _ rfl);replace b4:=b4.k0 D;replace b5:=b5.k0 D;replace hrg:=hrg.kp D (by first|exact X8 N1 (by decide)|simp);replace N2:=N2.below D.toBelow Xs;replace N4:=N4.below D.toBelow Xs;replace R:=Nat.le_trans R D.size;replace M:=D.below0 M;clear B D K S x0;refine Xl ?_;refine ⟨?_, ?_⟩
     ·exact ⟨P,F,(k+1),((es++[(⟨A2,(grR p l.lows k).length,c2⟩:Ju)])),(A4),(c4),(by omega),(λ j hj=>(Nat.lt_succ_iff_lt_or_eq.1 hj).elim (hgd j) (λ e=>by rw [e];exact (Kx q44))),(by rw [lrL_next,<- grR_yes (p:=p) (Kx q44)];exact hrg.snoc (by rw [J7] at hrt ⊢;exact hrt) hwt N2),s4,s5,s10,s56,s57,b4,b5,(N4.mono (by omega)),M,(by omega)⟩
     ·show (l.lows.length-(intOf (a49.tmps[57]?.getD undef)).toNat)<_;rw [s57,hmu];simp only [intOf];omega
   ·have ek:k=l.lows.length:=by have:=XB q36;omega
    rw [ek] at hgd hrg;refine wp_cond_false (ev (vb s58 q36)) ?_;refine wp_exit ?_;refine JN (JN (ib_x (Xl (wp_seq ?_))));refine Xf [75,6,7] [some (.slice A1 es.length c1),some (.slice A1 es.length c1),some (.bool true)] (X5 3) [75,6,7] [] (λ _ _ _=>True) ?_ (e2 ?_ ?_ (en rfl ?_ .nil)) ?_
    ·exact λ _ _=>trivial
    ·exact Za s10 rfl rfl rfl
    ·exact Ja 0 rfl rfl rfl rfl
    ·exact Kw rfl rfl
    intro L a51 w52 S B D K U;replace P:=B.Z P;replace F:=B.E F;have s6:=gS a51 6 (K 1 _ rfl);have s7:=gS a51 7 (K 2 _ rfl);replace hrg:=hrg.kp D (by simp);replace N1:=N1.below D.toBelow Xs;replace R:=Nat.le_trans R D.size;replace M:=D.below0 M;clear B D K S U s4 s5 s10 s56 s57 s58 b4 b5;refine Xl (wp_ret ?_);refine bodyPost_ret (v:=.tuple #[.slice A1 es.length c1,.bool true]) (by simp [results,Tryz.results8,go_sem,s6,s7]) F ?_;have h0:=lr_yes hpre hbig hgd;exact ⟨_,by rw [h0.1],by rw [h0.2];exact ⟨_,N1.mono (by omega),hrg⟩,M⟩
structure RgsSl (w:World) (A:Option Addr) (es:List Ju) (rs:List (List Half)):Prop where
 out:Sl 1 J5 w A es
 len:es.length=rs.length
 el:∀ i,i<rs.length->(es.getD i Y5).n=(rs.getD i []).length/\Sl 3 Xe w (es.getD i Y5).A (rs.getD i [])
theorem RgsSl.below {w w':World} {A:Option Addr} {es:List Ju} {rs:List (List Half)} (h:RgsSl w A es rs) (hb:Below w.heap.size w w'):RgsSl w' A es rs :=
 ⟨h.out.below hb,h.len,λ i hi=>⟨(h.el i hi).1,(h.el i hi).2.below hb⟩⟩
theorem ZM.sl {w:World} {base b2 n c:Nat} {A:Option Addr} {es:List Ju} {rs:List (List Half)} (h:ZM w b2 es rs) (N:XI 26 1 J5 w base (.slice A n c) es):RgsSl w A es rs :=
 ⟨N.out rgEC_len,h.len,λ i hi=>⟨(h.new i hi).1,(h.new i hi).2.out Xu⟩⟩
theorem elAt {α:Type} {l:List α} {k:Nat} (d:α) (h:k<l.length):l.getD k d=l[k]:=by rw [List.getD_eq_getElem?_getD,List.getElem?_eq_getElem h,Option.getD_some]
def KI (rs:List (List Half)):Nat->Nat
 | 0=>0
 | k+1=>KI rs k+(rs.getD k []).length*3
structure RgsMid (w:World) (base:Nat) (es:List Ju) (rs:List (List Half)) (K:Int) (k:Nat):Prop where
 old:∀ i,k<=i->i<rs.length->(es.getD i Y5).n=(rs.getD i []).length/\XI 85 3 Xe w base (.slice (es.getD i Y5).A (rs.getD i []).length (es.getD i Y5).c) (rs.getD i [])
 mkd:∀ i,i<k->(es.getD i Y5).n=(rs.getD i []).length/\Sl 3 Xe w (es.getD i Y5).A (YZ (K+(KI rs i:Nat)) (rs.getD i []).length)
 apart:∀ i j,i<j->j<rs.length->∀ p q,(es.getD i Y5).A=some p->(es.getD j Y5).A=some q->p.block<q.block
theorem RgsMid.step {w w':World} {base k:Nat} {es:List Ju} {rs:List (List Half)} {K:Int} (h:RgsMid w base es rs K k) (hk:k<rs.length) (N:XI 85 3 Xe w' base (.slice (es.getD k Y5).A (rs.getD k []).length (es.getD k Y5).c) (YZ (K+(KI rs k:Nat)) (rs.getD k []).length)) (o:X9 w w' [⟨(es.getD k Y5).A,(es.getD k Y5).c⟩]):RgsMid w' base es rs K (k+1):=by
 refine ⟨λ i hi hi2=>⟨(h.old i (by omega) hi2).1,(h.old i (by omega) hi2).2.far o (all1 (λ p q hp hq=>?_))⟩,λ i hi=>?_,h.apart⟩
 ·have:=h.apart k i (by omega) hi2 q p hq hp;omega
 ·rcases Nat.lt_or_ge i k with h1|h1
  ·exact ⟨(h.mkd i h1).1,Sl.far (c:=0) (h.mkd i h1).2 o (all1 (λ p q hp hq=>by
    have:=h.apart i k h1 hk p q hp hq;omega))⟩
  ·obtain rfl:i=k:=by omega
   exact ⟨(h.old i Xs hk).1,N.out Xu⟩
def rgLs (es:List Ju):List ZC:=es.map λ e=>⟨e.A,e.c⟩
theorem rgLs_mem {es:List Ju} {a:ZC} (h:a∈rgLs es):∃ i,i<es.length/\a=⟨(es.getD i Y5).A,(es.getD i Y5).c⟩:=by
 obtain ⟨e,he,rfl⟩:=List.mem_map.1 h;obtain ⟨i,hi,rfl⟩:=List.getElem_of_mem he;exact ⟨i,hi,by rw [elAt Y5 hi]⟩
structure RgsMk (w:World) (A:Option Addr) (es:List Ju) (rs:List (List Half)) (K:Int):Prop where
 out:Sl 1 J5 w A es
 len:es.length=rs.length
 mkd:∀ i,i<rs.length->(es.getD i Y5).n=(rs.getD i []).length/\Sl 3 Xe w (es.getD i Y5).A (YZ (K+(KI rs i:Nat)) (rs.getD i []).length)
theorem RgsMk.below {w w':World} {A:Option Addr} {es:List Ju} {rs:List (List Half)} {K:Int} (h:RgsMk w A es rs K) (hb:Below w.heap.size w w'):RgsMk w' A es rs K :=
 ⟨h.out.below hb,h.len,λ i hi=>⟨(h.mkd i hi).1,(h.mkd i hi).2.below hb⟩⟩
structure Zg (w:World) (base:Nat) (rs:List (List Half)) (A:Option Addr) (c:Nat) (es:List Ju):Prop where
 N:XI 26 1 J5 w base (.slice A rs.length c) es
 R:ZM w base es rs
section
variable {w w':World} {base:Nat} {rs:List (List Half)} {A:Option Addr} {c:Nat} {es:List Ju}
theorem Zg.below {B:Nat} (h:Zg w base rs A c es) (hb:Below B w w') (hB:w.heap.size<=B):Zg w' base rs A c es:=⟨h.N.below hb hB,h.R.below hb hB⟩
theorem Zg.mono (h:Zg w base rs A c es) {b:Nat} (hb:b<=base):Zg w b rs A c es:=⟨h.N.mono hb,h.R.mono hb⟩
theorem Zg.sl (h:Zg w base rs A c es):RgsSl w A es rs:=h.R.sl h.N
theorem Zg.blkL (h:Zg w base rs A c es):BlkL base w.heap.size ((⟨A,c⟩:ZC) :: rgLs es):=by
 intro a ha;rcases List.mem_cons.1 ha with rfl|ha
 ·exact h.N.blk
 ·obtain ⟨i,hi,rfl⟩:=rgLs_mem ha;exact (h.R.new i (by rw [<- h.R.len];exact hi)).2.blk
end
theorem Jq.x {w:World} {base:Nat} {v:Value} {rs:List (List Half)} (h:Jq w base v rs):∃ A c es,v=.slice A rs.length c/\Zg w base rs A c es:=by
 obtain ⟨es,N,R⟩:=h;obtain ⟨A,c,e,h1⟩:=N;have hl:=R.len;rw [hl] at e;subst e;exact ⟨A,c,es,rfl,⟨⟨A,c,by rw [hl],h1⟩,R⟩⟩
theorem iLowX_c (r:XK) (p:List Half) (l:KS) (ra:Yq) (b:ZC) (la:KW) (w:World) (hn:XA r<=1048576) (hin:ZR r) (hs:Y4 w r ra) (hnl:Zq ra) (hlp:p.length<=1048576) (hpi:∀ h∈p,h.In) (hsp:Sl 3 Xe w b.A p) (hnb:b.A=none->b.c=0) (hll:YJ l<=1048576) (hli:LawIn l) (hsl:J3 w l la) (hcl:l.lows.length<=la.lows.c) :
 Calls Tryz.prog 8 #[Ye r ra,Yr p b,lawV l la] w λ x w'=>∃ A c es,x=.returned (.tuple #[.slice A (ZA r p l).length c,.bool (Z2 r p l)])/\Zg w' w.heap.size (ZA r p l) A c es/\Below w.heap.size w w':=by
 refine (iLowRegions_c r p l ra b la w hn hin hs hnl hlp hpi hsp hnb hll hli hsl hcl).mono ?_;rintro x wx ⟨v,rfl,hr,hb⟩;obtain ⟨A,c,es,rfl,h⟩:=hr.x;exact ⟨A,c,es,rfl,h,hb⟩
end Go.Proofs.YtbekjpkcicjcgabGreat
