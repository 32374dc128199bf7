/-
 Whether a region is kept in one step: of the program.
 Conditions: the slices hold at most 2^20 elements.
-/
import Derived.Test.YtabfdkpdppemaaaGreatPre
namespace Go.Proofs.YtabfdkpdppemaaaGreat
open Go.RowKit
structure RoomR (r:Xv):Prop where
 noise:Xe r.noise=true
 nne:r.noise≠[]
 limits:Xe r.limits=true
 lne:r.limits≠[]
theorem Je {r:Xv} (h:XK r=true):RoomR r:=by
 simp only [XK,Bool.and_eq_true] at h;obtain ⟨⟨⟨⟨_,h1⟩,h2⟩,h3⟩,h4⟩:=h;refine ⟨h3,λ e=>?_,h4,λ e=>?_⟩
 ·rw [e] at h1;cases h1
 ·rw [e] at h2;cases h2
def KW (r:Xv) (p:List Half):Bool:=!(!(XK r) || !(Xe p) || !(Yg p r.limits))&&(Za r p&&Yg p (XW r p))
theorem Ji (r:Xv) (p:List Half):Xe (XW r p)=true:=by
 unfold XW;split
 ·exact movR_ok (λ _ _ _ e=>pulH_ok e)
 ·rfl
set_option maxRecDepth 100000 in
set_option maxHeartbeats 3000000 in
theorem iKept_c (r:Xv) (p:List Half) (ra:YO) (b:Ks) (w:World) (hn:Zs r<=1048576) (hin:KH r) (hs:Zw w r ra) (hnl:Kz ra) (hlp:p.length<=1048576) (hpi:∀ h∈p,h.In) (hsp:Sl 3 Xg w b.A p) (hnb:b.A=none->b.c=0) :
 Calls Tryz.prog 34 #[XQ r ra,.agg #[.slice b.A p.length b.c]] w λ x w'=>x=.returned (.bool (KW r p))/\Below w.heap.size w w':=by
 refine Yp Tryz.func34 rfl (n:=34) Tryz.ntmps34 (by simp) ?_;intro a0 O I ha;have s0:a0.tmps[0]?.getD undef=XQ r ra:=ha 0 _ rfl;have s1:a0.tmps[1]?.getD undef=.agg #[.slice b.A p.length b.c]:=ha 1 _ rfl;clear ha;have M:=Below.refl w.heap.size w;have S:=Nat.le_refl w.heap.size;refine wp_seq ?_;refine Yf [2,3,4] [.pointer (some ⟨w.heap.size,0,none⟩),.pointer (some ⟨(w.heap.size+1),0,none⟩),.bool false] [some (.cells (XU r ra).toArray 28),some (.cells [.slice b.A p.length b.c].toArray 26),none] [0,1,2] [2,3,4] [0,1,2] (by kernel_rfl) (by rw [O];decide) (ec ?_ (ec ?_ (ec ?_ .nil))) ?_
 ·intro a w' F hs N Q B;simp [go_sem,F.g rfl s0];rw [hs];exact B
 ·intro a w' F hs N Q B;simp [go_sem,F.g rfl s1];rw [hs];exact B
 ·intro a w' F hs N Q B;simp [go_sem];exact B
 intro a1 w2 F P hb hO;replace O:=F.size.trans O;replace I:=F.defers.trans I;have s2:a1.tmps[2]?.getD undef=.pointer (some ⟨w.heap.size,0,none⟩):=P 0 (by decide);have s3:a1.tmps[3]?.getD undef=.pointer (some ⟨(w.heap.size+1),0,none⟩):=P 1 (by decide);have b3:Xn w2 w.heap.size 28 (XU r ra):=hO 0 _ rfl;have b4:Xn w2 (w.heap.size+1) 26 [.slice b.A p.length b.c]:=hO 1 _ rfl;have hG:=b4.lt;replace M:=Xh M hb;have zw2:=Nat.le_trans S hb.size;replace S:=Nat.le_refl w2.heap.size;clear F P hb hO s0 s1;refine Xi (wp_seq (wp_seq ?_));refine Xj [7,8,9,10,11,12,13,14,15,16,17,18,19,20,21] [some (XQ r ra),some (.bool (XK r)),some (.bool (!(XK r))),some (.bool (!(XK r))),some ((bif !(XK r) then undef else (.agg #[.slice b.A p.length b.c]:Value))),some ((bif !(XK r) then undef else (.bool (Xe p):Value))),some ((bif !(XK r) then undef else (.bool (!(Xe p)):Value))),some (.bool (!(XK r) || !(Xe p))),some (.bool (!(XK r) || !(Xe p))),some ((bif (!(XK r) || !(Xe p)) then undef else (.agg #[.slice b.A p.length b.c]:Value))),some ((bif (!(XK r) || !(Xe p)) then undef else (.pointer (some ⟨w.heap.size,7,none⟩):Value))),some ((bif (!(XK r) || !(Xe p)) then undef else (.agg #[.slice ra.limits.A r.limits.length ra.limits.c]:Value))),some ((bif (!(XK r) || !(Xe p)) then undef else (.bool (Yg p r.limits):Value))),some ((bif (!(XK r) || !(Xe p)) then undef else (.bool (!(Yg p r.limits)):Value))),some (.bool ((!(XK r) || !(Xe p)) || !(Yg p r.limits)))] (X1 15) [7,8,9,10,11,12,13,14,15,16,17,18,19,20,21] [] (λ _ _ _=>True) ?_ (e4 ?_ ?_ ?_ ?_ (eg ?_ (eg ?_ (eg ?_ (e2 ?_ ?_ (eg ?_ (eg ?_ (eg ?_ (eg ?_ (eg ?_ (en rfl ?_ .nil))))))))))) ?_
 ·exact λ _ _=>trivial
 ·intro J D C H _ _ B;simp [go_sem,H.f.g rfl s2,(b3.k0 H.k).cell];exact (B _ _ H.k rfl trivial)
 ·intro J D C H _ _ B;simp [go_sem,(gS D 7 (H.d 0 rfl rfl))];have hBi:=H.k.below0 M;refine (iRoomOk_c r ra C hn hin (hs.below hBi) hnl).mono ?_;rintro x wx ⟨rfl,hb⟩;exact (B _ _ (H.k.call hb) rfl trivial)
 ·exact KY 1 rfl rfl rfl rfl
 ·exact Ko 2 rfl rfl rfl rfl
 ·intro J D C H _ _ B;refine JL rfl rfl rfl (H.d 3 rfl rfl) (λ qg=>B _ _ H.k (XD qg).symm trivial) λ qg=>?_;simp [go_sem,H.f.g rfl s3,(b4.k0 H.k).cell];exact (B _ _ H.k (XA qg).symm trivial)
 ·intro J D C H _ _ B;refine JL rfl rfl rfl (H.d 3 rfl rfl) (λ qg=>B _ _ H.k (XD qg).symm trivial) λ qg=>?_;simp [go_sem,(show D.tmps[11]?.getD undef=_ from (H.d 4 rfl rfl).trans (XA qg))];have hBi:=H.k.below0 M;refine (Z9 p b C hlp hpi (hsp.below hBi) hnb).mono ?_;rintro x wx ⟨rfl,hb⟩;exact (B _ _ (H.k.call hb) (XA qg).symm trivial)
 ·intro J D C H _ _ B;refine JL rfl rfl rfl (H.d 3 rfl rfl) (λ qg=>B _ _ H.k (XD qg).symm trivial) λ qg=>?_;exact Z0 rfl (ev ((H.d 5 rfl rfl).trans (XA qg))) (B _ _ H.k (XA qg).symm trivial)
 ·exact oPOT 3 6 rfl rfl rfl rfl rfl rfl
 ·exact Ko 7 rfl rfl rfl rfl
 ·intro J D C H _ _ B;refine JL rfl rfl rfl (H.d 8 rfl rfl) (λ qg=>B _ _ H.k (XD qg).symm trivial) λ qg=>?_;simp [go_sem,H.f.g rfl s3,(b4.k0 H.k).cell];exact (B _ _ H.k (XA qg).symm trivial)
 ·intro J D C H _ _ B;refine JL rfl rfl rfl (H.d 8 rfl rfl) (λ qg=>B _ _ H.k (XD qg).symm trivial) λ qg=>?_;simp [go_sem,H.f.g rfl s2];exact (B _ _ H.k (XA qg).symm trivial)
 ·intro J D C H _ _ B;refine JL rfl rfl rfl (H.d 8 rfl rfl) (λ qg=>B _ _ H.k (XD qg).symm trivial) λ qg=>?_;simp [go_sem,(show D.tmps[17]?.getD undef=_ from (H.d 10 rfl rfl).trans (XA qg)),(b3.k0 H.k).cell];exact (B _ _ H.k (XA qg).symm trivial)
 ·intro J D C H _ _ B;refine JL rfl rfl rfl (H.d 8 rfl rfl) (λ qg=>B _ _ H.k (XD qg).symm trivial) λ qg=>?_;simp [go_sem,(show D.tmps[16]?.getD undef=_ from (H.d 9 rfl rfl).trans (XA qg)),(show D.tmps[18]?.getD undef=_ from (H.d 11 rfl rfl).trans (XA qg))];have hBi:=H.k.below0 M;refine (iWithin_c p r.limits b ra.limits C (Yt (or_f2 qg)) (Je (Yt (K4 qg))).limits (hsp.below hBi) (hs.limits.halves.below hBi)).mono ?_;rintro x wx ⟨rfl,hb⟩;exact (B _ _ (H.k.call hb) (XA qg).symm trivial)
 ·intro J D C H _ _ B;refine JL rfl rfl rfl (H.d 8 rfl rfl) (λ qg=>B _ _ H.k (XD qg).symm trivial) λ qg=>?_;exact Z0 rfl (ev ((H.d 12 rfl rfl).trans (XA qg))) (B _ _ H.k (XA qg).symm trivial)
 ·exact oPOT 8 13 rfl rfl rfl rfl rfl rfl
 intro L a5 w6 T F K P U;replace O:=F.Z O;replace I:=F.E I;replace s2:=F.G s2;replace s3:=F.G s3;have s21:=gS a5 21 (P 14 _ rfl);replace b3:=b3.k0 K;replace b4:=b4.k0 K;replace S:=Nat.le_trans S K.size;replace M:=K.below0 M;clear F K P T U;refine Xi ?_;rcases Bool.eq_false_or_eq_true ((!(XK r) || !(Xe p)) || !(Yg p r.limits)) with q7|q7
 ·refine wp_cond_true (ev (vb s21 q7)) ?_;refine wp_seq ?_;refine Xj [4] [some (.bool false)] (X1 1) [4] [] (λ _ _ _=>True) ?_ (en rfl ?_ .nil) ?_
  ·exact λ _ _=>trivial
  ·exact oACT rfl rfl
  intro L a8 w9 T F K P U;replace O:=F.Z O;replace I:=F.E I;have s4:=gS a8 4 (P 0 _ rfl);replace S:=Nat.le_trans S K.size;replace M:=K.below0 M;clear F K P T U s2 s3 s21 b3 b4;refine Xi (wp_ret (Zh ?_));refine bodyPost_ret (v:=.bool false) (by simp [results,Tryz.results34,go_sem,s4]) I ?_;exact ⟨by unfold KW;rw [q7];rfl,M⟩
 ·refine wp_cond_false (ev (vb s21 q7)) ?_;refine wp_skip (Xi (wp_seq ?_));have R:Xw [5,22,25,26] (λ L aa C=>(L 2=true->(λ C v=>∃ A1 c1,v=.tuple #[.agg #[.slice A1 ((XW r p).length) c1],.bool (Za r p)]/\XH 174 3 Xg C w6.heap.size (.slice A1 (XW r p).length c1) (XW r p)) C (aa.tmps[25]?.getD undef))/\(L 3=true->(λ C v=>∃ A1 c1,v=.tuple #[.agg #[.slice A1 ((XW r p).length) c1],.bool (Za r p)]/\XH 174 3 Xg C w6.heap.size (.slice A1 (XW r p).length c1) (XW r p)) C (aa.tmps[22]?.getD undef))/\(L 4=true->(λ C v=>∃ A1 c1,v=.agg #[.slice A1 ((XW r p).length) c1]/\XH 174 3 Xg C w6.heap.size (.slice A1 (XW r p).length c1) (XW r p)) C (aa.tmps[26]?.getD undef))/\(L 6=true->XL w6 aa C 5 26 [.slice none 0 0] (L 7) (λ C vs=>∃ A1 c1,vs=[.slice A1 ((XW r p).length) c1]/\XH 174 3 Xg C w6.heap.size (.slice A1 (XW r p).length c1) (XW r p)))):=by
   intro L aa C w' kk vv hkk hb U;obtain ⟨x0,x1,x2,x3⟩:=U;exact ⟨(λ h=>by rw [Xa (hkk 25 (by simp))];obtain ⟨A1',c1',e,f1'⟩:=x0 h;exact ⟨A1',c1',e,f1'.below hb Xf⟩),(λ h=>by rw [Xa (hkk 22 (by simp))];obtain ⟨A1',c1',e,f1'⟩:=x1 h;exact ⟨A1',c1',e,f1'.below hb Xf⟩),(λ h=>by rw [Xa (hkk 26 (by simp))];obtain ⟨A1',c1',e,f1'⟩:=x2 h;exact ⟨A1',c1',e,f1'.below hb Xf⟩),(λ h=>((x3 h).bel hb (λ _ ⟨A1',c1',e,f1'⟩=>⟨A1',c1',e,f1'.below hb Xf⟩)).put (hkk 5 (by simp)) _)⟩
  refine Xk R [23,24,25,22,26,27,5,0,6] [some (XQ r ra),some (.agg #[.slice b.A p.length b.c]),none,none,none,some (.bool (Za r p)),none,none,some (.bool (Za r p))] (X1 9) [23,24,25,22,26,27,5,6] [] ?_ (e4 ?_ ?_ ?_ ?_ (e4 ?_ ?_ ?_ ?_ (en rfl ?_ .nil))) ?_
  ·exact λ _ h=>⟨(λ h=>by cases h),(λ h=>by cases h),(λ h=>by cases h),(λ h=>by cases h)⟩
  ·intro J D C H _ _ B;simp [go_sem,H.f.g rfl s2,(b3.k0 H.k).cell];exact (B _ _ H.k rfl (R.q rfl H.x))
  ·intro J D C H _ _ B;simp [go_sem,H.f.g rfl s3,(b4.k0 H.k).cell];exact (B _ _ H.k rfl (R.q rfl H.x))
  ·intro J D C H _ _ B;obtain ⟨x0,x1,x2,x3⟩:=H.x;simp [go_sem,(gS D 23 (H.d 0 rfl rfl)),(gS D 24 (H.d 1 rfl rfl))];have hBi:=H.k.below0 M;refine (iPre_c r p ra b C (Yt (K4 (K4 q7))) (Yt (or_f2 (K4 q7))) (Je (Yt (K4 (K4 q7)))).noise (Je (Yt (K4 (K4 q7)))).nne (hs.below hBi) (hsp.below hBi)).mono ?_;rintro x wx ⟨_,rfl,⟨A1,c1,rfl,f0⟩,hb⟩;have f1:=XH.mono (show XH 174 3 Xg wx C.heap.size (.slice A1 (XW r p).length c1) (XW r p) from ⟨_,_,rfl,f0⟩) H.k.size;exact (B _ _ (H.k.call hb) trivial ⟨(λ _=>by rw [Xb (H.f.lt (by rw [O];decide))];exact ⟨A1,c1,rfl,f1⟩),(λ h=>by rw [Xa (by decide)];obtain ⟨A1',c1',e,f1'⟩:=x1 h;exact ⟨A1',c1',e,f1'.below hb Xf⟩),(λ h=>by rw [Xa (by decide)];obtain ⟨A1',c1',e,f1'⟩:=x2 h;exact ⟨A1',c1',e,f1'.below hb Xf⟩),(λ h=>((x3 h).bel hb (λ _ ⟨A1',c1',e,f1'⟩=>⟨A1',c1',e,f1'.below hb Xf⟩)).put (by decide) _)⟩)
  ·intro J D C H _ _ B;obtain ⟨x0,x1,x2,x3⟩:=H.x;obtain ⟨A1,c1,ee2,f1⟩:=x0 (H.r 2 rfl);exact XN rfl (ev ee2) (B _ _ H.k trivial ⟨(λ h=>by rw [Xa (by decide)];obtain ⟨A1',c1',e,f1'⟩:=x0 h;exact ⟨A1',c1',e,f1'.below bR Xf⟩),(λ _=>by rw [Xb (H.f.lt (by rw [O];decide))];exact ⟨A1,c1,rfl,f1⟩),(λ h=>by rw [Xa (by decide)];obtain ⟨A1',c1',e,f1'⟩:=x2 h;exact ⟨A1',c1',e,f1'.below bR Xf⟩),(λ h=>((x3 h).bel bR (λ _ ⟨A1',c1',e,f1'⟩=>⟨A1',c1',e,f1'.below bR Xf⟩)).put (by decide) _)⟩)
  ·intro J D C H _ _ B;obtain ⟨x0,x1,x2,x3⟩:=H.x;obtain ⟨A1,c1,ee3,f1⟩:=x1 (H.r 3 rfl);exact XC rfl (ev ee3) rfl (B _ _ H.k trivial ⟨(λ h=>by rw [Xa (by decide)];obtain ⟨A1',c1',e,f1'⟩:=x0 h;exact ⟨A1',c1',e,f1'.below bR Xf⟩),(λ h=>by rw [Xa (by decide)];obtain ⟨A1',c1',e,f1'⟩:=x1 h;exact ⟨A1',c1',e,f1'.below bR Xf⟩),(λ _=>by rw [Xb (H.f.lt (by rw [O];decide))];exact ⟨A1,c1,rfl,f1⟩),(λ h=>((x3 h).bel bR (λ _ ⟨A1',c1',e,f1'⟩=>⟨A1',c1',e,f1'.below bR Xf⟩)).put (by decide) _)⟩)
  ·intro J D C H _ _ B;obtain ⟨x0,x1,x2,x3⟩:=H.x;obtain ⟨A1,c1,ee3,f1⟩:=x1 (H.r 3 rfl);exact XC rfl (ev ee3) rfl (B _ _ H.k rfl (R.q rfl H.x))
  ·intro J D C H _ _ B;obtain ⟨x0,x1,x2,x3⟩:=H.x;simp [go_sem];exact B _ _ (H.k.alloc _) trivial ⟨(λ h=>by rw [Xa (by decide)];obtain ⟨A1',c1',e,f1'⟩:=x0 h;exact ⟨A1',c1',e,f1'.below (Xc bR _) Xf⟩),(λ h=>by rw [Xa (by decide)];obtain ⟨A1',c1',e,f1'⟩:=x1 h;exact ⟨A1',c1',e,f1'.below (Xc bR _) Xf⟩),(λ h=>by rw [Xa (by decide)];obtain ⟨A1',c1',e,f1'⟩:=x2 h;exact ⟨A1',c1',e,f1'.below (Xc bR _) Xf⟩),(λ _=>by rw [show X9 J 6 7=false from H.t 7 rfl];exact XL.new (s:=5) (H.f.lt (by rw [O];decide)) H.k.size [.slice none 0 0])⟩
  ·intro J D C H _ _ B;obtain ⟨x0,x1,x2,x3⟩:=H.x;obtain ⟨A1,c1,ee4,f1⟩:=x2 (H.r 4 rfl);obtain ⟨g,eg,hg,y,_⟩:=x3 (H.r 6 rfl);have V:=y H.n;simp [go_sem,ee4,eg,V.cell,V.frz];have f1:=f1.otherC (f1.typ V (by decide)) [.slice A1 ((XW r p).length) c1] 0;exact B undef _ (H.k.store (.inl hg) [.slice A1 ((XW r p).length) c1] 0) trivial ⟨(λ h=>by obtain ⟨A1',c1',e,f1'⟩:=x0 h;exact ⟨A1',c1',e,f1'.otherC (f1'.typ V (by decide)) [.slice A1 ((XW r p).length) c1] 0⟩),(λ h=>by obtain ⟨A1',c1',e,f1'⟩:=x1 h;exact ⟨A1',c1',e,f1'.otherC (f1'.typ V (by decide)) [.slice A1 ((XW r p).length) c1] 0⟩),(λ h=>by obtain ⟨A1',c1',e,f1'⟩:=x2 h;exact ⟨A1',c1',e,f1'.otherC (f1'.typ V (by decide)) [.slice A1 ((XW r p).length) c1] 0⟩),(λ _=>XL.set eg hg V (us:=[.slice A1 ((XW r p).length) c1]) rfl ⟨A1,c1,rfl,f1⟩)⟩
  ·exact Kj 5 rfl rfl rfl rfl λ _ _ _ _=>R.q rfl
  intro L a10 w11 T F K P U;obtain ⟨x0,x1,x2,x3⟩:=U;replace O:=F.Z O;replace I:=F.E I;replace s3:=F.G s3;have s6:=gS a10 6 (P 8 _ rfl);replace b4:=b4.k0 K;obtain ⟨g12,s5,lg12,-,b12⟩:=x3 (T 6 (by decide));obtain ⟨_,b12,A1,c1,rfl,N1⟩:=b12 (T 7 (by decide));have i1:∀ p,A1=some p->p.block<w11.heap.size:=λ p hp=>(N1.blk p hp).2;have ug12:=b12.lt;have zw6:=S;have zw11:=K.size;replace S:=Nat.le_refl w11.heap.size;replace M:=K.below0 M;clear F K P T x0 x1 x2 x3 R s2 s21 b3;refine Xi (wp_seq ?_);refine Xj [28,29,30,31,32,33,4] [some (.bool (Za r p)),some (.bool (Za r p)),some ((bif Za r p then (.agg #[.slice b.A p.length b.c]:Value) else undef)),some ((bif Za r p then (.agg #[.slice A1 ((XW r p).length) c1]:Value) else undef)),some ((bif Za r p then (.bool (Yg p (XW r p)):Value) else undef)),some (.bool (Za r p&&Yg p (XW r p))),some (.bool (Za r p&&Yg p (XW r p)))] (X1 7) [28,29,30,31,32,33,4] [] (λ _ _ _=>True) ?_ (e2 ?_ ?_ (eg ?_ (eg ?_ (eg ?_ (e2 ?_ ?_ .nil))))) ?_
  ·exact λ _ _=>trivial
  ·exact Zq s6 rfl rfl rfl
  ·exact Ko 0 rfl rfl rfl rfl
  ·intro J D C H _ _ B;refine wgt rfl rfl rfl (H.d 1 rfl rfl) (λ qg=>B _ _ H.k (XA qg).symm trivial) λ qg=>?_;simp [go_sem,H.f.g rfl s3,(b4.k0 H.k).cell];exact (B _ _ H.k (XD qg).symm trivial)
  ·intro J D C H _ _ B;refine wgt rfl rfl rfl (H.d 1 rfl rfl) (λ qg=>B _ _ H.k (XA qg).symm trivial) λ qg=>?_;simp [go_sem,H.f.g rfl s5,(b12.k0 H.k).cell];exact (B _ _ H.k (XD qg).symm trivial)
  ·intro J D C H _ _ B;refine wgt rfl rfl rfl (H.d 1 rfl rfl) (λ qg=>B _ _ H.k (XA qg).symm trivial) λ qg=>?_;simp [go_sem,(show D.tmps[30]?.getD undef=_ from (H.d 2 rfl rfl).trans (XD qg)),(show D.tmps[31]?.getD undef=_ from (H.d 3 rfl rfl).trans (XD qg))];have hBi:=H.k.below0 M;refine (iWithin_c p (XW r p) b ⟨A1,c1⟩ C (Yt (or_f2 (K4 q7))) (Ji r p) (hsp.below hBi) ((N1.below H.k.toBelow Xf).out Xx)).mono ?_;rintro x wx ⟨rfl,hb⟩;exact (B _ _ (H.k.call hb) (XD qg).symm trivial)
  ·exact λ J D C H _ _ B=>YQ rfl (ev (H.d 1 rfl rfl)) (λ h=>(ev ((H.d 4 rfl rfl).trans (XD h))).trans (vand_t h)) (λ h=>vand_f h) (B _ _ H.k rfl trivial)
  ·exact K6 5 rfl rfl rfl rfl
  intro L a13 w14 T F K P U;replace O:=F.Z O;replace I:=F.E I;have s4:=gS a13 4 (P 6 _ rfl);replace S:=Nat.le_trans S K.size;replace M:=K.below0 M;clear F K P T U s3 s6 s5 b4 b12 N1 i1;refine Xi (wp_ret ?_);refine bodyPost_ret (v:=.bool (Za r p&&Yg p (XW r p))) (by simp [results,Tryz.results34,go_sem,s4]) I ?_;exact ⟨by unfold KW;rw [q7];rfl,M⟩
theorem max_frac:∀ (l:List (Int × Int)),l≠[]->(∀ f∈l,0<f.2)->∃ f∈l,∀ g∈l,g.1*f.2<=f.1*g.2
 | [],h,_=>absurd rfl h
 | [a],_,_=>⟨a,List.mem_singleton.2 rfl,λ g hg=>by rw [List.mem_singleton.1 hg];exact Int.le_refl _⟩
 | a :: b :: l,_,hp=>by
  obtain ⟨f,hf,hm⟩:=max_frac (b :: l) (by simp) (λ g hg=>hp g (List.mem_cons_of_mem _ hg));have pa:=hp a (List.mem_cons_self ..);have pf:=hp f (List.mem_cons_of_mem _ hf);by_cases h:a.1*f.2<=f.1*a.2
  ·refine ⟨f,List.mem_cons_of_mem _ hf,λ g hg=>?_⟩;rcases List.mem_cons.1 hg with rfl|hg
   ·exact h
   ·exact hm g hg
  ·refine ⟨a,List.mem_cons_self ..,λ g hg=>?_⟩;rcases List.mem_cons.1 hg with rfl|hg
   ·exact Int.le_refl _
   ·have pg:=hp g (List.mem_cons_of_mem _ hg);exact KL (a:=g.1) (b:=g.2) (c:=f.1) (d:=f.2) (e:=a.1) (f:=a.2) pf (by omega) (by omega) (hm g hg) (by omega)
theorem fm_half {al be A B M b0 c x y d sx sy sd:Int} (hb0:0<b0) (hc:0<=c) (ea:c*al=b0*A) (eb:c*be=b0*B) (hsd:0<sd) (hd:0<=d) (h1:(al*x+be*y)*sd<=(al*sx+be*sy)*d) (h2:A*sx+B*sy<=M*sd):A*x+B*y<=M*d:=by
 refine J0 (k:=b0*sd) (Int.mul_pos hb0 hsd) ?_;have m1:=Int.mul_le_mul_of_nonneg_left h1 hc;have m2:=Int.mul_le_mul_of_nonneg_left h2 (show 0<=b0*d from Int.mul_nonneg (by omega) hd);have e1:(A*x+B*y)*(b0*sd)=c*((al*x+be*y)*sd):=by
  have:(A*x+B*y)*(b0*sd)=(b0*A*x+b0*B*y)*sd:=by grind
  rw [this,<- ea,<- eb];grind
 have e2:c*((al*sx+be*sy)*d)=b0*d*(A*sx+B*sy):=by
  have:b0*d*(A*sx+B*sy)=(b0*A*sx+b0*B*sy)*d:=by grind
  rw [this,<- ea,<- eb];grind
 have e3:b0*d*(M*sd)=M*d*(b0*sd):=by grind
 omega
theorem dir_eq {bx by_:Int} (D:DirIn bx by_):∃ g:Int,1<=g/\g*ZD bx by_ = -by_/\g*ZA bx by_=bx:=by
 have h:=dirOk D;have hg:Xu [bx,by_]=Nat.gcd bx.natAbs by_.natAbs:=by rw [JW]
 refine ⟨((Xu [bx,by_]:Nat):Int),h.g.1, ?_, ?_⟩
 ·exact Int.mul_tdiv_cancel' (show ((Xu [bx,by_]:Nat):Int) ∣ -by_ from Int.ofNat_dvd_left.2 (by rw [hg,Int.natAbs_neg];exact Nat.gcd_dvd_right _ _))
 ·exact Int.mul_tdiv_cancel' (show ((Xu [bx,by_]:Nat):Int) ∣ bx from Int.ofNat_dvd_left.2 (by rw [hg];exact Nat.gcd_dvd_left _ _))
def GP (bx by_ lo hi:Int) (E:List Half) (x y d:Int):Prop:=∃ m e:Int,0<e/\lo*e<=m/\m<=hi*e/\J5 E (x*e+bx*m*d) (y*e+by_*m*d) (d*e)
def SdP (E:List Half) (a b x y d:Int):Prop:=(a*x+b*y)*(Kc E a b).d<=(Kc E a b).n*d
structure GrwP (bx by_ lo hi:Int) (E:List Half) (x y d:Int):Prop where
 l:SdP E (ZD bx by_) (ZA bx by_) x y d
 r:SdP E (-ZD bx by_) (-ZA bx by_) x y d
 h:∀ h∈E,h.a*x+h.b*y<=(h.c+max (-lo*(h.a*bx+h.b*by_)) (-hi*(h.a*bx+h.b*by_)))*d
theorem sd_pts {E:List Half} {a b:Int} {g:Half} (h:JF E a b=some g) {x y d:Int}:YA g x y d ↔ SdP E a b x y d:=by
 unfold JF at h;unfold SdP;rw [halfOf_pts h,Int.add_mul,Int.mul_right_comm a,Int.mul_right_comm b]
theorem grwL_pts {bx by_ lo hi:Int} {E:List Half} (hs:sdO E (ZD bx by_) (ZA bx by_)=true) (hm:ZF (YD bx by_ lo hi) E=true):(∀ h∈grwL bx by_ lo hi E,Xy h=true)/\∀ x y d,J5 (grwL bx by_ lo hi E) x y d ↔ GrwP bx by_ lo hi E x y d:=by
 constructor
 ·intro h hh;unfold grwL at hh;rcases List.mem_append.1 hh with hh|hh
  ·exact sdL_ok hs h hh
  ·exact movL_ok (λ _ _ _ e=>growH_ok e) hm h hh
 ·intro x y d;unfold grwL;rw [inP_app];unfold sdO at hs;rw [Bool.and_eq_true] at hs;obtain ⟨g1,e1⟩:=Option.isSome_iff_exists.1 hs.1;obtain ⟨g2,e2⟩:=Option.isSome_iff_exists.1 hs.2;have hL:J5 (sdL E (ZD bx by_) (ZA bx by_)) x y d ↔ YA g1 x y d/\YA g2 x y d:=by
   unfold sdL;rw [e1,e2];constructor
   ·intro h;exact ⟨h g1 (by simp),h g2 (by simp)⟩
   ·rintro ⟨h1,h2⟩ h hh;simp only [Option.getD_some,List.mem_cons,List.not_mem_nil,or_false] at hh;rcases hh with rfl|rfl
    ·exact h1
    ·exact h2
  rw [hL,sd_pts e1,sd_pts e2];have hG:J5 (KQ (YD bx by_ lo hi) E) x y d ↔ ∀ h∈E,h.a*x+h.b*y<=(h.c+max (-lo*(h.a*bx+h.b*by_)) (-hi*(h.a*bx+h.b*by_)))*d:=by
   have ha:=hm;unfold ZF at ha;rw [List.all_eq_true] at ha;constructor
   ·intro h k hk;obtain ⟨g,eg⟩:=Option.isSome_iff_exists.1 (ha k hk);have:=h g ((movL_mem hm).2 ⟨k,hk,eg⟩);unfold YD at eg;exact (halfOf_pts eg).1 this
   ·intro h g hg;obtain ⟨k,hk,eg⟩:=(movL_mem hm).1 hg;unfold YD at eg;exact (halfOf_pts eg).2 (h k hk)
  rw [hG];exact ⟨λ h=>⟨h.1.1,h.1.2,h.2⟩,λ h=>⟨⟨h.l,h.r⟩,h.h⟩⟩
theorem growT_no {E:List Half} {bx by_:Int} (hb:0<bx) (hE:E≠[]):growT E bx by_=false:=by
 unfold growT;rw [decide_eq_false (λ e=>hE (List.length_eq_zero_iff.1 e)),Bool.false_or,show (bx == 0)=false by simp;omega];rfl
theorem grw_pts {bx by_ lo hi:Int} {E:List Half} (hb:0<bx) (hne:grwR bx by_ lo hi E≠[]):E≠[]/\∀ {x y d:Int},0<=d->(J5 (grwR bx by_ lo hi E) x y d ↔ J5 YT x y d/\GrwP bx by_ lo hi E x y d):=by
 have hE0:E≠[]:=by
  rintro rfl;exact hne (grow_triv (by unfold growT;simp)).2
 have ht:=growT_no (by_:=by_) hb hE0;refine ⟨hE0, ?_⟩;cases hs:sdO E (ZD bx by_) (ZA bx by_) with
 | false=>exact absurd (grow_side ht hs).2 hne
 | true =>
  cases hm:ZF (YD bx by_ lo hi) E with
  | false=>exact absurd (grow_stop ht hm).2 hne
  | true =>
   obtain ⟨_,e⟩:=grow_all ht hs hm;obtain ⟨hok,hi'⟩:=grwL_pts hs hm;intro x y d hd;rw [e] at hne ⊢;rw [meetR_pts hok hne hd,hi']
theorem max_pos {lo hi n:Int} (h:lo<=hi) (hn:0<=n):max (-lo*n) (-hi*n) = -lo*n:=by
 have:=Int.mul_le_mul_of_nonneg_right h hn;rw [Int.neg_mul,Int.neg_mul];omega
theorem max_neg {lo hi n:Int} (h:lo<=hi) (hn:n<=0):max (-lo*n) (-hi*n) = -hi*n:=by
 have:=Int.mul_le_mul_of_nonpos_right h hn;rw [Int.neg_mul,Int.neg_mul];omega
theorem sup_cross {E:List Half} (hE:Xe E=true) (hne:E≠[]) {a b:Int} (ha : -100<=a/\a<=100) (hb : -100<=b/\b<=100) {x y d:Int} (s:SdP E a b x y d):∃ t∈Xr E,(a*x+b*y)*t.d<=(a*t.x+b*t.y)*d:=by
 have A : -50000<=a/\a<=50000:=⟨by omega,by omega⟩;have B : -50000<=b/\b<=50000:=⟨by omega,by omega⟩;obtain ⟨t,ht,et⟩:=sup_at hE hne A B;have D:=(supR hE hne A B).d;have td:=JG (J2 hE ht).2;refine ⟨t,ht, ?_⟩;unfold SdP at s;generalize (Kc E a b).d=dd at *;generalize (Kc E a b).n=nn at *;refine J0 (k:=dd) (by omega) ?_;have m:=Int.mul_le_mul_of_nonneg_right s (show 0<=t.d by omega);have e1:(a*x+b*y)*t.d*dd=(a*x+b*y)*dd*t.d:=by grind
 have e2:(a*t.x+b*t.y)*d*dd=(a*t.x+b*t.y)*dd*d:=by grind
 have e3:nn*d*t.d=nn*t.d*d:=by grind
 rw [e1,e2,<- et,<- e3];exact m
theorem fm_pair {E:List Half} (hE:Xe E=true) (hne:E≠[]) {bx by_:Int} (D:DirIn bx by_) (hx:0<bx) {h k:Half} (hh:h∈E) (hk:k∈E) {p q:Int} (hp:p=h.a*bx+h.b*by_) (hq:q=k.a*bx+k.b*by_) (n1:p<0) (n2:0<q) {x y d:Int} (hd:0<d)
 (s1:SdP E (ZD bx by_) (ZA bx by_) x y d) (s2:SdP E (-ZD bx by_) (-ZA bx by_) x y d):q*(h.a*x+h.b*y) + -p*(k.a*x+k.b*y)<=(q*h.c + -p*k.c)*d:=by
 obtain ⟨g,g1,ga,gb⟩:=dir_eq D;have O:=dirOk D;have hA:(q*h.a + -p*k.a)*bx = -((q*h.b + -p*k.b)*by_):=by rw [hp,hq];grind
 have hb:0<ZA bx by_:=gmp (a:=g) (by rw [gb];exact hx) (by omega);have hAB:(q*h.b + -p*k.b)*ZD bx by_=ZA bx by_*(q*h.a + -p*k.a):=by
  have:g*((q*h.b + -p*k.b)*ZD bx by_)=g*(ZA bx by_*(q*h.a + -p*k.a)):=by
   have e1:g*((q*h.b + -p*k.b)*ZD bx by_)=(q*h.b + -p*k.b)*(g*ZD bx by_):=by grind
   have e2:g*(ZA bx by_*(q*h.a + -p*k.a))=(q*h.a + -p*k.a)*(g*ZA bx by_):=by grind
   rw [e1,e2,ga,gb,hA];grind
  exact Int.eq_of_mul_eq_mul_left (by omega) this
 have e:q*(h.a*x+h.b*y) + -p*(k.a*x+k.b*y)=(q*h.a + -p*k.a)*x+(q*h.b + -p*k.b)*y:=by grind
 rw [e];have corner:∀ t∈Xr E,(q*h.a + -p*k.a)*t.x+(q*h.b + -p*k.b)*t.y<=(q*h.c + -p*k.c)*t.d:=by
  intro t ht;have i:=(J2 hE ht).1;have m1:=Int.mul_le_mul_of_nonneg_left (i h hh) (show 0<=q by omega);have m2:=Int.mul_le_mul_of_nonneg_left (i k hk) (show 0<=-p by omega);have e1:(q*h.a + -p*k.a)*t.x+(q*h.b + -p*k.b)*t.y=q*(h.a*t.x+h.b*t.y) + -p*(k.a*t.x+k.b*t.y):=by grind
  have e2:(q*h.c + -p*k.c)*t.d=q*(h.c*t.d) + -p*(k.c*t.d):=by grind
  rw [e1,e2];omega
 rcases Int.lt_or_le (q*h.b + -p*k.b) 0 with hB|hB
 ·obtain ⟨t,ht,ht2⟩:=sup_cross hE hne (a:=-ZD bx by_) (b:=-ZA bx by_) ⟨by have:=O.a;omega,by have:=O.a;omega⟩ ⟨by have:=O.b;omega,by have:=O.b;omega⟩ s2;have td:=JG (J2 hE ht).2;exact fm_half (c:=-(q*h.b + -p*k.b)) hb (by omega) (by rw [Int.neg_mul_neg];exact hAB) (by rw [Int.neg_mul_neg,Int.mul_comm]) (by omega) (by omega) ht2 (corner t ht)
 ·obtain ⟨t,ht,ht2⟩:=sup_cross hE hne O.a O.b s1;have td:=JG (J2 hE ht).2;exact fm_half (c:=q*h.b + -p*k.b) hb hB hAB (by rw [Int.mul_comm]) (by omega) (by omega) ht2 (corner t ht)
theorem grw_to {bx by_ lo hi:Int} {E:List Half} (hE:Xe E=true) (hne:E≠[]) (D:DirIn bx by_) (hx:0<bx) (hlh:lo<=hi) {x y d:Int} (hd:0<d) (G:GrwP bx by_ lo hi E x y d):GP bx by_ lo hi E x y d:=by
 obtain ⟨s1,s2,hG⟩:=G;obtain ⟨f,hf,hm⟩:=max_frac ((lo,1) :: (E.filter (λ h=>decide (h.a*bx+h.b*by_<0))).map (λ h=>(h.a*x+h.b*y-h.c*d,-(h.a*bx+h.b*by_)*d))) (by simp) (by
  intro f hf;rcases List.mem_cons.1 hf with rfl|hf
  ·simp
  ·obtain ⟨h,hh,rfl⟩:=List.mem_map.1 hf;have:=of_decide_eq_true (List.mem_filter.1 hh).2;exact Int.mul_pos (by omega) hd)
 have lowIn:∀ h∈E,h.a*bx+h.b*by_<0->(h.a*x+h.b*y-h.c*d)*f.2<=f.1*(-(h.a*bx+h.b*by_)*d):=λ h hh hn=>hm (_,_) (List.mem_cons_of_mem _ (List.mem_map.2 ⟨h,List.mem_filter.2 ⟨hh,decide_eq_true hn⟩,rfl⟩));have low0:lo*f.2<=f.1*1:=hm (lo,1) (List.mem_cons_self ..);have cases_f:(f.1=lo/\f.2=1)∨∃ h∈E,h.a*bx+h.b*by_<0/\f.1=h.a*x+h.b*y-h.c*d/\f.2 = -(h.a*bx+h.b*by_)*d:=by
  rcases List.mem_cons.1 hf with rfl|hf
  ·exact .inl ⟨rfl,rfl⟩
  ·obtain ⟨h,hh,rfl⟩:=List.mem_map.1 hf;exact .inr ⟨h,(List.mem_filter.1 hh).1,of_decide_eq_true (List.mem_filter.1 hh).2,rfl,rfl⟩
 have fpos:0<f.2:=by
  rcases cases_f with ⟨_,h⟩|⟨h,_,hn,_,h2⟩
  ·omega
  ·rw [h2];exact Int.mul_pos (by omega) hd
 refine ⟨f.1,f.2,fpos,by omega, ?_, ?_⟩
 ·rcases cases_f with ⟨h1,h2⟩|⟨h,hh,hn,h1,h2⟩
  ·rw [h1,h2];omega
  ·have:=hG h hh;rw [max_neg hlh (by omega)] at this;rw [h1,h2];have e:(h.c + -hi*(h.a*bx+h.b*by_))*d=h.c*d+hi*(-(h.a*bx+h.b*by_)*d):=by grind
   omega
 ·intro k hk;unfold YA;have e1:k.a*(x*f.2+bx*f.1*d)+k.b*(y*f.2+by_*f.1*d)=(k.a*x+k.b*y)*f.2+(k.a*bx+k.b*by_)*f.1*d:=by grind
  rw [e1];rcases Int.lt_trichotomy (k.a*bx+k.b*by_) 0 with hn|hn|hn
  ·have:=lowIn k hk hn;have e2:(k.a*x+k.b*y-k.c*d)*f.2=(k.a*x+k.b*y)*f.2-k.c*(d*f.2):=by grind
   have e3:f.1*(-(k.a*bx+k.b*by_)*d) = -((k.a*bx+k.b*by_)*f.1*d):=by grind
   omega
  ·have:=hG k hk;rw [hn] at this ⊢;rw [Int.mul_zero,Int.mul_zero,Int.max_self,Int.add_zero] at this;have m:=Int.mul_le_mul_of_nonneg_right this (show 0<=f.2 by omega);rw [Int.zero_mul,Int.zero_mul,Int.add_zero,<- Int.mul_assoc];exact m
  ·rcases cases_f with ⟨h1,h2⟩|⟨h,hh,hn',h1,h2⟩
   ·have:=hG k hk;rw [max_pos hlh (by omega)] at this;rw [h1,h2];have e2:(k.c + -lo*(k.a*bx+k.b*by_))*d=k.c*d-(k.a*bx+k.b*by_)*lo*d:=by grind
    rw [Int.mul_one,Int.mul_one];omega
   ·have:=fm_pair hE hne D hx hh hk rfl rfl hn' hn hd s1 s2;rw [h1,h2];generalize h.a*bx+h.b*by_=p at *;generalize k.a*bx+k.b*by_=q at *;have m:=Int.mul_le_mul_of_nonneg_right this (show 0<=d by omega);have e2:(k.a*x+k.b*y)*(-p*d)+q*(h.a*x+h.b*y-h.c*d)*d=(q*(h.a*x+h.b*y) + -p*(k.a*x+k.b*y))*d-q*h.c*d*d:=by grind
    have e3:k.c*(d*(-p*d))=(q*h.c + -p*k.c)*d*d-q*h.c*d*d:=by grind
    rw [e2,e3];omega
theorem grw_from {bx by_ lo hi:Int} {E:List Half} (hE:Xe E=true) (hne:E≠[]) (D:DirIn bx by_) {x y d:Int} (hd:0<d) (G:GP bx by_ lo hi E x y d):GrwP bx by_ lo hi E x y d:=by
 obtain ⟨m,e,he,h1,h2,hi'⟩:=G;obtain ⟨g,g1,ga,gb⟩:=dir_eq D;have O:=dirOk D;have hperp:ZD bx by_*bx+ZA bx by_*by_=0:=by
  have:g*(ZD bx by_*bx+ZA bx by_*by_)=g*0:=by
   have e1:g*(ZD bx by_*bx+ZA bx by_*by_)=(g*ZD bx by_)*bx+(g*ZA bx by_)*by_:=by grind
   rw [e1,ga,gb];grind
  exact Int.eq_of_mul_eq_mul_left (by omega) this
 have side:∀ {a b:Int},(-100<=a/\a<=100)->(-100<=b/\b<=100)->a*bx+b*by_=0->SdP E a b x y d:=by
  intro a b ha hb h0;have:=sup_ge hE hne (a:=a) (b:=b) ⟨by omega,by omega⟩ ⟨by omega,by omega⟩ (Int.mul_pos hd he) hi';unfold SdP;refine J0 (k:=e) he ?_;have e1:(a*(x*e+bx*m*d)+b*(y*e+by_*m*d))*(Kc E a b).d=(a*x+b*y)*(Kc E a b).d*e+(a*bx+b*by_)*(m*d*(Kc E a b).d):=by grind
  rw [e1,h0,Int.zero_mul,Int.add_zero,<- Int.mul_assoc] at this;exact this
 refine ⟨side O.a O.b hperp,side ⟨by have:=O.a;omega,by have:=O.a;omega⟩ ⟨by have:=O.b;omega,by have:=O.b;omega⟩ (by rw [Int.neg_mul,Int.neg_mul];omega),λ k hk=>?_⟩;have h3:=hi' k hk;unfold YA at h3;have e1:k.a*(x*e+bx*m*d)+k.b*(y*e+by_*m*d)=(k.a*x+k.b*y)*e+(k.a*bx+k.b*by_)*m*d:=by grind
 rw [e1] at h3;refine J0 (k:=e) he ?_;have key : -((k.a*bx+k.b*by_)*m)<=max (-lo*(k.a*bx+k.b*by_)) (-hi*(k.a*bx+k.b*by_))*e:=by
  generalize k.a*bx+k.b*by_=n at *;rcases Int.lt_or_le n 0 with hn|hn
  ·have m1:=Int.mul_le_mul_of_nonneg_left h2 (show 0<=-n by omega);have m2:=Int.mul_le_mul_of_nonneg_right (show -hi*n<=max (-lo*n) (-hi*n) by omega) (show 0<=e by omega);have e2 : -n*(hi*e) = -hi*n*e:=by grind
   have e3 : -n*m = -(n*m):=Int.neg_mul n m;omega
  ·have m1:=Int.mul_le_mul_of_nonneg_left h1 hn;have m2:=Int.mul_le_mul_of_nonneg_right (show -lo*n<=max (-lo*n) (-hi*n) by omega) (show 0<=e by omega);have e2:n*(lo*e) = -(-lo*n*e):=by grind
   omega
 have m3:=Int.mul_le_mul_of_nonneg_right key (show 0<=d by omega);generalize max (-lo*(k.a*bx+k.b*by_)) (-hi*(k.a*bx+k.b*by_))=M at *;have e2:(k.c+M)*d*e=k.c*(d*e)+M*e*d:=by grind
 rw [e2];rw [Int.neg_mul] at m3;omega
def pX (r:Xv) (x y:Int):Int:=r.map.getD 0 0*x+r.map.getD 1 0*y
def pY (r:Xv) (x y:Int):Int:=r.map.getD 2 0*x+r.map.getD 3 0*y
theorem pul_pts {r:Xv} {h g:Half} (e:YR r.map r.div h=some g) {x y d:Int}:YA g x y d ↔ YA h (pX r x y) (pY r x y) (r.div*d):=by
 unfold YR at e;rw [halfOf_pts e];unfold YA pX pY;have e1:(h.a*r.map.getD 0 0+h.b*r.map.getD 2 0)*x+(h.a*r.map.getD 1 0+h.b*r.map.getD 3 0)*y=h.a*(r.map.getD 0 0*x+r.map.getD 1 0*y)+h.b*(r.map.getD 2 0*x+r.map.getD 3 0*y):=by grind
 rw [e1,Int.mul_assoc]
theorem room_dir {r:Xv} (hr:XK r=true) (hb:0<r.bx):DirIn r.bx r.by_:=⟨(J9 hr).bx,(J9 hr).by_,λ h=>by omega⟩
structure PreP (r:Xv) (p:List Half):Prop where
 e:ZY r p≠[]
 g:Ki r p≠[]
 pts:∀ {x y d:Int},0<d->(J5 (XW r p) x y d ↔ J5 YT x y d/\J5 YT (pX r x y) (pY r x y) (r.div*d)/\GP r.bx r.by_ r.low r.high (ZY r p) (pX r x y) (pY r x y) (r.div*d))
theorem pre_pts {r:Xv} {p:List Half} (hr:XK r=true) (hb:0<r.bx) (hne:XW r p≠[]):PreP r p:=by
 have B:=J9 hr;have D:=room_dir hr hb;unfold XW at hne;split at hne
 ·rename_i hk
  have hg:=movR_pts (λ _ _ _ e=>pulH_ok e) hne;obtain ⟨hgn,ha,hi⟩:=hg;have hgn':grwR r.bx r.by_ r.low r.high (ZY r p)≠[]:=hgn;obtain ⟨hen,hi2⟩:=grw_pts hb hgn';have hE:=preE_ok r p;refine ⟨hen,hgn,λ{x y d} hd=>?_⟩;have hq:0<r.div*d:=Int.mul_pos (by have:=B.div;omega) hd;have e:XW r p=ZS (YR r.map r.div) (Ki r p):=by unfold XW;rw [if_pos hk]
  rw [e,hi (by omega)];refine and_congr_right λ _=>?_;have h3:(∀ h∈Ki r p,∀ g,YR r.map r.div h=some g->YA g x y d) ↔ J5 (Ki r p) (pX r x y) (pY r x y) (r.div*d):=by
   unfold ZF at ha;rw [List.all_eq_true] at ha;constructor
   ·intro h k hk;obtain ⟨g,eg⟩:=Option.isSome_iff_exists.1 (ha k hk);exact (pul_pts eg).1 (h k hk g eg)
   ·intro h k hk g eg;exact (pul_pts eg).2 (h k hk)
  rw [h3];show J5 (grwR r.bx r.by_ r.low r.high (ZY r p)) _ _ _ ↔ _;rw [hi2 (by omega)];refine and_congr_right λ _=>?_;exact ⟨λ h=>grw_to hE hen D hb B.high.1 hq h,λ h=>grw_from hE hen D hq h⟩
 ·exact absurd rfl hne
end Go.Proofs.YtabfdkpdppemaaaGreat
