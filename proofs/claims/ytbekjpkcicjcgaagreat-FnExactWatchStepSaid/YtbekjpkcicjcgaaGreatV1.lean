/-
 The inputs that are admitted at a state: of the reference.
 Conditions: the slices hold at most 2^20 elements.
-/
import Derived.Test.YtbekjpkcicjcgaaGreatGrXg
namespace Go.Proofs.YtbekjpkcicjcgaaGreat
open Go.RowKit
theorem rpOk_room {r:XU} {p:List Half} (h:Jn r p=true):XM r=true:=by
 simp only [Jn,Bool.and_eq_true] at h;exact h.1.1
theorem JA (x:Option K4):optSpanV x=.tuple #[Z8 (x.getD XF),Bv x.isSome]:=by cases x<;>rfl
theorem admAt_no1 {r:XU} {p:List Half} {s:X9} (h:(!(Xb p) || !(X7 s)||decide (s.d > 100000))=true):XH r p s=none:=by
 unfold XH Z9 Jn;rcases Bool.eq_false_or_eq_true (Xb p) with h1|h1
 ·rcases Bool.eq_false_or_eq_true (X7 s) with h2|h2
  ·rw [h1,h2] at h;have h3:100000<s.d:=by simpa using h
   rw [adm_no h3];split<;>rfl
  ·rw [h2,if_neg Sz]
 ·rw [h1,if_neg Sz]
theorem admAt_no2 {r:XU} {p:List Half} {s:X9} (h:(!(Jn r p)||decide ((Kb r p).length=0))=true):XH r p s=none:=by
 unfold XH Z9;rcases Bool.eq_false_or_eq_true (Jn r p) with h1|h1
 ·rw [h1] at h;have h2:decide ((Kb r p).length=0)=true:=by simpa using h
  rw [h2,if_neg Sz]
 ·rw [h1,if_neg Sz]
theorem admAt_yes {r:XU} {p:List Half} {s:X9} (h1:X7 s=true) (h:(!(Jn r p)||decide ((Kb r p).length=0))=false):XH r p s=YL r (Kb r p) s:=by
 have h2:=Yu (KU h);have h3:=J6 h;unfold XH Z9;have hp:decide (p.length=0)=false:=by
  cases hq:decide (p.length=0)
  ·rfl
  ·have:=of_decide_eq_true hq;have h5:Kb r p=[]:=by
    unfold Kb;split
    ·exact (Jo this).2
    ·rfl
   rw [h5] at h3;cases h3
 rw [hp,h2,h3,h1,if_pos Sz]
set_option maxRecDepth 100000 in
set_option maxHeartbeats 3000000 in
theorem sAdmAt_c (r:XU) (p:List Half) (s:X9) (ra:Yn) (b:Zi) (w:World) (hn:Xy r<=1048576) (hin:Zh r) (hs:Ym w r ra) (hnl:YJ ra) (hlp:p.length<=1048576) (hpi:∀ h∈p,h.In) (hsp:Sl 3 Xd w b.A p) (hnb:b.A=none->b.c=0) (hsi:s.In) :
 Calls Tryz.prog 121 #[Ya r ra,.agg #[Sv b.A p.length b.c],YK s] w λ x w'=>x=.returned (optSpanV (XH r p s))/\Below w.heap.size w w':=by
 refine YN Tryz.func121 rfl (n:=43) Tryz.ntmps121 Sz ?_;intro a0 R J ha;have s0:a0.tmps[0]?.getD undef=Ya r ra:=ha 0 _ rfl;have s1:a0.tmps[1]?.getD undef=.agg #[Sv b.A p.length b.c]:=ha 1 _ rfl;have s2:a0.tmps[2]?.getD undef=YK s:=ha 2 _ rfl;clear ha;have O:=Below.refl w.heap.size w;have U:=Nat.le_refl w.heap.size;refine wp_seq ?_;refine Yt [3,4,5,6,7] [Pz w.heap.size,Pz (w.heap.size+1),Pz (w.heap.size+2),Pz (w.heap.size+3),Bf] [some (.cells (Jv r ra).toArray 28),some (.cells [Sv b.A p.length b.c].toArray 26),some (.cells [Vi s.x,Vi s.y,Vi s.d].toArray 30),some (.cells [V0,V0,V0,V0].toArray 48),none] [0,1,2,3,4] [3,4,5,6,7] [0,1,2,3,4] (by kernel_rfl) (by rw [R];decide) (ec ?_ (ec ?_ (ec ?_ (ec ?_ (ec ?_ .nil))))) ?_
 ·intro a w' D hs N Q B;simp [go_sem,D.g rfl s0];rw [hs];exact B
 ·intro a w' D hs N Q B;simp [go_sem,D.g rfl s1];rw [hs];exact B
 ·intro a w' D hs N Q B;simp [go_sem,D.g rfl s2];rw [hs];exact B
 ·intro a w' D hs N Q B;simp [go_sem];rw [hs];exact B
 ·intro a w' D hs N Q B;simp [go_sem];exact B
 intro a1 w2 D P hb hO;replace R:=D.size.trans R;replace J:=D.defers.trans J;have s3:a1.tmps[3]?.getD undef=Pz w.heap.size:=P 0 Dz;have s4:a1.tmps[4]?.getD undef=Pz (w.heap.size+1):=P 1 Dz;have s5:a1.tmps[5]?.getD undef=Pz (w.heap.size+2):=P 2 Dz;have s6:a1.tmps[6]?.getD undef=Pz (w.heap.size+3):=P 3 Dz;have b3:Xz w2 w.heap.size 28 (Jv r ra):=hO 0 _ rfl;have b4:Xz w2 (w.heap.size+1) 26 [Sv b.A p.length b.c]:=hO 1 _ rfl;have b5:Xz w2 (w.heap.size+2) 30 [Vi s.x,Vi s.y,Vi s.d]:=hO 2 _ rfl;have b6:Xz w2 (w.heap.size+3) 48 [V0,V0,V0,V0]:=hO 3 _ rfl;have hG:=b6.lt;replace O:=Xe O hb;have zw2:=Nat.le_trans U hb.size;replace U:=Nat.le_refl w2.heap.size;clear D P hb hO s0 s1 s2;refine Xk (wp_seq (wp_seq ?_));refine Xj [10,11,12,13,14,15,16,17,18,19,20,21,22] [some (.agg #[Sv b.A p.length b.c]),some (Bv (Xb p)),some (Bv (!(Xb p))),some (Bv (!(Xb p))),some ((bif !(Xb p) then undef else (YK s:Value))),some ((bif !(Xb p) then undef else (Bv (X7 s):Value))),some ((bif !(Xb p) then undef else (Bv (!(X7 s)):Value))),some (Bv (!(Xb p) || !(X7 s))),some (Bv (!(Xb p) || !(X7 s))),some ((bif (!(Xb p) || !(X7 s)) then undef else (.pointer (some ⟨(w.heap.size+2),2,none⟩):Value))),some ((bif (!(Xb p) || !(X7 s)) then undef else (Vi s.d:Value))),some ((bif (!(Xb p) || !(X7 s)) then undef else (Bv (decide (s.d > 100000)):Value))),some (Bv ((!(Xb p) || !(X7 s))||decide (s.d > 100000)))] (Yc 13) [10,11,12,13,14,15,16,17,18,19,20,21,22] [] (λ _ _ _=>True) ?_ (e4 ?_ ?_ ?_ ?_ (eg ?_ (eg ?_ (eg ?_ (e2 ?_ ?_ (eg ?_ (eg ?_ (eg ?_ (en rfl ?_ .nil))))))))) ?_
 ·exact λ _ _=>trivial
 ·intro M F C H _ _ B;simp [go_sem,H.f.g rfl s4,(b4.k0 H.k).cell];exact (B _ _ H.k rfl trivial)
 ·intro M F C H _ _ B;simp [go_sem,(gS F 10 (H.d 0 rfl rfl))];have hBi:=H.k.below0 O;refine (XY p b C hlp hpi (hsp.below hBi) hnb).mono ?_;rintro x wx ⟨rfl,hb⟩;exact (B _ _ (H.k.call hb) rfl trivial)
 ·exact Jc 1 rfl rfl rfl rfl
 ·exact Ks 2 rfl rfl rfl rfl
 ·intro M F C H _ _ B;refine Kr rfl rfl rfl (H.d 3 rfl rfl) (λ qg=>B _ _ H.k (Xu qg).symm trivial) λ qg=>?_;simp [go_sem,H.f.g rfl s5,(b5.k0 H.k).cell];exact (B _ _ H.k (Xq qg).symm trivial)
 ·intro M F C H _ _ B;refine Kr rfl rfl rfl (H.d 3 rfl rfl) (λ qg=>B _ _ H.k (Xu qg).symm trivial) λ qg=>?_;simp [go_sem,(show F.tmps[14]?.getD undef=_ from (H.d 4 rfl rfl).trans (Xq qg))];refine (sSpotOk_c s C hsi).mono ?_;rintro x wx ⟨rfl,hb⟩;exact (B _ _ (H.k.call hb) (Xq qg).symm trivial)
 ·intro M F C H _ _ B;refine Kr rfl rfl rfl (H.d 3 rfl rfl) (λ qg=>B _ _ H.k (Xu qg).symm trivial) λ qg=>?_;exact KL rfl (ev ((H.d 5 rfl rfl).trans (Xq qg))) (B _ _ H.k (Xq qg).symm trivial)
 ·exact oPOT 3 6 rfl rfl rfl rfl rfl rfl
 ·exact Ks 7 rfl rfl rfl rfl
 ·intro M F C H _ _ B;refine Kr rfl rfl rfl (H.d 8 rfl rfl) (λ qg=>B _ _ H.k (Xu qg).symm trivial) λ qg=>?_;simp [go_sem,H.f.g rfl s5];exact (B _ _ H.k (Xq qg).symm trivial)
 ·intro M F C H _ _ B;refine Kr rfl rfl rfl (H.d 8 rfl rfl) (λ qg=>B _ _ H.k (Xu qg).symm trivial) λ qg=>?_;simp [go_sem,(show F.tmps[19]?.getD undef=_ from (H.d 9 rfl rfl).trans (Xq qg)),(b5.k0 H.k).cell];exact (B _ _ H.k (Xq qg).symm trivial)
 ·intro M F C H _ _ B;refine Kr rfl rfl rfl (H.d 8 rfl rfl) (λ qg=>B _ _ H.k (Xu qg).symm trivial) λ qg=>?_;exact Yl rfl (ev ((H.d 10 rfl rfl).trans (Xq qg))) rfl rfl rfl (B _ _ H.k (Xq qg).symm trivial)
 ·exact oPOT 8 11 rfl rfl rfl rfl rfl rfl
 intro L a7 w8 T D I P V;replace R:=D.Z R;replace J:=D.E J;obtain ⟨s3,s4,s5,s6⟩:=D.G4 s3 s4 s5 s6;have s22:=gS a7 22 (P 12 _ rfl);replace b3:=b3.k0 I;replace b4:=b4.k0 I;replace b5:=b5.k0 I;replace b6:=b6.k0 I;replace U:=Nat.le_trans U I.size;replace O:=I.below0 O;clear D I P T V;refine Xk ?_;rcases Bool.eq_false_or_eq_true ((!(Xb p) || !(X7 s))||decide (s.d > 100000)) with q9|q9
 ·refine wp_cond_true (ev (vb s22 q9)) ?_;refine wp_seq ?_;have K:Xf [] (λ L aa C=>X6 C (w.heap.size+3) 48 [V0,V0,V0,V0] (L 1) (λ _ vs=>vs=[V0,V0,V0,V0])):=λ L aa C w' kk vv hkk hb x0=>(x0.bel hb (λ _ h=>h));refine Xr K [23,0,7] [some (.agg #[V0,V0,V0,V0]),none,some Bf] (Yc 3) [23,7] [(w.heap.size+3)] ?_ (e2 ?_ ?_ (en rfl ?_ .nil)) ?_
  ·exact λ _ h=>(⟨λ _=>b6.kp h Sz,Cz⟩)
  ·intro M F C H _ _ B;simp [go_sem];exact (B _ _ H.k rfl H.x)
  ·intro M F C H _ _ B;have x0:=H.x;have S:=x0.1 H.n;simp [go_sem,(gS F 23 (H.d 0 rfl rfl)),H.f.g rfl s6,S.cell,S.frz];exact B undef _ (H.k.store (.inr Sz) [V0,V0,V0,V0] 0) trivial (X6.set S (us:=[V0,V0,V0,V0]) rfl rfl)
  ·exact KQ rfl rfl λ _ _ _ _ h=>h
  intro L a10 w11 T D I P V;have x0:=V;replace R:=D.Z R;replace J:=D.E J;replace s6:=D.G s6;have s7:=gS a10 7 (P 2 _ rfl);clear b6;obtain ⟨_,b6,rfl⟩:=x0.2 (T 1 Dz);replace U:=Nat.le_trans U I.size;replace O:=I.below O O.size (by simp<;>omega);clear D I P T x0 K s3 s4 s5 s22 b3 b4 b5;refine Xk (wp_ret (Y6 ?_));refine bodyPost_ret (v:=.tuple #[.agg #[V0,V0,V0,V0],Bf]) (by simp [results,Tryz.results121,go_sem,s6,b6.cell,s7]) J ?_;exact ⟨by rw [admAt_no1 q9];rfl,O⟩
 ·refine wp_cond_false (ev (vb s22 q9)) ?_;refine wp_skip (Xk (wp_seq ?_));have hX0:=Xf.e 27 2 (λ C v=>∃ A1 c1,v=.tuple #[.agg #[Sv A1 ((Kb r p).length) c1],Bv (Jn r p)]/\XI 136 3 Xd C w8.heap.size (Sv A1 (Kb r p).length c1) (Kb r p)) (λ hb _ h=>by obtain ⟨A1',c1',e,f1'⟩:=h;exact ⟨A1',c1',e,f1'.below hb XE⟩);have hX1:=Xf.e 24 3 (λ C v=>∃ A1 c1,v=.tuple #[.agg #[Sv A1 ((Kb r p).length) c1],Bv (Jn r p)]/\XI 136 3 Xd C w8.heap.size (Sv A1 (Kb r p).length c1) (Kb r p)) (λ hb _ h=>by obtain ⟨A1',c1',e,f1'⟩:=h;exact ⟨A1',c1',e,f1'.below hb XE⟩);have hX2:=Xf.e 28 4 (λ C v=>∃ A1 c1,v=.agg #[Sv A1 ((Kb r p).length) c1]/\XI 136 3 Xd C w8.heap.size (Sv A1 (Kb r p).length c1) (Kb r p)) (λ hb _ h=>by obtain ⟨A1',c1',e,f1'⟩:=h;exact ⟨A1',c1',e,f1'.below hb XE⟩);have hX3:=Xf.x 8 6 7 w8 26 [Nz] (λ C vs=>∃ A1 c1,vs=[Sv A1 ((Kb r p).length) c1]/\XI 136 3 Xd C w8.heap.size (Sv A1 (Kb r p).length c1) (Kb r p)) (λ hb _ h=>by obtain ⟨A1',c1',e,f1'⟩:=h;exact ⟨A1',c1',e,f1'.below hb XE⟩);have K:=hX0.a (hX1.a (hX2.a hX3));refine Xr K [25,26,27,24,28,29,8,0,9] [some (Ya r ra),some (.agg #[Sv b.A p.length b.c]),none,none,none,some (Bv (Jn r p)),none,none,some (Bv (Jn r p))] (Yc 9) [25,26,27,24,28,29,8,9] [] ?_ (e4 ?_ ?_ ?_ ?_ (e4 ?_ ?_ ?_ ?_ (en rfl ?_ .nil))) ?_
  ·exact λ _ h=>⟨Cz,Cz,Cz,Cz⟩
  ·intro M F C H _ _ B;simp [go_sem,H.f.g rfl s3,(b3.k0 H.k).cell];exact (B _ _ H.k rfl (K.q rfl H.x))
  ·intro M F C H _ _ B;simp [go_sem,H.f.g rfl s4,(b4.k0 H.k).cell];exact (B _ _ H.k rfl (K.q rfl H.x))
  ·intro M F C H _ _ B;obtain ⟨x0,x1,x2,x3⟩:=H.x;simp [go_sem,(gS F 25 (H.d 0 rfl rfl)),(gS F 26 (H.d 1 rfl rfl))];have hBi:=H.k.below0 O;refine (sRob_c r p ra b C hn hin (hs.below hBi) hnl hlp hpi (hsp.below hBi) hnb).mono ?_;rintro x wx ⟨_,rfl,⟨A1,c1,rfl,f0⟩,hb⟩;have f1:=XI.mono (show XI 136 3 Xd wx C.heap.size (Sv A1 (Kb r p).length c1) (Kb r p) from ⟨_,_,rfl,f0⟩) H.k.size;exact (B _ _ (H.k.call hb) trivial ⟨(λ _=>⟨A1,c1,H.f.s R,f1⟩),(hX1.b rfl hb x1),(hX2.b rfl hb x2),(hX3.b rfl hb x3)⟩)
  ·intro M F C H _ _ B;obtain ⟨x0,x1,x2,x3⟩:=H.x;obtain ⟨A1,c1,ee2,f1⟩:=x0 (H.r 2 rfl);exact XR rfl (ev ee2) (B _ _ H.k trivial ⟨(hX0.q rfl x0),(λ _=>⟨A1,c1,H.f.s R,f1⟩),(hX2.q rfl x2),(hX3.q rfl x3)⟩)
  ·intro M F C H _ _ B;obtain ⟨x0,x1,x2,x3⟩:=H.x;obtain ⟨A1,c1,ee3,f1⟩:=x1 (H.r 3 rfl);exact XP rfl (ev ee3) rfl (B _ _ H.k trivial ⟨(hX0.q rfl x0),(hX1.q rfl x1),(λ _=>⟨A1,c1,H.f.s R,f1⟩),(hX3.q rfl x3)⟩)
  ·intro M F C H _ _ B;obtain ⟨x0,x1,x2,x3⟩:=H.x;obtain ⟨A1,c1,ee3,f1⟩:=x1 (H.r 3 rfl);exact XP rfl (ev ee3) rfl (B _ _ H.k rfl (K.q rfl H.x))
  ·intro M F C H _ _ B;obtain ⟨x0,x1,x2,x3⟩:=H.x;simp [go_sem];exact B _ _ (H.k.alloc _) trivial ⟨(hX0.b rfl (Xc bR _) x0),(hX1.b rfl (Xc bR _) x1),(hX2.b rfl (Xc bR _) x2),(λ _=>by rw [show ZV M 6 7=false from H.t 7 rfl];exact Yg.new (s:=8) (H.f.lt (by rw [R];decide)) H.k.size [Nz])⟩
  ·intro M F C H _ _ B;obtain ⟨x0,x1,x2,x3⟩:=H.x;obtain ⟨A1,c1,ee4,f1⟩:=x2 (H.r 4 rfl);obtain ⟨g,eg,hg,y,_⟩:=x3 (H.r 6 rfl);have S:=y H.n;simp [go_sem,ee4,eg,S.cell,S.frz];have f1:=f1.otherC (f1.typ S Dz) [Sv A1 ((Kb r p).length) c1] 0;exact B undef _ (H.k.store (.inl hg) [Sv A1 ((Kb r p).length) c1] 0) trivial ⟨(λ h=>by obtain ⟨A1',c1',e,f1'⟩:=x0 h;exact ⟨A1',c1',e,f1'.otherC (f1'.typ S Dz) [Sv A1 ((Kb r p).length) c1] 0⟩),(λ h=>by obtain ⟨A1',c1',e,f1'⟩:=x1 h;exact ⟨A1',c1',e,f1'.otherC (f1'.typ S Dz) [Sv A1 ((Kb r p).length) c1] 0⟩),(λ h=>by obtain ⟨A1',c1',e,f1'⟩:=x2 h;exact ⟨A1',c1',e,f1'.otherC (f1'.typ S Dz) [Sv A1 ((Kb r p).length) c1] 0⟩),(λ _=>Yg.set eg hg S (us:=[Sv A1 ((Kb r p).length) c1]) rfl ⟨A1,c1,rfl,f1⟩)⟩
  ·exact KW 5 rfl rfl rfl rfl λ _ _ _ _=>K.q rfl
  intro L a12 w13 T D I P V;obtain ⟨x0,x1,x2,x3⟩:=V;replace R:=D.Z R;replace J:=D.E J;obtain ⟨s3,s5,s6⟩:=D.G3 s3 s5 s6;have s9:=gS a12 9 (P 8 _ rfl);replace b3:=b3.k0 I;replace b5:=b5.k0 I;replace b6:=b6.k0 I;obtain ⟨g14,s8,lg14,-,b14⟩:=x3 (T 6 Dz);obtain ⟨_,b14,A1,c1,rfl,N1⟩:=b14 (T 7 Dz);have i1:∀ p,A1=some p->p.block<w13.heap.size:=λ p hp=>(N1.blk p hp).2;have ug14:=b14.lt;have zw8:=U;have zw13:=I.size;replace U:=Nat.le_refl w13.heap.size;replace O:=I.below0 O;clear D I P T x0 x1 x2 x3 K hX0 hX1 hX2 hX3 s4 s22 b4;refine Xk (wp_seq (wp_seq ?_));refine Xj [30,31,32,33,34,35] [some (Bv (Jn r p)),some (Bv (!(Jn r p))),some (Bv (!(Jn r p))),some ((bif !(Jn r p) then undef else (.agg #[Sv A1 ((Kb r p).length) c1]:Value))),some ((bif !(Jn r p) then undef else (Bv (decide ((Kb r p).length=0)):Value))),some (Bv (!(Jn r p)||decide ((Kb r p).length=0)))] (Yc 6) [30,31,32,33,34,35] [] (λ _ _ _=>True) ?_ (e2 ?_ ?_ (en rfl ?_ (eg ?_ (eg ?_ (en rfl ?_ .nil))))) ?_
  ·exact λ _ _=>trivial
  ·exact Z1 s9 rfl rfl rfl
  ·exact Jc 0 rfl rfl rfl rfl
  ·exact Ks 1 rfl rfl rfl rfl
  ·intro M F C H _ _ B;refine Kr rfl rfl rfl (H.d 2 rfl rfl) (λ qg=>B _ _ H.k (Xu qg).symm trivial) λ qg=>?_;simp [go_sem,H.f.g rfl s8,(b14.k0 H.k).cell];exact (B _ _ H.k (Xq qg).symm trivial)
  ·intro M F C H _ _ B;refine Kr rfl rfl rfl (H.d 2 rfl rfl) (λ qg=>B _ _ H.k (Xu qg).symm trivial) λ qg=>?_;simp [go_sem,(show F.tmps[33]?.getD undef=_ from (H.d 3 rfl rfl).trans (Xq qg))];refine (Yh (Kb r p) ⟨A1,c1⟩ C).mono ?_;rintro x wx ⟨rfl,hb⟩;exact (B _ _ (H.k.call hb) (Xq qg).symm trivial)
  ·exact oPOT 2 4 rfl rfl rfl rfl rfl rfl
  intro L a15 w16 T D I P V;replace R:=D.Z R;replace J:=D.E J;obtain ⟨s3,s5,s6,s8⟩:=D.G4 s3 s5 s6 s8;have s35:=gS a15 35 (P 5 _ rfl);replace b3:=b3.k0 I;replace b5:=b5.k0 I;replace b6:=b6.k0 I;replace b14:=b14.k0 I;replace N1:=N1.below I.toBelow XE;replace U:=Nat.le_trans U I.size;replace O:=I.below0 O;clear D I P T V s9;refine Xk ?_;rcases Bool.eq_false_or_eq_true (!(Jn r p)||decide ((Kb r p).length=0)) with q17|q17
  ·refine wp_cond_true (ev (vb s35 q17)) ?_;refine wp_seq ?_;have K:Xf [] (λ L aa C=>X6 C (w.heap.size+3) 48 [V0,V0,V0,V0] (L 1) (λ _ vs=>vs=[V0,V0,V0,V0])):=λ L aa C w' kk vv hkk hb x0=>(x0.bel hb (λ _ h=>h));refine Xr K [36,0,7] [some (.agg #[V0,V0,V0,V0]),none,some Bf] (Yc 3) [36,7] [(w.heap.size+3)] ?_ (e2 ?_ ?_ (en rfl ?_ .nil)) ?_
   ·exact λ _ h=>(⟨λ _=>b6.kp h Sz,Cz⟩)
   ·intro M F C H _ _ B;simp [go_sem];exact (B _ _ H.k rfl H.x)
   ·intro M F C H _ _ B;have x0:=H.x;have S:=x0.1 H.n;simp [go_sem,(gS F 36 (H.d 0 rfl rfl)),H.f.g rfl s6,S.cell,S.frz];exact B undef _ (H.k.store (.inr Sz) [V0,V0,V0,V0] 0) trivial (X6.set S (us:=[V0,V0,V0,V0]) rfl rfl)
   ·exact KQ rfl rfl λ _ _ _ _ h=>h
   intro L a18 w19 T D I P V;have x0:=V;replace R:=D.Z R;replace J:=D.E J;replace s6:=D.G s6;have s7:=gS a18 7 (P 2 _ rfl);clear b6;obtain ⟨_,b6,rfl⟩:=x0.2 (T 1 Dz);replace U:=Nat.le_trans U I.size;replace O:=I.below O O.size (by simp<;>omega);clear D I P T x0 K s3 s5 s8 s35 b3 b5 b14 N1 i1;refine Xk (wp_ret (Y6 ?_));refine bodyPost_ret (v:=.tuple #[.agg #[V0,V0,V0,V0],Bf]) (by simp [results,Tryz.results121,go_sem,s6,b6.cell,s7]) J ?_;exact ⟨by rw [admAt_no2 q17];rfl,O⟩
  ·refine wp_cond_false (ev (vb s35 q17)) ?_;refine wp_skip (Xk (wp_seq ?_));have K:Xf [] (λ L aa C=>X6 C (w.heap.size+3) 48 [V0,V0,V0,V0] (L 6) (λ _ vs=>vs=[Vi (((YL r (Kb r p) s).getD XF).low.n),Vi (((YL r (Kb r p) s).getD XF).low.d),Vi (((YL r (Kb r p) s).getD XF).high.n),Vi (((YL r (Kb r p) s).getD XF).high.d)])):=λ L aa C w' kk vv hkk hb x0=>(x0.bel hb (λ _ h=>h));refine Xr K [37,38,39,40,41,42,0,7] [some (Ya r ra),some (.agg #[Sv A1 ((Kb r p).length) c1]),some (YK s),some (.tuple #[Z8 ((YL r (Kb r p) s).getD XF),Bv ((YL r (Kb r p) s).isSome)]),some (Z8 ((YL r (Kb r p) s).getD XF)),some (Bv ((YL r (Kb r p) s).isSome)),none,some (Bv ((YL r (Kb r p) s).isSome))] (Yc 8) [37,38,39,40,41,42,7] [(w.heap.size+3)] ?_ (e4 ?_ ?_ ?_ ?_ (e4 ?_ ?_ ?_ ?_ .nil)) ?_
   ·exact λ _ h=>(⟨λ _=>b6.kp h Sz,Cz⟩)
   ·intro M F C H _ _ B;simp [go_sem,H.f.g rfl s3,(b3.kp H.k (by simp<;>omega)).cell];exact (B _ _ H.k rfl H.x)
   ·intro M F C H _ _ B;simp [go_sem,H.f.g rfl s8,(b14.kp H.k (by simp<;>omega)).cell];exact (B _ _ H.k rfl H.x)
   ·intro M F C H _ _ B;simp [go_sem,H.f.g rfl s5,(b5.kp H.k (by simp<;>omega)).cell];exact (B _ _ H.k rfl H.x)
   ·intro M F C H _ _ B;simp [go_sem,(gS F 37 (H.d 0 rfl rfl)),(gS F 38 (H.d 1 rfl rfl)),(gS F 39 (H.d 2 rfl rfl))];have hBi:=H.k.below O O.size (by simp<;>omega);refine (sAdmit_c r (Kb r p) s ra ⟨A1,c1⟩ C (rpOk_room (Yu (KU q17))) (Jb (rpR_ok r p)) (Zt (rpR_ok r p)) (Yu (J6 (KU q9))) (YT (J6 q9)) (hs.below hBi) ((N1.kp H.k i1 Oz (by simp<;>omega)).out Xx)).mono ?_;rintro x wx ⟨rfl,hb⟩;exact (B _ _ (H.k.call hb) (JA _) (K M F C _ none undef Sz hb H.x))
   ·exact Jt 3 rfl rfl rfl rfl rfl λ _ _ _ _ h=>h
   ·exact Jt 3 rfl rfl rfl rfl rfl λ _ _ _ _ h=>h
   ·intro M F C H _ _ B;have x0:=H.x;have S:=x0.1 H.n;simp [go_sem,(gS F 41 (H.d 4 rfl rfl)),H.f.g rfl s6,S.cell,S.frz];exact B undef _ (H.k.store (.inr Sz) [Vi (((YL r (Kb r p) s).getD XF).low.n),Vi (((YL r (Kb r p) s).getD XF).low.d),Vi (((YL r (Kb r p) s).getD XF).high.n),Vi (((YL r (Kb r p) s).getD XF).high.d)] 0) trivial (X6.set S (us:=[Vi (((YL r (Kb r p) s).getD XF).low.n),Vi (((YL r (Kb r p) s).getD XF).low.d),Vi (((YL r (Kb r p) s).getD XF).high.n),Vi (((YL r (Kb r p) s).getD XF).high.d)]) rfl rfl)
   ·exact KW 5 rfl rfl rfl rfl λ _ _ _ _ h=>h
   intro L a20 w21 T D I P V;have x0:=V;replace R:=D.Z R;replace J:=D.E J;replace s6:=D.G s6;have s7:=gS a20 7 (P 7 _ rfl);clear b6;obtain ⟨_,b6,rfl⟩:=x0.2 (T 6 Dz);replace U:=Nat.le_trans U I.size;replace O:=I.below O O.size (by simp<;>omega);clear D I P T x0 K s3 s5 s8 s35 b3 b5 b14 N1 i1;refine Xk (wp_ret ?_);refine bodyPost_ret (v:=.tuple #[Z8 ((YL r (Kb r p) s).getD XF),Bv ((YL r (Kb r p) s).isSome)]) (by simp [results,Tryz.results121,go_sem,s6,b6.cell,s7]) J ?_;exact ⟨by rw [admAt_yes (Yu (J6 (KU q9))) q17,JA],O⟩
end Go.Proofs.YtbekjpkcicjcgaaGreat
