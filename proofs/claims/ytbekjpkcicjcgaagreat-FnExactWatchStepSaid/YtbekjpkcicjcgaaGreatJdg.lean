/-
 What a watch says of an input in a state: of the program and of the reference.
 Conditions: the slices hold at most 2^20 elements.
-/
import Derived.Test.YtbekjpkcicjcgaaGreatWatS
import Derived.Test.YtbekjpkcicjcgaaGreatAdi
set_option maxHeartbeats 3000000
set_option maxRecDepth 100000
namespace Go.Proofs.YtbekjpkcicjcgaaGreat
open Go.RowKit
def jdgS (v:K4) (u:Yk):Yk × Int:=if Jp v u=true then (u,1) else if (!(Xn u)||decide (Xp u v.low<0))=true then (v.low,2) else (v.high,2)
def Yq (r:XU) (p:List Half) (l:List Int) (s:X9) (u:Yk):Yk × Int:=if Kw r p l=true then (if (XH r p s).isSome=true then jdgS ((XH r p s).getD XF) u else (Y7,3)) else (Y7,3)
theorem jdg_no {r:XU} {p:List Half} {l:List Int} {s:X9} {u:Yk} (h:Kw r p l=false):Yq r p l s u=(Y7,3):=by unfold Yq;rw [if_neg (by rw [h];simp)]
theorem jdg_out {r:XU} {p:List Half} {l:List Int} {s:X9} {u:Yk} (h:Kw r p l=true) (h2:(XH r p s).isSome=false):Yq r p l s u=(Y7,3):=by unfold Yq;rw [if_pos h,if_neg (by rw [h2];simp)]
theorem jdg_in {r:XU} {p:List Half} {l:List Int} {s:X9} {u:Yk} (h:Kw r p l=true) (h2:(XH r p s).isSome=true):Yq r p l s u=jdgS ((XH r p s).getD XF) u:=by unfold Yq;rw [if_pos h,if_pos h2]
theorem jdgS_in {v:K4} {u:Yk} (h:Jp v u=true):jdgS v u=(u,1):=by unfold jdgS;rw [if_pos h]
theorem jdgS_low {v:K4} {u:Yk} (h:Jp v u=false) (h2:(!(Xn u)||decide (Xp u v.low<0))=true):jdgS v u=(v.low,2):=by unfold jdgS;rw [if_neg (by rw [h];simp),if_pos h2]
theorem jdgS_high {v:K4} {u:Yk} (h:Jp v u=false) (h2:(!(Xn u)||decide (Xp u v.low<0))=false):jdgS v u=(v.high,2):=by unfold jdgS;rw [if_neg (by rw [h];simp),if_neg (by rw [h2];simp)]
theorem iJudge_c (r:XU) (p:List Half) (l:List Int) (s:X9) (u:Yk) (ra:Yn) (b:Zi) (w:World) (hn:Xy r<=1048576) (hin:Zh r) (hs:Ym w r ra) (hnl:YJ ra) (hlp:p.length<=1048576) (hpi:∀ h∈p,h.In) (hsp:Sl 3 Xd w b.A p) (hnb:b.A=none->b.c=0) (e:Zi) (hll:l.length<=1048576) (hsl:Sl 1 Zm w e.A l) (hsi:s.In) (hui:u.In) :
 Calls Tryz.prog 15 #[XO ⟨r,p,l⟩ ⟨ra,b,e⟩,YK s,Xv u] w λ x w'=>x=.returned (.tuple #[Xv (Yq r p l s u).1,Vi (Yq r p l s u).2])/\Below w.heap.size w w':=by
 refine YN Tryz.func15 rfl (n:=47) Tryz.ntmps15 Sz ?_;intro a0 S D ha;have s0:a0.tmps[0]?.getD undef=XO ⟨r,p,l⟩ ⟨ra,b,e⟩:=ha 0 _ rfl;have s1:a0.tmps[1]?.getD undef=YK s:=ha 1 _ rfl;have s2:a0.tmps[2]?.getD undef=Xv u:=ha 2 _ rfl;clear ha;have O:=Below.refl w.heap.size w;have U:=Nat.le_refl w.heap.size;refine wp_seq ?_;refine Yt [3,4,5,6,7] [Pz w.heap.size,Pz (w.heap.size+1),Pz (w.heap.size+2),Pz (w.heap.size+3),V0] [some (.cells (XJ ⟨r,p,l⟩ ⟨ra,b,e⟩).toArray 38),some (.cells [Vi s.x,Vi s.y,Vi s.d].toArray 30),some (.cells [Vi u.n,Vi u.d].toArray 46),some (.cells [V0,V0].toArray 46),none] [0,1,2,3,4] [3,4,5,6,7] [0,1,2,3,4] (by kernel_rfl) (by rw [S];decide) (ec ?_ (ec ?_ (ec ?_ (ec ?_ (ec ?_ .nil))))) ?_
 ·intro a w' C hs N Q B;simp [go_sem,C.g rfl s0];rw [hs];exact B
 ·intro a w' C hs N Q B;simp [go_sem,C.g rfl s1];rw [hs];exact B
 ·intro a w' C hs N Q B;simp [go_sem,C.g rfl s2];rw [hs];exact B
 ·intro a w' C hs N Q B;simp [go_sem];rw [hs];exact B
 ·intro a w' C hs N Q B;simp [go_sem];exact B
 intro a1 w2 C M hb hO;replace S:=C.size.trans S;replace D:=C.defers.trans D;have s3:a1.tmps[3]?.getD undef=Pz w.heap.size:=M 0 Dz;have s4:a1.tmps[4]?.getD undef=Pz (w.heap.size+1):=M 1 Dz;have s5:a1.tmps[5]?.getD undef=Pz (w.heap.size+2):=M 2 Dz;have s6:a1.tmps[6]?.getD undef=Pz (w.heap.size+3):=M 3 Dz;have b3:Xz w2 w.heap.size 38 (XJ ⟨r,p,l⟩ ⟨ra,b,e⟩):=hO 0 _ rfl;have b4:Xz w2 (w.heap.size+1) 30 [Vi s.x,Vi s.y,Vi s.d]:=hO 1 _ rfl;have b5:Xz w2 (w.heap.size+2) 46 [Vi u.n,Vi u.d]:=hO 2 _ rfl;have b6:Xz w2 (w.heap.size+3) 46 [V0,V0]:=hO 3 _ rfl;have hG:=b6.lt;replace O:=Xe O hb;have zw2:=Nat.le_trans U hb.size;replace U:=Nat.le_refl w2.heap.size;clear C M hb hO s0 s1 s2;refine Xk (wp_seq (wp_seq ?_));refine Xj [10,11,12] [some (XO ⟨r,p,l⟩ ⟨ra,b,e⟩),some (Bv (Kw r p l)),some (Bv (!(Kw r p l)))] (Yc 3) [10,11,12] [] (λ _ _ _=>True) ?_ (e2 ?_ ?_ (en rfl ?_ .nil)) ?_
 ·exact λ _ _=>trivial
 ·intro P J K H _ _ B;simp [go_sem,H.f.g rfl s3,(b3.k0 H.k).cell];exact (B _ _ H.k rfl trivial)
 ·intro P J K H _ _ B;simp [go_sem,(gS J 10 (H.d 0 rfl rfl))];have hBi:=H.k.below0 O;refine (iWatchOk_c r p l ra b K hn hin (hs.below hBi) hnl hlp hpi (hsp.below hBi) hnb e hll (hsl.below hBi)).mono ?_;rintro x wx ⟨rfl,hb⟩;exact (B _ _ (H.k.call hb) rfl trivial)
 ·exact Jc 1 rfl rfl rfl rfl
 intro L a7 w8 R C I M V;replace S:=C.Z S;replace D:=C.E D;obtain ⟨s3,s4,s5,s6⟩:=C.G4 s3 s4 s5 s6;have s12:=gS a7 12 (M 2 _ rfl);replace b3:=b3.k0 I;replace b4:=b4.k0 I;replace b5:=b5.k0 I;replace b6:=b6.k0 I;replace U:=Nat.le_trans U I.size;replace O:=I.below0 O;clear C I M R V;refine Xk ?_;rcases Bool.eq_false_or_eq_true (!(Kw r p l)) with q9|q9
 ·refine wp_cond_true (ev (vb s12 q9)) ?_;refine wp_seq ?_;have F:Xf [] (λ L aa K=>X6 K (w.heap.size+3) 46 [V0,V0] (L 1) (λ _ vs=>vs=[V0,V0])):=λ L aa K w' kk vv hkk hb x0=>(x0.bel hb (λ _ h=>h));refine Xr F [13,0,7] [some (.agg #[V0,V0]),none,some (Vi 3)] (Yc 3) [13,7] [(w.heap.size+3)] ?_ (e2 ?_ ?_ (en rfl ?_ .nil)) ?_
  ·exact λ _ h=>(⟨λ _=>b6.kp h Sz,Cz⟩)
  ·intro P J K H _ _ B;simp [go_sem];exact (B _ _ H.k rfl H.x)
  ·intro P J K H _ _ B;have x0:=H.x;have T:=x0.1 H.n;simp [go_sem,(gS J 13 (H.d 0 rfl rfl)),H.f.g rfl s6,T.cell,T.frz];exact B undef _ (H.k.store (.inr Sz) [V0,V0] 0) trivial (X6.set T (us:=[V0,V0]) rfl rfl)
  ·exact KQ rfl rfl λ _ _ _ _ h=>h
  intro L a10 w11 R C I M V;have x0:=V;replace S:=C.Z S;replace D:=C.E D;replace s6:=C.G s6;have s7:=gS a10 7 (M 2 _ rfl);clear b6;obtain ⟨_,b6,rfl⟩:=x0.2 (R 1 Dz);replace U:=Nat.le_trans U I.size;replace O:=I.below O O.size (by simp<;>omega);clear C I M R x0 F s3 s4 s5 s12 b3 b4 b5;refine Xk (wp_ret (Y6 ?_));refine bodyPost_ret (v:=.tuple #[.agg #[V0,V0],Vi 3]) (by simp [results,Tryz.results15,go_sem,s6,b6.cell,s7]) D ?_;exact ⟨by rw [jdg_no (Jw q9)];rfl,O⟩
 ·refine wp_cond_false (ev (vb s12 q9)) ?_;refine wp_skip (Xk (wp_seq ?_));have F:=Xf.x 8 9 10 w8 48 [V0,V0,V0,V0] (λ _ vs=>vs=[Vi (((XH r p s).getD XF).low.n),Vi (((XH r p s).getD XF).low.d),Vi (((XH r p s).getD XF).high.n),Vi (((XH r p s).getD XF).high.d)]) (λ _ _ h=>h);refine Xr F [15,16,17,18,19,20,14,21,22,8,0,9] [some (Pz w.heap.size),some (Ya r ra),some (.pointer (some ⟨w.heap.size,8,none⟩)),some (.agg #[Sv b.A p.length b.c]),some (YK s),some (.tuple #[Z8 ((XH r p s).getD XF),Bv ((XH r p s).isSome)]),some (.tuple #[Z8 ((XH r p s).getD XF),Bv ((XH r p s).isSome)]),some (Z8 ((XH r p s).getD XF)),some (Bv ((XH r p s).isSome)),none,none,some (Bv ((XH r p s).isSome))] (Yc 12) [15,16,17,18,19,20,14,21,22,8,9] [] ?_ (e4 ?_ ?_ ?_ ?_ (e4 ?_ ?_ ?_ ?_ (e4 ?_ ?_ ?_ ?_ .nil))) ?_
  ·exact λ _ h=>Cz
  ·intro P J K H _ _ B;simp [go_sem,H.f.g rfl s3];exact (B _ _ H.k rfl (F.q rfl H.x))
  ·intro P J K H _ _ B;simp [go_sem,(gS J 15 (H.d 0 rfl rfl)),(b3.k0 H.k).cell];exact (B _ _ H.k rfl (F.q rfl H.x))
  ·intro P J K H _ _ B;simp [go_sem,H.f.g rfl s3];exact (B _ _ H.k rfl (F.q rfl H.x))
  ·intro P J K H _ _ B;simp [go_sem,(gS J 17 (H.d 2 rfl rfl)),(b3.k0 H.k).cell];exact (B _ _ H.k rfl (F.q rfl H.x))
  ·intro P J K H _ _ B;simp [go_sem,H.f.g rfl s4,(b4.k0 H.k).cell];exact (B _ _ H.k rfl (F.q rfl H.x))
  ·intro P J K H _ _ B;simp [go_sem,(gS J 16 (H.d 1 rfl rfl)),(gS J 18 (H.d 3 rfl rfl)),(gS J 19 (H.d 4 rfl rfl))];have hBi:=H.k.below0 O;refine (iAdmAt_c r p s ra b K hn hin (hs.below hBi) hnl hlp hpi (hsp.below hBi) hnb hsi).mono ?_;rintro x wx ⟨rfl,hb⟩;exact (B _ _ (H.k.call hb) (JA _) (F.b rfl hb H.x))
  ·exact oMDX 5 rfl rfl rfl rfl λ _ _ _ _=>F.q rfl
  ·exact Jt 6 rfl rfl rfl rfl rfl λ _ _ _ _=>F.q rfl
  ·exact Jt 6 rfl rfl rfl rfl rfl λ _ _ _ _=>F.q rfl
  ·intro P J K H _ _ B;have x0:=H.x;simp [go_sem];exact B _ _ (H.k.alloc _) trivial (λ _=>by rw [show ZV P 9 10=false from H.t 10 rfl];exact Yg.new (s:=8) (H.f.lt (by rw [S];decide)) H.k.size [V0,V0,V0,V0])
  ·intro P J K H _ _ B;have x0:=H.x;obtain ⟨g,eg,hg,y,_⟩:=x0 (H.r 9 rfl);have T:=y H.n;simp [go_sem,(gS J 21 (H.d 7 rfl rfl)),eg,T.cell,T.frz];exact B undef _ (H.k.store (.inl hg) [Vi (((XH r p s).getD XF).low.n),Vi (((XH r p s).getD XF).low.d),Vi (((XH r p s).getD XF).high.n),Vi (((XH r p s).getD XF).high.d)] 0) trivial (λ _=>Yg.set eg hg T (us:=[Vi (((XH r p s).getD XF).low.n),Vi (((XH r p s).getD XF).low.d),Vi (((XH r p s).getD XF).high.n),Vi (((XH r p s).getD XF).high.d)]) rfl rfl)
  ·exact KW 8 rfl rfl rfl rfl λ _ _ _ _=>F.q rfl
  intro L a12 w13 R C I M V;have x0:=V;replace S:=C.Z S;replace D:=C.E D;obtain ⟨s5,s6⟩:=C.G2 s5 s6;have s9:=gS a12 9 (M 11 _ rfl);replace b5:=b5.k0 I;replace b6:=b6.k0 I;obtain ⟨g14,s8,lg14,-,b14⟩:=x0 (R 9 Dz);obtain ⟨_,b14,rfl⟩:=b14 (R 10 Dz);have ug14:=b14.lt;have zw8:=U;have zw13:=I.size;replace U:=Nat.le_refl w13.heap.size;replace O:=I.below0 O;clear C I M R x0 F s3 s4 s12 b3 b4;refine Xk (wp_seq (wp_block (wp_seq ?_)));refine Xj [24,25,23] [some (Bv ((XH r p s).isSome)),some (Bv (!((XH r p s).isSome))),some (Bv (!((XH r p s).isSome)))] (Yc 3) [24,25,23] [] (λ _ _ _=>True) ?_ (e2 ?_ ?_ (en rfl ?_ .nil)) ?_
  ·exact λ _ _=>trivial
  ·exact Z1 s9 rfl rfl rfl
  ·exact Jc 0 rfl rfl rfl rfl
  ·exact KE 1 rfl rfl rfl rfl
  intro L a15 w16 R C I M V;replace S:=C.Z S;replace D:=C.E D;obtain ⟨s5,s6,s8⟩:=C.G3 s5 s6 s8;have s23:=gS a15 23 (M 2 _ rfl);replace b5:=b5.k0 I;replace b6:=b6.k0 I;replace b14:=b14.k0 I;replace U:=Nat.le_trans U I.size;replace O:=I.below0 O;clear C I M R V s9;refine Xk ?_;rcases Bool.eq_false_or_eq_true (!((XH r p s).isSome)) with q17|q17
  ·refine wp_cond_true (ev (vb s23 q17)) ?_;refine wp_seq ?_;have F:Xf [] (λ L aa K=>X6 K (w.heap.size+3) 46 [V0,V0] (L 1) (λ _ vs=>vs=[V0,V0])):=λ L aa K w' kk vv hkk hb x0=>(x0.bel hb (λ _ h=>h));refine Xr F [26,0,7] [some (.agg #[V0,V0]),none,some (Vi 3)] (Yc 3) [26,7] [(w.heap.size+3)] ?_ (e2 ?_ ?_ (en rfl ?_ .nil)) ?_
   ·exact λ _ h=>(⟨λ _=>b6.kp h Sz,Cz⟩)
   ·intro P J K H _ _ B;simp [go_sem];exact (B _ _ H.k rfl H.x)
   ·intro P J K H _ _ B;have x0:=H.x;have T:=x0.1 H.n;simp [go_sem,(gS J 26 (H.d 0 rfl rfl)),H.f.g rfl s6,T.cell,T.frz];exact B undef _ (H.k.store (.inr Sz) [V0,V0] 0) trivial (X6.set T (us:=[V0,V0]) rfl rfl)
   ·exact KQ rfl rfl λ _ _ _ _ h=>h
   intro L a18 w19 R C I M V;have x0:=V;replace S:=C.Z S;replace D:=C.E D;replace s6:=C.G s6;have s7:=gS a18 7 (M 2 _ rfl);clear b6;obtain ⟨_,b6,rfl⟩:=x0.2 (R 1 Dz);replace U:=Nat.le_trans U I.size;replace O:=I.below O O.size (by simp<;>omega);clear C I M R x0 F s5 s8 s23 b5 b14;refine Xk (wp_ret ?_);refine Jj (Y6 ?_);refine bodyPost_ret (v:=.tuple #[.agg #[V0,V0],Vi 3]) (by simp [results,Tryz.results15,go_sem,s6,b6.cell,s7]) D ?_;exact ⟨by rw [jdg_out (Yu q9) (Jw q17)];rfl,O⟩
  ·refine wp_cond_false (ev (vb s23 q17)) ?_;refine wp_seq ?_;refine Xj [28,29,30,27] [some (Z8 ((XH r p s).getD XF)),some (Xv u),some (Bv (Jp ((XH r p s).getD XF) u)),some (Bv (Jp ((XH r p s).getD XF) u))] (Yc 4) [28,29,30,27] [] (λ _ _ _=>True) ?_ (e4 ?_ ?_ ?_ ?_ .nil) ?_
   ·exact λ _ _=>trivial
   ·intro P J K H _ _ B;simp [go_sem,H.f.g rfl s8,(b14.k0 H.k).cell];exact (B _ _ H.k rfl trivial)
   ·intro P J K H _ _ B;simp [go_sem,H.f.g rfl s5,(b5.k0 H.k).cell];exact (B _ _ H.k rfl trivial)
   ·intro P J K H _ _ B;simp [go_sem,(gS J 28 (H.d 0 rfl rfl)),(gS J 29 (H.d 1 rfl rfl))];refine (iInSpan_c ((XH r p s).getD XF) u K (optIn (λ _ hv=>admAt_ok hv)) hui).mono ?_;rintro x wx ⟨rfl,hb⟩;exact (B _ _ (H.k.call hb) rfl trivial)
   ·exact KE 2 rfl rfl rfl rfl
   intro L a20 w21 R C I M V;replace S:=C.Z S;replace D:=C.E D;obtain ⟨s5,s6,s8⟩:=C.G3 s5 s6 s8;have s27:=gS a20 27 (M 3 _ rfl);replace b5:=b5.k0 I;replace b6:=b6.k0 I;replace b14:=b14.k0 I;replace U:=Nat.le_trans U I.size;replace O:=I.below0 O;clear C I M R V s23;refine Xk ?_;rcases Bool.eq_false_or_eq_true (Jp ((XH r p s).getD XF) u) with q22|q22
   ·refine wp_cond_true (ev (vb s27 q22)) ?_;refine wp_seq ?_;have F:Xf [] (λ L aa K=>X6 K (w.heap.size+3) 46 [V0,V0] (L 1) (λ _ vs=>vs=[Vi u.n,Vi u.d])):=λ L aa K w' kk vv hkk hb x0=>(x0.bel hb (λ _ h=>h));refine Xr F [31,0,7] [some (Xv u),none,some (Vi 1)] (Yc 3) [31,7] [(w.heap.size+3)] ?_ (e2 ?_ ?_ (en rfl ?_ .nil)) ?_
    ·exact λ _ h=>(⟨λ _=>b6.kp h Sz,Cz⟩)
    ·intro P J K H _ _ B;simp [go_sem,H.f.g rfl s5,(b5.kp H.k (by simp<;>omega)).cell];exact (B _ _ H.k rfl H.x)
    ·intro P J K H _ _ B;have x0:=H.x;have T:=x0.1 H.n;simp [go_sem,(gS J 31 (H.d 0 rfl rfl)),H.f.g rfl s6,T.cell,T.frz];exact B undef _ (H.k.store (.inr Sz) [Vi u.n,Vi u.d] 0) trivial (X6.set T (us:=[Vi u.n,Vi u.d]) rfl rfl)
    ·exact KQ rfl rfl λ _ _ _ _ h=>h
    intro L a23 w24 R C I M V;have x0:=V;replace S:=C.Z S;replace D:=C.E D;replace s6:=C.G s6;have s7:=gS a23 7 (M 2 _ rfl);clear b6;obtain ⟨_,b6,rfl⟩:=x0.2 (R 1 Dz);replace U:=Nat.le_trans U I.size;replace O:=I.below O O.size (by simp<;>omega);clear C I M R x0 F s5 s8 s27 b5 b14;refine Xk (wp_ret ?_);refine Jj (Y6 ?_);refine bodyPost_ret (v:=.tuple #[Xv u,Vi 1]) (by simp [results,Tryz.results15,go_sem,s6,b6.cell,s7]) D ?_;exact ⟨by rw [jdg_in (Yu q9) (Yu q17),jdgS_in q22],O⟩
   ·refine wp_cond_false (ev (vb s27 q22)) ?_;refine wp_seq ?_;refine Xj [33,34,35,36,37,38,39,40,41,42,32] [some (Xv u),some (Bv (Xn u)),some (Bv (!(Xn u))),some (Bv (!(Xn u))),some ((bif !(Xn u) then undef else (Xv u:Value))),some ((bif !(Xn u) then undef else (Pz g14:Value))),some ((bif !(Xn u) then undef else (.agg #[Vi (((XH r p s).getD XF).low.n),Vi (((XH r p s).getD XF).low.d)]:Value))),some ((bif !(Xn u) then undef else (Vi (Xp u (((XH r p s).getD XF).low)):Value))),some ((bif !(Xn u) then undef else (Bv (decide (Xp u (((XH r p s).getD XF).low)<0)):Value))),some (Bv (!(Xn u)||decide (Xp u (((XH r p s).getD XF).low)<0))),some (Bv (!(Xn u)||decide (Xp u (((XH r p s).getD XF).low)<0)))] (Yc 11) [33,34,35,36,37,38,39,40,41,42,32] [] (λ _ _ _=>True) ?_ (e4 ?_ ?_ ?_ ?_ (eg ?_ (eg ?_ (eg ?_ (eg ?_ (eg ?_ (e2 ?_ ?_ .nil))))))) ?_
    ·exact λ _ _=>trivial
    ·intro P J K H _ _ B;simp [go_sem,H.f.g rfl s5,(b5.k0 H.k).cell];exact (B _ _ H.k rfl trivial)
    ·intro P J K H _ _ B;simp [go_sem,(gS J 33 (H.d 0 rfl rfl))];refine (Km u K hui).mono ?_;rintro x wx ⟨rfl,hb⟩;exact (B _ _ (H.k.call hb) rfl trivial)
    ·exact Jc 1 rfl rfl rfl rfl
    ·exact Ks 2 rfl rfl rfl rfl
    ·intro P J K H _ _ B;refine Kr rfl rfl rfl (H.d 3 rfl rfl) (λ qg=>B _ _ H.k (Xu qg).symm trivial) λ qg=>?_;simp [go_sem,H.f.g rfl s5,(b5.k0 H.k).cell];exact (B _ _ H.k (Xq qg).symm trivial)
    ·intro P J K H _ _ B;refine Kr rfl rfl rfl (H.d 3 rfl rfl) (λ qg=>B _ _ H.k (Xu qg).symm trivial) λ qg=>?_;simp [go_sem,H.f.g rfl s8];exact (B _ _ H.k (Xq qg).symm trivial)
    ·intro P J K H _ _ B;refine Kr rfl rfl rfl (H.d 3 rfl rfl) (λ qg=>B _ _ H.k (Xu qg).symm trivial) λ qg=>?_;simp [go_sem,(show J.tmps[38]?.getD undef=_ from (H.d 5 rfl rfl).trans (Xq qg)),(b14.k0 H.k).cell];exact (B _ _ H.k (Xq qg).symm trivial)
    ·intro P J K H _ _ B;refine Kr rfl rfl rfl (H.d 3 rfl rfl) (λ qg=>B _ _ H.k (Xu qg).symm trivial) λ qg=>?_;simp [go_sem,(show J.tmps[37]?.getD undef=_ from (H.d 4 rfl rfl).trans (Xq qg)),(show J.tmps[39]?.getD undef=_ from (H.d 6 rfl rfl).trans (Xq qg))];refine (Jh u (((XH r p s).getD XF).low) K hui (optIn (λ _ hv=>admAt_ok hv)).1).mono ?_;rintro x wx ⟨rfl,hb⟩;exact (B _ _ (H.k.call hb) (Xq qg).symm trivial)
    ·intro P J K H _ _ B;refine Kr rfl rfl rfl (H.d 3 rfl rfl) (λ qg=>B _ _ H.k (Xu qg).symm trivial) λ qg=>?_;exact Yl rfl (ev ((H.d 7 rfl rfl).trans (Xq qg))) rfl rfl rfl (B _ _ H.k (Xq qg).symm trivial)
    ·exact oPOT 3 8 rfl rfl rfl rfl rfl rfl
    ·exact KE 9 rfl rfl rfl rfl
    intro L a25 w26 R C I M V;replace S:=C.Z S;replace D:=C.E D;obtain ⟨s6,s8⟩:=C.G2 s6 s8;have s32:=gS a25 32 (M 10 _ rfl);replace b6:=b6.k0 I;replace b14:=b14.k0 I;replace U:=Nat.le_trans U I.size;replace O:=I.below0 O;clear C I M R V s5 s27 b5;refine Xk ?_;rcases Bool.eq_false_or_eq_true (!(Xn u)||decide (Xp u (((XH r p s).getD XF).low)<0)) with q27|q27
    ·refine wp_cond_true (ev (vb s32 q27)) ?_;refine wp_seq ?_;have F:Xf [] (λ L aa K=>X6 K (w.heap.size+3) 46 [V0,V0] (L 2) (λ _ vs=>vs=[Vi (((XH r p s).getD XF).low.n),Vi (((XH r p s).getD XF).low.d)])):=λ L aa K w' kk vv hkk hb x0=>(x0.bel hb (λ _ h=>h));refine Xr F [43,44,0,7] [some (Pz g14),some (.agg #[Vi (((XH r p s).getD XF).low.n),Vi (((XH r p s).getD XF).low.d)]),none,some (Vi 2)] (Yc 4) [43,44,7] [(w.heap.size+3)] ?_ (e4 ?_ ?_ ?_ ?_ .nil) ?_
     ·exact λ _ h=>(⟨λ _=>b6.kp h Sz,Cz⟩)
     ·intro P J K H _ _ B;simp [go_sem,H.f.g rfl s8];exact (B _ _ H.k rfl H.x)
     ·intro P J K H _ _ B;simp [go_sem,(gS J 43 (H.d 0 rfl rfl)),(b14.kp H.k (by simp<;>omega)).cell];exact (B _ _ H.k rfl H.x)
     ·intro P J K H _ _ B;have x0:=H.x;have T:=x0.1 H.n;simp [go_sem,(gS J 44 (H.d 1 rfl rfl)),H.f.g rfl s6,T.cell,T.frz];exact B undef _ (H.k.store (.inr Sz) [Vi (((XH r p s).getD XF).low.n),Vi (((XH r p s).getD XF).low.d)] 0) trivial (X6.set T (us:=[Vi (((XH r p s).getD XF).low.n),Vi (((XH r p s).getD XF).low.d)]) rfl rfl)
     ·exact KQ rfl rfl λ _ _ _ _ h=>h
     intro L a28 w29 R C I M V;have x0:=V;replace S:=C.Z S;replace D:=C.E D;replace s6:=C.G s6;have s7:=gS a28 7 (M 3 _ rfl);clear b6;obtain ⟨_,b6,rfl⟩:=x0.2 (R 2 Dz);replace U:=Nat.le_trans U I.size;replace O:=I.below O O.size (by simp<;>omega);clear C I M R x0 F s8 s32 b14;refine Xk (wp_ret ?_);refine Jj (Y6 ?_);refine bodyPost_ret (v:=.tuple #[.agg #[Vi (((XH r p s).getD XF).low.n),Vi (((XH r p s).getD XF).low.d)],Vi 2]) (by simp [results,Tryz.results15,go_sem,s6,b6.cell,s7]) D ?_;exact ⟨by rw [jdg_in (Yu q9) (Yu q17),jdgS_low q22 q27],O⟩
    ·refine wp_cond_false (ev (vb s32 q27)) ?_;refine wp_skip ?_;refine J8 (Xk (wp_seq ?_));have F:Xf [] (λ L aa K=>X6 K (w.heap.size+3) 46 [V0,V0] (L 2) (λ _ vs=>vs=[Vi (((XH r p s).getD XF).high.n),Vi (((XH r p s).getD XF).high.d)])):=λ L aa K w' kk vv hkk hb x0=>(x0.bel hb (λ _ h=>h));refine Xr F [45,46,0,7] [some (.pointer (some ⟨g14,2,none⟩)),some (.agg #[Vi (((XH r p s).getD XF).high.n),Vi (((XH r p s).getD XF).high.d)]),none,some (Vi 2)] (Yc 4) [45,46,7] [(w.heap.size+3)] ?_ (e4 ?_ ?_ ?_ ?_ .nil) ?_
     ·exact λ _ h=>(⟨λ _=>b6.kp h Sz,Cz⟩)
     ·intro P J K H _ _ B;simp [go_sem,H.f.g rfl s8];exact (B _ _ H.k rfl H.x)
     ·intro P J K H _ _ B;simp [go_sem,(gS J 45 (H.d 0 rfl rfl)),(b14.kp H.k (by simp<;>omega)).cell];exact (B _ _ H.k rfl H.x)
     ·intro P J K H _ _ B;have x0:=H.x;have T:=x0.1 H.n;simp [go_sem,(gS J 46 (H.d 1 rfl rfl)),H.f.g rfl s6,T.cell,T.frz];exact B undef _ (H.k.store (.inr Sz) [Vi (((XH r p s).getD XF).high.n),Vi (((XH r p s).getD XF).high.d)] 0) trivial (X6.set T (us:=[Vi (((XH r p s).getD XF).high.n),Vi (((XH r p s).getD XF).high.d)]) rfl rfl)
     ·exact KQ rfl rfl λ _ _ _ _ h=>h
     intro L a30 w31 R C I M V;have x0:=V;replace S:=C.Z S;replace D:=C.E D;replace s6:=C.G s6;have s7:=gS a30 7 (M 3 _ rfl);clear b6;obtain ⟨_,b6,rfl⟩:=x0.2 (R 2 Dz);replace U:=Nat.le_trans U I.size;replace O:=I.below O O.size (by simp<;>omega);clear C I M R x0 F s8 s32 b14;refine Xk (wp_ret ?_);refine bodyPost_ret (v:=.tuple #[.agg #[Vi (((XH r p s).getD XF).high.n),Vi (((XH r p s).getD XF).high.d)],Vi 2]) (by simp [results,Tryz.results15,go_sem,s6,b6.cell,s7]) D ?_;exact ⟨by rw [jdg_in (Yu q9) (Yu q17),jdgS_high q22 q27],O⟩
theorem sJudge_c (r:XU) (p:List Half) (l:List Int) (s:X9) (u:Yk) (ra:Yn) (b:Zi) (w:World) (hn:Xy r<=1048576) (hin:Zh r) (hs:Ym w r ra) (hnl:YJ ra) (hlp:p.length<=1048576) (hpi:∀ h∈p,h.In) (hsp:Sl 3 Xd w b.A p) (hnb:b.A=none->b.c=0) (e:Zi) (hll:l.length<=1048576) (hsl:Sl 1 Zm w e.A l) (hsi:s.In) (hui:u.In) :
 Calls Tryz.prog 71 #[XO ⟨r,p,l⟩ ⟨ra,b,e⟩,YK s,Xv u] w λ x w'=>x=.returned (.tuple #[Xv (Yq r p l s u).1,Vi (Yq r p l s u).2])/\Below w.heap.size w w':=by
 refine YN Tryz.func71 rfl (n:=47) Tryz.ntmps71 Sz ?_;intro a0 S D ha;have s0:a0.tmps[0]?.getD undef=XO ⟨r,p,l⟩ ⟨ra,b,e⟩:=ha 0 _ rfl;have s1:a0.tmps[1]?.getD undef=YK s:=ha 1 _ rfl;have s2:a0.tmps[2]?.getD undef=Xv u:=ha 2 _ rfl;clear ha;have O:=Below.refl w.heap.size w;have U:=Nat.le_refl w.heap.size;refine wp_seq ?_;refine Yt [3,4,5,6,7] [Pz w.heap.size,Pz (w.heap.size+1),Pz (w.heap.size+2),Pz (w.heap.size+3),V0] [some (.cells (XJ ⟨r,p,l⟩ ⟨ra,b,e⟩).toArray 38),some (.cells [Vi s.x,Vi s.y,Vi s.d].toArray 30),some (.cells [Vi u.n,Vi u.d].toArray 46),some (.cells [V0,V0].toArray 46),none] [0,1,2,3,4] [3,4,5,6,7] [0,1,2,3,4] (by kernel_rfl) (by rw [S];decide) (ec ?_ (ec ?_ (ec ?_ (ec ?_ (ec ?_ .nil))))) ?_
 ·intro a w' C hs N Q B;simp [go_sem,C.g rfl s0];rw [hs];exact B
 ·intro a w' C hs N Q B;simp [go_sem,C.g rfl s1];rw [hs];exact B
 ·intro a w' C hs N Q B;simp [go_sem,C.g rfl s2];rw [hs];exact B
 ·intro a w' C hs N Q B;simp [go_sem];rw [hs];exact B
 ·intro a w' C hs N Q B;simp [go_sem];exact B
 intro a1 w2 C M hb hO;replace S:=C.size.trans S;replace D:=C.defers.trans D;have s3:a1.tmps[3]?.getD undef=Pz w.heap.size:=M 0 Dz;have s4:a1.tmps[4]?.getD undef=Pz (w.heap.size+1):=M 1 Dz;have s5:a1.tmps[5]?.getD undef=Pz (w.heap.size+2):=M 2 Dz;have s6:a1.tmps[6]?.getD undef=Pz (w.heap.size+3):=M 3 Dz;have b3:Xz w2 w.heap.size 38 (XJ ⟨r,p,l⟩ ⟨ra,b,e⟩):=hO 0 _ rfl;have b4:Xz w2 (w.heap.size+1) 30 [Vi s.x,Vi s.y,Vi s.d]:=hO 1 _ rfl;have b5:Xz w2 (w.heap.size+2) 46 [Vi u.n,Vi u.d]:=hO 2 _ rfl;have b6:Xz w2 (w.heap.size+3) 46 [V0,V0]:=hO 3 _ rfl;have hG:=b6.lt;replace O:=Xe O hb;have zw2:=Nat.le_trans U hb.size;replace U:=Nat.le_refl w2.heap.size;clear C M hb hO s0 s1 s2;refine Xk (wp_seq (wp_seq ?_));refine Xj [10,11,12] [some (XO ⟨r,p,l⟩ ⟨ra,b,e⟩),some (Bv (Kw r p l)),some (Bv (!(Kw r p l)))] (Yc 3) [10,11,12] [] (λ _ _ _=>True) ?_ (e2 ?_ ?_ (en rfl ?_ .nil)) ?_
 ·exact λ _ _=>trivial
 ·intro P J K H _ _ B;simp [go_sem,H.f.g rfl s3,(b3.k0 H.k).cell];exact (B _ _ H.k rfl trivial)
 ·intro P J K H _ _ B;simp [go_sem,(gS J 10 (H.d 0 rfl rfl))];have hBi:=H.k.below0 O;refine (sWatchOk_c r p l ra b K hn hin (hs.below hBi) hnl hlp hpi (hsp.below hBi) hnb e hll (hsl.below hBi)).mono ?_;rintro x wx ⟨rfl,hb⟩;exact (B _ _ (H.k.call hb) rfl trivial)
 ·exact Jc 1 rfl rfl rfl rfl
 intro L a7 w8 R C I M V;replace S:=C.Z S;replace D:=C.E D;obtain ⟨s3,s4,s5,s6⟩:=C.G4 s3 s4 s5 s6;have s12:=gS a7 12 (M 2 _ rfl);replace b3:=b3.k0 I;replace b4:=b4.k0 I;replace b5:=b5.k0 I;replace b6:=b6.k0 I;replace U:=Nat.le_trans U I.size;replace O:=I.below0 O;clear C I M R V;refine Xk ?_;rcases Bool.eq_false_or_eq_true (!(Kw r p l)) with q9|q9
 ·refine wp_cond_true (ev (vb s12 q9)) ?_;refine wp_seq ?_;have F:Xf [] (λ L aa K=>X6 K (w.heap.size+3) 46 [V0,V0] (L 1) (λ _ vs=>vs=[V0,V0])):=λ L aa K w' kk vv hkk hb x0=>(x0.bel hb (λ _ h=>h));refine Xr F [13,0,7] [some (.agg #[V0,V0]),none,some (Vi 3)] (Yc 3) [13,7] [(w.heap.size+3)] ?_ (e2 ?_ ?_ (en rfl ?_ .nil)) ?_
  ·exact λ _ h=>(⟨λ _=>b6.kp h Sz,Cz⟩)
  ·intro P J K H _ _ B;simp [go_sem];exact (B _ _ H.k rfl H.x)
  ·intro P J K H _ _ B;have x0:=H.x;have T:=x0.1 H.n;simp [go_sem,(gS J 13 (H.d 0 rfl rfl)),H.f.g rfl s6,T.cell,T.frz];exact B undef _ (H.k.store (.inr Sz) [V0,V0] 0) trivial (X6.set T (us:=[V0,V0]) rfl rfl)
  ·exact KQ rfl rfl λ _ _ _ _ h=>h
  intro L a10 w11 R C I M V;have x0:=V;replace S:=C.Z S;replace D:=C.E D;replace s6:=C.G s6;have s7:=gS a10 7 (M 2 _ rfl);clear b6;obtain ⟨_,b6,rfl⟩:=x0.2 (R 1 Dz);replace U:=Nat.le_trans U I.size;replace O:=I.below O O.size (by simp<;>omega);clear C I M R x0 F s3 s4 s5 s12 b3 b4 b5;refine Xk (wp_ret (Y6 ?_));refine bodyPost_ret (v:=.tuple #[.agg #[V0,V0],Vi 3]) (by simp [results,Tryz.results71,go_sem,s6,b6.cell,s7]) D ?_;exact ⟨by rw [jdg_no (Jw q9)];rfl,O⟩
 ·refine wp_cond_false (ev (vb s12 q9)) ?_;refine wp_skip (Xk (wp_seq ?_));have F:=Xf.x 8 9 10 w8 48 [V0,V0,V0,V0] (λ _ vs=>vs=[Vi (((XH r p s).getD XF).low.n),Vi (((XH r p s).getD XF).low.d),Vi (((XH r p s).getD XF).high.n),Vi (((XH r p s).getD XF).high.d)]) (λ _ _ h=>h);refine Xr F [15,16,17,18,19,20,14,21,22,8,0,9] [some (Pz w.heap.size),some (Ya r ra),some (.pointer (some ⟨w.heap.size,8,none⟩)),some (.agg #[Sv b.A p.length b.c]),some (YK s),some (.tuple #[Z8 ((XH r p s).getD XF),Bv ((XH r p s).isSome)]),some (.tuple #[Z8 ((XH r p s).getD XF),Bv ((XH r p s).isSome)]),some (Z8 ((XH r p s).getD XF)),some (Bv ((XH r p s).isSome)),none,none,some (Bv ((XH r p s).isSome))] (Yc 12) [15,16,17,18,19,20,14,21,22,8,9] [] ?_ (e4 ?_ ?_ ?_ ?_ (e4 ?_ ?_ ?_ ?_ (e4 ?_ ?_ ?_ ?_ .nil))) ?_
  ·exact λ _ h=>Cz
  ·intro P J K H _ _ B;simp [go_sem,H.f.g rfl s3];exact (B _ _ H.k rfl (F.q rfl H.x))
  ·intro P J K H _ _ B;simp [go_sem,(gS J 15 (H.d 0 rfl rfl)),(b3.k0 H.k).cell];exact (B _ _ H.k rfl (F.q rfl H.x))
  ·intro P J K H _ _ B;simp [go_sem,H.f.g rfl s3];exact (B _ _ H.k rfl (F.q rfl H.x))
  ·intro P J K H _ _ B;simp [go_sem,(gS J 17 (H.d 2 rfl rfl)),(b3.k0 H.k).cell];exact (B _ _ H.k rfl (F.q rfl H.x))
  ·intro P J K H _ _ B;simp [go_sem,H.f.g rfl s4,(b4.k0 H.k).cell];exact (B _ _ H.k rfl (F.q rfl H.x))
  ·intro P J K H _ _ B;simp [go_sem,(gS J 16 (H.d 1 rfl rfl)),(gS J 18 (H.d 3 rfl rfl)),(gS J 19 (H.d 4 rfl rfl))];have hBi:=H.k.below0 O;refine (sAdmAt_c r p s ra b K hn hin (hs.below hBi) hnl hlp hpi (hsp.below hBi) hnb hsi).mono ?_;rintro x wx ⟨rfl,hb⟩;exact (B _ _ (H.k.call hb) (JA _) (F.b rfl hb H.x))
  ·exact oMDX 5 rfl rfl rfl rfl λ _ _ _ _=>F.q rfl
  ·exact Jt 6 rfl rfl rfl rfl rfl λ _ _ _ _=>F.q rfl
  ·exact Jt 6 rfl rfl rfl rfl rfl λ _ _ _ _=>F.q rfl
  ·intro P J K H _ _ B;have x0:=H.x;simp [go_sem];exact B _ _ (H.k.alloc _) trivial (λ _=>by rw [show ZV P 9 10=false from H.t 10 rfl];exact Yg.new (s:=8) (H.f.lt (by rw [S];decide)) H.k.size [V0,V0,V0,V0])
  ·intro P J K H _ _ B;have x0:=H.x;obtain ⟨g,eg,hg,y,_⟩:=x0 (H.r 9 rfl);have T:=y H.n;simp [go_sem,(gS J 21 (H.d 7 rfl rfl)),eg,T.cell,T.frz];exact B undef _ (H.k.store (.inl hg) [Vi (((XH r p s).getD XF).low.n),Vi (((XH r p s).getD XF).low.d),Vi (((XH r p s).getD XF).high.n),Vi (((XH r p s).getD XF).high.d)] 0) trivial (λ _=>Yg.set eg hg T (us:=[Vi (((XH r p s).getD XF).low.n),Vi (((XH r p s).getD XF).low.d),Vi (((XH r p s).getD XF).high.n),Vi (((XH r p s).getD XF).high.d)]) rfl rfl)
  ·exact KW 8 rfl rfl rfl rfl λ _ _ _ _=>F.q rfl
  intro L a12 w13 R C I M V;have x0:=V;replace S:=C.Z S;replace D:=C.E D;obtain ⟨s5,s6⟩:=C.G2 s5 s6;have s9:=gS a12 9 (M 11 _ rfl);replace b5:=b5.k0 I;replace b6:=b6.k0 I;obtain ⟨g14,s8,lg14,-,b14⟩:=x0 (R 9 Dz);obtain ⟨_,b14,rfl⟩:=b14 (R 10 Dz);have ug14:=b14.lt;have zw8:=U;have zw13:=I.size;replace U:=Nat.le_refl w13.heap.size;replace O:=I.below0 O;clear C I M R x0 F s3 s4 s12 b3 b4;refine Xk (wp_seq (wp_block (wp_seq ?_)));refine Xj [24,25,23] [some (Bv ((XH r p s).isSome)),some (Bv (!((XH r p s).isSome))),some (Bv (!((XH r p s).isSome)))] (Yc 3) [24,25,23] [] (λ _ _ _=>True) ?_ (e2 ?_ ?_ (en rfl ?_ .nil)) ?_
  ·exact λ _ _=>trivial
  ·exact Z1 s9 rfl rfl rfl
  ·exact Jc 0 rfl rfl rfl rfl
  ·exact KE 1 rfl rfl rfl rfl
  intro L a15 w16 R C I M V;replace S:=C.Z S;replace D:=C.E D;obtain ⟨s5,s6,s8⟩:=C.G3 s5 s6 s8;have s23:=gS a15 23 (M 2 _ rfl);replace b5:=b5.k0 I;replace b6:=b6.k0 I;replace b14:=b14.k0 I;replace U:=Nat.le_trans U I.size;replace O:=I.below0 O;clear C I M R V s9;refine Xk ?_;rcases Bool.eq_false_or_eq_true (!((XH r p s).isSome)) with q17|q17
  ·refine wp_cond_true (ev (vb s23 q17)) ?_;refine wp_seq ?_;have F:Xf [] (λ L aa K=>X6 K (w.heap.size+3) 46 [V0,V0] (L 1) (λ _ vs=>vs=[V0,V0])):=λ L aa K w' kk vv hkk hb x0=>(x0.bel hb (λ _ h=>h));refine Xr F [26,0,7] [some (.agg #[V0,V0]),none,some (Vi 3)] (Yc 3) [26,7] [(w.heap.size+3)] ?_ (e2 ?_ ?_ (en rfl ?_ .nil)) ?_
   ·exact λ _ h=>(⟨λ _=>b6.kp h Sz,Cz⟩)
   ·intro P J K H _ _ B;simp [go_sem];exact (B _ _ H.k rfl H.x)
   ·intro P J K H _ _ B;have x0:=H.x;have T:=x0.1 H.n;simp [go_sem,(gS J 26 (H.d 0 rfl rfl)),H.f.g rfl s6,T.cell,T.frz];exact B undef _ (H.k.store (.inr Sz) [V0,V0] 0) trivial (X6.set T (us:=[V0,V0]) rfl rfl)
   ·exact KQ rfl rfl λ _ _ _ _ h=>h
   intro L a18 w19 R C I M V;have x0:=V;replace S:=C.Z S;replace D:=C.E D;replace s6:=C.G s6;have s7:=gS a18 7 (M 2 _ rfl);clear b6;obtain ⟨_,b6,rfl⟩:=x0.2 (R 1 Dz);replace U:=Nat.le_trans U I.size;replace O:=I.below O O.size (by simp<;>omega);clear C I M R x0 F s5 s8 s23 b5 b14;refine Xk (wp_ret ?_);refine Jj (Y6 ?_);refine bodyPost_ret (v:=.tuple #[.agg #[V0,V0],Vi 3]) (by simp [results,Tryz.results71,go_sem,s6,b6.cell,s7]) D ?_;exact ⟨by rw [jdg_out (Yu q9) (Jw q17)];rfl,O⟩
  ·refine wp_cond_false (ev (vb s23 q17)) ?_;refine wp_seq ?_;refine Xj [28,29,30,27] [some (Z8 ((XH r p s).getD XF)),some (Xv u),some (Bv (Jp ((XH r p s).getD XF) u)),some (Bv (Jp ((XH r p s).getD XF) u))] (Yc 4) [28,29,30,27] [] (λ _ _ _=>True) ?_ (e4 ?_ ?_ ?_ ?_ .nil) ?_
   ·exact λ _ _=>trivial
   ·intro P J K H _ _ B;simp [go_sem,H.f.g rfl s8,(b14.k0 H.k).cell];exact (B _ _ H.k rfl trivial)
   ·intro P J K H _ _ B;simp [go_sem,H.f.g rfl s5,(b5.k0 H.k).cell];exact (B _ _ H.k rfl trivial)
   ·intro P J K H _ _ B;simp [go_sem,(gS J 28 (H.d 0 rfl rfl)),(gS J 29 (H.d 1 rfl rfl))];refine (sInSpan_c ((XH r p s).getD XF) u K (optIn (λ _ hv=>admAt_ok hv)) hui).mono ?_;rintro x wx ⟨rfl,hb⟩;exact (B _ _ (H.k.call hb) rfl trivial)
   ·exact KE 2 rfl rfl rfl rfl
   intro L a20 w21 R C I M V;replace S:=C.Z S;replace D:=C.E D;obtain ⟨s5,s6,s8⟩:=C.G3 s5 s6 s8;have s27:=gS a20 27 (M 3 _ rfl);replace b5:=b5.k0 I;replace b6:=b6.k0 I;replace b14:=b14.k0 I;replace U:=Nat.le_trans U I.size;replace O:=I.below0 O;clear C I M R V s23;refine Xk ?_;rcases Bool.eq_false_or_eq_true (Jp ((XH r p s).getD XF) u) with q22|q22
   ·refine wp_cond_true (ev (vb s27 q22)) ?_;refine wp_seq ?_;have F:Xf [] (λ L aa K=>X6 K (w.heap.size+3) 46 [V0,V0] (L 1) (λ _ vs=>vs=[Vi u.n,Vi u.d])):=λ L aa K w' kk vv hkk hb x0=>(x0.bel hb (λ _ h=>h));refine Xr F [31,0,7] [some (Xv u),none,some (Vi 1)] (Yc 3) [31,7] [(w.heap.size+3)] ?_ (e2 ?_ ?_ (en rfl ?_ .nil)) ?_
    ·exact λ _ h=>(⟨λ _=>b6.kp h Sz,Cz⟩)
    ·intro P J K H _ _ B;simp [go_sem,H.f.g rfl s5,(b5.kp H.k (by simp<;>omega)).cell];exact (B _ _ H.k rfl H.x)
    ·intro P J K H _ _ B;have x0:=H.x;have T:=x0.1 H.n;simp [go_sem,(gS J 31 (H.d 0 rfl rfl)),H.f.g rfl s6,T.cell,T.frz];exact B undef _ (H.k.store (.inr Sz) [Vi u.n,Vi u.d] 0) trivial (X6.set T (us:=[Vi u.n,Vi u.d]) rfl rfl)
    ·exact KQ rfl rfl λ _ _ _ _ h=>h
    intro L a23 w24 R C I M V;have x0:=V;replace S:=C.Z S;replace D:=C.E D;replace s6:=C.G s6;have s7:=gS a23 7 (M 2 _ rfl);clear b6;obtain ⟨_,b6,rfl⟩:=x0.2 (R 1 Dz);replace U:=Nat.le_trans U I.size;replace O:=I.below O O.size (by simp<;>omega);clear C I M R x0 F s5 s8 s27 b5 b14;refine Xk (wp_ret ?_);refine Jj (Y6 ?_);refine bodyPost_ret (v:=.tuple #[Xv u,Vi 1]) (by simp [results,Tryz.results71,go_sem,s6,b6.cell,s7]) D ?_;exact ⟨by rw [jdg_in (Yu q9) (Yu q17),jdgS_in q22],O⟩
   ·refine wp_cond_false (ev (vb s27 q22)) ?_;refine wp_seq ?_;refine Xj [33,34,35,36,37,38,39,40,41,42,32] [some (Xv u),some (Bv (Xn u)),some (Bv (!(Xn u))),some (Bv (!(Xn u))),some ((bif !(Xn u) then undef else (Xv u:Value))),some ((bif !(Xn u) then undef else (Pz g14:Value))),some ((bif !(Xn u) then undef else (.agg #[Vi (((XH r p s).getD XF).low.n),Vi (((XH r p s).getD XF).low.d)]:Value))),some ((bif !(Xn u) then undef else (Vi (Xp u (((XH r p s).getD XF).low)):Value))),some ((bif !(Xn u) then undef else (Bv (decide (Xp u (((XH r p s).getD XF).low)<0)):Value))),some (Bv (!(Xn u)||decide (Xp u (((XH r p s).getD XF).low)<0))),some (Bv (!(Xn u)||decide (Xp u (((XH r p s).getD XF).low)<0)))] (Yc 11) [33,34,35,36,37,38,39,40,41,42,32] [] (λ _ _ _=>True) ?_ (e4 ?_ ?_ ?_ ?_ (eg ?_ (eg ?_ (eg ?_ (eg ?_ (eg ?_ (e2 ?_ ?_ .nil))))))) ?_
    ·exact λ _ _=>trivial
    ·intro P J K H _ _ B;simp [go_sem,H.f.g rfl s5,(b5.k0 H.k).cell];exact (B _ _ H.k rfl trivial)
    ·intro P J K H _ _ B;simp [go_sem,(gS J 33 (H.d 0 rfl rfl))];refine (Zs u K hui).mono ?_;rintro x wx ⟨rfl,hb⟩;exact (B _ _ (H.k.call hb) rfl trivial)
    ·exact Jc 1 rfl rfl rfl rfl
    ·exact Ks 2 rfl rfl rfl rfl
    ·intro P J K H _ _ B;refine Kr rfl rfl rfl (H.d 3 rfl rfl) (λ qg=>B _ _ H.k (Xu qg).symm trivial) λ qg=>?_;simp [go_sem,H.f.g rfl s5,(b5.k0 H.k).cell];exact (B _ _ H.k (Xq qg).symm trivial)
    ·intro P J K H _ _ B;refine Kr rfl rfl rfl (H.d 3 rfl rfl) (λ qg=>B _ _ H.k (Xu qg).symm trivial) λ qg=>?_;simp [go_sem,H.f.g rfl s8];exact (B _ _ H.k (Xq qg).symm trivial)
    ·intro P J K H _ _ B;refine Kr rfl rfl rfl (H.d 3 rfl rfl) (λ qg=>B _ _ H.k (Xu qg).symm trivial) λ qg=>?_;simp [go_sem,(show J.tmps[38]?.getD undef=_ from (H.d 5 rfl rfl).trans (Xq qg)),(b14.k0 H.k).cell];exact (B _ _ H.k (Xq qg).symm trivial)
    ·intro P J K H _ _ B;refine Kr rfl rfl rfl (H.d 3 rfl rfl) (λ qg=>B _ _ H.k (Xu qg).symm trivial) λ qg=>?_;simp [go_sem,(show J.tmps[37]?.getD undef=_ from (H.d 4 rfl rfl).trans (Xq qg)),(show J.tmps[39]?.getD undef=_ from (H.d 6 rfl rfl).trans (Xq qg))];refine (KO u (((XH r p s).getD XF).low) K hui (optIn (λ _ hv=>admAt_ok hv)).1).mono ?_;rintro x wx ⟨rfl,hb⟩;exact (B _ _ (H.k.call hb) (Xq qg).symm trivial)
    ·intro P J K H _ _ B;refine Kr rfl rfl rfl (H.d 3 rfl rfl) (λ qg=>B _ _ H.k (Xu qg).symm trivial) λ qg=>?_;exact Yl rfl (ev ((H.d 7 rfl rfl).trans (Xq qg))) rfl rfl rfl (B _ _ H.k (Xq qg).symm trivial)
    ·exact oPOT 3 8 rfl rfl rfl rfl rfl rfl
    ·exact KE 9 rfl rfl rfl rfl
    intro L a25 w26 R C I M V;replace S:=C.Z S;replace D:=C.E D;obtain ⟨s6,s8⟩:=C.G2 s6 s8;have s32:=gS a25 32 (M 10 _ rfl);replace b6:=b6.k0 I;replace b14:=b14.k0 I;replace U:=Nat.le_trans U I.size;replace O:=I.below0 O;clear C I M R V s5 s27 b5;refine Xk ?_;rcases Bool.eq_false_or_eq_true (!(Xn u)||decide (Xp u (((XH r p s).getD XF).low)<0)) with q27|q27
    ·refine wp_cond_true (ev (vb s32 q27)) ?_;refine wp_seq ?_;have F:Xf [] (λ L aa K=>X6 K (w.heap.size+3) 46 [V0,V0] (L 2) (λ _ vs=>vs=[Vi (((XH r p s).getD XF).low.n),Vi (((XH r p s).getD XF).low.d)])):=λ L aa K w' kk vv hkk hb x0=>(x0.bel hb (λ _ h=>h));refine Xr F [43,44,0,7] [some (Pz g14),some (.agg #[Vi (((XH r p s).getD XF).low.n),Vi (((XH r p s).getD XF).low.d)]),none,some (Vi 2)] (Yc 4) [43,44,7] [(w.heap.size+3)] ?_ (e4 ?_ ?_ ?_ ?_ .nil) ?_
     ·exact λ _ h=>(⟨λ _=>b6.kp h Sz,Cz⟩)
     ·intro P J K H _ _ B;simp [go_sem,H.f.g rfl s8];exact (B _ _ H.k rfl H.x)
     ·intro P J K H _ _ B;simp [go_sem,(gS J 43 (H.d 0 rfl rfl)),(b14.kp H.k (by simp<;>omega)).cell];exact (B _ _ H.k rfl H.x)
     ·intro P J K H _ _ B;have x0:=H.x;have T:=x0.1 H.n;simp [go_sem,(gS J 44 (H.d 1 rfl rfl)),H.f.g rfl s6,T.cell,T.frz];exact B undef _ (H.k.store (.inr Sz) [Vi (((XH r p s).getD XF).low.n),Vi (((XH r p s).getD XF).low.d)] 0) trivial (X6.set T (us:=[Vi (((XH r p s).getD XF).low.n),Vi (((XH r p s).getD XF).low.d)]) rfl rfl)
     ·exact KQ rfl rfl λ _ _ _ _ h=>h
     intro L a28 w29 R C I M V;have x0:=V;replace S:=C.Z S;replace D:=C.E D;replace s6:=C.G s6;have s7:=gS a28 7 (M 3 _ rfl);clear b6;obtain ⟨_,b6,rfl⟩:=x0.2 (R 2 Dz);replace U:=Nat.le_trans U I.size;replace O:=I.below O O.size (by simp<;>omega);clear C I M R x0 F s8 s32 b14;refine Xk (wp_ret ?_);refine Jj (Y6 ?_);refine bodyPost_ret (v:=.tuple #[.agg #[Vi (((XH r p s).getD XF).low.n),Vi (((XH r p s).getD XF).low.d)],Vi 2]) (by simp [results,Tryz.results71,go_sem,s6,b6.cell,s7]) D ?_;exact ⟨by rw [jdg_in (Yu q9) (Yu q17),jdgS_low q22 q27],O⟩
    ·refine wp_cond_false (ev (vb s32 q27)) ?_;refine wp_skip ?_;refine J8 (Xk (wp_seq ?_));have F:Xf [] (λ L aa K=>X6 K (w.heap.size+3) 46 [V0,V0] (L 2) (λ _ vs=>vs=[Vi (((XH r p s).getD XF).high.n),Vi (((XH r p s).getD XF).high.d)])):=λ L aa K w' kk vv hkk hb x0=>(x0.bel hb (λ _ h=>h));refine Xr F [45,46,0,7] [some (.pointer (some ⟨g14,2,none⟩)),some (.agg #[Vi (((XH r p s).getD XF).high.n),Vi (((XH r p s).getD XF).high.d)]),none,some (Vi 2)] (Yc 4) [45,46,7] [(w.heap.size+3)] ?_ (e4 ?_ ?_ ?_ ?_ .nil) ?_
     ·exact λ _ h=>(⟨λ _=>b6.kp h Sz,Cz⟩)
     ·intro P J K H _ _ B;simp [go_sem,H.f.g rfl s8];exact (B _ _ H.k rfl H.x)
     ·intro P J K H _ _ B;simp [go_sem,(gS J 45 (H.d 0 rfl rfl)),(b14.kp H.k (by simp<;>omega)).cell];exact (B _ _ H.k rfl H.x)
     ·intro P J K H _ _ B;have x0:=H.x;have T:=x0.1 H.n;simp [go_sem,(gS J 46 (H.d 1 rfl rfl)),H.f.g rfl s6,T.cell,T.frz];exact B undef _ (H.k.store (.inr Sz) [Vi (((XH r p s).getD XF).high.n),Vi (((XH r p s).getD XF).high.d)] 0) trivial (X6.set T (us:=[Vi (((XH r p s).getD XF).high.n),Vi (((XH r p s).getD XF).high.d)]) rfl rfl)
     ·exact KQ rfl rfl λ _ _ _ _ h=>h
     intro L a30 w31 R C I M V;have x0:=V;replace S:=C.Z S;replace D:=C.E D;replace s6:=C.G s6;have s7:=gS a30 7 (M 3 _ rfl);clear b6;obtain ⟨_,b6,rfl⟩:=x0.2 (R 2 Dz);replace U:=Nat.le_trans U I.size;replace O:=I.below O O.size (by simp<;>omega);clear C I M R x0 F s8 s32 b14;refine Xk (wp_ret ?_);refine bodyPost_ret (v:=.tuple #[.agg #[Vi (((XH r p s).getD XF).high.n),Vi (((XH r p s).getD XF).high.d)],Vi 2]) (by simp [results,Tryz.results71,go_sem,s6,b6.cell,s7]) D ?_;exact ⟨by rw [jdg_in (Yu q9) (Yu q17),jdgS_high q22 q27],O⟩
end Go.Proofs.YtbekjpkcicjcgaaGreat
