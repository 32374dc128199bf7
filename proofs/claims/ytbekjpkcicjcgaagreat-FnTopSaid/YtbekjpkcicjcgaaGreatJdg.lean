/-
 What a watch says of an input in a state: of the program and of the reference.
 Conditions: the slices hold at most 2^20 elements.
-/
import Derived.Test.YtbekjpkcicjcgaaGreatNextM
import Derived.Test.YtbekjpkcicjcgaaGreatAdi
namespace Go.Proofs.YtbekjpkcicjcgaaGreat
open Go.RowKit
def jdgS (v:YQ) (u:XW):XW × Int:=if JZ v u=true then (u,1) else if (!(Xh u)||decide (XF u v.low<0))=true then (v.low,2) else (v.high,2)
def jdg (r:XD) (p:List Half) (l:List Int) (s:XH) (u:XW):XW × Int:=if J7 r p l=true then (if (XL r p s).isSome=true then jdgS ((XL r p s).getD Xu) u else (Ke,3)) else (Ke,3)
theorem jdg_no {r:XD} {p:List Half} {l:List Int} {s:XH} {u:XW} (h:J7 r p l=false):jdg r p l s u=(Ke,3):=by unfold jdg;rw [if_neg (by rw [h];simp)]
theorem jdg_out {r:XD} {p:List Half} {l:List Int} {s:XH} {u:XW} (h:J7 r p l=true) (h2:(XL r p s).isSome=false):jdg r p l s u=(Ke,3):=by unfold jdg;rw [if_pos h,if_neg (by rw [h2];simp)]
theorem jdg_in {r:XD} {p:List Half} {l:List Int} {s:XH} {u:XW} (h:J7 r p l=true) (h2:(XL r p s).isSome=true):jdg r p l s u=jdgS ((XL r p s).getD Xu) u:=by unfold jdg;rw [if_pos h,if_pos h2]
theorem jdgS_in {v:YQ} {u:XW} (h:JZ v u=true):jdgS v u=(u,1):=by unfold jdgS;rw [if_pos h]
theorem jdgS_low {v:YQ} {u:XW} (h:JZ v u=false) (h2:(!(Xh u)||decide (XF u v.low<0))=true):jdgS v u=(v.low,2):=by unfold jdgS;rw [if_neg (by rw [h];simp),if_pos h2]
theorem jdgS_high {v:YQ} {u:XW} (h:JZ v u=false) (h2:(!(Xh u)||decide (XF u v.low<0))=false):jdgS v u=(v.high,2):=by unfold jdgS;rw [if_neg (by rw [h];simp),if_neg (by rw [h2];simp)]
set_option maxRecDepth 100000 in
set_option maxHeartbeats 3000000 in
theorem iJudge_c (r:XD) (p:List Half) (l:List Int) (s:XH) (u:XW) (ra:Y7) (b:Kw) (w:World) (hn:Kt r<=1048576) (hin:JO r) (hs:ZX w r ra) (hnl:Jk ra) (hlp:p.length<=1048576) (hpi:∀ h∈p,h.In) (hsp:Sl 3 Xe w b.A p) (hnb:b.A=none->b.c=0) (e:Kw) (hll:l.length<=1048576) (hsl:Sl 1 Kk w e.A l) (hsi:s.In) (hui:u.In) :
 Calls Tryz.prog 15 #[watchV ⟨r,p,l⟩ ⟨ra,b,e⟩,Yu s,X0 u] w λ x w'=>x=.returned (.tuple #[X0 (jdg r p l s u).1,Vi (jdg r p l s u).2])/\Below w.heap.size w w':=by
 refine Yz Tryz.func15 rfl (n:=47) Tryz.ntmps15 Sz ?_;intro a0 S D ha;have s0:a0.tmps[0]?.getD undef=watchV ⟨r,p,l⟩ ⟨ra,b,e⟩:=ha 0 _ rfl;have s1:a0.tmps[1]?.getD undef=Yu s:=ha 1 _ rfl;have s2:a0.tmps[2]?.getD undef=X0 u:=ha 2 _ rfl;clear ha;have O:=Below.refl w.heap.size w;have U:=Nat.le_refl w.heap.size;refine wp_seq ?_;refine Yk [3,4,5,6,7] [Pz w.heap.size,Pz (w.heap.size+1),Pz (w.heap.size+2),Pz (w.heap.size+3),V0] [some (.cells (watchC ⟨r,p,l⟩ ⟨ra,b,e⟩).toArray 38),some (.cells [Vi s.x,Vi s.y,Vi s.d].toArray 30),some (.cells [Vi u.n,Vi u.d].toArray 46),some (.cells [V0,V0].toArray 46),none] [0,1,2,3,4] [3,4,5,6,7] [0,1,2,3,4] (by kernel_rfl) (by rw [S];decide) (ec ?_ (ec ?_ (ec ?_ (ec ?_ (ec ?_ .nil))))) ?_
 ·intro a w' C hs N Q B;simp [go_sem,C.g rfl s0];rw [hs];exact B
 ·intro a w' C hs N Q B;simp [go_sem,C.g rfl s1];rw [hs];exact B
 ·intro a w' C hs N Q B;simp [go_sem,C.g rfl s2];rw [hs];exact B
 ·intro a w' C hs N Q B;simp [go_sem];rw [hs];exact B
 ·intro a w' C hs N Q B;simp [go_sem];exact B
 intro a1 w2 C M hb hO;replace S:=C.size.trans S;replace D:=C.defers.trans D;have s3:a1.tmps[3]?.getD undef=Pz w.heap.size:=M 0 Dz;have s4:a1.tmps[4]?.getD undef=Pz (w.heap.size+1):=M 1 Dz;have s5:a1.tmps[5]?.getD undef=Pz (w.heap.size+2):=M 2 Dz;have s6:a1.tmps[6]?.getD undef=Pz (w.heap.size+3):=M 3 Dz;have b3:Xq w2 w.heap.size 38 (watchC ⟨r,p,l⟩ ⟨ra,b,e⟩):=hO 0 _ rfl;have b4:Xq w2 (w.heap.size+1) 30 [Vi s.x,Vi s.y,Vi s.d]:=hO 1 _ rfl;have b5:Xq w2 (w.heap.size+2) 46 [Vi u.n,Vi u.d]:=hO 2 _ rfl;have b6:Xq w2 (w.heap.size+3) 46 [V0,V0]:=hO 3 _ rfl;have hG:=b6.lt;replace O:=Xf O hb;have zw2:=Nat.le_trans U hb.size;replace U:=Nat.le_refl w2.heap.size;clear C M hb hO s0 s1 s2;refine Xi (wp_seq (wp_seq ?_));refine Xl [10,11,12] [some (watchV ⟨r,p,l⟩ ⟨ra,b,e⟩),some (Bv (J7 r p l)),some (Bv (!(J7 r p l)))] (X9 3) [10,11,12] [] (λ _ _ _=>True) ?_ (e2 ?_ ?_ (en rfl ?_ .nil)) ?_
 ·exact λ _ _=>trivial
 ·intro P J K H _ _ B;simp [go_sem,H.f.g rfl s3,(b3.k0 H.k).cell];exact (B _ _ H.k rfl trivial)
 ·intro P J K H _ _ B;simp [go_sem,(gS J 10 (H.d 0 rfl rfl))];have hBi:=H.k.below0 O;refine (iWatchOk_c r p l ra b K hn hin (hs.below hBi) hnl hlp hpi (hsp.below hBi) hnb e hll (hsl.below hBi)).mono ?_;rintro x wx ⟨rfl,hb⟩;exact (B _ _ (H.k.call hb) rfl trivial)
 ·exact JC 1 rfl rfl rfl rfl
 intro L a7 w8 R C I M V;replace S:=C.Z S;replace D:=C.E D;obtain ⟨s3,s4,s5,s6⟩:=C.G4 s3 s4 s5 s6;have s12:=gS a7 12 (M 2 _ rfl);replace b3:=b3.k0 I;replace b4:=b4.k0 I;replace b5:=b5.k0 I;replace b6:=b6.k0 I;replace U:=Nat.le_trans U I.size;replace O:=I.below0 O;clear C I M R V;refine Xi ?_;rcases Bool.eq_false_or_eq_true (!(J7 r p l)) with q9|q9
 ·refine wp_cond_true (ev (vb s12 q9)) ?_;refine wp_seq ?_;have F:Xd [] (λ L aa K=>XY K (w.heap.size+3) 46 [V0,V0] (L 1) (λ _ vs=>vs=[V0,V0])):=λ L aa K w' kk vv hkk hb x0=>(x0.bel hb (λ _ h=>h));refine Xr F [13,0,7] [some (.agg #[V0,V0]),none,some (Vi 3)] (X9 3) [13,7] [(w.heap.size+3)] ?_ (e2 ?_ ?_ (en rfl ?_ .nil)) ?_
  ·exact λ _ h=>(⟨λ _=>b6.kp h Sz,Cz⟩)
  ·intro P J K H _ _ B;simp [go_sem];exact (B _ _ H.k rfl H.x)
  ·intro P J K H _ _ B;have x0:=H.x;have T:=x0.1 H.n;simp [go_sem,(gS J 13 (H.d 0 rfl rfl)),H.f.g rfl s6,T.cell,T.frz];exact B undef _ (H.k.store (.inr Sz) [V0,V0] 0) trivial (XY.set T (us:=[V0,V0]) rfl rfl)
  ·exact JL rfl rfl λ _ _ _ _ h=>h
  intro L a10 w11 R C I M V;have x0:=V;replace S:=C.Z S;replace D:=C.E D;replace s6:=C.G s6;have s7:=gS a10 7 (M 2 _ rfl);clear b6;obtain ⟨_,b6,rfl⟩:=x0.2 (R 1 Dz);replace U:=Nat.le_trans U I.size;replace O:=I.below O O.size (by simp<;>omega);clear C I M R x0 F s3 s4 s5 s12 b3 b4 b5;refine Xi (wp_ret (Ki ?_));refine bodyPost_ret (v:=.tuple #[.agg #[V0,V0],Vi 3]) (by simp [results,Tryz.results15,go_sem,s6,b6.cell,s7]) D ?_;exact ⟨by rw [jdg_no (JD q9)];rfl,O⟩
 ·refine wp_cond_false (ev (vb s12 q9)) ?_;refine wp_skip (Xi (wp_seq ?_));have F:=Xd.x 8 9 10 w8 48 [V0,V0,V0,V0] (λ _ vs=>vs=[Vi (((XL r p s).getD Xu).low.n),Vi (((XL r p s).getD Xu).low.d),Vi (((XL r p s).getD Xu).high.n),Vi (((XL r p s).getD Xu).high.d)]) (λ _ _ h=>h);refine Xr F [15,16,17,18,19,20,14,21,22,8,0,9] [some (Pz w.heap.size),some (X7 r ra),some (.pointer (some ⟨w.heap.size,8,none⟩)),some (.agg #[Sv b.A p.length b.c]),some (Yu s),some (.tuple #[ZC ((XL r p s).getD Xu),Bv ((XL r p s).isSome)]),some (.tuple #[ZC ((XL r p s).getD Xu),Bv ((XL r p s).isSome)]),some (ZC ((XL r p s).getD Xu)),some (Bv ((XL r p s).isSome)),none,none,some (Bv ((XL r p s).isSome))] (X9 12) [15,16,17,18,19,20,14,21,22,8,9] [] ?_ (e4 ?_ ?_ ?_ ?_ (e4 ?_ ?_ ?_ ?_ (e4 ?_ ?_ ?_ ?_ .nil))) ?_
  ·exact λ _ h=>Cz
  ·intro P J K H _ _ B;simp [go_sem,H.f.g rfl s3];exact (B _ _ H.k rfl (F.q rfl H.x))
  ·intro P J K H _ _ B;simp [go_sem,(gS J 15 (H.d 0 rfl rfl)),(b3.k0 H.k).cell];exact (B _ _ H.k rfl (F.q rfl H.x))
  ·intro P J K H _ _ B;simp [go_sem,H.f.g rfl s3];exact (B _ _ H.k rfl (F.q rfl H.x))
  ·intro P J K H _ _ B;simp [go_sem,(gS J 17 (H.d 2 rfl rfl)),(b3.k0 H.k).cell];exact (B _ _ H.k rfl (F.q rfl H.x))
  ·intro P J K H _ _ B;simp [go_sem,H.f.g rfl s4,(b4.k0 H.k).cell];exact (B _ _ H.k rfl (F.q rfl H.x))
  ·intro P J K H _ _ B;simp [go_sem,(gS J 16 (H.d 1 rfl rfl)),(gS J 18 (H.d 3 rfl rfl)),(gS J 19 (H.d 4 rfl rfl))];have hBi:=H.k.below0 O;refine (iAdmAt_c r p s ra b K hn hin (hs.below hBi) hnl hlp hpi (hsp.below hBi) hnb hsi).mono ?_;rintro x wx ⟨rfl,hb⟩;exact (B _ _ (H.k.call hb) (JK _) (F.b rfl hb H.x))
  ·exact oMDX 5 rfl rfl rfl rfl λ _ _ _ _=>F.q rfl
  ·exact JV 6 rfl rfl rfl rfl rfl λ _ _ _ _=>F.q rfl
  ·exact JV 6 rfl rfl rfl rfl rfl λ _ _ _ _=>F.q rfl
  ·intro P J K H _ _ B;have x0:=H.x;simp [go_sem];exact B _ _ (H.k.alloc _) trivial (λ _=>by rw [show Yc P 9 10=false from H.t 10 rfl];exact X6.new (s:=8) (H.f.lt (by rw [S];decide)) H.k.size [V0,V0,V0,V0])
  ·intro P J K H _ _ B;have x0:=H.x;obtain ⟨g,eg,hg,y,_⟩:=x0 (H.r 9 rfl);have T:=y H.n;simp [go_sem,(gS J 21 (H.d 7 rfl rfl)),eg,T.cell,T.frz];exact B undef _ (H.k.store (.inl hg) [Vi (((XL r p s).getD Xu).low.n),Vi (((XL r p s).getD Xu).low.d),Vi (((XL r p s).getD Xu).high.n),Vi (((XL r p s).getD Xu).high.d)] 0) trivial (λ _=>X6.set eg hg T (us:=[Vi (((XL r p s).getD Xu).low.n),Vi (((XL r p s).getD Xu).low.d),Vi (((XL r p s).getD Xu).high.n),Vi (((XL r p s).getD Xu).high.d)]) rfl rfl)
  ·exact KS 8 rfl rfl rfl rfl λ _ _ _ _=>F.q rfl
  intro L a12 w13 R C I M V;have x0:=V;replace S:=C.Z S;replace D:=C.E D;obtain ⟨s5,s6⟩:=C.G2 s5 s6;have s9:=gS a12 9 (M 11 _ rfl);replace b5:=b5.k0 I;replace b6:=b6.k0 I;obtain ⟨g14,s8,lg14,-,b14⟩:=x0 (R 9 Dz);obtain ⟨_,b14,rfl⟩:=b14 (R 10 Dz);have ug14:=b14.lt;have zw8:=U;have zw13:=I.size;replace U:=Nat.le_refl w13.heap.size;replace O:=I.below0 O;clear C I M R x0 F s3 s4 s12 b3 b4;refine Xi (wp_seq (wp_block (wp_seq ?_)));refine Xl [24,25,23] [some (Bv ((XL r p s).isSome)),some (Bv (!((XL r p s).isSome))),some (Bv (!((XL r p s).isSome)))] (X9 3) [24,25,23] [] (λ _ _ _=>True) ?_ (e2 ?_ ?_ (en rfl ?_ .nil)) ?_
  ·exact λ _ _=>trivial
  ·exact Kq s9 rfl rfl rfl
  ·exact JC 0 rfl rfl rfl rfl
  ·exact Jm 1 rfl rfl rfl rfl
  intro L a15 w16 R C I M V;replace S:=C.Z S;replace D:=C.E D;obtain ⟨s5,s6,s8⟩:=C.G3 s5 s6 s8;have s23:=gS a15 23 (M 2 _ rfl);replace b5:=b5.k0 I;replace b6:=b6.k0 I;replace b14:=b14.k0 I;replace U:=Nat.le_trans U I.size;replace O:=I.below0 O;clear C I M R V s9;refine Xi ?_;rcases Bool.eq_false_or_eq_true (!((XL r p s).isSome)) with q17|q17
  ·refine wp_cond_true (ev (vb s23 q17)) ?_;refine wp_seq ?_;have F:Xd [] (λ L aa K=>XY K (w.heap.size+3) 46 [V0,V0] (L 1) (λ _ vs=>vs=[V0,V0])):=λ L aa K w' kk vv hkk hb x0=>(x0.bel hb (λ _ h=>h));refine Xr F [26,0,7] [some (.agg #[V0,V0]),none,some (Vi 3)] (X9 3) [26,7] [(w.heap.size+3)] ?_ (e2 ?_ ?_ (en rfl ?_ .nil)) ?_
   ·exact λ _ h=>(⟨λ _=>b6.kp h Sz,Cz⟩)
   ·intro P J K H _ _ B;simp [go_sem];exact (B _ _ H.k rfl H.x)
   ·intro P J K H _ _ B;have x0:=H.x;have T:=x0.1 H.n;simp [go_sem,(gS J 26 (H.d 0 rfl rfl)),H.f.g rfl s6,T.cell,T.frz];exact B undef _ (H.k.store (.inr Sz) [V0,V0] 0) trivial (XY.set T (us:=[V0,V0]) rfl rfl)
   ·exact JL rfl rfl λ _ _ _ _ h=>h
   intro L a18 w19 R C I M V;have x0:=V;replace S:=C.Z S;replace D:=C.E D;replace s6:=C.G s6;have s7:=gS a18 7 (M 2 _ rfl);clear b6;obtain ⟨_,b6,rfl⟩:=x0.2 (R 1 Dz);replace U:=Nat.le_trans U I.size;replace O:=I.below O O.size (by simp<;>omega);clear C I M R x0 F s5 s8 s23 b5 b14;refine Xi (wp_ret ?_);refine ib_r (Ki ?_);refine bodyPost_ret (v:=.tuple #[.agg #[V0,V0],Vi 3]) (by simp [results,Tryz.results15,go_sem,s6,b6.cell,s7]) D ?_;exact ⟨by rw [jdg_out (YT q9) (JD q17)];rfl,O⟩
  ·refine wp_cond_false (ev (vb s23 q17)) ?_;refine wp_seq ?_;refine Xl [28,29,30,27] [some (ZC ((XL r p s).getD Xu)),some (X0 u),some (Bv (JZ ((XL r p s).getD Xu) u)),some (Bv (JZ ((XL r p s).getD Xu) u))] (X9 4) [28,29,30,27] [] (λ _ _ _=>True) ?_ (e4 ?_ ?_ ?_ ?_ .nil) ?_
   ·exact λ _ _=>trivial
   ·intro P J K H _ _ B;simp [go_sem,H.f.g rfl s8,(b14.k0 H.k).cell];exact (B _ _ H.k rfl trivial)
   ·intro P J K H _ _ B;simp [go_sem,H.f.g rfl s5,(b5.k0 H.k).cell];exact (B _ _ H.k rfl trivial)
   ·intro P J K H _ _ B;simp [go_sem,(gS J 28 (H.d 0 rfl rfl)),(gS J 29 (H.d 1 rfl rfl))];refine (iInSpan_c ((XL r p s).getD Xu) u K (optIn (λ _ hv=>admAt_ok hv)) hui).mono ?_;rintro x wx ⟨rfl,hb⟩;exact (B _ _ (H.k.call hb) rfl trivial)
   ·exact Jm 2 rfl rfl rfl rfl
   intro L a20 w21 R C I M V;replace S:=C.Z S;replace D:=C.E D;obtain ⟨s5,s6,s8⟩:=C.G3 s5 s6 s8;have s27:=gS a20 27 (M 3 _ rfl);replace b5:=b5.k0 I;replace b6:=b6.k0 I;replace b14:=b14.k0 I;replace U:=Nat.le_trans U I.size;replace O:=I.below0 O;clear C I M R V s23;refine Xi ?_;rcases Bool.eq_false_or_eq_true (JZ ((XL r p s).getD Xu) u) with q22|q22
   ·refine wp_cond_true (ev (vb s27 q22)) ?_;refine wp_seq ?_;have F:Xd [] (λ L aa K=>XY K (w.heap.size+3) 46 [V0,V0] (L 1) (λ _ vs=>vs=[Vi u.n,Vi u.d])):=λ L aa K w' kk vv hkk hb x0=>(x0.bel hb (λ _ h=>h));refine Xr F [31,0,7] [some (X0 u),none,some (Vi 1)] (X9 3) [31,7] [(w.heap.size+3)] ?_ (e2 ?_ ?_ (en rfl ?_ .nil)) ?_
    ·exact λ _ h=>(⟨λ _=>b6.kp h Sz,Cz⟩)
    ·intro P J K H _ _ B;simp [go_sem,H.f.g rfl s5,(b5.kp H.k (by simp<;>omega)).cell];exact (B _ _ H.k rfl H.x)
    ·intro P J K H _ _ B;have x0:=H.x;have T:=x0.1 H.n;simp [go_sem,(gS J 31 (H.d 0 rfl rfl)),H.f.g rfl s6,T.cell,T.frz];exact B undef _ (H.k.store (.inr Sz) [Vi u.n,Vi u.d] 0) trivial (XY.set T (us:=[Vi u.n,Vi u.d]) rfl rfl)
    ·exact JL rfl rfl λ _ _ _ _ h=>h
    intro L a23 w24 R C I M V;have x0:=V;replace S:=C.Z S;replace D:=C.E D;replace s6:=C.G s6;have s7:=gS a23 7 (M 2 _ rfl);clear b6;obtain ⟨_,b6,rfl⟩:=x0.2 (R 1 Dz);replace U:=Nat.le_trans U I.size;replace O:=I.below O O.size (by simp<;>omega);clear C I M R x0 F s5 s8 s27 b5 b14;refine Xi (wp_ret ?_);refine ib_r (Ki ?_);refine bodyPost_ret (v:=.tuple #[X0 u,Vi 1]) (by simp [results,Tryz.results15,go_sem,s6,b6.cell,s7]) D ?_;exact ⟨by rw [jdg_in (YT q9) (YT q17),jdgS_in q22],O⟩
   ·refine wp_cond_false (ev (vb s27 q22)) ?_;refine wp_seq ?_;refine Xl [33,34,35,36,37,38,39,40,41,42,32] [some (X0 u),some (Bv (Xh u)),some (Bv (!(Xh u))),some (Bv (!(Xh u))),some ((bif !(Xh u) then undef else (X0 u:Value))),some ((bif !(Xh u) then undef else (Pz g14:Value))),some ((bif !(Xh u) then undef else (.agg #[Vi (((XL r p s).getD Xu).low.n),Vi (((XL r p s).getD Xu).low.d)]:Value))),some ((bif !(Xh u) then undef else (Vi (XF u (((XL r p s).getD Xu).low)):Value))),some ((bif !(Xh u) then undef else (Bv (decide (XF u (((XL r p s).getD Xu).low)<0)):Value))),some (Bv (!(Xh u)||decide (XF u (((XL r p s).getD Xu).low)<0))),some (Bv (!(Xh u)||decide (XF u (((XL r p s).getD Xu).low)<0)))] (X9 11) [33,34,35,36,37,38,39,40,41,42,32] [] (λ _ _ _=>True) ?_ (e4 ?_ ?_ ?_ ?_ (eg ?_ (eg ?_ (eg ?_ (eg ?_ (eg ?_ (e2 ?_ ?_ .nil))))))) ?_
    ·exact λ _ _=>trivial
    ·intro P J K H _ _ B;simp [go_sem,H.f.g rfl s5,(b5.k0 H.k).cell];exact (B _ _ H.k rfl trivial)
    ·intro P J K H _ _ B;simp [go_sem,(gS J 33 (H.d 0 rfl rfl))];refine (ZV u K hui).mono ?_;rintro x wx ⟨rfl,hb⟩;exact (B _ _ (H.k.call hb) rfl trivial)
    ·exact JC 1 rfl rfl rfl rfl
    ·exact KC 2 rfl rfl rfl rfl
    ·intro P J K H _ _ B;refine J4 rfl rfl rfl (H.d 3 rfl rfl) (λ qg=>B _ _ H.k (Xz qg).symm trivial) λ qg=>?_;simp [go_sem,H.f.g rfl s5,(b5.k0 H.k).cell];exact (B _ _ H.k (XC qg).symm trivial)
    ·intro P J K H _ _ B;refine J4 rfl rfl rfl (H.d 3 rfl rfl) (λ qg=>B _ _ H.k (Xz qg).symm trivial) λ qg=>?_;simp [go_sem,H.f.g rfl s8];exact (B _ _ H.k (XC qg).symm trivial)
    ·intro P J K H _ _ B;refine J4 rfl rfl rfl (H.d 3 rfl rfl) (λ qg=>B _ _ H.k (Xz qg).symm trivial) λ qg=>?_;simp [go_sem,(show J.tmps[38]?.getD undef=_ from (H.d 5 rfl rfl).trans (XC qg)),(b14.k0 H.k).cell];exact (B _ _ H.k (XC qg).symm trivial)
    ·intro P J K H _ _ B;refine J4 rfl rfl rfl (H.d 3 rfl rfl) (λ qg=>B _ _ H.k (Xz qg).symm trivial) λ qg=>?_;simp [go_sem,(show J.tmps[37]?.getD undef=_ from (H.d 4 rfl rfl).trans (XC qg)),(show J.tmps[39]?.getD undef=_ from (H.d 6 rfl rfl).trans (XC qg))];refine (Kn u (((XL r p s).getD Xu).low) K hui (optIn (λ _ hv=>admAt_ok hv)).1).mono ?_;rintro x wx ⟨rfl,hb⟩;exact (B _ _ (H.k.call hb) (XC qg).symm trivial)
    ·intro P J K H _ _ B;refine J4 rfl rfl rfl (H.d 3 rfl rfl) (λ qg=>B _ _ H.k (Xz qg).symm trivial) λ qg=>?_;exact Y8 rfl (ev ((H.d 7 rfl rfl).trans (XC qg))) rfl rfl rfl (B _ _ H.k (XC qg).symm trivial)
    ·exact oPOT 3 8 rfl rfl rfl rfl rfl rfl
    ·exact Jm 9 rfl rfl rfl rfl
    intro L a25 w26 R C I M V;replace S:=C.Z S;replace D:=C.E D;obtain ⟨s6,s8⟩:=C.G2 s6 s8;have s32:=gS a25 32 (M 10 _ rfl);replace b6:=b6.k0 I;replace b14:=b14.k0 I;replace U:=Nat.le_trans U I.size;replace O:=I.below0 O;clear C I M R V s5 s27 b5;refine Xi ?_;rcases Bool.eq_false_or_eq_true (!(Xh u)||decide (XF u (((XL r p s).getD Xu).low)<0)) with q27|q27
    ·refine wp_cond_true (ev (vb s32 q27)) ?_;refine wp_seq ?_;have F:Xd [] (λ L aa K=>XY K (w.heap.size+3) 46 [V0,V0] (L 2) (λ _ vs=>vs=[Vi (((XL r p s).getD Xu).low.n),Vi (((XL r p s).getD Xu).low.d)])):=λ L aa K w' kk vv hkk hb x0=>(x0.bel hb (λ _ h=>h));refine Xr F [43,44,0,7] [some (Pz g14),some (.agg #[Vi (((XL r p s).getD Xu).low.n),Vi (((XL r p s).getD Xu).low.d)]),none,some (Vi 2)] (X9 4) [43,44,7] [(w.heap.size+3)] ?_ (e4 ?_ ?_ ?_ ?_ .nil) ?_
     ·exact λ _ h=>(⟨λ _=>b6.kp h Sz,Cz⟩)
     ·intro P J K H _ _ B;simp [go_sem,H.f.g rfl s8];exact (B _ _ H.k rfl H.x)
     ·intro P J K H _ _ B;simp [go_sem,(gS J 43 (H.d 0 rfl rfl)),(b14.kp H.k (by simp<;>omega)).cell];exact (B _ _ H.k rfl H.x)
     ·intro P J K H _ _ B;have x0:=H.x;have T:=x0.1 H.n;simp [go_sem,(gS J 44 (H.d 1 rfl rfl)),H.f.g rfl s6,T.cell,T.frz];exact B undef _ (H.k.store (.inr Sz) [Vi (((XL r p s).getD Xu).low.n),Vi (((XL r p s).getD Xu).low.d)] 0) trivial (XY.set T (us:=[Vi (((XL r p s).getD Xu).low.n),Vi (((XL r p s).getD Xu).low.d)]) rfl rfl)
     ·exact JL rfl rfl λ _ _ _ _ h=>h
     intro L a28 w29 R C I M V;have x0:=V;replace S:=C.Z S;replace D:=C.E D;replace s6:=C.G s6;have s7:=gS a28 7 (M 3 _ rfl);clear b6;obtain ⟨_,b6,rfl⟩:=x0.2 (R 2 Dz);replace U:=Nat.le_trans U I.size;replace O:=I.below O O.size (by simp<;>omega);clear C I M R x0 F s8 s32 b14;refine Xi (wp_ret ?_);refine ib_r (Ki ?_);refine bodyPost_ret (v:=.tuple #[.agg #[Vi (((XL r p s).getD Xu).low.n),Vi (((XL r p s).getD Xu).low.d)],Vi 2]) (by simp [results,Tryz.results15,go_sem,s6,b6.cell,s7]) D ?_;exact ⟨by rw [jdg_in (YT q9) (YT q17),jdgS_low q22 q27],O⟩
    ·refine wp_cond_false (ev (vb s32 q27)) ?_;refine wp_skip ?_;refine ib_n (Xi (wp_seq ?_));have F:Xd [] (λ L aa K=>XY K (w.heap.size+3) 46 [V0,V0] (L 2) (λ _ vs=>vs=[Vi (((XL r p s).getD Xu).high.n),Vi (((XL r p s).getD Xu).high.d)])):=λ L aa K w' kk vv hkk hb x0=>(x0.bel hb (λ _ h=>h));refine Xr F [45,46,0,7] [some (.pointer (some ⟨g14,2,none⟩)),some (.agg #[Vi (((XL r p s).getD Xu).high.n),Vi (((XL r p s).getD Xu).high.d)]),none,some (Vi 2)] (X9 4) [45,46,7] [(w.heap.size+3)] ?_ (e4 ?_ ?_ ?_ ?_ .nil) ?_
     ·exact λ _ h=>(⟨λ _=>b6.kp h Sz,Cz⟩)
     ·intro P J K H _ _ B;simp [go_sem,H.f.g rfl s8];exact (B _ _ H.k rfl H.x)
     ·intro P J K H _ _ B;simp [go_sem,(gS J 45 (H.d 0 rfl rfl)),(b14.kp H.k (by simp<;>omega)).cell];exact (B _ _ H.k rfl H.x)
     ·intro P J K H _ _ B;have x0:=H.x;have T:=x0.1 H.n;simp [go_sem,(gS J 46 (H.d 1 rfl rfl)),H.f.g rfl s6,T.cell,T.frz];exact B undef _ (H.k.store (.inr Sz) [Vi (((XL r p s).getD Xu).high.n),Vi (((XL r p s).getD Xu).high.d)] 0) trivial (XY.set T (us:=[Vi (((XL r p s).getD Xu).high.n),Vi (((XL r p s).getD Xu).high.d)]) rfl rfl)
     ·exact JL rfl rfl λ _ _ _ _ h=>h
     intro L a30 w31 R C I M V;have x0:=V;replace S:=C.Z S;replace D:=C.E D;replace s6:=C.G s6;have s7:=gS a30 7 (M 3 _ rfl);clear b6;obtain ⟨_,b6,rfl⟩:=x0.2 (R 2 Dz);replace U:=Nat.le_trans U I.size;replace O:=I.below O O.size (by simp<;>omega);clear C I M R x0 F s8 s32 b14;refine Xi (wp_ret ?_);refine bodyPost_ret (v:=.tuple #[.agg #[Vi (((XL r p s).getD Xu).high.n),Vi (((XL r p s).getD Xu).high.d)],Vi 2]) (by simp [results,Tryz.results15,go_sem,s6,b6.cell,s7]) D ?_;exact ⟨by rw [jdg_in (YT q9) (YT q17),jdgS_high q22 q27],O⟩
end Go.Proofs.YtbekjpkcicjcgaaGreat
