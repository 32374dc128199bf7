/-
 What a watch says of an input in a state: of the program and of the reference.
 Conditions: the slices hold at most 2^20 elements.
-/
import Derived.Test.YtabfdkpdppemaaaGreatPtaQb
namespace Go.Proofs.YtabfdkpdppemaaaGreat
open Go.RowKit
def jdgS (v:Zg) (u:X5):X5 × Int:=if Ja v u=true then (u,1) else if (!(Xe u)||decide (Xu u v.low<0))=true then (v.low,2) else (v.high,2)
def Kr (r:XK) (p:List Half) (l:List Int) (s:XQ) (u:X5):X5 × Int:=if watchB r p l=true then (if (XH r p s).isSome=true then jdgS ((XH r p s).getD Xw) u else (Y3,3)) else (Y3,3)
theorem jdg_no {r:XK} {p:List Half} {l:List Int} {s:XQ} {u:X5} (h:watchB r p l=false):Kr r p l s u=(Y3,3):=by unfold Kr;rw [if_neg (by rw [h];simp)]
theorem jdg_out {r:XK} {p:List Half} {l:List Int} {s:XQ} {u:X5} (h:watchB r p l=true) (h2:(XH r p s).isSome=false):Kr r p l s u=(Y3,3):=by unfold Kr;rw [if_pos h,if_neg (by rw [h2];simp)]
theorem jdg_in {r:XK} {p:List Half} {l:List Int} {s:XQ} {u:X5} (h:watchB r p l=true) (h2:(XH r p s).isSome=true):Kr r p l s u=jdgS ((XH r p s).getD Xw) u:=by unfold Kr;rw [if_pos h,if_pos h2]
theorem jdgS_in {v:Zg} {u:X5} (h:Ja v u=true):jdgS v u=(u,1):=by unfold jdgS;rw [if_pos h]
theorem jdgS_low {v:Zg} {u:X5} (h:Ja v u=false) (h2:(!(Xe u)||decide (Xu u v.low<0))=true):jdgS v u=(v.low,2):=by unfold jdgS;rw [if_neg (by rw [h];simp),if_pos h2]
theorem jdgS_high {v:Zg} {u:X5} (h:Ja v u=false) (h2:(!(Xe u)||decide (Xu u v.low<0))=false):jdgS v u=(v.high,2):=by unfold jdgS;rw [if_neg (by rw [h];simp),if_neg (by rw [h2];simp)]
set_option maxRecDepth 100000 in
set_option maxHeartbeats 3000000 in
theorem iJudge_c (r:XK) (p:List Half) (l:List Int) (s:XQ) (u:X5) (ra:Y9) (b:KL) (w:World) (hn:Zq r<=1048576) (hin:JK r) (hs:Y8 w r ra) (hnl:KW ra) (hlp:p.length<=1048576) (hpi:∀ h∈p,h.In) (hsp:Sl 3 Xh w b.A p) (hnb:b.A=none->b.c=0) (e:KL) (hll:l.length<=1048576) (hsl:Sl 1 Z6 w e.A l) (hsi:s.In) (hui:u.In) :
 Calls Tryz.prog 21 #[Zy ⟨r,p,l⟩ ⟨ra,b,e⟩,YQ s,XO u] w λ x w'=>x=.returned (.tuple #[XO (Kr r p l s u).1,.int .i64 (Kr r p l s u).2])/\Below w.heap.size w w':=by
 refine Yw Tryz.func21 rfl (n:=47) Tryz.ntmps21 (by simp) ?_;intro a0 T D ha;have s0:a0.tmps[0]?.getD undef=Zy ⟨r,p,l⟩ ⟨ra,b,e⟩:=ha 0 _ rfl;have s1:a0.tmps[1]?.getD undef=YQ s:=ha 1 _ rfl;have s2:a0.tmps[2]?.getD undef=XO u:=ha 2 _ rfl;clear ha;have O:=Below.refl w.heap.size w;have V:=Nat.le_refl w.heap.size;refine wp_seq ?_;refine Yp [3,4,5,6,7] [.pointer (some ⟨w.heap.size,0,none⟩),.pointer (some ⟨(w.heap.size+1),0,none⟩),.pointer (some ⟨(w.heap.size+2),0,none⟩),.pointer (some ⟨(w.heap.size+3),0,none⟩),.int .i64 0] [some (.cells (YU ⟨r,p,l⟩ ⟨ra,b,e⟩).toArray 40),some (.cells [.int .i64 s.x,.int .i64 s.y,.int .i64 s.d].toArray 30),some (.cells [.int .i64 u.n,.int .i64 u.d].toArray 36),some (.cells [.int .i64 0,.int .i64 0].toArray 36),none] [0,1,2,3,4] [3,4,5,6,7] [0,1,2,3,4] (by kernel_rfl) (by rw [T];decide) (ec ?_ (ec ?_ (ec ?_ (ec ?_ (ec ?_ .nil))))) ?_
 ·intro a w' C hs N Q B;simp [go_sem,C.g rfl s0];rw [hs];exact B
 ·intro a w' C hs N Q B;simp [go_sem,C.g rfl s1];rw [hs];exact B
 ·intro a w' C hs N Q B;simp [go_sem,C.g rfl s2];rw [hs];exact B
 ·intro a w' C hs N Q B;simp [go_sem];rw [hs];exact B
 ·intro a w' C hs N Q B;simp [go_sem];exact B
 intro a1 w2 C M hb hO;replace T:=C.size.trans T;replace D:=C.defers.trans D;have s3:a1.tmps[3]?.getD undef=.pointer (some ⟨w.heap.size,0,none⟩):=M 0 (by decide);have s4:a1.tmps[4]?.getD undef=.pointer (some ⟨(w.heap.size+1),0,none⟩):=M 1 (by decide);have s5:a1.tmps[5]?.getD undef=.pointer (some ⟨(w.heap.size+2),0,none⟩):=M 2 (by decide);have s6:a1.tmps[6]?.getD undef=.pointer (some ⟨(w.heap.size+3),0,none⟩):=M 3 (by decide);have b3:Xx w2 w.heap.size 40 (YU ⟨r,p,l⟩ ⟨ra,b,e⟩):=hO 0 _ rfl;have b4:Xx w2 (w.heap.size+1) 30 [.int .i64 s.x,.int .i64 s.y,.int .i64 s.d]:=hO 1 _ rfl;have b5:Xx w2 (w.heap.size+2) 36 [.int .i64 u.n,.int .i64 u.d]:=hO 2 _ rfl;have b6:Xx w2 (w.heap.size+3) 36 [.int .i64 0,.int .i64 0]:=hO 3 _ rfl;have hG:=b6.lt;replace O:=Xf O hb;have zw2:=Nat.le_trans V hb.size;replace V:=Nat.le_refl w2.heap.size;clear C M hb hO s0 s1 s2;refine Xk (wp_seq (wp_seq ?_));refine Xj [10,11,12] [some (Zy ⟨r,p,l⟩ ⟨ra,b,e⟩),some (.bool (watchB r p l)),some (.bool (!(watchB r p l)))] (Yb 3) [10,11,12] [] (λ _ _ _=>True) ?_ (e2 ?_ ?_ (en rfl ?_ .nil)) ?_
 ·exact λ _ _=>trivial
 ·intro P K I H _ _ B;simp [go_sem,H.f.g rfl s3,(b3.k0 H.k).cell];exact (B _ _ H.k rfl trivial)
 ·intro P K I H _ _ B;simp [go_sem,(gS K 10 (H.d 0 rfl rfl))];have hBi:=H.k.below0 O;refine (iWatchOk_c r p l ra b I hn hin (hs.below hBi) hnl hlp hpi (hsp.below hBi) hnb e hll (hsl.below hBi)).mono ?_;rintro x wx ⟨rfl,hb⟩;exact (B _ _ (H.k.call hb) rfl trivial)
 ·exact Ky 1 rfl rfl rfl rfl
 intro L a7 w8 S C J M R;replace T:=C.Z T;replace D:=C.E D;replace s3:=C.G s3;replace s4:=C.G s4;replace s5:=C.G s5;replace s6:=C.G s6;have s12:=gS a7 12 (M 2 _ rfl);replace b3:=b3.k0 J;replace b4:=b4.k0 J;replace b5:=b5.k0 J;replace b6:=b6.k0 J;replace V:=Nat.le_trans V J.size;replace O:=J.below0 O;clear C J M S R;refine Xk ?_;rcases Bool.eq_false_or_eq_true (!(watchB r p l)) with q9|q9
 ·refine wp_cond_true (ev (vb s12 q9)) ?_;refine wp_seq ?_;have F:XF [] (λ L aa I=>Yc I (w.heap.size+3) 36 [.int .i64 0,.int .i64 0] (L 1) (λ _ vs=>vs=[.int .i64 0,.int .i64 0])):=by
   intro L aa I w' kk vv hkk hb R;have x0:=R;exact (x0.bel hb (λ _ h=>h))
  refine Xt F [13,0,7] [some (.agg #[.int .i64 0,.int .i64 0]),none,some (.int .i64 3)] (Yb 3) [13,7] [(w.heap.size+3)] ?_ (e2 ?_ ?_ (en rfl ?_ .nil)) ?_
  ·exact λ _ h=>(⟨λ _=>b6.kp h (by simp),(λ h=>by cases h)⟩)
  ·intro P K I H _ _ B;simp [go_sem];exact (B _ _ H.k rfl H.x)
  ·intro P K I H _ _ B;have x0:=H.x;have U:=x0.1 H.n;simp [go_sem,(gS K 13 (H.d 0 rfl rfl)),H.f.g rfl s6,U.cell,U.frz];exact B undef _ (H.k.store (.inr (by simp)) [.int .i64 0,.int .i64 0] 0) trivial (Yc.set U (us:=[.int .i64 0,.int .i64 0]) rfl rfl)
  ·exact oACX rfl rfl λ _ _ _ _ h=>h
  intro L a10 w11 S C J M R;have x0:=R;replace T:=C.Z T;replace D:=C.E D;replace s6:=C.G s6;have s7:=gS a10 7 (M 2 _ rfl);clear b6;obtain ⟨_,b6,rfl⟩:=x0.2 (S 1 (by decide));replace V:=Nat.le_trans V J.size;replace O:=J.below O O.size (by simp<;>omega);clear C J M S x0 F s3 s4 s5 s12 b3 b4 b5;refine Xk (wp_ret (Km ?_));refine bodyPost_ret (v:=.tuple #[.agg #[.int .i64 0,.int .i64 0],.int .i64 3]) (by simp [results,Tryz.results21,go_sem,s6,b6.cell,s7]) D ?_;exact ⟨by rw [jdg_no (Jy q9)];rfl,O⟩
 ·refine wp_cond_false (ev (vb s12 q9)) ?_;refine wp_skip (Xk (wp_seq ?_));have F:XF [8] (λ L aa I=>(L 9=true->XS w8 aa I 8 49 [.int .i64 0,.int .i64 0,.int .i64 0,.int .i64 0] (L 10) (λ _ vs=>vs=[.int .i64 (((XH r p s).getD Xw).low.n),.int .i64 (((XH r p s).getD Xw).low.d),.int .i64 (((XH r p s).getD Xw).high.n),.int .i64 (((XH r p s).getD Xw).high.d)]))):=by
   intro L aa I w' kk vv hkk hb R;have x0:=R;exact (λ h=>((x0 h).bel hb (λ _ h=>h)).put (hkk 8 (by simp)) _)
  refine Xt F [15,16,17,18,19,20,14,21,22,8,0,9] [some (.pointer (some ⟨w.heap.size,0,none⟩)),some (X9 r ra),some (.pointer (some ⟨w.heap.size,8,none⟩)),some (.agg #[.slice b.A p.length b.c]),some (YQ s),some (.tuple #[Zm ((XH r p s).getD Xw),.bool ((XH r p s).isSome)]),some (.tuple #[Zm ((XH r p s).getD Xw),.bool ((XH r p s).isSome)]),some (Zm ((XH r p s).getD Xw)),some (.bool ((XH r p s).isSome)),none,none,some (.bool ((XH r p s).isSome))] (Yb 12) [15,16,17,18,19,20,14,21,22,8,9] [] ?_ (e4 ?_ ?_ ?_ ?_ (e4 ?_ ?_ ?_ ?_ (e4 ?_ ?_ ?_ ?_ .nil))) ?_
  ·exact λ _ h=>(λ h=>by cases h)
  ·intro P K I H _ _ B;simp [go_sem,H.f.g rfl s3];exact (B _ _ H.k rfl (F.q rfl H.x))
  ·intro P K I H _ _ B;simp [go_sem,(gS K 15 (H.d 0 rfl rfl)),(b3.k0 H.k).cell];exact (B _ _ H.k rfl (F.q rfl H.x))
  ·intro P K I H _ _ B;simp [go_sem,H.f.g rfl s3];exact (B _ _ H.k rfl (F.q rfl H.x))
  ·intro P K I H _ _ B;simp [go_sem,(gS K 17 (H.d 2 rfl rfl)),(b3.k0 H.k).cell];exact (B _ _ H.k rfl (F.q rfl H.x))
  ·intro P K I H _ _ B;simp [go_sem,H.f.g rfl s4,(b4.k0 H.k).cell];exact (B _ _ H.k rfl (F.q rfl H.x))
  ·intro P K I H _ _ B;simp [go_sem,(gS K 16 (H.d 1 rfl rfl)),(gS K 18 (H.d 3 rfl rfl)),(gS K 19 (H.d 4 rfl rfl))];have hBi:=H.k.below0 O;refine (iAdmAt_c r p s ra b I hn hin (hs.below hBi) hnl hlp hpi (hsp.below hBi) hnb hsi).mono ?_;rintro x wx ⟨rfl,hb⟩;exact (B _ _ (H.k.call hb) (JP _) (F.b rfl hb H.x))
  ·exact oMDX 5 rfl rfl rfl rfl λ _ _ _ _=>F.q rfl
  ·exact Je 6 rfl rfl rfl rfl rfl λ _ _ _ _=>F.q rfl
  ·exact Je 6 rfl rfl rfl rfl rfl λ _ _ _ _=>F.q rfl
  ·intro P K I H _ _ B;have x0:=H.x;simp [go_sem];exact B _ _ (H.k.alloc _) trivial (λ _=>by rw [show Yh P 9 10=false from H.t 10 rfl];exact XS.new (s:=8) (H.f.lt (by rw [T];decide)) H.k.size [.int .i64 0,.int .i64 0,.int .i64 0,.int .i64 0])
  ·intro P K I H _ _ B;have x0:=H.x;obtain ⟨g,eg,hg,y,_⟩:=x0 (H.r 9 rfl);have U:=y H.n;simp [go_sem,(gS K 21 (H.d 7 rfl rfl)),eg,U.cell,U.frz];exact B undef _ (H.k.store (.inl hg) [.int .i64 (((XH r p s).getD Xw).low.n),.int .i64 (((XH r p s).getD Xw).low.d),.int .i64 (((XH r p s).getD Xw).high.n),.int .i64 (((XH r p s).getD Xw).high.d)] 0) trivial (λ _=>XS.set eg hg U (us:=[.int .i64 (((XH r p s).getD Xw).low.n),.int .i64 (((XH r p s).getD Xw).low.d),.int .i64 (((XH r p s).getD Xw).high.n),.int .i64 (((XH r p s).getD Xw).high.d)]) rfl rfl)
  ·exact Kz 8 rfl rfl rfl rfl λ _ _ _ _=>F.q rfl
  intro L a12 w13 S C J M R;have x0:=R;replace T:=C.Z T;replace D:=C.E D;replace s5:=C.G s5;replace s6:=C.G s6;have s9:=gS a12 9 (M 11 _ rfl);replace b5:=b5.k0 J;replace b6:=b6.k0 J;obtain ⟨g14,s8,lg14,-,b14⟩:=x0 (S 9 (by decide));obtain ⟨_,b14,rfl⟩:=b14 (S 10 (by decide));have ug14:=b14.lt;have zw8:=V;have zw13:=J.size;replace V:=Nat.le_refl w13.heap.size;replace O:=J.below0 O;clear C J M S x0 F s3 s4 s12 b3 b4;refine Xk (wp_seq (wp_block (wp_seq ?_)));refine Xj [24,25,23] [some (.bool ((XH r p s).isSome)),some (.bool (!((XH r p s).isSome))),some (.bool (!((XH r p s).isSome)))] (Yb 3) [24,25,23] [] (λ _ _ _=>True) ?_ (e2 ?_ ?_ (en rfl ?_ .nil)) ?_
  ·exact λ _ _=>trivial
  ·exact Zz s9 rfl rfl rfl
  ·exact Ky 0 rfl rfl rfl rfl
  ·exact ZT 1 rfl rfl rfl rfl
  intro L a15 w16 S C J M R;replace T:=C.Z T;replace D:=C.E D;replace s5:=C.G s5;replace s6:=C.G s6;replace s8:=C.G s8;have s23:=gS a15 23 (M 2 _ rfl);replace b5:=b5.k0 J;replace b6:=b6.k0 J;replace b14:=b14.k0 J;replace V:=Nat.le_trans V J.size;replace O:=J.below0 O;clear C J M S R s9;refine Xk ?_;rcases Bool.eq_false_or_eq_true (!((XH r p s).isSome)) with q17|q17
  ·refine wp_cond_true (ev (vb s23 q17)) ?_;refine wp_seq ?_;have F:XF [] (λ L aa I=>Yc I (w.heap.size+3) 36 [.int .i64 0,.int .i64 0] (L 1) (λ _ vs=>vs=[.int .i64 0,.int .i64 0])):=by
    intro L aa I w' kk vv hkk hb R;have x0:=R;exact (x0.bel hb (λ _ h=>h))
   refine Xt F [26,0,7] [some (.agg #[.int .i64 0,.int .i64 0]),none,some (.int .i64 3)] (Yb 3) [26,7] [(w.heap.size+3)] ?_ (e2 ?_ ?_ (en rfl ?_ .nil)) ?_
   ·exact λ _ h=>(⟨λ _=>b6.kp h (by simp),(λ h=>by cases h)⟩)
   ·intro P K I H _ _ B;simp [go_sem];exact (B _ _ H.k rfl H.x)
   ·intro P K I H _ _ B;have x0:=H.x;have U:=x0.1 H.n;simp [go_sem,(gS K 26 (H.d 0 rfl rfl)),H.f.g rfl s6,U.cell,U.frz];exact B undef _ (H.k.store (.inr (by simp)) [.int .i64 0,.int .i64 0] 0) trivial (Yc.set U (us:=[.int .i64 0,.int .i64 0]) rfl rfl)
   ·exact oACX rfl rfl λ _ _ _ _ h=>h
   intro L a18 w19 S C J M R;have x0:=R;replace T:=C.Z T;replace D:=C.E D;replace s6:=C.G s6;have s7:=gS a18 7 (M 2 _ rfl);clear b6;obtain ⟨_,b6,rfl⟩:=x0.2 (S 1 (by decide));replace V:=Nat.le_trans V J.size;replace O:=J.below O O.size (by simp<;>omega);clear C J M S x0 F s5 s8 s23 b5 b14;refine Xk (wp_ret ?_);refine ib_r (Km ?_);refine bodyPost_ret (v:=.tuple #[.agg #[.int .i64 0,.int .i64 0],.int .i64 3]) (by simp [results,Tryz.results21,go_sem,s6,b6.cell,s7]) D ?_;exact ⟨by rw [jdg_out (YY q9) (Jy q17)];rfl,O⟩
  ·refine wp_cond_false (ev (vb s23 q17)) ?_;refine wp_seq ?_;refine Xj [28,29,30,27] [some (Zm ((XH r p s).getD Xw)),some (XO u),some (.bool (Ja ((XH r p s).getD Xw) u)),some (.bool (Ja ((XH r p s).getD Xw) u))] (Yb 4) [28,29,30,27] [] (λ _ _ _=>True) ?_ (e4 ?_ ?_ ?_ ?_ .nil) ?_
   ·exact λ _ _=>trivial
   ·intro P K I H _ _ B;simp [go_sem,H.f.g rfl s8,(b14.k0 H.k).cell];exact (B _ _ H.k rfl trivial)
   ·intro P K I H _ _ B;simp [go_sem,H.f.g rfl s5,(b5.k0 H.k).cell];exact (B _ _ H.k rfl trivial)
   ·intro P K I H _ _ B;simp [go_sem,(gS K 28 (H.d 0 rfl rfl)),(gS K 29 (H.d 1 rfl rfl))];refine (iInSpan_c ((XH r p s).getD Xw) u I (optIn (λ _ hv=>admAt_ok hv)) hui).mono ?_;rintro x wx ⟨rfl,hb⟩;exact (B _ _ (H.k.call hb) rfl trivial)
   ·exact ZT 2 rfl rfl rfl rfl
   intro L a20 w21 S C J M R;replace T:=C.Z T;replace D:=C.E D;replace s5:=C.G s5;replace s6:=C.G s6;replace s8:=C.G s8;have s27:=gS a20 27 (M 3 _ rfl);replace b5:=b5.k0 J;replace b6:=b6.k0 J;replace b14:=b14.k0 J;replace V:=Nat.le_trans V J.size;replace O:=J.below0 O;clear C J M S R s23;refine Xk ?_;rcases Bool.eq_false_or_eq_true (Ja ((XH r p s).getD Xw) u) with q22|q22
   ·refine wp_cond_true (ev (vb s27 q22)) ?_;refine wp_seq ?_;have F:XF [] (λ L aa I=>Yc I (w.heap.size+3) 36 [.int .i64 0,.int .i64 0] (L 1) (λ _ vs=>vs=[.int .i64 u.n,.int .i64 u.d])):=by
     intro L aa I w' kk vv hkk hb R;have x0:=R;exact (x0.bel hb (λ _ h=>h))
    refine Xt F [31,0,7] [some (XO u),none,some (.int .i64 1)] (Yb 3) [31,7] [(w.heap.size+3)] ?_ (e2 ?_ ?_ (en rfl ?_ .nil)) ?_
    ·exact λ _ h=>(⟨λ _=>b6.kp h (by simp),(λ h=>by cases h)⟩)
    ·intro P K I H _ _ B;simp [go_sem,H.f.g rfl s5,(b5.kp H.k (by simp<;>omega)).cell];exact (B _ _ H.k rfl H.x)
    ·intro P K I H _ _ B;have x0:=H.x;have U:=x0.1 H.n;simp [go_sem,(gS K 31 (H.d 0 rfl rfl)),H.f.g rfl s6,U.cell,U.frz];exact B undef _ (H.k.store (.inr (by simp)) [.int .i64 u.n,.int .i64 u.d] 0) trivial (Yc.set U (us:=[.int .i64 u.n,.int .i64 u.d]) rfl rfl)
    ·exact oACX rfl rfl λ _ _ _ _ h=>h
    intro L a23 w24 S C J M R;have x0:=R;replace T:=C.Z T;replace D:=C.E D;replace s6:=C.G s6;have s7:=gS a23 7 (M 2 _ rfl);clear b6;obtain ⟨_,b6,rfl⟩:=x0.2 (S 1 (by decide));replace V:=Nat.le_trans V J.size;replace O:=J.below O O.size (by simp<;>omega);clear C J M S x0 F s5 s8 s27 b5 b14;refine Xk (wp_ret ?_);refine ib_r (Km ?_);refine bodyPost_ret (v:=.tuple #[XO u,.int .i64 1]) (by simp [results,Tryz.results21,go_sem,s6,b6.cell,s7]) D ?_;exact ⟨by rw [jdg_in (YY q9) (YY q17),jdgS_in q22],O⟩
   ·refine wp_cond_false (ev (vb s27 q22)) ?_;refine wp_seq ?_;refine Xj [33,34,35,36,37,38,39,40,41,42,32] [some (XO u),some (.bool (Xe u)),some (.bool (!(Xe u))),some (.bool (!(Xe u))),some ((bif !(Xe u) then undef else (XO u:Value))),some ((bif !(Xe u) then undef else (.pointer (some ⟨g14,0,none⟩):Value))),some ((bif !(Xe u) then undef else (.agg #[.int .i64 (((XH r p s).getD Xw).low.n),.int .i64 (((XH r p s).getD Xw).low.d)]:Value))),some ((bif !(Xe u) then undef else (.int .i64 (Xu u (((XH r p s).getD Xw).low)):Value))),some ((bif !(Xe u) then undef else (.bool (decide (Xu u (((XH r p s).getD Xw).low)<0)):Value))),some (.bool (!(Xe u)||decide (Xu u (((XH r p s).getD Xw).low)<0))),some (.bool (!(Xe u)||decide (Xu u (((XH r p s).getD Xw).low)<0)))] (Yb 11) [33,34,35,36,37,38,39,40,41,42,32] [] (λ _ _ _=>True) ?_ (e4 ?_ ?_ ?_ ?_ (eg ?_ (eg ?_ (eg ?_ (eg ?_ (eg ?_ (e2 ?_ ?_ .nil))))))) ?_
    ·exact λ _ _=>trivial
    ·intro P K I H _ _ B;simp [go_sem,H.f.g rfl s5,(b5.k0 H.k).cell];exact (B _ _ H.k rfl trivial)
    ·intro P K I H _ _ B;simp [go_sem,(gS K 33 (H.d 0 rfl rfl))];refine (Z3 u I hui).mono ?_;rintro x wx ⟨rfl,hb⟩;exact (B _ _ (H.k.call hb) rfl trivial)
    ·exact Ky 1 rfl rfl rfl rfl
    ·exact YA 2 rfl rfl rfl rfl
    ·intro P K I H _ _ B;refine wgf rfl rfl rfl (H.d 3 rfl rfl) (λ qg=>B _ _ H.k (Xr qg).symm trivial) λ qg=>?_;simp [go_sem,H.f.g rfl s5,(b5.k0 H.k).cell];exact (B _ _ H.k (XC qg).symm trivial)
    ·intro P K I H _ _ B;refine wgf rfl rfl rfl (H.d 3 rfl rfl) (λ qg=>B _ _ H.k (Xr qg).symm trivial) λ qg=>?_;simp [go_sem,H.f.g rfl s8];exact (B _ _ H.k (XC qg).symm trivial)
    ·intro P K I H _ _ B;refine wgf rfl rfl rfl (H.d 3 rfl rfl) (λ qg=>B _ _ H.k (Xr qg).symm trivial) λ qg=>?_;simp [go_sem,(show K.tmps[38]?.getD undef=_ from (H.d 5 rfl rfl).trans (XC qg)),(b14.k0 H.k).cell];exact (B _ _ H.k (XC qg).symm trivial)
    ·intro P K I H _ _ B;refine wgf rfl rfl rfl (H.d 3 rfl rfl) (λ qg=>B _ _ H.k (Xr qg).symm trivial) λ qg=>?_;simp [go_sem,(show K.tmps[37]?.getD undef=_ from (H.d 4 rfl rfl).trans (XC qg)),(show K.tmps[39]?.getD undef=_ from (H.d 6 rfl rfl).trans (XC qg))];refine (Z8 u (((XH r p s).getD Xw).low) I hui (optIn (λ _ hv=>admAt_ok hv)).1).mono ?_;rintro x wx ⟨rfl,hb⟩;exact (B _ _ (H.k.call hb) (XC qg).symm trivial)
    ·intro P K I H _ _ B;refine wgf rfl rfl rfl (H.d 3 rfl rfl) (λ qg=>B _ _ H.k (Xr qg).symm trivial) λ qg=>?_;exact X8 rfl (ev ((H.d 7 rfl rfl).trans (XC qg))) rfl rfl rfl (B _ _ H.k (XC qg).symm trivial)
    ·exact oPOT 3 8 rfl rfl rfl rfl rfl rfl
    ·exact ZT 9 rfl rfl rfl rfl
    intro L a25 w26 S C J M R;replace T:=C.Z T;replace D:=C.E D;replace s6:=C.G s6;replace s8:=C.G s8;have s32:=gS a25 32 (M 10 _ rfl);replace b6:=b6.k0 J;replace b14:=b14.k0 J;replace V:=Nat.le_trans V J.size;replace O:=J.below0 O;clear C J M S R s5 s27 b5;refine Xk ?_;rcases Bool.eq_false_or_eq_true (!(Xe u)||decide (Xu u (((XH r p s).getD Xw).low)<0)) with q27|q27
    ·refine wp_cond_true (ev (vb s32 q27)) ?_;refine wp_seq ?_;have F:XF [] (λ L aa I=>Yc I (w.heap.size+3) 36 [.int .i64 0,.int .i64 0] (L 2) (λ _ vs=>vs=[.int .i64 (((XH r p s).getD Xw).low.n),.int .i64 (((XH r p s).getD Xw).low.d)])):=by
      intro L aa I w' kk vv hkk hb R;have x0:=R;exact (x0.bel hb (λ _ h=>h))
     refine Xt F [43,44,0,7] [some (.pointer (some ⟨g14,0,none⟩)),some (.agg #[.int .i64 (((XH r p s).getD Xw).low.n),.int .i64 (((XH r p s).getD Xw).low.d)]),none,some (.int .i64 2)] (Yb 4) [43,44,7] [(w.heap.size+3)] ?_ (e4 ?_ ?_ ?_ ?_ .nil) ?_
     ·exact λ _ h=>(⟨λ _=>b6.kp h (by simp),(λ h=>by cases h)⟩)
     ·intro P K I H _ _ B;simp [go_sem,H.f.g rfl s8];exact (B _ _ H.k rfl H.x)
     ·intro P K I H _ _ B;simp [go_sem,(gS K 43 (H.d 0 rfl rfl)),(b14.kp H.k (by simp<;>omega)).cell];exact (B _ _ H.k rfl H.x)
     ·intro P K I H _ _ B;have x0:=H.x;have U:=x0.1 H.n;simp [go_sem,(gS K 44 (H.d 1 rfl rfl)),H.f.g rfl s6,U.cell,U.frz];exact B undef _ (H.k.store (.inr (by simp)) [.int .i64 (((XH r p s).getD Xw).low.n),.int .i64 (((XH r p s).getD Xw).low.d)] 0) trivial (Yc.set U (us:=[.int .i64 (((XH r p s).getD Xw).low.n),.int .i64 (((XH r p s).getD Xw).low.d)]) rfl rfl)
     ·exact oACX rfl rfl λ _ _ _ _ h=>h
     intro L a28 w29 S C J M R;have x0:=R;replace T:=C.Z T;replace D:=C.E D;replace s6:=C.G s6;have s7:=gS a28 7 (M 3 _ rfl);clear b6;obtain ⟨_,b6,rfl⟩:=x0.2 (S 2 (by decide));replace V:=Nat.le_trans V J.size;replace O:=J.below O O.size (by simp<;>omega);clear C J M S x0 F s8 s32 b14;refine Xk (wp_ret ?_);refine ib_r (Km ?_);refine bodyPost_ret (v:=.tuple #[.agg #[.int .i64 (((XH r p s).getD Xw).low.n),.int .i64 (((XH r p s).getD Xw).low.d)],.int .i64 2]) (by simp [results,Tryz.results21,go_sem,s6,b6.cell,s7]) D ?_;exact ⟨by rw [jdg_in (YY q9) (YY q17),jdgS_low q22 q27],O⟩
    ·refine wp_cond_false (ev (vb s32 q27)) ?_;refine wp_skip ?_;refine ib_n (Xk (wp_seq ?_));have F:XF [] (λ L aa I=>Yc I (w.heap.size+3) 36 [.int .i64 0,.int .i64 0] (L 2) (λ _ vs=>vs=[.int .i64 (((XH r p s).getD Xw).high.n),.int .i64 (((XH r p s).getD Xw).high.d)])):=by
      intro L aa I w' kk vv hkk hb R;have x0:=R;exact (x0.bel hb (λ _ h=>h))
     refine Xt F [45,46,0,7] [some (.pointer (some ⟨g14,2,none⟩)),some (.agg #[.int .i64 (((XH r p s).getD Xw).high.n),.int .i64 (((XH r p s).getD Xw).high.d)]),none,some (.int .i64 2)] (Yb 4) [45,46,7] [(w.heap.size+3)] ?_ (e4 ?_ ?_ ?_ ?_ .nil) ?_
     ·exact λ _ h=>(⟨λ _=>b6.kp h (by simp),(λ h=>by cases h)⟩)
     ·intro P K I H _ _ B;simp [go_sem,H.f.g rfl s8];exact (B _ _ H.k rfl H.x)
     ·intro P K I H _ _ B;simp [go_sem,(gS K 45 (H.d 0 rfl rfl)),(b14.kp H.k (by simp<;>omega)).cell];exact (B _ _ H.k rfl H.x)
     ·intro P K I H _ _ B;have x0:=H.x;have U:=x0.1 H.n;simp [go_sem,(gS K 46 (H.d 1 rfl rfl)),H.f.g rfl s6,U.cell,U.frz];exact B undef _ (H.k.store (.inr (by simp)) [.int .i64 (((XH r p s).getD Xw).high.n),.int .i64 (((XH r p s).getD Xw).high.d)] 0) trivial (Yc.set U (us:=[.int .i64 (((XH r p s).getD Xw).high.n),.int .i64 (((XH r p s).getD Xw).high.d)]) rfl rfl)
     ·exact oACX rfl rfl λ _ _ _ _ h=>h
     intro L a30 w31 S C J M R;have x0:=R;replace T:=C.Z T;replace D:=C.E D;replace s6:=C.G s6;have s7:=gS a30 7 (M 3 _ rfl);clear b6;obtain ⟨_,b6,rfl⟩:=x0.2 (S 2 (by decide));replace V:=Nat.le_trans V J.size;replace O:=J.below O O.size (by simp<;>omega);clear C J M S x0 F s8 s32 b14;refine Xk (wp_ret ?_);refine bodyPost_ret (v:=.tuple #[.agg #[.int .i64 (((XH r p s).getD Xw).high.n),.int .i64 (((XH r p s).getD Xw).high.d)],.int .i64 2]) (by simp [results,Tryz.results21,go_sem,s6,b6.cell,s7]) D ?_;exact ⟨by rw [jdg_in (YY q9) (YY q17),jdgS_high q22 q27],O⟩
end Go.Proofs.YtabfdkpdppemaaaGreat
