/-
 The region from which an input leads into a region, whether a region is kept, whether a watch is valid: of the reference.
 Conditions: the slices hold at most 2^20 elements.
-/
import Derived.Test.YtbekjpkcicjcgaaGreatGrowS
import Derived.Test.YtbekjpkcicjcgaaGreatGrXb
set_option maxHeartbeats 3000000
set_option maxRecDepth 100000
namespace Go.Proofs.YtbekjpkcicjcgaaGreat
open Go.RowKit
theorem rp_eq {r:XU} {p:List Half} (hr:XM r=true) (hp:Xb p=true):Jn r p=Yv (YG r.noise) p/\Kb r p=X1 r p:=by
 unfold Jn Kb X1;rw [hr,hp,if_pos ⟨rfl,rfl⟩];exact ⟨rfl,rfl⟩
theorem sRobE_c (r:XU) (p:List Half) (a:Yn) (b:Zi) (w:World) (hr:XM r=true) (hp:Xb p=true) (hn:Xy r<=1048576) (hin:Zh r) (hs:Ym w r a) (hnl:YJ a) (hlp:p.length<=1048576) (hpi:∀ h∈p,h.In) (hsp:Sl 3 Xd w b.A p) (hnb:b.A=none->b.c=0) :
 Calls Tryz.prog 153 #[Ya r a,Yi p b] w λ e w'=>∃ v,e=.returned (.tuple #[.agg #[v],Bv (Yv (YG r.noise) p)])/\XI 136 3 Xd w' w.heap.size v (X1 r p)/\Below w.heap.size w w':=by
 have h:=sRob_c r p a b w hn hin hs hnl hlp hpi hsp hnb;rw [(rp_eq hr hp).1,(rp_eq hr hp).2] at h;exact h
theorem preS_no1 {r:XU} {p:List Half} (h:Yv (YG r.noise) p=false):ZC r p=false/\YX r p=[]:=pre_no1 (by rw [h];rfl)
theorem preS_no2 {r:XU} {p:List Half} (h:gaOk r.bx r.by_ r.low r.high (X1 r p)=false):ZC r p=false/\YX r p=[]:=by
 unfold gaOk at h;rcases Bool.eq_false_or_eq_true (decide ((X1 r p).length<=38)) with h1|h1
 ·rw [h1,Bool.true_and] at h;exact pre_no2 h
 ·exact pre_no1 (by
   have:=of_decide_eq_false h1;rw [decide_eq_true (show (((X1 r p).length:Nat):Int) > 38 by omega),Bool.or_true])
theorem preS_yes {r:XU} {p:List Half} (h1:Yv (YG r.noise) p=true) (h2:gaOk r.bx r.by_ r.low r.high (X1 r p)=true):ZC r p=Yv (XL r.map r.div) (ZS r p)/\YX r p=YR (XL r.map r.div) (ZS r p):=by
 unfold gaOk at h2;refine pre_yes ?_ (and_t2 h2);unfold preA;rw [h1,Jr h2];rfl
theorem ga_eq {r:XU} {p:List Half} (h2:gaOk r.bx r.by_ r.low r.high (X1 r p)=true):JO r.bx r.by_ r.low r.high (X1 r p)=ZS r p:=(ga_yes (of_decide_eq_true (Jr h2))).2
theorem gaR_ok {bx by_ lo hi:Int} {p:List Half} (hp:Xb p=true):Xb (JO bx by_ lo hi p)=true:=by
 unfold JO;split
 ·exact grwR_ok hp
 ·rfl
theorem room_map {r:XU} (h:XM r=true):YC r.map r.div=true:=by
 simp only [XM,Kl,Bool.and_eq_true] at h;exact h.1.1.1.1.1.1.1.1
theorem room_det {r:XU} (h:XM r=true):r.map.getD 0 0*r.map.getD 3 0-r.map.getD 1 0*r.map.getD 2 0≠0:=by
 simp only [XM,Kl,Bool.and_eq_true] at h;have h2:=h.1.1.1.1.1.1.1.2;unfold det at h2;simpa using h2
theorem kept_void {r:XU} {p:List Half} (h:(!(XM r) || !(Xb p&&Xb r.limits&&Yx p r.limits))=false) (hv:p.length=0):Ko r p=true:=by
 have h1:=Yu (KU h);have h2:=Yu (J6 h);have h3:=and_t2 h2;have h4:=Jr (Jr h2);have hp:p=[]:=List.eq_nil_of_length_eq_zero hv;unfold Ko;rw [h1,h4,h3,within_void hv];subst hp;have e0:X1 r []=[]:=(Jo rfl).2;have e1:=grow_triv (p:=[]) (bx:=r.bx) (by_:=r.by_) (lo:=r.low) (hi:=r.high) rfl;have e2:ZS r []=[]:=by unfold ZS;rw [e0];exact e1.2
 unfold ZC preA;rw [e0,e1.1,e2,(Jo rfl).1,(Jo rfl).1];rfl
theorem kept_no {r:XU} {p:List Half} (h:(!(XM r) || !(Xb p&&Xb r.limits&&Yx p r.limits))=true):Ko r p=false:=by
 unfold Ko;rcases Bool.eq_false_or_eq_true (XM r) with h1|h1
 ·rw [h1,(roomR h1).limits,Bool.and_true] at h;rcases Bool.eq_false_or_eq_true (Xb p) with h2|h2
  ·rw [h2] at h;rcases Bool.eq_false_or_eq_true (Yx p r.limits) with h3|h3
   ·rw [h3] at h;cases h
   ·rw [h1,h2,h3];rfl
  ·rw [h1,h2];rfl
 ·rw [h1];rfl
theorem kept_yes {r:XU} {p:List Half} (h:(!(XM r) || !(Xb p&&Xb r.limits&&Yx p r.limits))=false):Ko r p=(ZC r p&&Yx p (YX r p)):=by
 have h2:=Yu (J6 h);unfold Ko;rw [Yu (KU h),Jr (Jr h2),and_t2 h2];rfl
theorem kept_rp {r:XU} {p:List Half} (h:(!(XM r) || !(Xb p&&Xb r.limits&&Yx p r.limits))=false):XM r=true/\Xb p=true:=⟨Yu (KU h),Jr (Jr (Yu (J6 h)))⟩
theorem watch_no {r:XU} {p:List Half} {l:List Int} (h:(decide (p.length=0) || !(Ko r p)||decide ((l.length:Int) > 40))=true):Kw r p l=false:=by
 unfold Kw;rcases Bool.eq_false_or_eq_true (decide (p.length=0)) with h1|h1
 ·rw [h1];simp
 ·rcases Bool.eq_false_or_eq_true (Ko r p) with h2|h2
  ·rw [h1,h2] at h;have:decide ((l.length:Int) > 40)=true:=by simpa using h
   rw [this];rfl
  ·rw [h2];simp
theorem watch_yes {r:XU} {p:List Half} {l:List Int} (h:(decide (p.length=0) || !(Ko r p)||decide ((l.length:Int) > 40))=false):Kw r p l=logB l:=by
 unfold Kw;rw [J6 h,KU (KU h),Yu (J6 (KU h))];cases logB l<;>rfl
theorem sPre_c (r:XU) (p:List Half) (ra:Yn) (b:Zi) (w:World) (hn:Xy r<=1048576) (hin:Zh r) (hs:Ym w r ra) (hnl:YJ ra) (hlp:p.length<=1048576) (hpi:∀ h∈p,h.In) (hsp:Sl 3 Xd w b.A p) (hnb:b.A=none->b.c=0) (hr:XM r=true) (hp:Xb p=true) :
 Calls Tryz.prog 174 #[Ya r ra,.agg #[Sv b.A p.length b.c]] w λ x w'=>∃ v,x=.returned (.tuple #[.agg #[v],Bv (ZC r p)])/\XI 136 3 Xd w' w.heap.size v (YX r p)/\Below w.heap.size w w':=by
 have hmap:YC r.map r.div=true:=room_map hr;have Za:=room_det hr;refine YN Tryz.func174 rfl (n:=43) Tryz.ntmps174 Sz ?_;intro a0 R D ha;have s0:a0.tmps[0]?.getD undef=Ya r ra:=ha 0 _ rfl;have s1:a0.tmps[1]?.getD undef=.agg #[Sv b.A p.length b.c]:=ha 1 _ rfl;clear ha;have P:=Below.refl w.heap.size w;have S:=Nat.le_refl w.heap.size;refine wp_seq ?_;refine Yt [2,3,4,5] [Pz w.heap.size,Pz (w.heap.size+1),Pz (w.heap.size+2),Bf] [some (.cells (Jv r ra).toArray 28),some (.cells [Sv b.A p.length b.c].toArray 26),some (.cells [Nz].toArray 26),none] [0,1,2,3] [2,3,4,5] [0,1,2,3] (by kernel_rfl) (by rw [R];decide) (ec ?_ (ec ?_ (ec ?_ (ec ?_ .nil)))) ?_
 ·intro a w' F hs N Q B;simp [go_sem,F.g rfl s0];rw [hs];exact B
 ·intro a w' F hs N Q B;simp [go_sem,F.g rfl s1];rw [hs];exact B
 ·intro a w' F hs N Q B;simp [go_sem];rw [hs];exact B
 ·intro a w' F hs N Q B;simp [go_sem];exact B
 intro a1 w2 F O hb hO;replace R:=F.size.trans R;replace D:=F.defers.trans D;have s2:a1.tmps[2]?.getD undef=Pz w.heap.size:=O 0 Dz;have s3:a1.tmps[3]?.getD undef=Pz (w.heap.size+1):=O 1 Dz;have s4:a1.tmps[4]?.getD undef=Pz (w.heap.size+2):=O 2 Dz;have b3:Xz w2 w.heap.size 28 (Jv r ra):=hO 0 _ rfl;have b4:Xz w2 (w.heap.size+1) 26 [Sv b.A p.length b.c]:=hO 1 _ rfl;have b5:Xz w2 (w.heap.size+2) 26 [Nz]:=hO 2 _ rfl;have hG:=b5.lt;replace P:=Xe P hb;have zw2:=Nat.le_trans S hb.size;replace S:=Nat.le_refl w2.heap.size;clear F O hb hO s0 s1;refine Xk (wp_seq ?_);have hX0:=Xf.e 13 2 (λ C v=>∃ A1 c1,v=.tuple #[.agg #[Sv A1 ((X1 r p).length) c1],Bv (Yv (YG r.noise) p)]/\XI 136 3 Xd C w2.heap.size (Sv A1 (X1 r p).length c1) (X1 r p)) (λ hb _ h=>by obtain ⟨A1',c1',e,f1'⟩:=h;exact ⟨A1',c1',e,f1'.below hb XE⟩);have hX1:=Xf.e 10 3 (λ C v=>∃ A1 c1,v=.tuple #[.agg #[Sv A1 ((X1 r p).length) c1],Bv (Yv (YG r.noise) p)]/\XI 136 3 Xd C w2.heap.size (Sv A1 (X1 r p).length c1) (X1 r p)) (λ hb _ h=>by obtain ⟨A1',c1',e,f1'⟩:=h;exact ⟨A1',c1',e,f1'.below hb XE⟩);have hX2:=Xf.e 14 4 (λ C v=>∃ A1 c1,v=.agg #[Sv A1 ((X1 r p).length) c1]/\XI 136 3 Xd C w2.heap.size (Sv A1 (X1 r p).length c1) (X1 r p)) (λ hb _ h=>by obtain ⟨A1',c1',e,f1'⟩:=h;exact ⟨A1',c1',e,f1'.below hb XE⟩);have hX3:=Xf.x 6 6 7 w2 26 [Nz] (λ C vs=>∃ A1 c1,vs=[Sv A1 ((X1 r p).length) c1]/\XI 136 3 Xd C w2.heap.size (Sv A1 (X1 r p).length c1) (X1 r p)) (λ hb _ h=>by obtain ⟨A1',c1',e,f1'⟩:=h;exact ⟨A1',c1',e,f1'.below hb XE⟩);have K:=hX0.a (hX1.a (hX2.a hX3));refine Xr K [11,12,13,10,14,15,6,0,7] [some (Ya r ra),some (.agg #[Sv b.A p.length b.c]),none,none,none,some (Bv (Yv (YG r.noise) p)),none,none,some (Bv (Yv (YG r.noise) p))] (Yc 9) [11,12,13,10,14,15,6,7] [] ?_ (e4 ?_ ?_ ?_ ?_ (e4 ?_ ?_ ?_ ?_ (en rfl ?_ .nil))) ?_
 ·exact λ _ h=>⟨Cz,Cz,Cz,Cz⟩
 ·intro M I C H _ _ B;simp [go_sem,H.f.g rfl s2,(b3.k0 H.k).cell];exact (B _ _ H.k rfl (K.q rfl H.x))
 ·intro M I C H _ _ B;simp [go_sem,H.f.g rfl s3,(b4.k0 H.k).cell];exact (B _ _ H.k rfl (K.q rfl H.x))
 ·intro M I C H _ _ B;obtain ⟨x0,x1,x2,x3⟩:=H.x;simp [go_sem,(gS I 11 (H.d 0 rfl rfl)),(gS I 12 (H.d 1 rfl rfl))];have hBi:=H.k.below0 P;refine (sRobE_c r p ra b C hr hp hn hin (hs.below hBi) hnl hlp hpi (hsp.below hBi) hnb).mono ?_;rintro x wx ⟨_,rfl,⟨A1,c1,rfl,f0⟩,hb⟩;have f1:=XI.mono (show XI 136 3 Xd wx C.heap.size (Sv A1 (X1 r p).length c1) (X1 r p) from ⟨_,_,rfl,f0⟩) H.k.size;exact (B _ _ (H.k.call hb) trivial ⟨(λ _=>⟨A1,c1,H.f.s R,f1⟩),(hX1.b rfl hb x1),(hX2.b rfl hb x2),(hX3.b rfl hb x3)⟩)
 ·intro M I C H _ _ B;obtain ⟨x0,x1,x2,x3⟩:=H.x;obtain ⟨A1,c1,ee2,f1⟩:=x0 (H.r 2 rfl);exact XR rfl (ev ee2) (B _ _ H.k trivial ⟨(hX0.q rfl x0),(λ _=>⟨A1,c1,H.f.s R,f1⟩),(hX2.q rfl x2),(hX3.q rfl x3)⟩)
 ·intro M I C H _ _ B;obtain ⟨x0,x1,x2,x3⟩:=H.x;obtain ⟨A1,c1,ee3,f1⟩:=x1 (H.r 3 rfl);exact XP rfl (ev ee3) rfl (B _ _ H.k trivial ⟨(hX0.q rfl x0),(hX1.q rfl x1),(λ _=>⟨A1,c1,H.f.s R,f1⟩),(hX3.q rfl x3)⟩)
 ·intro M I C H _ _ B;obtain ⟨x0,x1,x2,x3⟩:=H.x;obtain ⟨A1,c1,ee3,f1⟩:=x1 (H.r 3 rfl);exact XP rfl (ev ee3) rfl (B _ _ H.k rfl (K.q rfl H.x))
 ·intro M I C H _ _ B;obtain ⟨x0,x1,x2,x3⟩:=H.x;simp [go_sem];exact B _ _ (H.k.alloc _) trivial ⟨(hX0.b rfl (Xc bR _) x0),(hX1.b rfl (Xc bR _) x1),(hX2.b rfl (Xc bR _) x2),(λ _=>by rw [show ZV M 6 7=false from H.t 7 rfl];exact Yg.new (s:=6) (H.f.lt (by rw [R];decide)) H.k.size [Nz])⟩
 ·intro M I C H _ _ B;obtain ⟨x0,x1,x2,x3⟩:=H.x;obtain ⟨A1,c1,ee4,f1⟩:=x2 (H.r 4 rfl);obtain ⟨g,eg,hg,y,_⟩:=x3 (H.r 6 rfl);have V:=y H.n;simp [go_sem,ee4,eg,V.cell,V.frz];have f1:=f1.otherC (f1.typ V Dz) [Sv A1 ((X1 r p).length) c1] 0;exact B undef _ (H.k.store (.inl hg) [Sv A1 ((X1 r p).length) c1] 0) trivial ⟨(λ h=>by obtain ⟨A1',c1',e,f1'⟩:=x0 h;exact ⟨A1',c1',e,f1'.otherC (f1'.typ V Dz) [Sv A1 ((X1 r p).length) c1] 0⟩),(λ h=>by obtain ⟨A1',c1',e,f1'⟩:=x1 h;exact ⟨A1',c1',e,f1'.otherC (f1'.typ V Dz) [Sv A1 ((X1 r p).length) c1] 0⟩),(λ h=>by obtain ⟨A1',c1',e,f1'⟩:=x2 h;exact ⟨A1',c1',e,f1'.otherC (f1'.typ V Dz) [Sv A1 ((X1 r p).length) c1] 0⟩),(λ _=>Yg.set eg hg V (us:=[Sv A1 ((X1 r p).length) c1]) rfl ⟨A1,c1,rfl,f1⟩)⟩
 ·exact KW 5 rfl rfl rfl rfl λ _ _ _ _=>K.q rfl
 intro L a6 w7 T F J O U;obtain ⟨x0,x1,x2,x3⟩:=U;replace R:=F.Z R;replace D:=F.E D;obtain ⟨s2,s4⟩:=F.G2 s2 s4;have s7:=gS a6 7 (O 8 _ rfl);replace b3:=b3.k0 J;replace b5:=b5.k0 J;obtain ⟨g8,s6,lg8,-,b8⟩:=x3 (T 6 Dz);obtain ⟨_,b8,A1,c1,rfl,N1⟩:=b8 (T 7 Dz);have i1:∀ p,A1=some p->p.block<w7.heap.size:=λ p hp=>(N1.blk p hp).2;have ug8:=b8.lt;have zw7:=J.size;replace S:=Nat.le_refl w7.heap.size;replace P:=J.below0 P;clear F J O T x0 x1 x2 x3 K hX0 hX1 hX2 hX3 s3 b4;refine Xk (wp_seq (wp_seq ?_));refine Xj [16,17] [some (Bv (Yv (YG r.noise) p)),some (Bv (!(Yv (YG r.noise) p)))] (Yc 2) [16,17] [] (λ _ _ _=>True) ?_ (e2 ?_ ?_ .nil) ?_
 ·exact λ _ _=>trivial
 ·exact Z1 s7 rfl rfl rfl
 ·exact Jc 0 rfl rfl rfl rfl
 intro L a9 w10 T F J O U;replace R:=F.Z R;replace D:=F.E D;obtain ⟨s2,s4,s6⟩:=F.G3 s2 s4 s6;have s17:=gS a9 17 (O 1 _ rfl);replace b3:=b3.k0 J;replace b5:=b5.k0 J;replace b8:=b8.k0 J;replace N1:=N1.below J.toBelow XE;replace S:=Nat.le_trans S J.size;replace P:=J.below0 P;clear F J O T U s7;refine Xk ?_;rcases Bool.eq_false_or_eq_true (!(Yv (YG r.noise) p)) with q11|q11
 ·refine wp_cond_true (ev (vb s17 q11)) ?_;refine wp_seq ?_;have K:Xf [] (λ L aa C=>X6 C (w.heap.size+2) 26 [Nz] (L 1) (λ _ vs=>vs=[Nz])):=λ L aa C w' kk vv hkk hb x0=>(x0.bel hb (λ _ h=>h));refine Xr K [18,0,5] [some (.agg #[Nz]),none,some Bf] (Yc 3) [18,5] [(w.heap.size+2)] ?_ (e2 ?_ ?_ (en rfl ?_ .nil)) ?_
  ·exact λ _ h=>(⟨λ _=>b5.kp h Sz,Cz⟩)
  ·intro M I C H _ _ B;simp [go_sem];exact (B _ _ H.k rfl H.x)
  ·intro M I C H _ _ B;have x0:=H.x;have V:=x0.1 H.n;simp [go_sem,(gS I 18 (H.d 0 rfl rfl)),H.f.g rfl s4,V.cell,V.frz];exact B undef _ (H.k.store (.inr Sz) [Nz] 0) trivial (X6.set V (us:=[Nz]) rfl rfl)
  ·exact KQ rfl rfl λ _ _ _ _ h=>h
  intro L a12 w13 T F J O U;have x0:=U;replace R:=F.Z R;replace D:=F.E D;replace s4:=F.G s4;have s5:=gS a12 5 (O 2 _ rfl);clear b5;obtain ⟨_,b5,rfl⟩:=x0.2 (T 1 Dz);replace S:=Nat.le_trans S J.size;replace P:=J.below P P.size (by simp<;>omega);clear F J O T x0 K s2 s6 s17 b3 b8 N1 i1;refine Xk (wp_ret (Y6 ?_));refine bodyPost_ret (v:=.tuple #[.agg #[Nz],Bf]) (by simp [results,Tryz.results174,go_sem,s4,b5.cell,s5]) D ?_;have h0:=preS_no1 (r:=r) (p:=p) (Jw q11);exact ⟨_,by rw [h0.1],by rw [h0.2];exact XI.nilN _ _ _ _ _,P⟩
 ·refine wp_cond_false (ev (vb s17 q11)) ?_;refine wp_skip (Xk (wp_seq ?_));have hX0:=Xf.e 29 9 (λ C v=>∃ A2 c2,v=.tuple #[.agg #[Sv A2 ((JO r.bx r.by_ r.low r.high (X1 r p)).length) c2],Bv (gaOk r.bx r.by_ r.low r.high (X1 r p))]/\XI 136 3 Xd C w10.heap.size (Sv A2 (JO r.bx r.by_ r.low r.high (X1 r p)).length c2) (JO r.bx r.by_ r.low r.high (X1 r p))) (λ hb _ h=>by obtain ⟨A2',c2',e,f2'⟩:=h;exact ⟨A2',c2',e,f2'.below hb XE⟩);have hX1:=Xf.e 19 10 (λ C v=>∃ A2 c2,v=.tuple #[.agg #[Sv A2 ((JO r.bx r.by_ r.low r.high (X1 r p)).length) c2],Bv (gaOk r.bx r.by_ r.low r.high (X1 r p))]/\XI 136 3 Xd C w10.heap.size (Sv A2 (JO r.bx r.by_ r.low r.high (X1 r p)).length c2) (JO r.bx r.by_ r.low r.high (X1 r p))) (λ hb _ h=>by obtain ⟨A2',c2',e,f2'⟩:=h;exact ⟨A2',c2',e,f2'.below hb XE⟩);have hX2:=Xf.e 30 11 (λ C v=>∃ A2 c2,v=.agg #[Sv A2 ((JO r.bx r.by_ r.low r.high (X1 r p)).length) c2]/\XI 136 3 Xd C w10.heap.size (Sv A2 (JO r.bx r.by_ r.low r.high (X1 r p)).length c2) (JO r.bx r.by_ r.low r.high (X1 r p))) (λ hb _ h=>by obtain ⟨A2',c2',e,f2'⟩:=h;exact ⟨A2',c2',e,f2'.below hb XE⟩);have hX3:=Xf.x 8 13 14 w10 26 [Nz] (λ C vs=>∃ A2 c2,vs=[Sv A2 ((JO r.bx r.by_ r.low r.high (X1 r p)).length) c2]/\XI 136 3 Xd C w10.heap.size (Sv A2 (JO r.bx r.by_ r.low r.high (X1 r p)).length c2) (JO r.bx r.by_ r.low r.high (X1 r p))) (λ hb _ h=>by obtain ⟨A2',c2',e,f2'⟩:=h;exact ⟨A2',c2',e,f2'.below hb XE⟩);have K:=hX0.a (hX1.a (hX2.a hX3));refine Xr K [20,21,22,23,24,25,26,27,28,29,19,30,31,8,0,9] [some (.agg #[Sv A1 ((X1 r p).length) c1]),some (.pointer (some ⟨w.heap.size,2,none⟩)),some (Vi r.bx),some (.pointer (some ⟨w.heap.size,3,none⟩)),some (Vi r.by_),some (.pointer (some ⟨w.heap.size,4,none⟩)),some (Vi r.low),some (.pointer (some ⟨w.heap.size,5,none⟩)),some (Vi r.high),none,none,none,some (Bv (gaOk r.bx r.by_ r.low r.high (X1 r p))),none,none,some (Bv (gaOk r.bx r.by_ r.low r.high (X1 r p)))] (Yc 16) [20,21,22,23,24,25,26,27,28,29,19,30,31,8,9] [] ?_ (e4 ?_ ?_ ?_ ?_ (e4 ?_ ?_ ?_ ?_ (e4 ?_ ?_ ?_ ?_ (e4 ?_ ?_ ?_ ?_ .nil)))) ?_
  ·exact λ _ h=>⟨Cz,Cz,Cz,Cz⟩
  ·intro M I C H _ _ B;simp [go_sem,H.f.g rfl s6,(b8.k0 H.k).cell];exact (B _ _ H.k rfl (K.q rfl H.x))
  ·intro M I C H _ _ B;simp [go_sem,H.f.g rfl s2];exact (B _ _ H.k rfl (K.q rfl H.x))
  ·intro M I C H _ _ B;simp [go_sem,(gS I 21 (H.d 1 rfl rfl)),(b3.k0 H.k).cell];exact (B _ _ H.k rfl (K.q rfl H.x))
  ·intro M I C H _ _ B;simp [go_sem,H.f.g rfl s2];exact (B _ _ H.k rfl (K.q rfl H.x))
  ·intro M I C H _ _ B;simp [go_sem,(gS I 23 (H.d 3 rfl rfl)),(b3.k0 H.k).cell];exact (B _ _ H.k rfl (K.q rfl H.x))
  ·intro M I C H _ _ B;simp [go_sem,H.f.g rfl s2];exact (B _ _ H.k rfl (K.q rfl H.x))
  ·intro M I C H _ _ B;simp [go_sem,(gS I 25 (H.d 5 rfl rfl)),(b3.k0 H.k).cell];exact (B _ _ H.k rfl (K.q rfl H.x))
  ·intro M I C H _ _ B;simp [go_sem,H.f.g rfl s2];exact (B _ _ H.k rfl (K.q rfl H.x))
  ·intro M I C H _ _ B;simp [go_sem,(gS I 27 (H.d 7 rfl rfl)),(b3.k0 H.k).cell];exact (B _ _ H.k rfl (K.q rfl H.x))
  ·intro M I C H _ _ B;obtain ⟨x0,x1,x2,x3⟩:=H.x;simp [go_sem,(gS I 20 (H.d 0 rfl rfl)),(gS I 22 (H.d 2 rfl rfl)),(gS I 24 (H.d 4 rfl rfl)),(gS I 26 (H.d 6 rfl rfl)),(gS I 28 (H.d 8 rfl rfl))];refine (sAlong_c (X1 r p) r.bx r.by_ r.low r.high ⟨A1,c1⟩ C (preE_ok r p) (drvIn hr) ((N1.below H.k.toBelow XE).out Xx) N1.nilcap).mono ?_;rintro x wx ⟨_,rfl,⟨A2,c2,rfl,f0⟩,hb⟩;have f2:=XI.mono (show XI 136 3 Xd wx C.heap.size (Sv A2 (JO r.bx r.by_ r.low r.high (X1 r p)).length c2) (JO r.bx r.by_ r.low r.high (X1 r p)) from ⟨_,_,rfl,f0⟩) H.k.size;exact (B _ _ (H.k.call hb) trivial ⟨(λ _=>⟨A2,c2,H.f.s R,f2⟩),(hX1.b rfl hb x1),(hX2.b rfl hb x2),(hX3.b rfl hb x3)⟩)
  ·intro M I C H _ _ B;obtain ⟨x0,x1,x2,x3⟩:=H.x;obtain ⟨A2,c2,ee9,f2⟩:=x0 (H.r 9 rfl);exact XR rfl (ev ee9) (B _ _ H.k trivial ⟨(hX0.q rfl x0),(λ _=>⟨A2,c2,H.f.s R,f2⟩),(hX2.q rfl x2),(hX3.q rfl x3)⟩)
  ·intro M I C H _ _ B;obtain ⟨x0,x1,x2,x3⟩:=H.x;obtain ⟨A2,c2,ee10,f2⟩:=x1 (H.r 10 rfl);exact XP rfl (ev ee10) rfl (B _ _ H.k trivial ⟨(hX0.q rfl x0),(hX1.q rfl x1),(λ _=>⟨A2,c2,H.f.s R,f2⟩),(hX3.q rfl x3)⟩)
  ·intro M I C H _ _ B;obtain ⟨x0,x1,x2,x3⟩:=H.x;obtain ⟨A2,c2,ee10,f2⟩:=x1 (H.r 10 rfl);exact XP rfl (ev ee10) rfl (B _ _ H.k rfl (K.q rfl H.x))
  ·intro M I C H _ _ B;obtain ⟨x0,x1,x2,x3⟩:=H.x;simp [go_sem];exact B _ _ (H.k.alloc _) trivial ⟨(hX0.b rfl (Xc bR _) x0),(hX1.b rfl (Xc bR _) x1),(hX2.b rfl (Xc bR _) x2),(λ _=>by rw [show ZV M 13 14=false from H.t 14 rfl];exact Yg.new (s:=8) (H.f.lt (by rw [R];decide)) H.k.size [Nz])⟩
  ·intro M I C H _ _ B;obtain ⟨x0,x1,x2,x3⟩:=H.x;obtain ⟨A2,c2,ee11,f2⟩:=x2 (H.r 11 rfl);obtain ⟨g,eg,hg,y,_⟩:=x3 (H.r 13 rfl);have V:=y H.n;simp [go_sem,ee11,eg,V.cell,V.frz];have f2:=f2.otherC (f2.typ V Dz) [Sv A2 ((JO r.bx r.by_ r.low r.high (X1 r p)).length) c2] 0;exact B undef _ (H.k.store (.inl hg) [Sv A2 ((JO r.bx r.by_ r.low r.high (X1 r p)).length) c2] 0) trivial ⟨(λ h=>by obtain ⟨A2',c2',e,f2'⟩:=x0 h;exact ⟨A2',c2',e,f2'.otherC (f2'.typ V Dz) [Sv A2 ((JO r.bx r.by_ r.low r.high (X1 r p)).length) c2] 0⟩),(λ h=>by obtain ⟨A2',c2',e,f2'⟩:=x1 h;exact ⟨A2',c2',e,f2'.otherC (f2'.typ V Dz) [Sv A2 ((JO r.bx r.by_ r.low r.high (X1 r p)).length) c2] 0⟩),(λ h=>by obtain ⟨A2',c2',e,f2'⟩:=x2 h;exact ⟨A2',c2',e,f2'.otherC (f2'.typ V Dz) [Sv A2 ((JO r.bx r.by_ r.low r.high (X1 r p)).length) c2] 0⟩),(λ _=>Yg.set eg hg V (us:=[Sv A2 ((JO r.bx r.by_ r.low r.high (X1 r p)).length) c2]) rfl ⟨A2,c2,rfl,f2⟩)⟩
  ·exact KW 12 rfl rfl rfl rfl λ _ _ _ _=>K.q rfl
  intro L a14 w15 T F J O U;obtain ⟨x0,x1,x2,x3⟩:=U;replace R:=F.Z R;replace D:=F.E D;obtain ⟨s2,s4⟩:=F.G2 s2 s4;have s9:=gS a14 9 (O 15 _ rfl);replace b3:=b3.k0 J;replace b5:=b5.k0 J;obtain ⟨g16,s8,lg16,-,b16⟩:=x3 (T 13 Dz);obtain ⟨_,b16,A2,c2,rfl,N2⟩:=b16 (T 14 Dz);have i2:∀ p,A2=some p->p.block<w15.heap.size:=λ p hp=>(N2.blk p hp).2;have ug16:=b16.lt;have zw10:=S;have zw15:=J.size;replace S:=Nat.le_refl w15.heap.size;replace P:=J.below0 P;clear F J O T x0 x1 x2 x3 K hX0 hX1 hX2 hX3 s6 s17 b8 N1 i1;refine Xk (wp_seq (wp_seq ?_));refine Xj [32,33] [some (Bv (gaOk r.bx r.by_ r.low r.high (X1 r p))),some (Bv (!(gaOk r.bx r.by_ r.low r.high (X1 r p))))] (Yc 2) [32,33] [] (λ _ _ _=>True) ?_ (e2 ?_ ?_ .nil) ?_
  ·exact λ _ _=>trivial
  ·exact Z1 s9 rfl rfl rfl
  ·exact Jc 0 rfl rfl rfl rfl
  intro L a17 w18 T F J O U;replace R:=F.Z R;replace D:=F.E D;obtain ⟨s2,s4,s8⟩:=F.G3 s2 s4 s8;have s33:=gS a17 33 (O 1 _ rfl);replace b3:=b3.k0 J;replace b5:=b5.k0 J;replace b16:=b16.k0 J;replace N2:=N2.below J.toBelow XE;replace S:=Nat.le_trans S J.size;replace P:=J.below0 P;clear F J O T U s9;refine Xk ?_;rcases Bool.eq_false_or_eq_true (!(gaOk r.bx r.by_ r.low r.high (X1 r p))) with q19|q19
  ·refine wp_cond_true (ev (vb s33 q19)) ?_;refine wp_seq ?_;have K:Xf [] (λ L aa C=>X6 C (w.heap.size+2) 26 [Nz] (L 1) (λ _ vs=>vs=[Nz])):=λ L aa C w' kk vv hkk hb x0=>(x0.bel hb (λ _ h=>h));refine Xr K [34,0,5] [some (.agg #[Nz]),none,some Bf] (Yc 3) [34,5] [(w.heap.size+2)] ?_ (e2 ?_ ?_ (en rfl ?_ .nil)) ?_
   ·exact λ _ h=>(⟨λ _=>b5.kp h Sz,Cz⟩)
   ·intro M I C H _ _ B;simp [go_sem];exact (B _ _ H.k rfl H.x)
   ·intro M I C H _ _ B;have x0:=H.x;have V:=x0.1 H.n;simp [go_sem,(gS I 34 (H.d 0 rfl rfl)),H.f.g rfl s4,V.cell,V.frz];exact B undef _ (H.k.store (.inr Sz) [Nz] 0) trivial (X6.set V (us:=[Nz]) rfl rfl)
   ·exact KQ rfl rfl λ _ _ _ _ h=>h
   intro L a20 w21 T F J O U;have x0:=U;replace R:=F.Z R;replace D:=F.E D;replace s4:=F.G s4;have s5:=gS a20 5 (O 2 _ rfl);clear b5;obtain ⟨_,b5,rfl⟩:=x0.2 (T 1 Dz);replace S:=Nat.le_trans S J.size;replace P:=J.below P P.size (by simp<;>omega);clear F J O T x0 K s2 s8 s33 b3 b16 N2 i2;refine Xk (wp_ret (Y6 ?_));refine bodyPost_ret (v:=.tuple #[.agg #[Nz],Bf]) (by simp [results,Tryz.results174,go_sem,s4,b5.cell,s5]) D ?_;have h0:=preS_no2 (r:=r) (p:=p) (Jw q19);exact ⟨_,by rw [h0.1],by rw [h0.2];exact XI.nilN _ _ _ _ _,P⟩
  ·refine wp_cond_false (ev (vb s33 q19)) ?_;refine wp_skip (Xk (wp_seq ?_));have hX0:=Xf.e 40 5 (λ C v=>∃ A3 c3,v=.tuple #[.agg #[Sv A3 ((YR (XL r.map r.div) (JO r.bx r.by_ r.low r.high (X1 r p))).length) c3],Bv (Yv (XL r.map r.div) (JO r.bx r.by_ r.low r.high (X1 r p)))]/\XI 136 3 Xd C w18.heap.size (Sv A3 (YR (XL r.map r.div) (JO r.bx r.by_ r.low r.high (X1 r p))).length c3) (YR (XL r.map r.div) (JO r.bx r.by_ r.low r.high (X1 r p)))) (λ hb _ h=>by obtain ⟨A3',c3',e,f3'⟩:=h;exact ⟨A3',c3',e,f3'.below hb XE⟩);have hX1:=Xf.e 41 6 (λ C v=>∃ A3 c3,v=.agg #[Sv A3 ((YR (XL r.map r.div) (JO r.bx r.by_ r.low r.high (X1 r p))).length) c3]/\XI 136 3 Xd C w18.heap.size (Sv A3 (YR (XL r.map r.div) (JO r.bx r.by_ r.low r.high (X1 r p))).length c3) (YR (XL r.map r.div) (JO r.bx r.by_ r.low r.high (X1 r p)))) (λ hb _ h=>by obtain ⟨A3',c3',e,f3'⟩:=h;exact ⟨A3',c3',e,f3'.below hb XE⟩);have hX2:Xf [] (λ L aa C=>X6 C (w.heap.size+2) 26 [Nz] (L 8) (λ C vs=>∃ A3 c3,vs=[Sv A3 ((YR (XL r.map r.div) (JO r.bx r.by_ r.low r.high (X1 r p))).length) c3]/\XI 136 3 Xd C w18.heap.size (Sv A3 (YR (XL r.map r.div) (JO r.bx r.by_ r.low r.high (X1 r p))).length c3) (YR (XL r.map r.div) (JO r.bx r.by_ r.low r.high (X1 r p))))):=λ L aa C w' kk vv hkk hb x2=>(x2.bel hb (λ _ ⟨A3',c3',e,f3'⟩=>⟨A3',c3',e,f3'.below hb XE⟩));have K:=hX0.a (hX1.a hX2);refine Xr K [35,36,37,38,39,40,41,42,0,5] [some (.agg #[Sv A2 ((JO r.bx r.by_ r.low r.high (X1 r p)).length) c2]),some (Pz w.heap.size),some (Sv ra.map.A r.map.length ra.map.c),some (.pointer (some ⟨w.heap.size,1,none⟩)),some (Vi r.div),none,none,some (Bv (Yv (XL r.map r.div) (JO r.bx r.by_ r.low r.high (X1 r p)))),none,some (Bv (Yv (XL r.map r.div) (JO r.bx r.by_ r.low r.high (X1 r p))))] (Yc 10) [35,36,37,38,39,40,41,42,5] [(w.heap.size+2)] ?_ (e4 ?_ ?_ ?_ ?_ (e4 ?_ ?_ ?_ ?_ (e2 ?_ ?_ .nil))) ?_
   ·exact λ _ h=>⟨Cz,Cz,(⟨λ _=>b5.kp h Sz,Cz⟩)⟩
   ·intro M I C H _ _ B;simp [go_sem,H.f.g rfl s8,(b16.kp H.k (by simp<;>omega)).cell];exact (B _ _ H.k rfl (K.q rfl H.x))
   ·intro M I C H _ _ B;simp [go_sem,H.f.g rfl s2];exact (B _ _ H.k rfl (K.q rfl H.x))
   ·intro M I C H _ _ B;simp [go_sem,(gS I 36 (H.d 1 rfl rfl)),(b3.kp H.k (by simp<;>omega)).cell];exact (B _ _ H.k rfl (K.q rfl H.x))
   ·intro M I C H _ _ B;simp [go_sem,H.f.g rfl s2];exact (B _ _ H.k rfl (K.q rfl H.x))
   ·intro M I C H _ _ B;simp [go_sem,(gS I 38 (H.d 3 rfl rfl)),(b3.kp H.k (by simp<;>omega)).cell];exact (B _ _ H.k rfl (K.q rfl H.x))
   ·intro M I C H _ _ B;obtain ⟨x0,x1,x2⟩:=H.x;simp [go_sem,(gS I 35 (H.d 0 rfl rfl)),(gS I 37 (H.d 2 rfl rfl)),(gS I 39 (H.d 4 rfl rfl))];have hBi:=H.k.below P P.size (by simp<;>omega);refine (sPull_c (JO r.bx r.by_ r.low r.high (X1 r p)) r.map r.div ⟨A2,c2⟩ ra.map.A ra.map.c C (gaR_ok (preE_ok r p)) (mapIn hr) hmap Za ((N2.kp H.k i2 Oz (by simp<;>omega)).out Xx) (hs.below hBi).map N2.nilcap).mono ?_;rintro x wx ⟨_,rfl,⟨A3,c3,rfl,f0⟩,hb⟩;have f3:=XI.mono (show XI 136 3 Xd wx C.heap.size (Sv A3 (YR (XL r.map r.div) (JO r.bx r.by_ r.low r.high (X1 r p))).length c3) (YR (XL r.map r.div) (JO r.bx r.by_ r.low r.high (X1 r p))) from ⟨_,_,rfl,f0⟩) H.k.size;exact (B _ _ (H.k.call hb) trivial ⟨(λ _=>⟨A3,c3,H.f.s R,f3⟩),(hX1.b rfl hb x1),(x2.bel hb (λ _ ⟨A3',c3',e,f3'⟩=>⟨A3',c3',e,f3'.below hb XE⟩))⟩)
   ·intro M I C H _ _ B;obtain ⟨x0,x1,x2⟩:=H.x;obtain ⟨A3,c3,ee5,f3⟩:=x0 (H.r 5 rfl);exact XP rfl (ev ee5) rfl (B _ _ H.k trivial ⟨(hX0.q rfl x0),(λ _=>⟨A3,c3,H.f.s R,f3⟩),(x2.bel bR (λ _ ⟨A3',c3',e,f3'⟩=>⟨A3',c3',e,f3'.below bR XE⟩))⟩)
   ·intro M I C H _ _ B;obtain ⟨x0,x1,x2⟩:=H.x;obtain ⟨A3,c3,ee5,f3⟩:=x0 (H.r 5 rfl);exact XP rfl (ev ee5) rfl (B _ _ H.k rfl (K.q rfl H.x))
   ·intro M I C H _ _ B;obtain ⟨x0,x1,x2⟩:=H.x;obtain ⟨A3,c3,ee6,f3⟩:=x1 (H.r 6 rfl);have V:=x2.1 H.n;simp [go_sem,ee6,H.f.g rfl s4,V.cell,V.frz];have f3:=f3.otherC (f3.typ V Dz) [Sv A3 ((YR (XL r.map r.div) (JO r.bx r.by_ r.low r.high (X1 r p))).length) c3] 0;exact B undef _ (H.k.store (.inr Sz) [Sv A3 ((YR (XL r.map r.div) (JO r.bx r.by_ r.low r.high (X1 r p))).length) c3] 0) trivial ⟨(λ h=>by obtain ⟨A3',c3',e,f3'⟩:=x0 h;exact ⟨A3',c3',e,f3'.otherC (f3'.typ V Dz) [Sv A3 ((YR (XL r.map r.div) (JO r.bx r.by_ r.low r.high (X1 r p))).length) c3] 0⟩),(λ h=>by obtain ⟨A3',c3',e,f3'⟩:=x1 h;exact ⟨A3',c3',e,f3'.otherC (f3'.typ V Dz) [Sv A3 ((YR (XL r.map r.div) (JO r.bx r.by_ r.low r.high (X1 r p))).length) c3] 0⟩),(X6.set V (us:=[Sv A3 ((YR (XL r.map r.div) (JO r.bx r.by_ r.low r.high (X1 r p))).length) c3]) rfl ⟨A3,c3,rfl,f3⟩)⟩
   ·exact KW 7 rfl rfl rfl rfl λ _ _ _ _=>K.q rfl
   intro L a22 w23 T F J O U;obtain ⟨x0,x1,x2⟩:=U;replace R:=F.Z R;replace D:=F.E D;replace s4:=F.G s4;have s5:=gS a22 5 (O 9 _ rfl);clear b5;obtain ⟨_,b5,A3,c3,rfl,N3⟩:=x2.2 (T 8 Dz);have i3:∀ p,A3=some p->p.block<w23.heap.size:=λ p hp=>(N3.blk p hp).2;have zw18:=S;have zw23:=J.size;replace S:=Nat.le_refl w23.heap.size;replace P:=J.below P P.size (by simp<;>omega);clear F J O T x0 x1 x2 K hX0 hX1 hX2 s2 s8 s33 b3 b16 N2 i2;refine Xk (wp_ret ?_);refine bodyPost_ret (v:=.tuple #[.agg #[Sv A3 ((YR (XL r.map r.div) (JO r.bx r.by_ r.low r.high (X1 r p))).length) c3],Bv (Yv (XL r.map r.div) (JO r.bx r.by_ r.low r.high (X1 r p)))]) (by simp [results,Tryz.results174,go_sem,s4,b5.cell,s5]) D ?_;have h9:=ga_eq (Yu q19);have h0:=preS_yes (Yu q11) (Yu q19);exact ⟨_,by rw [h9,h0.1],by rw [h0.2,<- h9];exact N3.mono Oz,P⟩
theorem sKept_c (r:XU) (p:List Half) (ra:Yn) (b:Zi) (w:World) (hn:Xy r<=1048576) (hin:Zh r) (hs:Ym w r ra) (hnl:YJ ra) (hlp:p.length<=1048576) (hpi:∀ h∈p,h.In) (hsp:Sl 3 Xd w b.A p) (hnb:b.A=none->b.c=0) :
 Calls Tryz.prog 151 #[Ya r ra,.agg #[Sv b.A p.length b.c]] w λ x w'=>x=.returned (Bv (Ko r p))/\Below w.heap.size w w':=by
 refine YN Tryz.func151 rfl (n:=31) Tryz.ntmps151 Sz ?_;intro a0 R D ha;have s0:a0.tmps[0]?.getD undef=Ya r ra:=ha 0 _ rfl;have s1:a0.tmps[1]?.getD undef=.agg #[Sv b.A p.length b.c]:=ha 1 _ rfl;clear ha;have P:=Below.refl w.heap.size w;have S:=Nat.le_refl w.heap.size;refine wp_seq ?_;refine Yt [2,3,4] [Pz w.heap.size,Pz (w.heap.size+1),Bf] [some (.cells (Jv r ra).toArray 28),some (.cells [Sv b.A p.length b.c].toArray 26),none] [0,1,2] [2,3,4] [0,1,2] (by kernel_rfl) (by rw [R];decide) (ec ?_ (ec ?_ (ec ?_ .nil))) ?_
 ·intro a w' F hs N Q B;simp [go_sem,F.g rfl s0];rw [hs];exact B
 ·intro a w' F hs N Q B;simp [go_sem,F.g rfl s1];rw [hs];exact B
 ·intro a w' F hs N Q B;simp [go_sem];exact B
 intro a1 w2 F O hb hO;replace R:=F.size.trans R;replace D:=F.defers.trans D;have s2:a1.tmps[2]?.getD undef=Pz w.heap.size:=O 0 Dz;have s3:a1.tmps[3]?.getD undef=Pz (w.heap.size+1):=O 1 Dz;have b3:Xz w2 w.heap.size 28 (Jv r ra):=hO 0 _ rfl;have b4:Xz w2 (w.heap.size+1) 26 [Sv b.A p.length b.c]:=hO 1 _ rfl;have hG:=b4.lt;replace P:=Xe P hb;have zw2:=Nat.le_trans S hb.size;replace S:=Nat.le_refl w2.heap.size;clear F O hb hO s0 s1;refine Xk (wp_seq (wp_seq ?_));refine Xj [7,8,9,10,11,12,13,14,15,16] [some (Ya r ra),some (Bv (XM r)),some (Bv (!(XM r))),some (Bv (!(XM r))),some ((bif !(XM r) then undef else (.agg #[Sv b.A p.length b.c]:Value))),some ((bif !(XM r) then undef else (.pointer (some ⟨w.heap.size,7,none⟩):Value))),some ((bif !(XM r) then undef else (.agg #[Sv ra.limits.A r.limits.length ra.limits.c]:Value))),some ((bif !(XM r) then undef else (Bv ((Xb p&&Xb r.limits&&Yx p r.limits)):Value))),some ((bif !(XM r) then undef else (Bv (!(Xb p&&Xb r.limits&&Yx p r.limits)):Value))),some (Bv (!(XM r) || !(Xb p&&Xb r.limits&&Yx p r.limits)))] (Yc 10) [7,8,9,10,11,12,13,14,15,16] [] (λ _ _ _=>True) ?_ (e4 ?_ ?_ ?_ ?_ (eg ?_ (eg ?_ (eg ?_ (eg ?_ (eg ?_ (en rfl ?_ .nil))))))) ?_
 ·exact λ _ _=>trivial
 ·intro M I C H _ _ B;simp [go_sem,H.f.g rfl s2,(b3.k0 H.k).cell];exact (B _ _ H.k rfl trivial)
 ·intro M I C H _ _ B;simp [go_sem,(gS I 7 (H.d 0 rfl rfl))];have hBi:=H.k.below0 P;refine (sRoomOk_c r ra C hn hin (hs.below hBi) hnl).mono ?_;rintro x wx ⟨rfl,hb⟩;exact (B _ _ (H.k.call hb) rfl trivial)
 ·exact Jc 1 rfl rfl rfl rfl
 ·exact Ks 2 rfl rfl rfl rfl
 ·intro M I C H _ _ B;refine Kr rfl rfl rfl (H.d 3 rfl rfl) (λ qg=>B _ _ H.k (Xu qg).symm trivial) λ qg=>?_;simp [go_sem,H.f.g rfl s3,(b4.k0 H.k).cell];exact (B _ _ H.k (Xq qg).symm trivial)
 ·intro M I C H _ _ B;refine Kr rfl rfl rfl (H.d 3 rfl rfl) (λ qg=>B _ _ H.k (Xu qg).symm trivial) λ qg=>?_;simp [go_sem,H.f.g rfl s2];exact (B _ _ H.k (Xq qg).symm trivial)
 ·intro M I C H _ _ B;refine Kr rfl rfl rfl (H.d 3 rfl rfl) (λ qg=>B _ _ H.k (Xu qg).symm trivial) λ qg=>?_;simp [go_sem,(show I.tmps[12]?.getD undef=_ from (H.d 5 rfl rfl).trans (Xq qg)),(b3.k0 H.k).cell];exact (B _ _ H.k (Xq qg).symm trivial)
 ·intro M I C H _ _ B;refine Kr rfl rfl rfl (H.d 3 rfl rfl) (λ qg=>B _ _ H.k (Xu qg).symm trivial) λ qg=>?_;simp [go_sem,(show I.tmps[11]?.getD undef=_ from (H.d 4 rfl rfl).trans (Xq qg)),(show I.tmps[13]?.getD undef=_ from (H.d 6 rfl rfl).trans (Xq qg))];have hBi:=H.k.below0 P;refine (sIsWithin_c p r.limits b ra.limits C hlp hpi (by unfold Xy at hn;omega) hin.limits.halves (hsp.below hBi) (hs.limits.halves.below hBi) hnb hnl.limits).mono ?_;rintro x wx ⟨rfl,hb⟩;exact (B _ _ (H.k.call hb) (Xq qg).symm trivial)
 ·intro M I C H _ _ B;refine Kr rfl rfl rfl (H.d 3 rfl rfl) (λ qg=>B _ _ H.k (Xu qg).symm trivial) λ qg=>?_;exact KL rfl (ev ((H.d 7 rfl rfl).trans (Xq qg))) (B _ _ H.k (Xq qg).symm trivial)
 ·exact oPOT 3 8 rfl rfl rfl rfl rfl rfl
 intro L a5 w6 T F J O U;replace R:=F.Z R;replace D:=F.E D;obtain ⟨s2,s3⟩:=F.G2 s2 s3;have s16:=gS a5 16 (O 9 _ rfl);replace b3:=b3.k0 J;replace b4:=b4.k0 J;replace S:=Nat.le_trans S J.size;replace P:=J.below0 P;clear F J O T U;refine Xk ?_;rcases Bool.eq_false_or_eq_true (!(XM r) || !(Xb p&&Xb r.limits&&Yx p r.limits)) with q7|q7
 ·refine wp_cond_true (ev (vb s16 q7)) ?_;refine wp_seq ?_;refine Xj [4] [some Bf] (Yc 1) [4] [] (λ _ _ _=>True) ?_ (en rfl ?_ .nil) ?_
  ·exact λ _ _=>trivial
  ·exact JB rfl rfl
  intro L a8 w9 T F J O U;replace R:=F.Z R;replace D:=F.E D;have s4:=gS a8 4 (O 0 _ rfl);replace S:=Nat.le_trans S J.size;replace P:=J.below0 P;clear F J O T U s2 s3 s16 b3 b4;refine Xk (wp_ret (Y6 ?_));refine bodyPost_ret (v:=Bf) (by simp [results,Tryz.results151,go_sem,s4]) D ?_;exact ⟨by rw [kept_no q7],P⟩
 ·have hrp:=kept_rp q7;refine wp_cond_false (ev (vb s16 q7)) ?_;refine wp_skip (Xk (wp_seq (wp_seq ?_)));refine Xj [17,18] [some (.agg #[Sv b.A p.length b.c]),some (Bv (decide (p.length=0)))] (Yc 2) [17,18] [] (λ _ _ _=>True) ?_ (e2 ?_ ?_ .nil) ?_
  ·exact λ _ _=>trivial
  ·intro M I C H _ _ B;simp [go_sem,H.f.g rfl s3,(b4.k0 H.k).cell];exact (B _ _ H.k rfl trivial)
  ·intro M I C H _ _ B;simp [go_sem,(gS I 17 (H.d 0 rfl rfl))];refine (Yh p b C).mono ?_;rintro x wx ⟨rfl,hb⟩;exact (B _ _ (H.k.call hb) rfl trivial)
  intro L a10 w11 T F J O U;replace R:=F.Z R;replace D:=F.E D;obtain ⟨s2,s3⟩:=F.G2 s2 s3;have s18:=gS a10 18 (O 1 _ rfl);replace b3:=b3.k0 J;replace b4:=b4.k0 J;replace S:=Nat.le_trans S J.size;replace P:=J.below0 P;clear F J O T U s16;refine Xk ?_;rcases Bool.eq_false_or_eq_true (decide (p.length=0)) with q12|q12
  ·refine wp_cond_true (ev (vb s18 q12)) ?_;refine wp_seq ?_;refine Xj [4] [some Bt] (Yc 1) [4] [] (λ _ _ _=>True) ?_ (en rfl ?_ .nil) ?_
   ·exact λ _ _=>trivial
   ·exact JB rfl rfl
   intro L a13 w14 T F J O U;replace R:=F.Z R;replace D:=F.E D;have s4:=gS a13 4 (O 0 _ rfl);replace S:=Nat.le_trans S J.size;replace P:=J.below0 P;clear F J O T U s2 s3 s18 b3 b4;refine Xk (wp_ret (Y6 ?_));refine bodyPost_ret (v:=Bt) (by simp [results,Tryz.results151,go_sem,s4]) D ?_;exact ⟨by rw [kept_void q7 (of_decide_eq_true q12)],P⟩
  ·refine wp_cond_false (ev (vb s18 q12)) ?_;refine wp_skip (Xk (wp_seq ?_));have hX0:=Xf.e 22 2 (λ C v=>∃ A1 c1,v=.tuple #[.agg #[Sv A1 ((YX r p).length) c1],Bv (ZC r p)]/\XI 136 3 Xd C w11.heap.size (Sv A1 (YX r p).length c1) (YX r p)) (λ hb _ h=>by obtain ⟨A1',c1',e,f1'⟩:=h;exact ⟨A1',c1',e,f1'.below hb XE⟩);have hX1:=Xf.e 19 3 (λ C v=>∃ A1 c1,v=.tuple #[.agg #[Sv A1 ((YX r p).length) c1],Bv (ZC r p)]/\XI 136 3 Xd C w11.heap.size (Sv A1 (YX r p).length c1) (YX r p)) (λ hb _ h=>by obtain ⟨A1',c1',e,f1'⟩:=h;exact ⟨A1',c1',e,f1'.below hb XE⟩);have hX2:=Xf.e 23 4 (λ C v=>∃ A1 c1,v=.agg #[Sv A1 ((YX r p).length) c1]/\XI 136 3 Xd C w11.heap.size (Sv A1 (YX r p).length c1) (YX r p)) (λ hb _ h=>by obtain ⟨A1',c1',e,f1'⟩:=h;exact ⟨A1',c1',e,f1'.below hb XE⟩);have hX3:=Xf.x 5 6 7 w11 26 [Nz] (λ C vs=>∃ A1 c1,vs=[Sv A1 ((YX r p).length) c1]/\XI 136 3 Xd C w11.heap.size (Sv A1 (YX r p).length c1) (YX r p)) (λ hb _ h=>by obtain ⟨A1',c1',e,f1'⟩:=h;exact ⟨A1',c1',e,f1'.below hb XE⟩);have K:=hX0.a (hX1.a (hX2.a hX3));refine Xr K [20,21,22,19,23,24,5,0,6] [some (Ya r ra),some (.agg #[Sv b.A p.length b.c]),none,none,none,some (Bv (ZC r p)),none,none,some (Bv (ZC r p))] (Yc 9) [20,21,22,19,23,24,5,6] [] ?_ (e4 ?_ ?_ ?_ ?_ (e4 ?_ ?_ ?_ ?_ (en rfl ?_ .nil))) ?_
   ·exact λ _ h=>⟨Cz,Cz,Cz,Cz⟩
   ·intro M I C H _ _ B;simp [go_sem,H.f.g rfl s2,(b3.k0 H.k).cell];exact (B _ _ H.k rfl (K.q rfl H.x))
   ·intro M I C H _ _ B;simp [go_sem,H.f.g rfl s3,(b4.k0 H.k).cell];exact (B _ _ H.k rfl (K.q rfl H.x))
   ·intro M I C H _ _ B;obtain ⟨x0,x1,x2,x3⟩:=H.x;simp [go_sem,(gS I 20 (H.d 0 rfl rfl)),(gS I 21 (H.d 1 rfl rfl))];have hBi:=H.k.below0 P;refine (sPre_c r p ra b C hn hin (hs.below hBi) hnl hlp hpi (hsp.below hBi) hnb hrp.1 hrp.2).mono ?_;rintro x wx ⟨_,rfl,⟨A1,c1,rfl,f0⟩,hb⟩;have f1:=XI.mono (show XI 136 3 Xd wx C.heap.size (Sv A1 (YX r p).length c1) (YX r p) from ⟨_,_,rfl,f0⟩) H.k.size;exact (B _ _ (H.k.call hb) trivial ⟨(λ _=>⟨A1,c1,H.f.s R,f1⟩),(hX1.b rfl hb x1),(hX2.b rfl hb x2),(hX3.b rfl hb x3)⟩)
   ·intro M I C H _ _ B;obtain ⟨x0,x1,x2,x3⟩:=H.x;obtain ⟨A1,c1,ee2,f1⟩:=x0 (H.r 2 rfl);exact XR rfl (ev ee2) (B _ _ H.k trivial ⟨(hX0.q rfl x0),(λ _=>⟨A1,c1,H.f.s R,f1⟩),(hX2.q rfl x2),(hX3.q rfl x3)⟩)
   ·intro M I C H _ _ B;obtain ⟨x0,x1,x2,x3⟩:=H.x;obtain ⟨A1,c1,ee3,f1⟩:=x1 (H.r 3 rfl);exact XP rfl (ev ee3) rfl (B _ _ H.k trivial ⟨(hX0.q rfl x0),(hX1.q rfl x1),(λ _=>⟨A1,c1,H.f.s R,f1⟩),(hX3.q rfl x3)⟩)
   ·intro M I C H _ _ B;obtain ⟨x0,x1,x2,x3⟩:=H.x;obtain ⟨A1,c1,ee3,f1⟩:=x1 (H.r 3 rfl);exact XP rfl (ev ee3) rfl (B _ _ H.k rfl (K.q rfl H.x))
   ·intro M I C H _ _ B;obtain ⟨x0,x1,x2,x3⟩:=H.x;simp [go_sem];exact B _ _ (H.k.alloc _) trivial ⟨(hX0.b rfl (Xc bR _) x0),(hX1.b rfl (Xc bR _) x1),(hX2.b rfl (Xc bR _) x2),(λ _=>by rw [show ZV M 6 7=false from H.t 7 rfl];exact Yg.new (s:=5) (H.f.lt (by rw [R];decide)) H.k.size [Nz])⟩
   ·intro M I C H _ _ B;obtain ⟨x0,x1,x2,x3⟩:=H.x;obtain ⟨A1,c1,ee4,f1⟩:=x2 (H.r 4 rfl);obtain ⟨g,eg,hg,y,_⟩:=x3 (H.r 6 rfl);have V:=y H.n;simp [go_sem,ee4,eg,V.cell,V.frz];have f1:=f1.otherC (f1.typ V Dz) [Sv A1 ((YX r p).length) c1] 0;exact B undef _ (H.k.store (.inl hg) [Sv A1 ((YX r p).length) c1] 0) trivial ⟨(λ h=>by obtain ⟨A1',c1',e,f1'⟩:=x0 h;exact ⟨A1',c1',e,f1'.otherC (f1'.typ V Dz) [Sv A1 ((YX r p).length) c1] 0⟩),(λ h=>by obtain ⟨A1',c1',e,f1'⟩:=x1 h;exact ⟨A1',c1',e,f1'.otherC (f1'.typ V Dz) [Sv A1 ((YX r p).length) c1] 0⟩),(λ h=>by obtain ⟨A1',c1',e,f1'⟩:=x2 h;exact ⟨A1',c1',e,f1'.otherC (f1'.typ V Dz) [Sv A1 ((YX r p).length) c1] 0⟩),(λ _=>Yg.set eg hg V (us:=[Sv A1 ((YX r p).length) c1]) rfl ⟨A1,c1,rfl,f1⟩)⟩
   ·exact KW 5 rfl rfl rfl rfl λ _ _ _ _=>K.q rfl
   intro L a15 w16 T F J O U;obtain ⟨x0,x1,x2,x3⟩:=U;replace R:=F.Z R;replace D:=F.E D;replace s3:=F.G s3;have s6:=gS a15 6 (O 8 _ rfl);replace b4:=b4.k0 J;obtain ⟨g17,s5,lg17,-,b17⟩:=x3 (T 6 Dz);obtain ⟨_,b17,A1,c1,rfl,N1⟩:=b17 (T 7 Dz);have i1:∀ p,A1=some p->p.block<w16.heap.size:=λ p hp=>(N1.blk p hp).2;have ug17:=b17.lt;have zw11:=S;have zw16:=J.size;replace S:=Nat.le_refl w16.heap.size;replace P:=J.below0 P;clear F J O T x0 x1 x2 x3 K hX0 hX1 hX2 hX3 s2 s18 b3;refine Xk (wp_seq ?_);refine Xj [25,26,27,28,29,30,4] [some (Bv (ZC r p)),some (Bv (ZC r p)),some ((bif ZC r p then (.agg #[Sv b.A p.length b.c]:Value) else undef)),some ((bif ZC r p then (.agg #[Sv A1 ((YX r p).length) c1]:Value) else undef)),some ((bif ZC r p then (Bv ((Xb p&&Xb (YX r p)&&Yx p (YX r p))):Value) else undef)),some (Bv (ZC r p&&(Xb p&&Xb (YX r p)&&Yx p (YX r p)))),some (Bv (ZC r p&&(Xb p&&Xb (YX r p)&&Yx p (YX r p))))] (Yc 7) [25,26,27,28,29,30,4] [] (λ _ _ _=>True) ?_ (e2 ?_ ?_ (eg ?_ (eg ?_ (eg ?_ (e2 ?_ ?_ .nil))))) ?_
   ·exact λ _ _=>trivial
   ·exact Z1 s6 rfl rfl rfl
   ·exact Ks 0 rfl rfl rfl rfl
   ·intro M I C H _ _ B;refine wgt rfl rfl rfl (H.d 1 rfl rfl) (λ qg=>B _ _ H.k (Xq qg).symm trivial) λ qg=>?_;simp [go_sem,H.f.g rfl s3,(b4.k0 H.k).cell];exact (B _ _ H.k (Xu qg).symm trivial)
   ·intro M I C H _ _ B;refine wgt rfl rfl rfl (H.d 1 rfl rfl) (λ qg=>B _ _ H.k (Xq qg).symm trivial) λ qg=>?_;simp [go_sem,H.f.g rfl s5,(b17.k0 H.k).cell];exact (B _ _ H.k (Xu qg).symm trivial)
   ·intro M I C H _ _ B;refine wgt rfl rfl rfl (H.d 1 rfl rfl) (λ qg=>B _ _ H.k (Xq qg).symm trivial) λ qg=>?_;simp [go_sem,(show I.tmps[27]?.getD undef=_ from (H.d 2 rfl rfl).trans (Xu qg)),(show I.tmps[28]?.getD undef=_ from (H.d 3 rfl rfl).trans (Xu qg))];have hBi:=H.k.below0 P;refine (sIsWithin_c p (YX r p) b ⟨A1,c1⟩ C hlp hpi (Nat.le_trans (Zt (preR_ok r p)) Dz) (λ h hh=>hIn (KS (Jb (preR_ok r p) h hh))) (hsp.below hBi) ((N1.below H.k.toBelow XE).out Xx) hnb N1.nilcap).mono ?_;rintro x wx ⟨rfl,hb⟩;exact (B _ _ (H.k.call hb) (Xu qg).symm trivial)
   ·exact λ M I C H _ _ B=>Zp rfl (ev (H.d 1 rfl rfl)) (λ h=>(ev ((H.d 4 rfl rfl).trans (Xu h))).trans (Jl h)) (λ h=>Jm h) (B _ _ H.k rfl trivial)
   ·exact KE 5 rfl rfl rfl rfl
   intro L a18 w19 T F J O U;replace R:=F.Z R;replace D:=F.E D;have s4:=gS a18 4 (O 6 _ rfl);replace S:=Nat.le_trans S J.size;replace P:=J.below0 P;clear F J O T U s3 s6 s5 b4 b17 N1 i1;refine Xk (wp_ret ?_);refine bodyPost_ret (v:=Bv (ZC r p&&(Xb p&&Xb (YX r p)&&Yx p (YX r p)))) (by simp [results,Tryz.results151,go_sem,s4]) D ?_;exact ⟨by rw [kept_yes q7,hrp.2,preR_ok r p,Bool.and_self,Bool.true_and],P⟩
theorem sWatchOk_c (r:XU) (p:List Half) (l:List Int) (ra:Yn) (b:Zi) (w:World) (hn:Xy r<=1048576) (hin:Zh r) (hs:Ym w r ra) (hnl:YJ ra) (hlp:p.length<=1048576) (hpi:∀ h∈p,h.In) (hsp:Sl 3 Xd w b.A p) (hnb:b.A=none->b.c=0) (e:Zi) (hll:l.length<=1048576) (hsl:Sl 1 Zm w e.A l) :
 Calls Tryz.prog 120 #[XO ⟨r,p,l⟩ ⟨ra,b,e⟩] w λ x w'=>x=.returned (Bv (Kw r p l))/\Below w.heap.size w w':=by
 refine YN Tryz.func120 rfl (n:=33) Tryz.ntmps120 Sz ?_;intro a0 R D ha;have s0:a0.tmps[0]?.getD undef=XO ⟨r,p,l⟩ ⟨ra,b,e⟩:=ha 0 _ rfl;clear ha;have P:=Below.refl w.heap.size w;have S:=Nat.le_refl w.heap.size;refine wp_seq ?_;refine Yt [1,2] [Pz w.heap.size,Bf] [some (.cells (XJ ⟨r,p,l⟩ ⟨ra,b,e⟩).toArray 38),none] [0,1] [1,2] [0,1] (by kernel_rfl) (by rw [R];decide) (ec ?_ (ec ?_ .nil)) ?_
 ·intro a w' F hs N Q B;simp [go_sem,F.g rfl s0];rw [hs];exact B
 ·intro a w' F hs N Q B;simp [go_sem];exact B
 intro a1 w2 F O hb hO;replace R:=F.size.trans R;replace D:=F.defers.trans D;have s1:a1.tmps[1]?.getD undef=Pz w.heap.size:=O 0 Dz;have b3:Xz w2 w.heap.size 38 (XJ ⟨r,p,l⟩ ⟨ra,b,e⟩):=hO 0 _ rfl;have hG:=b3.lt;replace P:=Xe P hb;have zw2:=Nat.le_trans S hb.size;replace S:=Nat.le_refl w2.heap.size;clear F O hb hO s0;refine Xk (wp_seq (wp_seq ?_));refine Xj [5,6,7,8,9,10,11,12,13,14,15,16,17,18,19,20,21] [some (.pointer (some ⟨w.heap.size,8,none⟩)),some (.agg #[Sv b.A p.length b.c]),some (Bv (decide (p.length=0))),some (Bv (decide (p.length=0))),some ((bif decide (p.length=0) then undef else (Pz w.heap.size:Value))),some ((bif decide (p.length=0) then undef else (Ya r ra:Value))),some ((bif decide (p.length=0) then undef else (.pointer (some ⟨w.heap.size,8,none⟩):Value))),some ((bif decide (p.length=0) then undef else (.agg #[Sv b.A p.length b.c]:Value))),some ((bif decide (p.length=0) then undef else (Bv (Ko r p):Value))),some ((bif decide (p.length=0) then undef else (Bv (!(Ko r p)):Value))),some (Bv (decide (p.length=0) || !(Ko r p))),some (Bv (decide (p.length=0) || !(Ko r p))),some ((bif (decide (p.length=0) || !(Ko r p)) then undef else (.pointer (some ⟨w.heap.size,9,none⟩):Value))),some ((bif (decide (p.length=0) || !(Ko r p)) then undef else (Sv e.A l.length e.c:Value))),some ((bif (decide (p.length=0) || !(Ko r p)) then undef else (Vi (l.length:Int):Value))),some ((bif (decide (p.length=0) || !(Ko r p)) then undef else (Bv (decide ((l.length:Int) > 40)):Value))),some (Bv ((decide (p.length=0) || !(Ko r p))||decide ((l.length:Int) > 40)))] (Yc 17) [5,6,7,8,9,10,11,12,13,14,15,16,17,18,19,20,21] [] (λ _ _ _=>True) ?_ (e4 ?_ ?_ ?_ ?_ (eg ?_ (eg ?_ (eg ?_ (eg ?_ (eg ?_ (eg ?_ (e2 ?_ ?_ (eg ?_ (eg ?_ (eg ?_ (eg ?_ (en rfl ?_ .nil))))))))))))) ?_
 ·exact λ _ _=>trivial
 ·intro M I C H _ _ B;simp [go_sem,H.f.g rfl s1];exact (B _ _ H.k rfl trivial)
 ·intro M I C H _ _ B;simp [go_sem,(gS I 5 (H.d 0 rfl rfl)),(b3.k0 H.k).cell];exact (B _ _ H.k rfl trivial)
 ·intro M I C H _ _ B;simp [go_sem,(gS I 6 (H.d 1 rfl rfl))];refine (Yh p b C).mono ?_;rintro x wx ⟨rfl,hb⟩;exact (B _ _ (H.k.call hb) rfl trivial)
 ·exact Ks 2 rfl rfl rfl rfl
 ·intro M I C H _ _ B;refine Kr rfl rfl rfl (H.d 3 rfl rfl) (λ qg=>B _ _ H.k (Xu qg).symm trivial) λ qg=>?_;simp [go_sem,H.f.g rfl s1];exact (B _ _ H.k (Xq qg).symm trivial)
 ·intro M I C H _ _ B;refine Kr rfl rfl rfl (H.d 3 rfl rfl) (λ qg=>B _ _ H.k (Xu qg).symm trivial) λ qg=>?_;simp [go_sem,(show I.tmps[9]?.getD undef=_ from (H.d 4 rfl rfl).trans (Xq qg)),(b3.k0 H.k).cell];exact (B _ _ H.k (Xq qg).symm trivial)
 ·intro M I C H _ _ B;refine Kr rfl rfl rfl (H.d 3 rfl rfl) (λ qg=>B _ _ H.k (Xu qg).symm trivial) λ qg=>?_;simp [go_sem,H.f.g rfl s1];exact (B _ _ H.k (Xq qg).symm trivial)
 ·intro M I C H _ _ B;refine Kr rfl rfl rfl (H.d 3 rfl rfl) (λ qg=>B _ _ H.k (Xu qg).symm trivial) λ qg=>?_;simp [go_sem,(show I.tmps[11]?.getD undef=_ from (H.d 6 rfl rfl).trans (Xq qg)),(b3.k0 H.k).cell];exact (B _ _ H.k (Xq qg).symm trivial)
 ·intro M I C H _ _ B;refine Kr rfl rfl rfl (H.d 3 rfl rfl) (λ qg=>B _ _ H.k (Xu qg).symm trivial) λ qg=>?_;simp [go_sem,(show I.tmps[10]?.getD undef=_ from (H.d 5 rfl rfl).trans (Xq qg)),(show I.tmps[12]?.getD undef=_ from (H.d 7 rfl rfl).trans (Xq qg))];have hBi:=H.k.below0 P;refine (sKept_c r p ra b C hn hin (hs.below hBi) hnl hlp hpi (hsp.below hBi) hnb).mono ?_;rintro x wx ⟨rfl,hb⟩;exact (B _ _ (H.k.call hb) (Xq qg).symm trivial)
 ·intro M I C H _ _ B;refine Kr rfl rfl rfl (H.d 3 rfl rfl) (λ qg=>B _ _ H.k (Xu qg).symm trivial) λ qg=>?_;exact KL rfl (ev ((H.d 8 rfl rfl).trans (Xq qg))) (B _ _ H.k (Xq qg).symm trivial)
 ·exact oPOT 3 9 rfl rfl rfl rfl rfl rfl
 ·exact Ks 10 rfl rfl rfl rfl
 ·intro M I C H _ _ B;refine Kr rfl rfl rfl (H.d 11 rfl rfl) (λ qg=>B _ _ H.k (Xu qg).symm trivial) λ qg=>?_;simp [go_sem,H.f.g rfl s1];exact (B _ _ H.k (Xq qg).symm trivial)
 ·intro M I C H _ _ B;refine Kr rfl rfl rfl (H.d 11 rfl rfl) (λ qg=>B _ _ H.k (Xu qg).symm trivial) λ qg=>?_;simp [go_sem,(show I.tmps[17]?.getD undef=_ from (H.d 12 rfl rfl).trans (Xq qg)),(b3.k0 H.k).cell];exact (B _ _ H.k (Xq qg).symm trivial)
 ·intro M I C H _ _ B;refine Kr rfl rfl rfl (H.d 11 rfl rfl) (λ qg=>B _ _ H.k (Xu qg).symm trivial) λ qg=>?_;simp [go_sem,(show I.tmps[18]?.getD undef=_ from (H.d 13 rfl rfl).trans (Xq qg))];exact (B _ _ H.k (Xq qg).symm trivial)
 ·intro M I C H _ _ B;refine Kr rfl rfl rfl (H.d 11 rfl rfl) (λ qg=>B _ _ H.k (Xu qg).symm trivial) λ qg=>?_;exact Yl rfl (ev ((H.d 14 rfl rfl).trans (Xq qg))) rfl rfl rfl (B _ _ H.k (Xq qg).symm trivial)
 ·exact oPOT 11 15 rfl rfl rfl rfl rfl rfl
 intro L a4 w5 T F J O U;replace R:=F.Z R;replace D:=F.E D;replace s1:=F.G s1;have s21:=gS a4 21 (O 16 _ rfl);replace b3:=b3.k0 J;replace S:=Nat.le_trans S J.size;replace P:=J.below0 P;clear F J O T U;refine Xk ?_;rcases Bool.eq_false_or_eq_true ((decide (p.length=0) || !(Ko r p))||decide ((l.length:Int) > 40)) with q6|q6
 ·refine wp_cond_true (ev (vb s21 q6)) ?_;refine wp_seq ?_;refine Xj [2] [some Bf] (Yc 1) [2] [] (λ _ _ _=>True) ?_ (en rfl ?_ .nil) ?_
  ·exact λ _ _=>trivial
  ·exact JB rfl rfl
  intro L a7 w8 T F J O U;replace R:=F.Z R;replace D:=F.E D;have s2:=gS a7 2 (O 0 _ rfl);replace S:=Nat.le_trans S J.size;replace P:=J.below0 P;clear F J O T U s1 s21 b3;refine Xk (wp_ret (Y6 ?_));refine bodyPost_ret (v:=Bf) (by simp [results,Tryz.results120,go_sem,s2]) D ?_;exact ⟨by rw [watch_no q6],P⟩
 ·refine wp_cond_false (ev (vb s21 q6)) ?_;refine wp_skip (Xk (wp_seq (wp_seq ?_)));refine Xj [22,23,24,25] [some (.pointer (some ⟨w.heap.size,9,none⟩)),some (Sv e.A l.length e.c),some (Vi (l.length:Int)),some V0] (Yc 4) [22,23,24,25] [] (λ _ _ _=>True) ?_ (e4 ?_ ?_ ?_ ?_ .nil) ?_
  ·exact λ _ _=>trivial
  ·intro M I C H _ _ B;simp [go_sem,H.f.g rfl s1];exact (B _ _ H.k rfl trivial)
  ·intro M I C H _ _ B;simp [go_sem,(gS I 22 (H.d 0 rfl rfl)),(b3.k0 H.k).cell];exact (B _ _ H.k rfl trivial)
  ·intro M I C H _ _ B;simp [go_sem,(gS I 23 (H.d 1 rfl rfl))];exact (B _ _ H.k rfl trivial)
  ·exact oMCT rfl rfl
  intro L a9 w10 T F J O U;replace R:=F.Z R;replace D:=F.E D;have s23:=gS a9 23 (O 1 _ rfl);have s24:=gS a9 24 (O 2 _ rfl);have s25:=gS a9 25 (O 3 _ rfl);replace S:=Nat.le_trans S J.size;replace P:=J.below0 P;clear F J O T U s1 s21 b3;refine Xk (wp_block ?_);refine wp_loop (λ al wl=>al.tmps.size=33/\al.defers=[]/\∃ (k:Nat),(k<=l.length)/\(logB (l.take k)=true)/\al.tmps[23]?.getD undef=Sv e.A l.length e.c/\al.tmps[24]?.getD undef=Vi (l.length:Int)/\al.tmps[25]?.getD undef=Vi (k:Int)/\Below w.heap.size w wl/\w2.heap.size<=wl.heap.size) (λ al _=>(l.length-(intOf (al.tmps[25]?.getD undef)).toNat)) ?_ ?_
  ·exact ⟨R,D,(0),(Nat.zero_le _),(rfl),s23,s24,s25,P,Oz⟩
  clear R D P S s23 s24 s25;rintro a11 w12 ⟨R,D,k,hk,hall,s23,s24,s25,P,S⟩;have zw12:=S;replace S:=Nat.le_refl w12.heap.size;have hmu:(l.length-(intOf (a11.tmps[25]?.getD undef)).toNat)=(l.length-(intOf ((Vi (k:Int)))).toNat):=by rw [s25]
  refine wp_seq ?_;refine Xj [26] [some (Bv (decide ((k:Int)<(l.length:Int))))] (Yc 1) [26] [] (λ _ _ _=>True) ?_ (en rfl ?_ .nil) ?_
  ·exact λ _ _=>trivial
  ·exact λ M I C H _ _ B=>Yl rfl (ev (H.f.g rfl s25)) (ev (H.f.g rfl s24)) rfl rfl (B _ _ H.k rfl trivial)
  intro L a13 w14 T F J O U;replace R:=F.Z R;replace D:=F.E D;obtain ⟨s23,s24,s25⟩:=F.G3 s23 s24 s25;have s26:=gS a13 26 (O 0 _ rfl);replace S:=Nat.le_trans S J.size;replace P:=J.below0 P;clear F J O T U;refine Xk (wp_seq ?_);rcases Bool.eq_false_or_eq_true (decide ((k:Int)<(l.length:Int))) with q15|q15
  ·have hkl:k<l.length:=by have:=KZ q15;omega
   obtain ⟨bl,ol,el,fe⟩:=ElS.open_ (hsl.below P) Oz;refine wp_cond_true (ev (vb s26 q15)) ?_;refine wp_skip (Xk (wp_seq (wp_block (wp_seq ?_))));refine Xj [27,28,4] [some (.pointer (some ⟨bl,ol+k,none⟩)),some (Vi (l.getD k 0)),some (Vi (l.getD k 0))] (Yc 3) [27,28,4] [] (λ _ _ _=>True) ?_ (e2 ?_ ?_ (en rfl ?_ .nil)) ?_
   ·exact λ _ _=>trivial
   ·intro M I C H _ _ B;simp [go_sem,H.f.g rfl s23,H.f.g rfl s25,hkl,el];exact (B _ _ H.k rfl trivial)
   ·intro M I C H _ _ B;have hE:=fe.kp H.k Sz;simp [go_sem,(gS I 27 (H.d 0 rfl rfl)),(hE.at_ 0 (i:=k) Oz 0 (p:=ol+k) Oz rfl)];exact (B _ _ H.k rfl trivial)
   ·exact KE 1 rfl rfl rfl rfl
   intro L a16 w17 T F J O U;replace R:=F.Z R;replace D:=F.E D;obtain ⟨s23,s24,s25⟩:=F.G3 s23 s24 s25;have s4:=gS a16 4 (O 2 _ rfl);replace S:=Nat.le_trans S J.size;replace P:=J.below0 P;clear F J O T U s26 fe;refine Xk (wp_seq ?_);refine Xj [29,30,31] [some (Vi (l.getD k 0)),some (Bv (ZL (l.getD k 0) 1 3)),some (Bv (!(ZL (l.getD k 0) 1 3)))] (Yc 3) [29,30,31] [] (λ _ _ _=>True) ?_ (e2 ?_ ?_ (en rfl ?_ .nil)) ?_
   ·exact λ _ _=>trivial
   ·exact Z1 s4 rfl rfl rfl
   ·intro M I C H _ _ B;simp [go_sem,(gS I 29 (H.d 0 rfl rfl))];refine (XT (l.getD k 0) 1 3 C).mono ?_;rintro x wx ⟨rfl,rfl⟩;exact (B _ _ H.k rfl trivial)
   ·exact Jc 1 rfl rfl rfl rfl
   intro L a18 w19 T F J O U;replace R:=F.Z R;replace D:=F.E D;obtain ⟨s23,s24,s25⟩:=F.G3 s23 s24 s25;have s31:=gS a18 31 (O 2 _ rfl);replace S:=Nat.le_trans S J.size;replace P:=J.below0 P;clear F J O T U s4;refine Xk ?_;rcases Bool.eq_false_or_eq_true (!(ZL (l.getD k 0) 1 3)) with q20|q20
   ·refine wp_cond_true (ev (vb s31 q20)) ?_;refine wp_seq ?_;refine Xj [2] [some Bf] (Yc 1) [2] [] (λ _ _ _=>True) ?_ (en rfl ?_ .nil) ?_
    ·exact λ _ _=>trivial
    ·exact JB rfl rfl
    intro L a21 w22 T F J O U;replace R:=F.Z R;replace D:=F.E D;have s2:=gS a21 2 (O 0 _ rfl);replace S:=Nat.le_trans S J.size;replace P:=J.below0 P;clear F J O T U s23 s24 s25 s31;refine Xk (wp_ret ?_);refine Jj (Y6 (Y6 (Jj (Y6 ?_))));refine bodyPost_ret (v:=Bf) (by simp [results,Tryz.results120,go_sem,s2]) D ?_;exact ⟨by rw [watch_yes q6,log_stop hkl (Jw q20)],P⟩
   ·refine wp_cond_false (ev (vb s31 q20)) ?_;refine wp_skip ?_;refine J8 (Xk ?_);refine Xj [32,25] [some (Vi ((k:Int)+1)),some (Vi ((k:Int)+1))] (Yc 2) [32,25] [] (λ L aa C=>(L 1=false->aa.tmps[25]?.getD undef=Vi (k:Int))) ?_ (e2 ?_ ?_ .nil) ?_
    ·exact λ _ h=>(λ _=>s25)
    ·intro M I C H _ _ B;have x0:=H.x;exact Z2 rfl (ev (x0 (H.t 1 rfl))) rfl Oz (B _ _ H.k rfl (λ h=>(Xg Dz _).trans (x0 h)))
    ·intro M I C H _ _ B;have x0:=H.x;exact XR rfl (ev (H.d 0 rfl rfl)) (B _ _ H.k rfl (λ h=>by simp [ZV] at h))
    intro L a23 w24 T F J O U;have x0:=U;replace R:=F.Z R;replace D:=F.E D;obtain ⟨s23,s24⟩:=F.G2 s23 s24;have s25:=gS a23 25 (O 1 _ rfl);replace S:=Nat.le_trans S J.size;replace P:=J.below0 P;clear F J O T x0 s31;refine Xk ?_;refine ⟨?_, ?_⟩
    ·exact ⟨R,D,(k+1),Oz,(log_next hkl hall (Yu q20)),s23,s24,s25,P,Oz⟩
    ·show (l.length-(intOf (a23.tmps[25]?.getD undef)).toNat)<_;rw [s25,hmu];simp only [intOf];omega
  ·have ek:k=l.length:=by have:=YT q15;omega
   rw [ek,List.take_length] at hall;refine wp_cond_false (ev (vb s26 q15)) ?_;refine wp_exit ?_;refine th_e (th_e (ib_x (Xk (wp_seq ?_))));refine Xj [2] [some Bt] (Yc 1) [2] [] (λ _ _ _=>True) ?_ (en rfl ?_ .nil) ?_
   ·exact λ _ _=>trivial
   ·exact JB rfl rfl
   intro L a25 w26 T F J O U;replace R:=F.Z R;replace D:=F.E D;have s2:=gS a25 2 (O 0 _ rfl);replace S:=Nat.le_trans S J.size;replace P:=J.below0 P;clear F J O T U s23 s24 s25 s26;refine Xk (wp_ret ?_);refine bodyPost_ret (v:=Bt) (by simp [results,Tryz.results120,go_sem,s2]) D ?_;exact ⟨by rw [watch_yes q6,hall],P⟩
end Go.Proofs.YtbekjpkcicjcgaaGreat
