/-
 The meet of two regions: of the program and of the reference.
 Conditions: valid regions.
-/
import Derived.Test.YtbekjpkcicjcgaaGreatNextM
namespace Go.Proofs.YtbekjpkcicjcgaaGreat
open Go.RowKit
def mrOk (p q:List Half):Bool:=decide (p.length+q.length<=40)
def mrR (p q:List Half):List Half:=if p.length+q.length<=40/\p.length≠0/\q.length≠0 then X3 (Xk (p++q)) else []
theorem mr_no {p q:List Half} (h:¬ p.length+q.length<=40):mrOk p q=false/\mrR p q=[]:=by
 unfold mrOk mrR;rw [decide_eq_false h,if_neg (λ e=>h e.1)];exact ⟨rfl,rfl⟩
theorem mr_void {p q:List Half} (h:p.length+q.length<=40) (hv:p.length=0∨q.length=0):mrOk p q=true/\mrR p q=[]:=by
 unfold mrOk mrR;rw [decide_eq_true h,if_neg Oz];exact ⟨rfl,rfl⟩
theorem mr_yes {p q:List Half} (hp:Xc p=true) (hq:Xc q=true) (h:p.length+q.length<=40) (hv:p.length≠0) (hw:q.length≠0):mrOk p q=true/\mrR p q=X3 (Xk (p++q))/\Yt (Xk (p++q))=true/\mrR p q=XK (Xk (p++q)):=by
 have hm:Yt (Xk (p++q))=true:=meet_app_ok hp (λ e=>hv (by rw [e];rfl)) (Zp hq) h;have e1:mrR p q=X3 (Xk (p++q)):=if_pos ⟨h,hv,hw⟩;refine ⟨decide_eq_true h,e1,hm,e1.trans ?_⟩;unfold X3;rw [if_pos hm]
theorem mrR_ok {p q:List Half} (hp:Xc p=true) (hq:Xc q=true):Xc (mrR p q)=true:=by
 unfold mrR;split
 ·exact regionOk_meetR (app_ok (Zp hp) (Zp hq))
 ·rfl
theorem concatX_c {xs ys XX:List Half} (hXX:XX=xs++ys) (A B:Option Addr) (ca cb gv:Nat) (w:World) (h0:0<xs.length) (hx:xs.length<=1048576) (hy:ys.length<=1048576) (hA:Sl 3 Xe w A xs) (P:Sl 3 Xe w B ys) (hnil:B=none->cb=0) (HV:Yd w gv [Sv A xs.length ca,Sv B ys.length cb]) :
 Calls Tryz.prog 165 #[Sv (some ⟨gv,0,none⟩) 2 2] w λ e w'=>∃ v,e=.returned v/\XG 136 3 Xe w' w.heap.size v XX/\Below w.heap.size w w':=by
 subst hXX;exact concat_c A B xs ys ca cb gv w h0 hx hy hA P hnil HV
theorem app_hOk {p q:List Half} (hp:Xc p=true) (hq:Xc q=true):∀ h∈p++q,Xs h=true:=app_ok (Zp hp) (Zp hq)
set_option maxRecDepth 100000 in
set_option maxHeartbeats 3000000 in
theorem iMeetR_c (p q:List Half) (a b:Kw) (w:World) (hp:Xc p=true) (hq:Xc q=true) (hsp:Sl 3 Xe w a.A p) (hsq:Sl 3 Xe w b.A q) (hna:a.A=none->a.c=0) (hnb:b.A=none->b.c=0) :
 Calls Tryz.prog 135 #[.agg #[Sv a.A p.length a.c],.agg #[Sv b.A q.length b.c]] w λ x w'=>∃ v,x=.returned (.tuple #[.agg #[v],Bv (mrOk p q)])/\XG 136 3 Xe w' w.heap.size v (mrR p q)/\Below w.heap.size w w':=by
 have hlp:=Y0 hp;have hlq:=Y0 hq;obtain ⟨i0h,hi0h,hz0h,hz1h,hz2h⟩:=info_parts (show (Tryz.prog.info? 136).map (λ i=>(i.zero,i.size,i.bytes))=some (some (.agg #[V0,V0,V0]),3,24) by kernel_rfl);refine Yz Tryz.func135 rfl (n:=41) Tryz.ntmps135 Sz ?_;intro a0 S K ha;have s0:a0.tmps[0]?.getD undef=.agg #[Sv a.A p.length a.c]:=ha 0 _ rfl;have s1:a0.tmps[1]?.getD undef=.agg #[Sv b.A q.length b.c]:=ha 1 _ rfl;clear ha;have P:=Below.refl w.heap.size w;have V:=Nat.le_refl w.heap.size;refine wp_seq ?_;refine Yk [2,3,4,5] [Pz w.heap.size,Pz (w.heap.size+1),Pz (w.heap.size+2),Bf] [some (.cells [Sv a.A p.length a.c].toArray 26),some (.cells [Sv b.A q.length b.c].toArray 26),some (.cells [Nz].toArray 26),none] [0,1,2,3] [2,3,4,5] [0,1,2,3] (by kernel_rfl) (by rw [S];decide) (ec ?_ (ec ?_ (ec ?_ (ec ?_ .nil)))) ?_
 ·intro a w' I hs N Q C;simp [go_sem,I.g rfl s0];rw [hs];exact C
 ·intro a w' I hs N Q C;simp [go_sem,I.g rfl s1];rw [hs];exact C
 ·intro a w' I hs N Q C;simp [go_sem];rw [hs];exact C
 ·intro a w' I hs N Q C;simp [go_sem];exact C
 intro a1 w2 I R hb hO;replace S:=I.size.trans S;replace K:=I.defers.trans K;have s2:a1.tmps[2]?.getD undef=Pz w.heap.size:=R 0 Dz;have s3:a1.tmps[3]?.getD undef=Pz (w.heap.size+1):=R 1 Dz;have s4:a1.tmps[4]?.getD undef=Pz (w.heap.size+2):=R 2 Dz;have b3:Xq w2 w.heap.size 26 [Sv a.A p.length a.c]:=hO 0 _ rfl;have b4:Xq w2 (w.heap.size+1) 26 [Sv b.A q.length b.c]:=hO 1 _ rfl;have b5:Xq w2 (w.heap.size+2) 26 [Nz]:=hO 2 _ rfl;have hG:=b5.lt;replace P:=Xf P hb;have zw2:=Nat.le_trans V hb.size;replace V:=Nat.le_refl w2.heap.size;clear I R hb hO s0 s1;refine Xi (wp_seq (wp_seq ?_));refine Xl [6,7,8,9,10,11,12,13,14,15,16,17,18,19,20,21,22,23] [some (.agg #[Sv a.A p.length a.c]),some Bt,some Bf,some Bf,some (.agg #[Sv b.A q.length b.c]),some Bt,some Bf,some Bf,some Bf,some (Pz w.heap.size),some (Sv a.A p.length a.c),some (Vi (p.length:Int)),some (Pz (w.heap.size+1)),some (Sv b.A q.length b.c),some (Vi (q.length:Int)),some (Vi ((p.length:Int)+(q.length:Int))),some (Bv (decide ((p.length:Int)+(q.length:Int) > 40))),some (Bv (decide ((p.length:Int)+(q.length:Int) > 40)))] (X9 18) [6,7,8,9,10,11,12,13,14,15,16,17,18,19,20,21,22,23] [] (λ _ _ _=>True) ?_ (e4 ?_ ?_ ?_ ?_ (eg ?_ (eg ?_ (eg ?_ (e2 ?_ ?_ (eg ?_ (eg ?_ (eg ?_ (eg ?_ (eg ?_ (eg ?_ (eg ?_ (eg ?_ (en rfl ?_ .nil)))))))))))))) ?_
 ·exact λ _ _=>trivial
 ·intro J F D H _ _ C;simp [go_sem,H.f.g rfl s2,(b3.k0 H.k).cell];exact (C _ _ H.k rfl trivial)
 ·intro J F D H _ _ C;simp [go_sem,(gS F 6 (H.d 0 rfl rfl))];have hBi:=H.k.below0 P;refine (KE p a D Oz (λ h hh=>hIn (Jt (Zp hp h hh))) (hsp.below hBi) hna).mono ?_;rintro x wx ⟨rfl,hb⟩;exact (C _ _ (H.k.call hb) (congrArg Value.bool hp) trivial)
 ·exact JC 1 rfl rfl rfl rfl
 ·exact KC 2 rfl rfl rfl rfl
 ·intro J F D H _ _ C;refine YM rfl rfl rfl (H.d 3 rfl rfl) ?_;simp [go_sem,H.f.g rfl s3,(b4.k0 H.k).cell];exact (C _ _ H.k rfl trivial)
 ·intro J F D H _ _ C;refine YM rfl rfl rfl (H.d 3 rfl rfl) ?_;simp [go_sem,(gS F 10 (H.d 4 rfl rfl))];have hBi:=H.k.below0 P;refine (KE q b D Oz (λ h hh=>hIn (Jt (Zp hq h hh))) (hsq.below hBi) hnb).mono ?_;rintro x wx ⟨rfl,hb⟩;exact (C _ _ (H.k.call hb) (congrArg Value.bool hq) trivial)
 ·intro J F D H _ _ C;refine YM rfl rfl rfl (H.d 3 rfl rfl) ?_;exact KJ rfl (ev (H.d 5 rfl rfl)) (C _ _ H.k rfl trivial)
 ·exact λ J F D H _ _ C=>Za rfl (ev (H.d 3 rfl rfl)) Cz (λ _=>(ev (H.d 6 rfl rfl))) (C _ _ H.k rfl trivial)
 ·exact KC 7 rfl rfl rfl rfl
 ·intro J F D H _ _ C;refine YM rfl rfl rfl (H.d 8 rfl rfl) ?_;simp [go_sem,H.f.g rfl s2];exact (C _ _ H.k rfl trivial)
 ·intro J F D H _ _ C;refine YM rfl rfl rfl (H.d 8 rfl rfl) ?_;simp [go_sem,(gS F 15 (H.d 9 rfl rfl)),(b3.k0 H.k).cell];exact (C _ _ H.k rfl trivial)
 ·intro J F D H _ _ C;refine YM rfl rfl rfl (H.d 8 rfl rfl) ?_;simp [go_sem,(gS F 16 (H.d 10 rfl rfl))];exact (C _ _ H.k rfl trivial)
 ·intro J F D H _ _ C;refine YM rfl rfl rfl (H.d 8 rfl rfl) ?_;simp [go_sem,H.f.g rfl s3];exact (C _ _ H.k rfl trivial)
 ·intro J F D H _ _ C;refine YM rfl rfl rfl (H.d 8 rfl rfl) ?_;simp [go_sem,(gS F 18 (H.d 12 rfl rfl)),(b4.k0 H.k).cell];exact (C _ _ H.k rfl trivial)
 ·intro J F D H _ _ C;refine YM rfl rfl rfl (H.d 8 rfl rfl) ?_;simp [go_sem,(gS F 19 (H.d 13 rfl rfl))];exact (C _ _ H.k rfl trivial)
 ·intro J F D H _ _ C;refine YM rfl rfl rfl (H.d 8 rfl rfl) ?_;exact Zi rfl (ev (H.d 11 rfl rfl)) (ev (H.d 14 rfl rfl)) Oz (C _ _ H.k rfl trivial)
 ·intro J F D H _ _ C;refine YM rfl rfl rfl (H.d 8 rfl rfl) ?_;exact Y8 rfl (ev (H.d 15 rfl rfl)) rfl rfl rfl (C _ _ H.k rfl trivial)
 ·exact λ J F D H _ _ C=>Za rfl (ev (H.d 8 rfl rfl)) Cz (λ _=>(ev (H.d 16 rfl rfl))) (C _ _ H.k rfl trivial)
 intro L a6 w7 W I O R U;replace S:=I.Z S;replace K:=I.E K;obtain ⟨s2,s3,s4⟩:=I.G3 s2 s3 s4;have s23:=gS a6 23 (R 17 _ rfl);replace b3:=b3.k0 O;replace b4:=b4.k0 O;replace b5:=b5.k0 O;replace V:=Nat.le_trans V O.size;replace P:=O.below0 P;clear I O R W U;refine Xi ?_;rcases Bool.eq_false_or_eq_true (decide ((p.length:Int)+(q.length:Int) > 40)) with q8|q8
 ·refine wp_cond_true (ev (vb s23 q8)) ?_;refine wp_seq ?_;have M:Xd [] (λ L aa D=>XY D (w.heap.size+2) 26 [Nz] (L 1) (λ _ vs=>vs=[Nz])):=by
   intro L aa D w' kk vv hkk hb U;have x0:=U;exact (x0.bel hb (λ _ h=>h))
  refine Xr M [24,0,5] [some (.agg #[Nz]),none,some Bf] (X9 3) [24,5] [(w.heap.size+2)] ?_ (e2 ?_ ?_ (en rfl ?_ .nil)) ?_
  ·exact λ _ h=>(⟨λ _=>b5.kp h Sz,Cz⟩)
  ·intro J F D H _ _ C;simp [go_sem];exact (C _ _ H.k rfl H.x)
  ·intro J F D H _ _ C;have x0:=H.x;have T:=x0.1 H.n;simp [go_sem,(gS F 24 (H.d 0 rfl rfl)),H.f.g rfl s4,T.cell,T.frz];exact C undef _ (H.k.store (.inr Sz) [Nz] 0) trivial (XY.set T (us:=[Nz]) rfl rfl)
  ·exact JL rfl rfl λ _ _ _ _ h=>h
  intro L a9 w10 W I O R U;have x0:=U;replace S:=I.Z S;replace K:=I.E K;replace s4:=I.G s4;have s5:=gS a9 5 (R 2 _ rfl);clear b5;obtain ⟨_,b5,rfl⟩:=x0.2 (W 1 Dz);replace V:=Nat.le_trans V O.size;replace P:=O.below P P.size (by simp<;>omega);clear I O R W x0 M s2 s3 s23 b3 b4;refine Xi (wp_ret (Ki ?_));refine bodyPost_ret (v:=.tuple #[.agg #[Nz],Bf]) (by simp [results,Tryz.results135,go_sem,s4,b5.cell,s5]) K ?_;have h0:=mr_no (p:=p) (q:=q) (by have:=of_decide_eq_true (show decide ((p.length:Int)+(q.length:Int) > 40)=true by simpa using q8);omega);exact ⟨_,by rw [h0.1],by rw [h0.2];exact XG.nilN _ _ _ _ _,P⟩
 ·refine wp_cond_false (ev (vb s23 q8)) ?_;refine wp_skip (Xi (wp_seq (wp_seq ?_)));refine Xl [25,26,27,28,29,30] [some (.agg #[Sv a.A p.length a.c]),some (Bv (decide (p.length=0))),some (Bv (decide (p.length=0))),some ((bif decide (p.length=0) then undef else (.agg #[Sv b.A q.length b.c]:Value))),some ((bif decide (p.length=0) then undef else (Bv (decide (q.length=0)):Value))),some (Bv (decide (p.length=0)||decide (q.length=0)))] (X9 6) [25,26,27,28,29,30] [] (λ _ _ _=>True) ?_ (e2 ?_ ?_ (en rfl ?_ (eg ?_ (eg ?_ (en rfl ?_ .nil))))) ?_
  ·exact λ _ _=>trivial
  ·intro J F D H _ _ C;simp [go_sem,H.f.g rfl s2,(b3.k0 H.k).cell];exact (C _ _ H.k rfl trivial)
  ·intro J F D H _ _ C;simp [go_sem,(gS F 25 (H.d 0 rfl rfl))];refine (ZW p a D).mono ?_;rintro x wx ⟨rfl,hb⟩;exact (C _ _ (H.k.call hb) rfl trivial)
  ·exact KC 1 rfl rfl rfl rfl
  ·intro J F D H _ _ C;refine J4 rfl rfl rfl (H.d 2 rfl rfl) (λ qg=>C _ _ H.k (Xz qg).symm trivial) λ qg=>?_;simp [go_sem,H.f.g rfl s3,(b4.k0 H.k).cell];exact (C _ _ H.k (XC qg).symm trivial)
  ·intro J F D H _ _ C;refine J4 rfl rfl rfl (H.d 2 rfl rfl) (λ qg=>C _ _ H.k (Xz qg).symm trivial) λ qg=>?_;simp [go_sem,(show F.tmps[28]?.getD undef=_ from (H.d 3 rfl rfl).trans (XC qg))];refine (ZW q b D).mono ?_;rintro x wx ⟨rfl,hb⟩;exact (C _ _ (H.k.call hb) (XC qg).symm trivial)
  ·exact oPOT 2 4 rfl rfl rfl rfl rfl rfl
  intro L a11 w12 W I O R U;replace S:=I.Z S;replace K:=I.E K;obtain ⟨s2,s3,s4⟩:=I.G3 s2 s3 s4;have s30:=gS a11 30 (R 5 _ rfl);replace b3:=b3.k0 O;replace b4:=b4.k0 O;replace b5:=b5.k0 O;replace V:=Nat.le_trans V O.size;replace P:=O.below0 P;clear I O R W U s23;refine Xi ?_;rcases Bool.eq_false_or_eq_true (decide (p.length=0)||decide (q.length=0)) with q13|q13
  ·refine wp_cond_true (ev (vb s30 q13)) ?_;refine wp_seq ?_;have M:Xd [] (λ L aa D=>XY D (w.heap.size+2) 26 [Nz] (L 1) (λ _ vs=>vs=[Nz])):=by
    intro L aa D w' kk vv hkk hb U;have x0:=U;exact (x0.bel hb (λ _ h=>h))
   refine Xr M [31,0,5] [some (.agg #[Nz]),none,some Bt] (X9 3) [31,5] [(w.heap.size+2)] ?_ (e2 ?_ ?_ (en rfl ?_ .nil)) ?_
   ·exact λ _ h=>(⟨λ _=>b5.kp h Sz,Cz⟩)
   ·intro J F D H _ _ C;simp [go_sem];exact (C _ _ H.k rfl H.x)
   ·intro J F D H _ _ C;have x0:=H.x;have T:=x0.1 H.n;simp [go_sem,(gS F 31 (H.d 0 rfl rfl)),H.f.g rfl s4,T.cell,T.frz];exact C undef _ (H.k.store (.inr Sz) [Nz] 0) trivial (XY.set T (us:=[Nz]) rfl rfl)
   ·exact JL rfl rfl λ _ _ _ _ h=>h
   intro L a14 w15 W I O R U;have x0:=U;replace S:=I.Z S;replace K:=I.E K;replace s4:=I.G s4;have s5:=gS a14 5 (R 2 _ rfl);clear b5;obtain ⟨_,b5,rfl⟩:=x0.2 (W 1 Dz);replace V:=Nat.le_trans V O.size;replace P:=O.below P P.size (by simp<;>omega);clear I O R W x0 M s2 s3 s30 b3 b4;refine Xi (wp_ret (Ki ?_));refine bodyPost_ret (v:=.tuple #[.agg #[Nz],Bt]) (by simp [results,Tryz.results135,go_sem,s4,b5.cell,s5]) K ?_;have h9:p.length+q.length<=40:=by have:=of_decide_eq_false (show decide ((p.length:Int)+(q.length:Int) > 40)=false by simpa using q8);omega
   have h0:=mr_void (p:=p) (q:=q) h9 (by have:=q13;simpa using this);exact ⟨_,by rw [h0.1],by rw [h0.2];exact XG.nilN _ _ _ _ _,P⟩
  ·have h9:p.length+q.length<=40:=by have:=of_decide_eq_false (show decide ((p.length:Int)+(q.length:Int) > 40)=false by simpa using q8);omega
   have hv9:p.length≠0/\q.length≠0:=by have:=q13;simpa using this
   obtain ⟨XX,hXX⟩:∃ z,z=p++q:=⟨_,rfl⟩;have hmr:=mr_yes hp hq h9 hv9.1 hv9.2;have hap:=app_hOk hp hq;have hal:(p++q).length<=40:=by rw [List.length_append];exact h9
   rw [<- hXX] at hmr hap hal;refine wp_cond_false (ev (vb s30 q13)) ?_;refine wp_skip (Xi (wp_seq ?_));have M:Xd [36,37,38,39] (λ L aa D=>(L 4=true->(λ D v=>∃ g1,v=Sv (some ⟨g1,0,none⟩) 2 2/\Xq D g1 24 [Sv a.A p.length a.c,Sv b.A q.length b.c]/\w12.heap.size<=g1) D (aa.tmps[36]?.getD undef))/\(L 5=true->(λ D v=>∃ A2 c2,v=Sv A2 ((XX).length) c2/\XG 136 3 Xe D w12.heap.size (Sv A2 (XX).length c2) XX) D (aa.tmps[37]?.getD undef))/\(L 6=true->(λ D v=>∃ A3 c3,v=.tuple #[.agg #[Sv A3 ((X3 (Xk XX)).length) c3],Bv (Yt (Xk XX))]/\XG 136 3 Xe D w12.heap.size (Sv A3 (X3 (Xk XX)).length c3) (X3 (Xk XX))) D (aa.tmps[38]?.getD undef))/\(L 7=true->(λ D v=>∃ A3 c3,v=.agg #[Sv A3 ((X3 (Xk XX)).length) c3]/\XG 136 3 Xe D w12.heap.size (Sv A3 (X3 (Xk XX)).length c3) (X3 (Xk XX))) D (aa.tmps[39]?.getD undef))/\XY D (w.heap.size+2) 26 [Nz] (L 9) (λ D vs=>∃ A3 c3,vs=[Sv A3 ((X3 (Xk XX)).length) c3]/\XG 136 3 Xe D w12.heap.size (Sv A3 (X3 (Xk XX)).length c3) (X3 (Xk XX)))):=by
    intro L aa D w' kk vv hkk hb U;obtain ⟨x0,x1,x2,x3,x4⟩:=U;exact ⟨(λ h=>by rw [Xv (hkk 36 Sz)];obtain ⟨g1',e,f1'⟩:=x0 h;exact ⟨g1',e,⟨f1'.1.bel hb,f1'.2⟩⟩),(λ h=>by rw [Xv (hkk 37 Sz)];obtain ⟨A2',c2',e,f2'⟩:=x1 h;exact ⟨A2',c2',e,f2'.below hb Xy⟩),(λ h=>by rw [Xv (hkk 38 Sz)];obtain ⟨A3',c3',e,f3'⟩:=x2 h;exact ⟨A3',c3',e,f3'.below hb Xy⟩),(λ h=>by rw [Xv (hkk 39 Sz)];obtain ⟨A3',c3',e,f3'⟩:=x3 h;exact ⟨A3',c3',e,f3'.below hb Xy⟩),(x4.bel hb (λ _ ⟨A3',c3',e,f3'⟩=>⟨A3',c3',e,f3'.below hb Xy⟩))⟩
   refine Xr M [32,33,34,35,36,37,38,39,40,0,5] [some (Pz w.heap.size),some (Sv a.A p.length a.c),some (Pz (w.heap.size+1)),some (Sv b.A q.length b.c),none,none,none,none,some (Bv (Yt (Xk XX))),none,some (Bv (Yt (Xk XX)))] (X9 11) [32,33,34,35,36,37,38,39,40,5] [(w.heap.size+2)] ?_ (e4 ?_ ?_ ?_ ?_ (e4 ?_ ?_ ?_ ?_ (e2 ?_ ?_ (en rfl ?_ .nil)))) ?_
   ·exact λ _ h=>⟨Cz,Cz,Cz,Cz,(⟨λ _=>b5.kp h Sz,Cz⟩)⟩
   ·intro J F D H _ _ C;simp [go_sem,H.f.g rfl s2];exact (C _ _ H.k rfl (M.q rfl H.x))
   ·intro J F D H _ _ C;simp [go_sem,(gS F 32 (H.d 0 rfl rfl)),(b3.kp H.k (by simp<;>omega)).cell];exact (C _ _ H.k rfl (M.q rfl H.x))
   ·intro J F D H _ _ C;simp [go_sem,H.f.g rfl s3];exact (C _ _ H.k rfl (M.q rfl H.x))
   ·intro J F D H _ _ C;simp [go_sem,(gS F 34 (H.d 2 rfl rfl)),(b4.kp H.k (by simp<;>omega)).cell];exact (C _ _ H.k rfl (M.q rfl H.x))
   ·intro J F D H _ _ C;obtain ⟨x0,x1,x2,x3,x4⟩:=H.x;simp [go_sem,(gS F 33 (H.d 1 rfl rfl)),(gS F 35 (H.d 3 rfl rfl))];have f1:Xq (D.alloc (.cells #[Sv a.A p.length a.c,Sv b.A q.length b.c] 24)) D.heap.size 24 [Sv a.A p.length a.c,Sv b.A q.length b.c]/\w12.heap.size<=D.heap.size:=⟨Xq.new _ _ _,H.k.size⟩;exact C _ _ (H.k.alloc _) trivial ⟨(λ _=>by rw [Xp (H.f.lt (by rw [S];decide))];exact ⟨_,rfl,f1⟩),(λ h=>by rw [Xv Dz];obtain ⟨A2',c2',e,f2'⟩:=x1 h;exact ⟨A2',c2',e,f2'.below (Xb bR _) Xy⟩),(λ h=>by rw [Xv Dz];obtain ⟨A3',c3',e,f3'⟩:=x2 h;exact ⟨A3',c3',e,f3'.below (Xb bR _) Xy⟩),(λ h=>by rw [Xv Dz];obtain ⟨A3',c3',e,f3'⟩:=x3 h;exact ⟨A3',c3',e,f3'.below (Xb bR _) Xy⟩),(x4.bel (Xb bR _) (λ _ ⟨A3',c3',e,f3'⟩=>⟨A3',c3',e,f3'.below (Xb bR _) Xy⟩))⟩
   ·intro J F D H _ _ C;obtain ⟨x0,x1,x2,x3,x4⟩:=H.x;obtain ⟨g1,ee4,f1⟩:=x0 (H.r 4 rfl);simp [go_sem,ee4];have hBi:=H.k.below P P.size (by simp<;>omega);refine (concatX_c hXX a.A b.A a.c b.c g1 D Oz Oz Oz (hsp.below hBi) (hsq.below hBi) hnb f1.1.has).mono ?_;rintro x wx ⟨_,rfl,⟨A2,c2,rfl,f0⟩,hb⟩;have f2:=XG.mono (show XG 136 3 Xe wx D.heap.size (Sv A2 (XX).length c2) (XX) from ⟨_,_,rfl,f0⟩) H.k.size;exact (C _ _ (H.k.call hb) trivial ⟨(λ h=>by rw [Xv Dz];obtain ⟨g1',e,f1'⟩:=x0 h;exact ⟨g1',e,⟨f1'.1.bel hb,f1'.2⟩⟩),(λ _=>by rw [Xp (H.f.lt (by rw [S];decide))];exact ⟨A2,c2,rfl,f2⟩),(λ h=>by rw [Xv Dz];obtain ⟨A3',c3',e,f3'⟩:=x2 h;exact ⟨A3',c3',e,f3'.below hb Xy⟩),(λ h=>by rw [Xv Dz];obtain ⟨A3',c3',e,f3'⟩:=x3 h;exact ⟨A3',c3',e,f3'.below hb Xy⟩),(x4.bel hb (λ _ ⟨A3',c3',e,f3'⟩=>⟨A3',c3',e,f3'.below hb Xy⟩))⟩)
   ·intro J F D H _ _ C;obtain ⟨x0,x1,x2,x3,x4⟩:=H.x;obtain ⟨A2,c2,ee5,f2⟩:=x1 (H.r 5 rfl);simp [go_sem,ee5];refine (iMeet_c A2 XX c2 D Oz hap (f2.out Xx) f2.nilcap).mono ?_;rintro x wx ⟨_,rfl,⟨A3,c3,rfl,f0⟩,hb⟩;have f3:=XG.mono (show XG 136 3 Xe wx D.heap.size (Sv A3 (X3 (Xk XX)).length c3) (X3 (Xk XX)) from ⟨_,_,rfl,f0⟩) H.k.size;exact (C _ _ (H.k.call hb) trivial ⟨(λ h=>by rw [Xv Dz];obtain ⟨g1',e,f1'⟩:=x0 h;exact ⟨g1',e,⟨f1'.1.bel hb,f1'.2⟩⟩),(λ h=>by rw [Xv Dz];obtain ⟨A2',c2',e,f2'⟩:=x1 h;exact ⟨A2',c2',e,f2'.below hb Xy⟩),(λ _=>by rw [Xp (H.f.lt (by rw [S];decide))];exact ⟨A3,c3,rfl,f3⟩),(λ h=>by rw [Xv Dz];obtain ⟨A3',c3',e,f3'⟩:=x3 h;exact ⟨A3',c3',e,f3'.below hb Xy⟩),(x4.bel hb (λ _ ⟨A3',c3',e,f3'⟩=>⟨A3',c3',e,f3'.below hb Xy⟩))⟩)
   ·intro J F D H _ _ C;obtain ⟨x0,x1,x2,x3,x4⟩:=H.x;obtain ⟨A3,c3,ee6,f3⟩:=x2 (H.r 6 rfl);exact XI rfl (ev ee6) rfl (C _ _ H.k trivial ⟨(λ h=>by rw [Xv Dz];obtain ⟨g1',e,f1'⟩:=x0 h;exact ⟨g1',e,⟨f1'.1.bel bR,f1'.2⟩⟩),(λ h=>by rw [Xv Dz];obtain ⟨A2',c2',e,f2'⟩:=x1 h;exact ⟨A2',c2',e,f2'.below bR Xy⟩),(λ h=>by rw [Xv Dz];obtain ⟨A3',c3',e,f3'⟩:=x2 h;exact ⟨A3',c3',e,f3'.below bR Xy⟩),(λ _=>by rw [Xp (H.f.lt (by rw [S];decide))];exact ⟨A3,c3,rfl,f3⟩),(x4.bel bR (λ _ ⟨A3',c3',e,f3'⟩=>⟨A3',c3',e,f3'.below bR Xy⟩))⟩)
   ·intro J F D H _ _ C;obtain ⟨x0,x1,x2,x3,x4⟩:=H.x;obtain ⟨A3,c3,ee6,f3⟩:=x2 (H.r 6 rfl);exact XI rfl (ev ee6) rfl (C _ _ H.k rfl (M.q rfl H.x))
   ·intro J F D H _ _ C;obtain ⟨x0,x1,x2,x3,x4⟩:=H.x;obtain ⟨A3,c3,ee7,f3⟩:=x3 (H.r 7 rfl);have T:=x4.1 H.n;simp [go_sem,ee7,H.f.g rfl s4,T.cell,T.frz];have f3:=f3.otherC (f3.typ T Dz) [Sv A3 ((X3 (Xk XX)).length) c3] 0;exact C undef _ (H.k.store (.inr Sz) [Sv A3 ((X3 (Xk XX)).length) c3] 0) trivial ⟨(λ h=>by obtain ⟨g1',e,f1'⟩:=x0 h;exact ⟨g1',e,⟨f1'.1.other (f1'.1.ne T Dz) [Sv A3 ((X3 (Xk XX)).length) c3] 0,f1'.2⟩⟩),(λ h=>by obtain ⟨A2',c2',e,f2'⟩:=x1 h;exact ⟨A2',c2',e,f2'.otherC (f2'.typ T Dz) [Sv A3 ((X3 (Xk XX)).length) c3] 0⟩),(λ h=>by obtain ⟨A3',c3',e,f3'⟩:=x2 h;exact ⟨A3',c3',e,f3'.otherC (f3'.typ T Dz) [Sv A3 ((X3 (Xk XX)).length) c3] 0⟩),(λ h=>by obtain ⟨A3',c3',e,f3'⟩:=x3 h;exact ⟨A3',c3',e,f3'.otherC (f3'.typ T Dz) [Sv A3 ((X3 (Xk XX)).length) c3] 0⟩),(XY.set T (us:=[Sv A3 ((X3 (Xk XX)).length) c3]) rfl ⟨A3,c3,rfl,f3⟩)⟩
   ·exact KS 8 rfl rfl rfl rfl λ _ _ _ _=>M.q rfl
   intro L a16 w17 W I O R U;obtain ⟨x0,x1,x2,x3,x4⟩:=U;replace S:=I.Z S;replace K:=I.E K;replace s4:=I.G s4;have s5:=gS a16 5 (R 10 _ rfl);clear b5;obtain ⟨_,b5,A3,c3,rfl,N3⟩:=x4.2 (W 9 Dz);have zw12:=V;have zw17:=O.size;replace V:=Nat.le_refl w17.heap.size;replace P:=O.below P P.size (by simp<;>omega);clear I O R W x0 x1 x2 x3 x4 M s2 s3 s30 b3 b4;refine Xi (wp_ret ?_);refine bodyPost_ret (v:=.tuple #[.agg #[Sv A3 ((X3 (Xk XX)).length) c3],Bv (Yt (Xk XX))]) (by simp [results,Tryz.results135,go_sem,s4,b5.cell,s5]) K ?_;exact ⟨_,by rw [hmr.1];rw [hmr.2.2.1],by rw [hmr.2.1];exact N3.mono Oz,P⟩
end Go.Proofs.YtbekjpkcicjcgaaGreat
