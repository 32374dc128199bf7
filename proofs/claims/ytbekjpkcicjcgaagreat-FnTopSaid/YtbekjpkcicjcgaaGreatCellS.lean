/-
 The inputs that are admitted at all corners of a cell: of the program and of the reference.
 Conditions: valid rooms, regions and cells.
-/
import Derived.Test.YtbekjpkcicjcgaaGreatDrw
import Derived.WalkKit
set_option maxHeartbeats 3000000
set_option maxRecDepth 100000
namespace Go.Proofs.YtbekjpkcicjcgaaGreat
open Go.RowKit
theorem spanC_no {r:XD} {p e:List Half} {t:JJ} {i j:Int} {k:Nat} (h:k<(Xg t i j).length) (hb:YL p ((Xg t i j).getD k Yi)=false):YC r p e t i j=none:=by
 rw [getD_el h] at hb;rw [spanC_eq,if_neg];intro q;rw [List.all_eq_true] at q;rw [q _ (List.getElem_mem h)] at hb;cases hb
theorem spanC_all {r:XD} {p e:List Half} {t:JJ} {i j:Int} (h:(Xg t i j).all (YL p)=true):YC r p e t i j=Ky (λ s=>Ym r e s) (Xg t i j) (Xg t i j).length:=by
 rw [spanC_eq,if_pos h];rfl
theorem iSpanC_c (r:XD) (p e:List Half) (t:JJ) (i j:Int) (ra:Y7) (b eb:Kt) (tA:Option Addr) (tc:Nat) (w:World) (hr:XJ r=true) (hp:Xc p=true) (he:Xc e=true) (hC:CellB t i j) (hsp4:∀ s∈Xg t i j,Xo s=true/\s.d=1) (hs:ZX w r ra) (hsp:Sl 3 Xe w b.A p) (hse:Sl 3 Xe w eb.A e) :
 Calls Tryz.prog 61 #[X7 r ra,.agg #[Sv b.A p.length b.c],.agg #[Sv eb.A e.length eb.c],.agg #[Vi t.x0,Vi t.y0,Vi t.step,Vi t.nx,Vi t.ny,Sv tA t.cells.length tc],Vi i,Vi j] w λ x w'=>x=.returned (Jf (YC r p e t i j))/\Below w.heap.size w w':=by
 refine Yz Tryz.func61 rfl (n:=39) Tryz.ntmps61 Sz ?_;intro a0 P F ha;have s0:a0.tmps[0]?.getD undef=X7 r ra:=ha 0 _ rfl;have s1:a0.tmps[1]?.getD undef=.agg #[Sv b.A p.length b.c]:=ha 1 _ rfl;have s2:a0.tmps[2]?.getD undef=.agg #[Sv eb.A e.length eb.c]:=ha 2 _ rfl;have s3:a0.tmps[3]?.getD undef=.agg #[Vi t.x0,Vi t.y0,Vi t.step,Vi t.nx,Vi t.ny,Sv tA t.cells.length tc]:=ha 3 _ rfl;have s4:a0.tmps[4]?.getD undef=Vi i:=ha 4 _ rfl;have s5:a0.tmps[5]?.getD undef=Vi j:=ha 5 _ rfl;clear ha;have O:=Below.refl w.heap.size w;have T:=Nat.le_refl w.heap.size;refine wp_seq ?_;refine Yk [6,7,8,9,12,13] [Pz w.heap.size,Pz (w.heap.size+1),Pz (w.heap.size+2),Pz (w.heap.size+3),Pz (w.heap.size+4),Bf] [some (.cells (YR r ra).toArray 28),some (.cells [Sv b.A p.length b.c].toArray 26),some (.cells [Sv eb.A e.length eb.c].toArray 26),some (.cells [Vi t.x0,Vi t.y0,Vi t.step,Vi t.nx,Vi t.ny,Sv tA t.cells.length tc].toArray 57),some (.cells [V0,V0,V0,V0].toArray 48),none] [0,1,2,3,4,5] [6,7,8,9,12,13] [0,1,2,3,4,5] (by kernel_rfl) (by rw [P];decide) (ec ?_ (ec ?_ (ec ?_ (ec ?_ (ec ?_ (ec ?_ .nil)))))) ?_
 ·intro a w' C hs N Q D;simp [go_sem,C.g rfl s0];rw [hs];exact D
 ·intro a w' C hs N Q D;simp [go_sem,C.g rfl s1];rw [hs];exact D
 ·intro a w' C hs N Q D;simp [go_sem,C.g rfl s2];rw [hs];exact D
 ·intro a w' C hs N Q D;simp [go_sem,C.g rfl s3];rw [hs];exact D
 ·intro a w' C hs N Q D;simp [go_sem];rw [hs];exact D
 ·intro a w' C hs N Q D;simp [go_sem];exact D
 intro a1 w2 C M hb hO;replace P:=C.size.trans P;replace F:=C.defers.trans F;replace s4:=C.g rfl s4;replace s5:=C.g rfl s5;have s6:a1.tmps[6]?.getD undef=Pz w.heap.size:=M 0 Dz;have s7:a1.tmps[7]?.getD undef=Pz (w.heap.size+1):=M 1 Dz;have s8:a1.tmps[8]?.getD undef=Pz (w.heap.size+2):=M 2 Dz;have s9:a1.tmps[9]?.getD undef=Pz (w.heap.size+3):=M 3 Dz;have s12:a1.tmps[12]?.getD undef=Pz (w.heap.size+4):=M 4 Dz;have b3:Xq w2 w.heap.size 28 (YR r ra):=hO 0 _ rfl;have b4:Xq w2 (w.heap.size+1) 26 [Sv b.A p.length b.c]:=hO 1 _ rfl;have b5:Xq w2 (w.heap.size+2) 26 [Sv eb.A e.length eb.c]:=hO 2 _ rfl;have b6:Xq w2 (w.heap.size+3) 57 [Vi t.x0,Vi t.y0,Vi t.step,Vi t.nx,Vi t.ny,Sv tA t.cells.length tc]:=hO 3 _ rfl;have b7:Xq w2 (w.heap.size+4) 48 [V0,V0,V0,V0]:=hO 4 _ rfl;have hG:=b7.lt;replace O:=Xf O hb;have zw2:=Nat.le_trans T hb.size;replace T:=Nat.le_refl w2.heap.size;clear C M hb hO s0 s1 s2 s3;refine Xi (wp_seq ?_);have J:Xd [14,20] (λ L aa I=>(L 3=true->(λ I v=>∃ A1 c1,v=Sv A1 ((Xg t i j).length) c1/\XG 30 3 Kz I w2.heap.size (Sv A1 ((Xg t i j)).length c1) (Xg t i j)) I (aa.tmps[20]?.getD undef))/\(L 4=true->(λ I v=>∃ A1 c1,v=Sv A1 ((Xg t i j).length) c1/\XG 30 3 Kz I w2.heap.size (Sv A1 ((Xg t i j)).length c1) (Xg t i j)) I (aa.tmps[14]?.getD undef))):=by
  intro L aa I w' kk vv hkk hb R;obtain ⟨x0,x1⟩:=R;exact ⟨(λ h=>by rw [Xv (hkk 20 Sz)];obtain ⟨A1',c1',e,f1'⟩:=x0 h;exact ⟨A1',c1',e,f1'.below hb Xy⟩),(λ h=>by rw [Xv (hkk 14 Sz)];obtain ⟨A1',c1',e,f1'⟩:=x1 h;exact ⟨A1',c1',e,f1'.below hb Xy⟩)⟩
 refine Xr J [17,18,19,20,14] [some (.agg #[Vi t.x0,Vi t.y0,Vi t.step,Vi t.nx,Vi t.ny,Sv tA t.cells.length tc]),some (Vi i),some (Vi j),none,none] (X9 5) [17,18,19,20,14] [] ?_ (e4 ?_ ?_ ?_ ?_ (en rfl ?_ .nil)) ?_
 ·exact λ _ h=>⟨Cz,Cz⟩
 ·intro S K I H _ _ D;simp [go_sem,H.f.g rfl s9,(b6.k0 H.k).cell];exact (D _ _ H.k rfl (J.q rfl H.x))
 ·exact Y4 s4 rfl rfl rfl λ _ _ _ _=>J.q rfl
 ·exact Y4 s5 rfl rfl rfl λ _ _ _ _=>J.q rfl
 ·intro S K I H _ _ D;obtain ⟨x0,x1⟩:=H.x;simp [go_sem,(gS K 17 (H.d 0 rfl rfl)),(gS K 18 (H.d 1 rfl rfl)),(gS K 19 (H.d 2 rfl rfl))];refine (iCnrs_c t tA tc i j I hC).mono ?_;rintro x wx ⟨_,rfl,⟨A1,c1,rfl,f0⟩,hb⟩;have f1:=XG.mono (show XG 30 3 Kz wx I.heap.size (Sv A1 ((Xg t i j)).length c1) (Xg t i j) from ⟨_,_,rfl,f0⟩) H.k.size;exact (D _ _ (H.k.call hb) trivial ⟨(λ _=>by rw [Xp (H.f.lt (by rw [P];decide))];exact ⟨A1,c1,rfl,f1⟩),(λ h=>by rw [Xv Dz];obtain ⟨A1',c1',e,f1'⟩:=x1 h;exact ⟨A1',c1',e,f1'.below hb Xy⟩)⟩)
 ·intro S K I H _ _ D;obtain ⟨x0,x1⟩:=H.x;obtain ⟨A1,c1,ee3,f1⟩:=x0 (H.r 3 rfl);exact ZL rfl (ev ee3) (D _ _ H.k trivial ⟨(λ h=>by rw [Xv Dz];obtain ⟨A1',c1',e,f1'⟩:=x0 h;exact ⟨A1',c1',e,f1'.below bR Xy⟩),(λ _=>by rw [Xp (H.f.lt (by rw [P];decide))];exact ⟨A1,c1,rfl,f1⟩)⟩)
 intro L a8 w9 U C B M R;obtain ⟨x0,x1⟩:=R;replace P:=C.Z P;replace F:=C.E F;obtain ⟨s6,s7,s8,s12⟩:=C.G4 s6 s7 s8 s12;replace b3:=b3.k0 B;replace b4:=b4.k0 B;replace b5:=b5.k0 B;replace b7:=b7.k0 B;obtain ⟨A1,c1,s14,N1⟩:=x1 (U 4 Dz);have i1:∀ p,A1=some p->p.block<w9.heap.size:=λ p hp=>(N1.blk p hp).2;have zw9:=B.size;replace T:=Nat.le_refl w9.heap.size;replace O:=B.below0 O;clear C B M U x0 x1 J s4 s5 s9 b6;refine Xi (wp_seq (wp_seq ?_));refine Xl [21,22,23] [some (Sv A1 ((Xg t i j).length) c1),some (Vi (((Xg t i j).length:Nat):Int)),some V0] (X9 3) [21,22,23] [] (λ _ _ _=>True) ?_ (e2 ?_ ?_ (en rfl ?_ .nil)) ?_
 ·exact λ _ _=>trivial
 ·exact Kq s14 rfl rfl rfl
 ·intro S K I H _ _ D;simp [go_sem,(gS K 21 (H.d 0 rfl rfl))];exact (D _ _ H.k rfl trivial)
 ·exact oMCT rfl rfl
 intro L a10 w11 U C B M R;replace P:=C.Z P;replace F:=C.E F;obtain ⟨s6,s7,s8,s12,s14⟩:=C.G5 s6 s7 s8 s12 s14;have s21:=gS a10 21 (M 0 _ rfl);have s22:=gS a10 22 (M 1 _ rfl);have s23:=gS a10 23 (M 2 _ rfl);replace b3:=b3.k0 B;replace b4:=b4.k0 B;replace b5:=b5.k0 B;replace b7:=b7.k0 B;replace N1:=N1.below B.toBelow Xy;replace T:=Nat.le_trans T B.size;replace O:=B.below0 O;clear C B M U R;refine Xi (wp_block ?_);refine wp_loop (λ al wl=>al.tmps.size=39/\al.defers=[]/\∃ (k:Nat),(k<=(Xg t i j).length)/\(((Xg t i j).take k).all (YL p)=true)/\al.tmps[6]?.getD undef=Pz w.heap.size/\al.tmps[7]?.getD undef=Pz (w.heap.size+1)/\al.tmps[8]?.getD undef=Pz (w.heap.size+2)/\al.tmps[12]?.getD undef=Pz (w.heap.size+4)/\al.tmps[14]?.getD undef=Sv A1 ((Xg t i j).length) c1/\al.tmps[21]?.getD undef=Sv A1 ((Xg t i j).length) c1/\al.tmps[22]?.getD undef=Vi (((Xg t i j).length:Nat):Int)/\al.tmps[23]?.getD undef=Vi (k:Int)/\Xq wl w.heap.size 28 (YR r ra)/\Xq wl (w.heap.size+1) 26 [Sv b.A p.length b.c]/\Xq wl (w.heap.size+2) 26 [Sv eb.A e.length eb.c]/\Xq wl (w.heap.size+4) 48 [V0,V0,V0,V0]/\XG 30 3 Kz wl w2.heap.size (Sv A1 (Xg t i j).length c1) (Xg t i j)/\Below w.heap.size w wl/\w9.heap.size<=wl.heap.size) (λ al _=>((Xg t i j).length-(intOf (al.tmps[23]?.getD undef)).toNat)) ?_ ?_
 ·exact ⟨P,F,(0),(Nat.zero_le _),(rfl),s6,s7,s8,s12,s14,s21,s22,s23,b3,b4,b5,b7,N1,O,Oz⟩
 clear P F O T s6 s7 s8 s12 s14 s21 s22 s23 b3 b4 b5 b7 N1;rintro a12 w13 ⟨P,F,k,hk,hall,s6,s7,s8,s12,s14,s21,s22,s23,b3,b4,b5,b7,N1,O,T⟩;have zw13:=T;replace T:=Nat.le_refl w13.heap.size;have hmu:((Xg t i j).length-(intOf (a12.tmps[23]?.getD undef)).toNat)=((Xg t i j).length-(intOf ((Vi (k:Int)))).toNat):=by rw [s23]
 refine wp_seq ?_;refine Xl [24] [some (Bv (decide ((k:Int)<(((Xg t i j).length:Nat):Int))))] (X9 1) [24] [] (λ _ _ _=>True) ?_ (en rfl ?_ .nil) ?_
 ·exact λ _ _=>trivial
 ·exact λ S K I H _ _ D=>Y8 rfl (ev (H.f.g rfl s23)) (ev (H.f.g rfl s22)) rfl rfl (D _ _ H.k rfl trivial)
 intro L a14 w15 U C B M R;replace P:=C.Z P;replace F:=C.E F;obtain ⟨s6,s7,s8,s12,s14,s21,s22,s23⟩:=C.G8 s6 s7 s8 s12 s14 s21 s22 s23;have s24:=gS a14 24 (M 0 _ rfl);replace b3:=b3.k0 B;replace b4:=b4.k0 B;replace b5:=b5.k0 B;replace b7:=b7.k0 B;replace N1:=N1.below B.toBelow Xy;replace T:=Nat.le_trans T B.size;replace O:=B.below0 O;clear C B M U R;refine Xi (wp_seq ?_);rcases Bool.eq_false_or_eq_true (decide ((k:Int)<(((Xg t i j).length:Nat):Int))) with q16|q16
 ·have hkl:k<(Xg t i j).length:=by have:=J2 q16;omega
  have hcl:(Xg t i j).length=4:=rfl;obtain ⟨bc,oc,ec_,fc⟩:=ElS.open_ (N1.out Jg) Oz;have tbc:bc<w15.heap.size:=fc.lt;refine wp_cond_true (ev (vb s24 q16)) ?_;refine wp_skip (Xi (wp_seq (wp_block (wp_seq ?_))));have J:Xd [16] (λ L aa I=>(L 2=true->X6 w15 aa I 16 30 [V0,V0,V0] (L 3) (λ _ vs=>vs=[Vi (((Xg t i j).getD k Yi).x),Vi (((Xg t i j).getD k Yi).y),Vi (((Xg t i j).getD k Yi).d)]))):=by
   intro L aa I w' kk vv hkk hb R;have x0:=R;exact (λ h=>((x0 h).bel hb (λ _ h=>h)).put (hkk 16 Sz) _)
  refine Xr J [25,26,16,0] [some (.pointer (some ⟨bc,oc+k*3,none⟩)),some (Yu ((Xg t i j).getD k Yi)),none,none] (X9 4) [25,26,16] [] ?_ (e4 ?_ ?_ ?_ ?_ .nil) ?_
  ·exact λ _ h=>Cz
  ·intro S K I H _ _ D;simp [go_sem,H.f.g rfl s21,H.f.g rfl s23,hkl,ec_];exact (D _ _ H.k rfl (J.q rfl H.x))
  ·intro S K I H _ _ D;have hE:=fc.kp H.k Sz;simp [go_sem,(gS K 25 (H.d 0 rfl rfl)),(hE.at_ Yi (i:=k) Oz 0 (p:=oc+k*3) Oz rfl),(hE.at_ Yi (i:=k) Oz 1 (p:=oc+k*3+1) Oz rfl),(hE.at_ Yi (i:=k) Oz 2 (p:=oc+k*3+2) Oz rfl)];exact (D _ _ H.k rfl (J.q rfl H.x))
  ·intro S K I H _ _ D;have x0:=H.x;simp [go_sem];exact D _ _ (H.k.alloc _) trivial (λ _=>by rw [show Yc S 2 3=false from H.t 3 rfl];exact X6.new (s:=16) (H.f.lt (by rw [P];decide)) H.k.size [V0,V0,V0])
  ·intro S K I H _ _ D;have x0:=H.x;obtain ⟨g,eg,hg,y,_⟩:=x0 (H.r 2 rfl);have V:=y H.n;simp [go_sem,(gS K 26 (H.d 1 rfl rfl)),eg,V.cell,V.frz];exact D undef _ (H.k.store (.inl hg) [Vi (((Xg t i j).getD k Yi).x),Vi (((Xg t i j).getD k Yi).y),Vi (((Xg t i j).getD k Yi).d)] 0) trivial (λ _=>X6.set eg hg V (us:=[Vi (((Xg t i j).getD k Yi).x),Vi (((Xg t i j).getD k Yi).y),Vi (((Xg t i j).getD k Yi).d)]) rfl rfl)
  intro L a17 w18 U C B M R;have x0:=R;replace P:=C.Z P;replace F:=C.E F;obtain ⟨s6,s7,s8,s12,s14,s21,s22,s23⟩:=C.G8 s6 s7 s8 s12 s14 s21 s22 s23;replace b3:=b3.k0 B;replace b4:=b4.k0 B;replace b5:=b5.k0 B;replace b7:=b7.k0 B;obtain ⟨g19,s16,lg19,-,b19⟩:=x0 (U 2 Dz);obtain ⟨_,b19,rfl⟩:=b19 (U 3 Dz);have ug19:=b19.lt;replace N1:=N1.below B.toBelow Xy;have zw15:=T;have zw18:=B.size;replace T:=Nat.le_refl w18.heap.size;replace O:=B.below0 O;clear C B M U x0 J s24 fc;refine Xi (wp_seq ?_);refine Xl [27,28,29,30] [some (.agg #[Sv b.A p.length b.c]),some (Yu ((Xg t i j).getD k Yi)),some (Bv (YL p ((Xg t i j).getD k Yi))),some (Bv (!(YL p ((Xg t i j).getD k Yi))))] (X9 4) [27,28,29,30] [] (λ _ _ _=>True) ?_ (e4 ?_ ?_ ?_ ?_ .nil) ?_
  ·exact λ _ _=>trivial
  ·intro S K I H _ _ D;simp [go_sem,H.f.g rfl s7,(b4.k0 H.k).cell];exact (D _ _ H.k rfl trivial)
  ·intro S K I H _ _ D;simp [go_sem,H.f.g rfl s16,(b19.k0 H.k).cell];exact (D _ _ H.k rfl trivial)
  ·intro S K I H _ _ D;simp [go_sem,(gS K 27 (H.d 0 rfl rfl)),(gS K 28 (H.d 1 rfl rfl))];have hBi:=H.k.below0 O;refine (iHolds_c p b ((Xg t i j).getD k Yi) I (by have:=Y0 hp;omega) (Zp hp) (hsp4 _ (getD_mem hkl Yi)).1 (hsp.below hBi)).mono ?_;rintro x wx ⟨rfl,hb⟩;exact (D _ _ (H.k.call hb) rfl trivial)
  ·exact JD 2 rfl rfl rfl rfl
  intro L a20 w21 U C B M R;replace P:=C.Z P;replace F:=C.E F;obtain ⟨s6,s7,s8,s12,s14,s21,s22,s23⟩:=C.G8 s6 s7 s8 s12 s14 s21 s22 s23;have s30:=gS a20 30 (M 3 _ rfl);replace b3:=b3.k0 B;replace b4:=b4.k0 B;replace b5:=b5.k0 B;replace b7:=b7.k0 B;replace N1:=N1.below B.toBelow Xy;replace T:=Nat.le_trans T B.size;replace O:=B.below0 O;clear C B M U R s16 b19;refine Xi ?_;rcases Bool.eq_false_or_eq_true (!(YL p ((Xg t i j).getD k Yi))) with q22|q22
  ·refine wp_cond_true (ev (vb s30 q22)) ?_;refine wp_seq ?_;have J:Xd [] (λ L aa I=>XW I (w.heap.size+4) 48 [V0,V0,V0,V0] (L 1) (λ _ vs=>vs=[V0,V0,V0,V0])):=by
    intro L aa I w' kk vv hkk hb R;have x0:=R;exact (x0.bel hb (λ _ h=>h))
   refine Xr J [31,0,13] [some (.agg #[V0,V0,V0,V0]),none,some Bf] (X9 3) [31,13] [(w.heap.size+4)] ?_ (e2 ?_ ?_ (en rfl ?_ .nil)) ?_
   ·exact λ _ h=>(⟨λ _=>b7.kp h Sz,Cz⟩)
   ·intro S K I H _ _ D;simp [go_sem];exact (D _ _ H.k rfl H.x)
   ·intro S K I H _ _ D;have x0:=H.x;have V:=x0.1 H.n;simp [go_sem,(gS K 31 (H.d 0 rfl rfl)),H.f.g rfl s12,V.cell,V.frz];exact D undef _ (H.k.store (.inr Sz) [V0,V0,V0,V0] 0) trivial (XW.set V (us:=[V0,V0,V0,V0]) rfl rfl)
   ·exact JM rfl rfl λ _ _ _ _ h=>h
   intro L a23 w24 U C B M R;have x0:=R;replace P:=C.Z P;replace F:=C.E F;replace s12:=C.G s12;have s13:=gS a23 13 (M 2 _ rfl);clear b7;obtain ⟨_,b7,rfl⟩:=x0.2 (U 1 Dz);replace T:=Nat.le_trans T B.size;replace O:=B.below O O.size (by simp<;>omega);clear C B M U x0 J s6 s7 s8 s14 s21 s22 s23 s30 b3 b4 b5 N1 i1;refine Xi (wp_ret ?_);refine ib_r (Ki (Ki (ib_r (Ki ?_))));refine bodyPost_ret (v:=.tuple #[.agg #[V0,V0,V0,V0],Bf]) (by simp [results,Tryz.results61,go_sem,s12,b7.cell,s13]) F ?_;exact ⟨by rw [spanC_no hkl (JE q22)];rfl,O⟩
  ·refine wp_cond_false (ev (vb s30 q22)) ?_;refine wp_skip ?_;refine ib_n (Xi ?_);refine Xl [32,23] [some (Vi ((k:Int)+1)),some (Vi ((k:Int)+1))] (X9 2) [32,23] [] (λ L aa I=>(L 1=false->aa.tmps[23]?.getD undef=Vi (k:Int))) ?_ (e2 ?_ ?_ .nil) ?_
   ·exact λ _ h=>(λ _=>s23)
   ·intro S K I H _ _ D;have x0:=H.x;exact Zi rfl (ev (x0 (H.t 1 rfl))) rfl Oz (D _ _ H.k rfl (λ h=>(Xv Dz _).trans (x0 h)))
   ·intro S K I H _ _ D;have x0:=H.x;exact XO rfl (ev (H.d 0 rfl rfl)) (D _ _ H.k rfl (λ h=>by simp [Yc] at h))
   intro L a25 w26 U C B M R;have x0:=R;replace P:=C.Z P;replace F:=C.E F;obtain ⟨s6,s7,s8,s12,s14,s21,s22⟩:=C.G7 s6 s7 s8 s12 s14 s21 s22;have s23:=gS a25 23 (M 1 _ rfl);replace b3:=b3.k0 B;replace b4:=b4.k0 B;replace b5:=b5.k0 B;replace b7:=b7.k0 B;replace N1:=N1.below B.toBelow Xy;replace T:=Nat.le_trans T B.size;replace O:=B.below0 O;clear C B M U x0 s30;refine Xi ?_;refine ⟨?_, ?_⟩
   ·exact ⟨P,F,(k+1),Oz,(within_next hkl hall (YT q22)),s6,s7,s8,s12,s14,s21,s22,s23,b3,b4,b5,b7,N1,O,Oz⟩
   ·show ((Xg t i j).length-(intOf (a25.tmps[23]?.getD undef)).toNat)<_;rw [s23,hmu];simp only [intOf];omega
 ·have ek:k=(Xg t i j).length:=by have:=Js q16;omega
  rw [ek,List.take_length] at hall;refine wp_cond_false (ev (vb s24 q16)) ?_;refine wp_exit ?_;refine th_e (th_e (ib_x (Xi (wp_seq ?_))));have J:Xd [] (λ L aa I=>XW I (w.heap.size+4) 48 [V0,V0,V0,V0] (L 6) (λ _ vs=>vs=[Vi (((Ky (λ s=>Ym r e s) (Xg t i j) (Xg t i j).length).getD Xu).low.n),Vi (((Ky (λ s=>Ym r e s) (Xg t i j) (Xg t i j).length).getD Xu).low.d),Vi (((Ky (λ s=>Ym r e s) (Xg t i j) (Xg t i j).length).getD Xu).high.n),Vi (((Ky (λ s=>Ym r e s) (Xg t i j) (Xg t i j).length).getD Xu).high.d)])):=by
   intro L aa I w' kk vv hkk hb R;have x0:=R;exact (x0.bel hb (λ _ h=>h))
  refine Xr J [33,34,35,36,37,38,0,13] [some (X7 r ra),some (.agg #[Sv eb.A e.length eb.c]),some (Sv A1 ((Xg t i j).length) c1),some (.tuple #[ZC ((Ky (λ s=>Ym r e s) (Xg t i j) (Xg t i j).length).getD Xu),Bv ((Ky (λ s=>Ym r e s) (Xg t i j) (Xg t i j).length).isSome)]),some (ZC ((Ky (λ s=>Ym r e s) (Xg t i j) (Xg t i j).length).getD Xu)),some (Bv ((Ky (λ s=>Ym r e s) (Xg t i j) (Xg t i j).length).isSome)),none,some (Bv ((Ky (λ s=>Ym r e s) (Xg t i j) (Xg t i j).length).isSome))] (X9 8) [33,34,35,36,37,38,13] [(w.heap.size+4)] ?_ (e4 ?_ ?_ ?_ ?_ (e4 ?_ ?_ ?_ ?_ .nil)) ?_
  ·exact λ _ h=>(⟨λ _=>b7.kp h Sz,Cz⟩)
  ·intro S K I H _ _ D;simp [go_sem,H.f.g rfl s6,(b3.kp H.k (by simp<;>omega)).cell];exact (D _ _ H.k rfl H.x)
  ·intro S K I H _ _ D;simp [go_sem,H.f.g rfl s8,(b5.kp H.k (by simp<;>omega)).cell];exact (D _ _ H.k rfl H.x)
  ·exact Y4 s14 rfl rfl rfl λ _ _ _ _ h=>h
  ·intro S K I H _ _ D;simp [go_sem,(gS K 33 (H.d 0 rfl rfl)),(gS K 34 (H.d 1 rfl rfl)),(gS K 35 (H.d 2 rfl rfl))];have hBi:=H.k.below O O.size (by simp<;>omega);refine (iAdmAll_c r e (Xg t i j) ra eb ⟨A1,c1⟩ I hr (Zp he) (Y0 he) (λ s h=>(hsp4 s h).1) (Nat.le_refl 4) (hs.below hBi) (hse.below hBi) ((N1.kp H.k i1 Oz (by simp<;>omega)).out Jg)).mono ?_;rintro x wx ⟨rfl,hb⟩;exact (D _ _ (H.k.call hb) (JL _) (J S K I _ none undef Sz hb H.x))
  ·exact JW 3 rfl rfl rfl rfl rfl λ _ _ _ _ h=>h
  ·exact JW 3 rfl rfl rfl rfl rfl λ _ _ _ _ h=>h
  ·intro S K I H _ _ D;have x0:=H.x;have V:=x0.1 H.n;simp [go_sem,(gS K 37 (H.d 4 rfl rfl)),H.f.g rfl s12,V.cell,V.frz];exact D undef _ (H.k.store (.inr Sz) [Vi (((Ky (λ s=>Ym r e s) (Xg t i j) (Xg t i j).length).getD Xu).low.n),Vi (((Ky (λ s=>Ym r e s) (Xg t i j) (Xg t i j).length).getD Xu).low.d),Vi (((Ky (λ s=>Ym r e s) (Xg t i j) (Xg t i j).length).getD Xu).high.n),Vi (((Ky (λ s=>Ym r e s) (Xg t i j) (Xg t i j).length).getD Xu).high.d)] 0) trivial (XW.set V (us:=[Vi (((Ky (λ s=>Ym r e s) (Xg t i j) (Xg t i j).length).getD Xu).low.n),Vi (((Ky (λ s=>Ym r e s) (Xg t i j) (Xg t i j).length).getD Xu).low.d),Vi (((Ky (λ s=>Ym r e s) (Xg t i j) (Xg t i j).length).getD Xu).high.n),Vi (((Ky (λ s=>Ym r e s) (Xg t i j) (Xg t i j).length).getD Xu).high.d)]) rfl rfl)
  ·exact KS 5 rfl rfl rfl rfl λ _ _ _ _ h=>h
  intro L a27 w28 U C B M R;have x0:=R;replace P:=C.Z P;replace F:=C.E F;replace s12:=C.G s12;have s13:=gS a27 13 (M 7 _ rfl);clear b7;obtain ⟨_,b7,rfl⟩:=x0.2 (U 6 Dz);replace T:=Nat.le_trans T B.size;replace O:=B.below O O.size (by simp<;>omega);clear C B M U x0 J s6 s7 s8 s14 s21 s22 s23 s24 b3 b4 b5 N1 i1;refine Xi (wp_ret ?_);refine bodyPost_ret (v:=.tuple #[ZC ((Ky (λ s=>Ym r e s) (Xg t i j) (Xg t i j).length).getD Xu),Bv ((Ky (λ s=>Ym r e s) (Xg t i j) (Xg t i j).length).isSome)]) (by simp [results,Tryz.results61,go_sem,s12,b7.cell,s13]) F ?_;exact ⟨by rw [spanC_all hall,JL],O⟩
theorem wgcd (x y:Int):Xn [x,y,1]=1:=by
 obtain ⟨_,_,h⟩:=@gcdAll_dvd x y 1;have:=Int.natAbs_dvd_natAbs.2 h;simp at this;exact this
theorem wspot_ok {x y:Int} (hx : -1000<=x/\x<=1000) (hy : -1000<=y/\y<=1000):Xo ⟨x,y,1⟩=true:=by
 unfold Xo;rw [wgcd];simp [ZT];omega
theorem admAt_parts {r:XD} {p:List Half} {s:XH} {v:YQ} (h:XL r p s=some v):Yh r p=true/\Xo s=true/\Ym r (Jm r p) s=some v:=by
 unfold XL at h;split at h
 ·rename_i k
  exact ⟨k.1,k.2,h⟩
 ·cases h
theorem admAt_span {r:XD} {p:List Half}:∀ t v,XL r p t=some v->XN v=true:=λ _ _ h=>Jb (admAt_parts h).2.2
theorem four_adm {r:XD} {p:List Half} (hr:XJ r=true) {x0 x1 y0 y1 n e:Int} (he:0<e) {v0 v1 v2 v3:YQ} (h0:XL r p ⟨x0,y0,1⟩=some v0) (h1:XL r p ⟨x1,y0,1⟩=some v1) (h2:XL r p ⟨x1,y1,1⟩=some v2) (h3:XL r p ⟨x0,y1,1⟩=some v3)
 (b0:Btw v0 n e) (b1:Btw v1 n e) (b2:Btw v2 n e) (b3:Btw v3 n e) {x y:Int} (hx:x0<=x/\x<=x1) (hy:y0<=y/\y<=y1):(r.low*e<=n/\n<=r.high*e)/\∀ h∈Jm r p,AdmH r ⟨x,y,1⟩ h n e:=by
 have hE:=Zp (rpR_ok r p);have g:=λ{t:XH} {v:YQ} (h:XL r p t=some v) (b:Btw v n e)=>((admit_btw hr (admAt_parts h).2.1 hE (admAt_parts h).2.2).btw n e he).1 b;exact ⟨(g h0 b0).1,λ h hh=>box_adm hx hy ((g h0 b0).2 h hh) ((g h1 b1).2 h hh) ((g h2 b2).2 h hh) ((g h3 b3).2 h hh)⟩
section
variable {a b:Bool}
theorem bp_nf (h:a=true):(!a)=false:=by rw [h];rfl
end
theorem drawn_lim {r:XD} (h:JQ r):r.limits.length<=1048576:=by
 have:=Y0 (JB h.d.ok).limits;omega
theorem drawn_noi {r:XD} (h:JQ r):r.noise.length<=1048576:=by
 have:=Y0 (JB h.d.ok).noise;omega
structure RoomHi (a:Y7) (n:Nat):Prop where
 map:∀ p,a.map.A=some p->p.block<n
 noise:∀ p,a.noise.A=some p->p.block<n
 limits:∀ p,a.limits.A=some p->p.block<n
theorem Zg.hi {w:World} {base:Nat} {x:XD} {a:Y7} (h:Zg w base x a):RoomHi a w.heap.size:=⟨λ p hp=>(h.map.blk p hp).2,λ p hp=>(h.noise.blk p hp).2,λ p hp=>(h.limits.blk p hp).2⟩
theorem reg_in {p:List Half} (h:Xc p=true):∀ g∈p,g.In:=λ g hg=>hIn (Ju (Zp h g hg))
theorem opt_some {o:Option YQ} {v:YQ} (e:o=some v) {f:FuncId} {args:Array Value} {w:World} (h:Calls Tryz.prog f args w λ x w'=>x=.returned (Jf o)/\Below w.heap.size w w') :
 Calls Tryz.prog f args w λ x w'=>x=.returned (.tuple #[ZC v,Bt])/\Below w.heap.size w w':=by
 rw [e] at h;exact h
theorem ratIn {r:XU} (h:Xh r=true):r.In:=by
 obtain ⟨a,b,c,d⟩:=rok_bd h;exact ⟨⟨Oz,Oz⟩,⟨Oz,Oz⟩⟩
theorem red_pts {h:Half} {X Y D:Int} {t:XH} (hD:0<D) (e:Y9 X Y D=some t):YJ h X Y D ↔ YJ h t.x t.y t.d:=by
 unfold Y9 at e;split at e
 ·cases e
 ·split at e
  ·injection e with e
   subst e;obtain ⟨p,f1,f2,f3⟩:=red_scale (x:=X) (y:=Y) (d:=D) Oz;generalize ((Xn [X,Y,D]:Nat):Int)=g at *;generalize Kv X Y D=t at *;unfold YJ;have e1:h.a*X+h.b*Y=(h.a*t.x+h.b*t.y)*g:=by rw [f1,f2];grind
   have e2:h.c*D=h.c*t.d*g:=by rw [f3];grind
   rw [e1,e2];exact ⟨λ k=>JT p k,λ k=>Int.mul_le_mul_of_nonneg_right k Oz⟩
  ·cases e
theorem inP_red {p:List Half} {X Y D:Int} {t:XH} (hD:0<D) (e:Y9 X Y D=some t) (h:InP p X Y D):InP p t.x t.y t.d:=λ k hk=>(red_pts hD e).1 (h k hk)
theorem rob_all {r:XD} {p:List Half} (h:Yh r p=true):XJ r=true/\Xc p=true/\p≠[]/\Jm r p=Z0 r p/\Jm r p≠[]:=by
 unfold Yh rpOk at h;simp only [Bool.and_eq_true,Bool.not_eq_true',decide_eq_false_iff_not] at h;obtain ⟨⟨h2,⟨hr,hp⟩,_⟩,h3⟩:=h;exact ⟨hr,hp,λ e=>h2 (by rw [e];rfl),(rp_eq hr hp).2,λ e=>h3 (by rw [e];rfl)⟩
theorem held {r:XD} {p:List Half} {s:XH} {w:YQ} {u:XU} (e:XL r p s=some w) (hu:1<=u.d) (hb:Btw w u.n u.d) {v:XH} (hv:v∈Xj r.noise):0<nxtD r s u v/\InP p (nxtX r s u v) (nxtY r s u v) (nxtD r s u v):=by
 obtain ⟨h1,h2,h3⟩:=admAt_parts e;obtain ⟨hr,hp,hpn,he,hen⟩:=rob_all h1;have R:=JB hr;have hE:=Zp (rpR_ok r p);obtain ⟨_,hA⟩:=((admit_btw hr h2 hE h3).btw u.n u.d Oz).1 hb;obtain ⟨i,o⟩:=corner_in R.noise hv;have vd:=Jz o;have sd:=Jz h2;have md:0<Ya r s:=by
  have:=(JY hr).div;exact Int.mul_pos Oz Oz
 have hd:0<Ya r s*u.d:=Int.mul_pos md Oz;have hz:InP (Z0 r p) (KM r s*u.d+r.bx*u.n*Ya r s) (KT r s*u.d+r.by_*u.n*Ya r s) (Ya r s*u.d):=by
  rw [<- he];exact λ h hh=>admH_iff.1 (hA h hh)
 have hen':ZD (Z3 r.noise) p≠[]:=by rw [he] at hen;exact hen
 exact ⟨Int.mul_pos hd Oz,ero_add R.noise R.nne hp hen' hd Oz hz i⟩
theorem held_next {r:XD} {p:List Half} {s:XH} {w:YQ} {u:XU} (e:XL r p s=some w) (hu:1<=u.d) (hb:Btw w u.n u.d) {v t:XH} (hv:v∈Xj r.noise) (ht:ZO r s u v=some t):YL p t=true:=by
 obtain ⟨hd,hi⟩:=held e hu hb hv;obtain ⟨hr,hp,hpn,_⟩:=rob_all (admAt_parts e).1;unfold ZO at ht;split at ht
 ·cases ht
 ·exact holdsB_pt.2 ⟨hpn,inP_red hd ht hi⟩
theorem spanC_spanOk {r:XD} {p e:List Half} {t:JJ} {i j:Int} {v:YQ} (h:YC r p e t i j=some v):XN v=true:=by
 rw [spanC_eq] at h;split at h
 ·exact accS_ok (λ _ _ q=>Jb q) h
 ·cases h
theorem cell_ij {t:JJ} {i j:Nat} (hi:(i:Int)<t.nx) (hj:(j:Int)<t.ny):cellB t (i:Int) (j:Int)=true:=by
 unfold cellB;simp only [Bool.and_eq_true,decide_eq_true_eq];omega
theorem row_next {j n:Nat}:j*n+n=(j+1)*n:=by rw [Nat.succ_mul]
theorem nat_eq {i:Nat} {n:Int} (h:decide ((i:Int)<n)=false) (h2:(i:Int)<=n):i=n.toNat:=by
 have:=Js h;omega
theorem iNear_c (u:YQ) (wish:Int) (w:World) (hu:u.In) :
 Calls Tryz.prog 62 #[ZC u,Vi wish] w λ x w'=>x=.returned (Vi (KG u wish))/\Below w.heap.size w w':=by
 refine Yz Tryz.func62 rfl (n:=21) Tryz.ntmps62 Sz ?_;intro a0 K B ha;have s0:a0.tmps[0]?.getD undef=ZC u:=ha 0 _ rfl;have s1:a0.tmps[1]?.getD undef=Vi wish:=ha 1 _ rfl;clear ha;have J:=Below.refl w.heap.size w;have O:=Nat.le_refl w.heap.size;refine wp_seq ?_;refine Yk [2,4] [Pz w.heap.size,V0] [some (.cells [Vi u.low.n,Vi u.low.d,Vi u.high.n,Vi u.high.d].toArray 48),none] [0,1] [2,4] [0,1] (by kernel_rfl) (by rw [K];decide) (ec ?_ (ec ?_ .nil)) ?_
 ·intro a w' A hs N Q C;simp [go_sem,A.g rfl s0];rw [hs];exact C
 ·intro a w' A hs N Q C;simp [go_sem];exact C
 intro a1 w2 A I hb hO;replace K:=A.size.trans K;replace B:=A.defers.trans B;replace s1:=A.g rfl s1;have s2:a1.tmps[2]?.getD undef=Pz w.heap.size:=I 0 Dz;have b3:Xq w2 w.heap.size 48 [Vi u.low.n,Vi u.low.d,Vi u.high.n,Vi u.high.d]:=hO 0 _ rfl;have hG:=b3.lt;replace J:=Xf J hb;have zw2:=Nat.le_trans O hb.size;replace O:=Nat.le_refl w2.heap.size;clear A I hb hO s0;refine Xi (wp_seq ?_);refine Xl [7,8,9,10,11,12,5,6] [some (Pz w.heap.size),some (.agg #[Vi u.low.n,Vi u.low.d]),some (Vi (Yf u.low)),some (.pointer (some ⟨w.heap.size,2,none⟩)),some (.agg #[Vi u.high.n,Vi u.high.d]),some (Vi (XT u.high)),some (Vi (Yf u.low)),some (Vi (XT u.high))] ([[],[0],[0,1],[],[3],[0,1,2,3,4],[0,1,2,3,4,5],[0,1,2,3,4,5,6]]) [7,8,9,10,11,12,5,6] [] (λ _ _ _=>True) ?_ (e4 ?_ ?_ ?_ ?_ (e4 ?_ ?_ ?_ ?_ .nil)) ?_
 ·exact λ _ _=>trivial
 ·intro P D M H _ _ C;simp [go_sem,H.f.g rfl s2];exact (C _ _ H.k rfl trivial)
 ·intro P D M H _ _ C;simp [go_sem,(gS D 7 (H.d 0 rfl rfl)),(b3.k0 H.k).cell];exact (C _ _ H.k rfl trivial)
 ·intro P D M H _ _ C;simp [go_sem,(gS D 8 (H.d 1 rfl rfl))];refine (iRatCeil_c u.low M hu.1).mono ?_;rintro x wx ⟨rfl,hb⟩;exact (C _ _ (H.k.call hb) rfl trivial)
 ·intro P D M H _ _ C;simp [go_sem,H.f.g rfl s2];exact (C _ _ H.k rfl trivial)
 ·intro P D M H _ _ C;simp [go_sem,(gS D 10 (H.d 3 rfl rfl)),(b3.k0 H.k).cell];exact (C _ _ H.k rfl trivial)
 ·intro P D M H _ _ C;simp [go_sem,(gS D 11 (H.d 4 rfl rfl))];refine (iRatFloor_c u.high M hu.2).mono ?_;rintro x wx ⟨rfl,hb⟩;exact (C _ _ (H.k.call hb) rfl trivial)
 ·exact Jn 2 rfl rfl rfl rfl
 ·exact Jn 5 rfl rfl rfl rfl
 intro L a4 w5 R A F I S;replace K:=A.Z K;replace B:=A.E B;replace s1:=A.G s1;have s5:=gS a4 5 (I 6 _ rfl);have s6:=gS a4 6 (I 7 _ rfl);replace O:=Nat.le_trans O F.size;replace J:=F.below0 J;clear A F I R S s2 b3;refine Xi (wp_seq (wp_seq ?_));refine Xl [13,14,15] [some (Vi (Yf u.low)),some (Vi (XT u.high)),some (Bv (decide (Yf u.low > XT u.high)))] (X9 3) [13,14,15] [] (λ _ _ _=>True) ?_ (e2 ?_ ?_ (en rfl ?_ .nil)) ?_
 ·exact λ _ _=>trivial
 ·exact Kq s5 rfl rfl rfl
 ·exact Kq s6 rfl rfl rfl
 ·exact λ P D M H _ _ C=>Y8 rfl (ev (H.d 0 rfl rfl)) (ev (H.d 1 rfl rfl)) rfl rfl (C _ _ H.k rfl trivial)
 intro L a6 w7 R A F I S;replace K:=A.Z K;replace B:=A.E B;obtain ⟨s1,s5,s6⟩:=A.G3 s1 s5 s6;have s15:=gS a6 15 (I 2 _ rfl);replace O:=Nat.le_trans O F.size;replace J:=F.below0 J;clear A F I R S;refine Xi ?_;rcases Bool.eq_false_or_eq_true (decide (Yf u.low > XT u.high)) with q8|q8
 ·refine wp_cond_true (ev (vb s15 q8)) ?_;refine wp_seq ?_;refine Xl [4] [some (Vi (-1000000))] (X9 1) [4] [] (λ _ _ _=>True) ?_ (en rfl ?_ .nil) ?_
  ·exact λ _ _=>trivial
  ·exact oACT rfl rfl
  intro L a9 w10 R A F I S;replace K:=A.Z K;replace B:=A.E B;have s4:=gS a9 4 (I 0 _ rfl);replace O:=Nat.le_trans O F.size;replace J:=F.below0 J;clear A F I R S s1 s5 s6 s15;refine Xi (wp_ret (Ki ?_));refine bodyPost_ret (v:=Vi (-1000000)) (by simp [results,Tryz.results62,go_sem,s4]) B ?_;exact ⟨by unfold KG;rw [if_pos (of_decide_eq_true q8)],J⟩
 ·refine wp_cond_false (ev (vb s15 q8)) ?_;refine wp_skip (Xi (wp_seq ?_));refine Xl [16,17,18,19,20,4] [some (Vi (Yf u.low)),some (Vi (XT u.high)),some (Vi wish),some (Vi (min (XT u.high) wish)),some (Vi (max (Yf u.low) (min (XT u.high) wish))),some (Vi (max (Yf u.low) (min (XT u.high) wish)))] (X9 6) [16,17,18,19,20,4] [] (λ _ _ _=>True) ?_ (e4 ?_ ?_ ?_ ?_ (e2 ?_ ?_ .nil)) ?_
  ·exact λ _ _=>trivial
  ·exact Kq s5 rfl rfl rfl
  ·exact Kq s6 rfl rfl rfl
  ·exact Kq s1 rfl rfl rfl
  ·intro P D M H _ _ C;simp [go_sem,(gS D 17 (H.d 1 rfl rfl)),(gS D 18 (H.d 2 rfl rfl))];exact (C _ _ H.k rfl trivial)
  ·intro P D M H _ _ C;simp [go_sem,(gS D 16 (H.d 0 rfl rfl)),(gS D 19 (H.d 3 rfl rfl))];exact (C _ _ H.k rfl trivial)
  ·exact Jn 4 rfl rfl rfl rfl
  intro L a11 w12 R A F I S;replace K:=A.Z K;replace B:=A.E B;have s4:=gS a11 4 (I 5 _ rfl);replace O:=Nat.le_trans O F.size;replace J:=F.below0 J;clear A F I R S s1 s5 s6 s15;refine Xi (wp_ret ?_);refine bodyPost_ret (v:=Vi (max (Yf u.low) (min (XT u.high) wish))) (by simp [results,Tryz.results62,go_sem,s4]) B ?_;exact ⟨by unfold KG;rw [if_neg (of_decide_eq_false q8)],J⟩
end Go.Proofs.YtbekjpkcicjcgaaGreat
