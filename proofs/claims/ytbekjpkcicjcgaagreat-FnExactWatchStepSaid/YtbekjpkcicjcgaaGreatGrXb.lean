/-
 Whether a region is kept in one step: of the program.
 Conditions: the slices hold at most 2^20 elements.
-/
import Derived.Test.YtbekjpkcicjcgaaGreatPre
import Derived.Test.YtbekjpkcicjcgaaGreatGrXa
set_option maxHeartbeats 3000000
set_option maxRecDepth 100000
namespace Go.Proofs.YtbekjpkcicjcgaaGreat
open Go.RowKit
structure RoomR (r:XU):Prop where
 noise:Xb r.noise=true
 nne:r.noise≠[]
 limits:Xb r.limits=true
 lne:r.limits≠[]
theorem roomR {r:XU} (h:XM r=true):RoomR r:=by
 simp only [XM,Bool.and_eq_true] at h;obtain ⟨⟨⟨⟨_,h1⟩,h2⟩,h3⟩,h4⟩:=h;refine ⟨h3,λ e=>?_,h4,λ e=>?_⟩
 ·rw [e] at h1;cases h1
 ·rw [e] at h2;cases h2
def Ko (r:XU) (p:List Half):Bool:=!(!(XM r) || !(Xb p) || !(Yx p r.limits))&&(ZC r p&&Yx p (YX r p))
theorem preR_ok (r:XU) (p:List Half):Xb (YX r p)=true:=by
 unfold YX;split
 ·exact movR_ok (λ _ _ _ e=>pulH_ok e)
 ·rfl
theorem iKept_c (r:XU) (p:List Half) (ra:Yn) (b:Zi) (w:World) (hn:Xy r<=1048576) (hin:Zh r) (hs:Ym w r ra) (hnl:YJ ra) (hlp:p.length<=1048576) (hpi:∀ h∈p,h.In) (hsp:Sl 3 Xd w b.A p) (hnb:b.A=none->b.c=0) :
 Calls Tryz.prog 10 #[Ya r ra,.agg #[Sv b.A p.length b.c]] w λ x w'=>x=.returned (Bv (Ko r p))/\Below w.heap.size w w':=by
 refine YN Tryz.func10 rfl (n:=34) Tryz.ntmps10 Sz ?_;intro a0 P C ha;have s0:a0.tmps[0]?.getD undef=Ya r ra:=ha 0 _ rfl;have s1:a0.tmps[1]?.getD undef=.agg #[Sv b.A p.length b.c]:=ha 1 _ rfl;clear ha;have K:=Below.refl w.heap.size w;have R:=Nat.le_refl w.heap.size;refine wp_seq ?_;refine Yt [2,3,4] [Pz w.heap.size,Pz (w.heap.size+1),Bf] [some (.cells (Jv r ra).toArray 28),some (.cells [Sv b.A p.length b.c].toArray 26),none] [0,1,2] [2,3,4] [0,1,2] (by kernel_rfl) (by rw [P];decide) (ec ?_ (ec ?_ (ec ?_ .nil))) ?_
 ·intro a w' D hs N Q B;simp [go_sem,D.g rfl s0];rw [hs];exact B
 ·intro a w' D hs N Q B;simp [go_sem,D.g rfl s1];rw [hs];exact B
 ·intro a w' D hs N Q B;simp [go_sem];exact B
 intro a1 w2 D M hb hO;replace P:=D.size.trans P;replace C:=D.defers.trans C;have s2:a1.tmps[2]?.getD undef=Pz w.heap.size:=M 0 Dz;have s3:a1.tmps[3]?.getD undef=Pz (w.heap.size+1):=M 1 Dz;have b3:Xz w2 w.heap.size 28 (Jv r ra):=hO 0 _ rfl;have b4:Xz w2 (w.heap.size+1) 26 [Sv b.A p.length b.c]:=hO 1 _ rfl;have hG:=b4.lt;replace K:=Xe K hb;have zw2:=Nat.le_trans R hb.size;replace R:=Nat.le_refl w2.heap.size;clear D M hb hO s0 s1;refine Xk (wp_seq (wp_seq ?_));refine Xj [7,8,9,10,11,12,13,14,15,16,17,18,19,20,21] [some (Ya r ra),some (Bv (XM r)),some (Bv (!(XM r))),some (Bv (!(XM r))),some ((bif !(XM r) then undef else (.agg #[Sv b.A p.length b.c]:Value))),some ((bif !(XM r) then undef else (Bv (Xb p):Value))),some ((bif !(XM r) then undef else (Bv (!(Xb p)):Value))),some (Bv (!(XM r) || !(Xb p))),some (Bv (!(XM r) || !(Xb p))),some ((bif (!(XM r) || !(Xb p)) then undef else (.agg #[Sv b.A p.length b.c]:Value))),some ((bif (!(XM r) || !(Xb p)) then undef else (.pointer (some ⟨w.heap.size,7,none⟩):Value))),some ((bif (!(XM r) || !(Xb p)) then undef else (.agg #[Sv ra.limits.A r.limits.length ra.limits.c]:Value))),some ((bif (!(XM r) || !(Xb p)) then undef else (Bv (Yx p r.limits):Value))),some ((bif (!(XM r) || !(Xb p)) then undef else (Bv (!(Yx p r.limits)):Value))),some (Bv ((!(XM r) || !(Xb p)) || !(Yx p r.limits)))] (Yc 15) [7,8,9,10,11,12,13,14,15,16,17,18,19,20,21] [] (λ _ _ _=>True) ?_ (e4 ?_ ?_ ?_ ?_ (eg ?_ (eg ?_ (eg ?_ (e2 ?_ ?_ (eg ?_ (eg ?_ (eg ?_ (eg ?_ (eg ?_ (en rfl ?_ .nil))))))))))) ?_
 ·exact λ _ _=>trivial
 ·intro O F I H _ _ B;simp [go_sem,H.f.g rfl s2,(b3.k0 H.k).cell];exact (B _ _ H.k rfl trivial)
 ·intro O F I H _ _ B;simp [go_sem,(gS F 7 (H.d 0 rfl rfl))];have hBi:=H.k.below0 K;refine (iRoomOk_c r ra I hn hin (hs.below hBi) hnl).mono ?_;rintro x wx ⟨rfl,hb⟩;exact (B _ _ (H.k.call hb) rfl trivial)
 ·exact Jc 1 rfl rfl rfl rfl
 ·exact Ks 2 rfl rfl rfl rfl
 ·intro O F I H _ _ B;refine Kr rfl rfl rfl (H.d 3 rfl rfl) (λ qg=>B _ _ H.k (Xu qg).symm trivial) λ qg=>?_;simp [go_sem,H.f.g rfl s3,(b4.k0 H.k).cell];exact (B _ _ H.k (Xq qg).symm trivial)
 ·intro O F I H _ _ B;refine Kr rfl rfl rfl (H.d 3 rfl rfl) (λ qg=>B _ _ H.k (Xu qg).symm trivial) λ qg=>?_;simp [go_sem,(show F.tmps[11]?.getD undef=_ from (H.d 4 rfl rfl).trans (Xq qg))];have hBi:=H.k.below0 K;refine (iRegionOk_c p b I hlp hpi (hsp.below hBi) hnb).mono ?_;rintro x wx ⟨rfl,hb⟩;exact (B _ _ (H.k.call hb) (Xq qg).symm trivial)
 ·intro O F I H _ _ B;refine Kr rfl rfl rfl (H.d 3 rfl rfl) (λ qg=>B _ _ H.k (Xu qg).symm trivial) λ qg=>?_;exact KL rfl (ev ((H.d 5 rfl rfl).trans (Xq qg))) (B _ _ H.k (Xq qg).symm trivial)
 ·exact oPOT 3 6 rfl rfl rfl rfl rfl rfl
 ·exact Ks 7 rfl rfl rfl rfl
 ·intro O F I H _ _ B;refine Kr rfl rfl rfl (H.d 8 rfl rfl) (λ qg=>B _ _ H.k (Xu qg).symm trivial) λ qg=>?_;simp [go_sem,H.f.g rfl s3,(b4.k0 H.k).cell];exact (B _ _ H.k (Xq qg).symm trivial)
 ·intro O F I H _ _ B;refine Kr rfl rfl rfl (H.d 8 rfl rfl) (λ qg=>B _ _ H.k (Xu qg).symm trivial) λ qg=>?_;simp [go_sem,H.f.g rfl s2];exact (B _ _ H.k (Xq qg).symm trivial)
 ·intro O F I H _ _ B;refine Kr rfl rfl rfl (H.d 8 rfl rfl) (λ qg=>B _ _ H.k (Xu qg).symm trivial) λ qg=>?_;simp [go_sem,(show F.tmps[17]?.getD undef=_ from (H.d 10 rfl rfl).trans (Xq qg)),(b3.k0 H.k).cell];exact (B _ _ H.k (Xq qg).symm trivial)
 ·intro O F I H _ _ B;refine Kr rfl rfl rfl (H.d 8 rfl rfl) (λ qg=>B _ _ H.k (Xu qg).symm trivial) λ qg=>?_;simp [go_sem,(show F.tmps[16]?.getD undef=_ from (H.d 9 rfl rfl).trans (Xq qg)),(show F.tmps[18]?.getD undef=_ from (H.d 11 rfl rfl).trans (Xq qg))];have hBi:=H.k.below0 K;refine (iWithin_c p r.limits b ra.limits I (Yu (J6 qg)) (roomR (Yu (KU qg))).limits (hsp.below hBi) (hs.limits.halves.below hBi)).mono ?_;rintro x wx ⟨rfl,hb⟩;exact (B _ _ (H.k.call hb) (Xq qg).symm trivial)
 ·intro O F I H _ _ B;refine Kr rfl rfl rfl (H.d 8 rfl rfl) (λ qg=>B _ _ H.k (Xu qg).symm trivial) λ qg=>?_;exact KL rfl (ev ((H.d 12 rfl rfl).trans (Xq qg))) (B _ _ H.k (Xq qg).symm trivial)
 ·exact oPOT 8 13 rfl rfl rfl rfl rfl rfl
 intro L a5 w6 S D J M T;replace P:=D.Z P;replace C:=D.E C;obtain ⟨s2,s3⟩:=D.G2 s2 s3;have s21:=gS a5 21 (M 14 _ rfl);replace b3:=b3.k0 J;replace b4:=b4.k0 J;replace R:=Nat.le_trans R J.size;replace K:=J.below0 K;clear D J M S T;refine Xk ?_;rcases Bool.eq_false_or_eq_true ((!(XM r) || !(Xb p)) || !(Yx p r.limits)) with q7|q7
 ·refine wp_cond_true (ev (vb s21 q7)) ?_;refine wp_seq ?_;refine Xj [4] [some Bf] (Yc 1) [4] [] (λ _ _ _=>True) ?_ (en rfl ?_ .nil) ?_
  ·exact λ _ _=>trivial
  ·exact JB rfl rfl
  intro L a8 w9 S D J M T;replace P:=D.Z P;replace C:=D.E C;have s4:=gS a8 4 (M 0 _ rfl);replace R:=Nat.le_trans R J.size;replace K:=J.below0 K;clear D J M S T s2 s3 s21 b3 b4;refine Xk (wp_ret (Y6 ?_));refine bodyPost_ret (v:=Bf) (by simp [results,Tryz.results10,go_sem,s4]) C ?_;exact ⟨by unfold Ko;rw [q7];rfl,K⟩
 ·refine wp_cond_false (ev (vb s21 q7)) ?_;refine wp_skip (Xk (wp_seq ?_));have hX0:=Xf.e 25 2 (λ I v=>∃ A1 c1,v=.tuple #[.agg #[Sv A1 ((YX r p).length) c1],Bv (ZC r p)]/\XI 136 3 Xd I w6.heap.size (Sv A1 (YX r p).length c1) (YX r p)) (λ hb _ h=>by obtain ⟨A1',c1',e,f1'⟩:=h;exact ⟨A1',c1',e,f1'.below hb XE⟩);have hX1:=Xf.e 22 3 (λ I v=>∃ A1 c1,v=.tuple #[.agg #[Sv A1 ((YX r p).length) c1],Bv (ZC r p)]/\XI 136 3 Xd I w6.heap.size (Sv A1 (YX r p).length c1) (YX r p)) (λ hb _ h=>by obtain ⟨A1',c1',e,f1'⟩:=h;exact ⟨A1',c1',e,f1'.below hb XE⟩);have hX2:=Xf.e 26 4 (λ I v=>∃ A1 c1,v=.agg #[Sv A1 ((YX r p).length) c1]/\XI 136 3 Xd I w6.heap.size (Sv A1 (YX r p).length c1) (YX r p)) (λ hb _ h=>by obtain ⟨A1',c1',e,f1'⟩:=h;exact ⟨A1',c1',e,f1'.below hb XE⟩);have hX3:=Xf.x 5 6 7 w6 26 [Nz] (λ I vs=>∃ A1 c1,vs=[Sv A1 ((YX r p).length) c1]/\XI 136 3 Xd I w6.heap.size (Sv A1 (YX r p).length c1) (YX r p)) (λ hb _ h=>by obtain ⟨A1',c1',e,f1'⟩:=h;exact ⟨A1',c1',e,f1'.below hb XE⟩);have U:=hX0.a (hX1.a (hX2.a hX3));refine Xr U [23,24,25,22,26,27,5,0,6] [some (Ya r ra),some (.agg #[Sv b.A p.length b.c]),none,none,none,some (Bv (ZC r p)),none,none,some (Bv (ZC r p))] (Yc 9) [23,24,25,22,26,27,5,6] [] ?_ (e4 ?_ ?_ ?_ ?_ (e4 ?_ ?_ ?_ ?_ (en rfl ?_ .nil))) ?_
  ·exact λ _ h=>⟨Cz,Cz,Cz,Cz⟩
  ·intro O F I H _ _ B;simp [go_sem,H.f.g rfl s2,(b3.k0 H.k).cell];exact (B _ _ H.k rfl (U.q rfl H.x))
  ·intro O F I H _ _ B;simp [go_sem,H.f.g rfl s3,(b4.k0 H.k).cell];exact (B _ _ H.k rfl (U.q rfl H.x))
  ·intro O F I H _ _ B;obtain ⟨x0,x1,x2,x3⟩:=H.x;simp [go_sem,(gS F 23 (H.d 0 rfl rfl)),(gS F 24 (H.d 1 rfl rfl))];have hBi:=H.k.below0 K;refine (iPre_c r p ra b I (Yu (KU (KU q7))) (Yu (J6 (KU q7))) (roomR (Yu (KU (KU q7)))).noise (roomR (Yu (KU (KU q7)))).nne (hs.below hBi) (hsp.below hBi)).mono ?_;rintro x wx ⟨_,rfl,⟨A1,c1,rfl,f0⟩,hb⟩;have f1:=XI.mono (show XI 136 3 Xd wx I.heap.size (Sv A1 (YX r p).length c1) (YX r p) from ⟨_,_,rfl,f0⟩) H.k.size;exact (B _ _ (H.k.call hb) trivial ⟨(λ _=>⟨A1,c1,H.f.s P,f1⟩),(hX1.b rfl hb x1),(hX2.b rfl hb x2),(hX3.b rfl hb x3)⟩)
  ·intro O F I H _ _ B;obtain ⟨x0,x1,x2,x3⟩:=H.x;obtain ⟨A1,c1,ee2,f1⟩:=x0 (H.r 2 rfl);exact XR rfl (ev ee2) (B _ _ H.k trivial ⟨(hX0.q rfl x0),(λ _=>⟨A1,c1,H.f.s P,f1⟩),(hX2.q rfl x2),(hX3.q rfl x3)⟩)
  ·intro O F I H _ _ B;obtain ⟨x0,x1,x2,x3⟩:=H.x;obtain ⟨A1,c1,ee3,f1⟩:=x1 (H.r 3 rfl);exact XP rfl (ev ee3) rfl (B _ _ H.k trivial ⟨(hX0.q rfl x0),(hX1.q rfl x1),(λ _=>⟨A1,c1,H.f.s P,f1⟩),(hX3.q rfl x3)⟩)
  ·intro O F I H _ _ B;obtain ⟨x0,x1,x2,x3⟩:=H.x;obtain ⟨A1,c1,ee3,f1⟩:=x1 (H.r 3 rfl);exact XP rfl (ev ee3) rfl (B _ _ H.k rfl (U.q rfl H.x))
  ·intro O F I H _ _ B;obtain ⟨x0,x1,x2,x3⟩:=H.x;simp [go_sem];exact B _ _ (H.k.alloc _) trivial ⟨(hX0.b rfl (Xc bR _) x0),(hX1.b rfl (Xc bR _) x1),(hX2.b rfl (Xc bR _) x2),(λ _=>by rw [show ZV O 6 7=false from H.t 7 rfl];exact Yg.new (s:=5) (H.f.lt (by rw [P];decide)) H.k.size [Nz])⟩
  ·intro O F I H _ _ B;obtain ⟨x0,x1,x2,x3⟩:=H.x;obtain ⟨A1,c1,ee4,f1⟩:=x2 (H.r 4 rfl);obtain ⟨g,eg,hg,y,_⟩:=x3 (H.r 6 rfl);have V:=y H.n;simp [go_sem,ee4,eg,V.cell,V.frz];have f1:=f1.otherC (f1.typ V Dz) [Sv A1 ((YX r p).length) c1] 0;exact B undef _ (H.k.store (.inl hg) [Sv A1 ((YX r p).length) c1] 0) trivial ⟨(λ h=>by obtain ⟨A1',c1',e,f1'⟩:=x0 h;exact ⟨A1',c1',e,f1'.otherC (f1'.typ V Dz) [Sv A1 ((YX r p).length) c1] 0⟩),(λ h=>by obtain ⟨A1',c1',e,f1'⟩:=x1 h;exact ⟨A1',c1',e,f1'.otherC (f1'.typ V Dz) [Sv A1 ((YX r p).length) c1] 0⟩),(λ h=>by obtain ⟨A1',c1',e,f1'⟩:=x2 h;exact ⟨A1',c1',e,f1'.otherC (f1'.typ V Dz) [Sv A1 ((YX r p).length) c1] 0⟩),(λ _=>Yg.set eg hg V (us:=[Sv A1 ((YX r p).length) c1]) rfl ⟨A1,c1,rfl,f1⟩)⟩
  ·exact KW 5 rfl rfl rfl rfl λ _ _ _ _=>U.q rfl
  intro L a10 w11 S D J M T;obtain ⟨x0,x1,x2,x3⟩:=T;replace P:=D.Z P;replace C:=D.E C;replace s3:=D.G s3;have s6:=gS a10 6 (M 8 _ rfl);replace b4:=b4.k0 J;obtain ⟨g12,s5,lg12,-,b12⟩:=x3 (S 6 Dz);obtain ⟨_,b12,A1,c1,rfl,N1⟩:=b12 (S 7 Dz);have i1:∀ p,A1=some p->p.block<w11.heap.size:=λ p hp=>(N1.blk p hp).2;have ug12:=b12.lt;have zw6:=R;have zw11:=J.size;replace R:=Nat.le_refl w11.heap.size;replace K:=J.below0 K;clear D J M S x0 x1 x2 x3 U hX0 hX1 hX2 hX3 s2 s21 b3;refine Xk (wp_seq ?_);refine Xj [28,29,30,31,32,33,4] [some (Bv (ZC r p)),some (Bv (ZC r p)),some ((bif ZC r p then (.agg #[Sv b.A p.length b.c]:Value) else undef)),some ((bif ZC r p then (.agg #[Sv A1 ((YX r p).length) c1]:Value) else undef)),some ((bif ZC r p then (Bv (Yx p (YX r p)):Value) else undef)),some (Bv (ZC r p&&Yx p (YX r p))),some (Bv (ZC r p&&Yx p (YX r p)))] (Yc 7) [28,29,30,31,32,33,4] [] (λ _ _ _=>True) ?_ (e2 ?_ ?_ (eg ?_ (eg ?_ (eg ?_ (e2 ?_ ?_ .nil))))) ?_
  ·exact λ _ _=>trivial
  ·exact Z1 s6 rfl rfl rfl
  ·exact Ks 0 rfl rfl rfl rfl
  ·intro O F I H _ _ B;refine wgt rfl rfl rfl (H.d 1 rfl rfl) (λ qg=>B _ _ H.k (Xq qg).symm trivial) λ qg=>?_;simp [go_sem,H.f.g rfl s3,(b4.k0 H.k).cell];exact (B _ _ H.k (Xu qg).symm trivial)
  ·intro O F I H _ _ B;refine wgt rfl rfl rfl (H.d 1 rfl rfl) (λ qg=>B _ _ H.k (Xq qg).symm trivial) λ qg=>?_;simp [go_sem,H.f.g rfl s5,(b12.k0 H.k).cell];exact (B _ _ H.k (Xu qg).symm trivial)
  ·intro O F I H _ _ B;refine wgt rfl rfl rfl (H.d 1 rfl rfl) (λ qg=>B _ _ H.k (Xq qg).symm trivial) λ qg=>?_;simp [go_sem,(show F.tmps[30]?.getD undef=_ from (H.d 2 rfl rfl).trans (Xu qg)),(show F.tmps[31]?.getD undef=_ from (H.d 3 rfl rfl).trans (Xu qg))];have hBi:=H.k.below0 K;refine (iWithin_c p (YX r p) b ⟨A1,c1⟩ I (Yu (J6 (KU q7))) (preR_ok r p) (hsp.below hBi) ((N1.below H.k.toBelow XE).out Xx)).mono ?_;rintro x wx ⟨rfl,hb⟩;exact (B _ _ (H.k.call hb) (Xu qg).symm trivial)
  ·exact λ O F I H _ _ B=>Zp rfl (ev (H.d 1 rfl rfl)) (λ h=>(ev ((H.d 4 rfl rfl).trans (Xu h))).trans (Jl h)) (λ h=>Jm h) (B _ _ H.k rfl trivial)
  ·exact KE 5 rfl rfl rfl rfl
  intro L a13 w14 S D J M T;replace P:=D.Z P;replace C:=D.E C;have s4:=gS a13 4 (M 6 _ rfl);replace R:=Nat.le_trans R J.size;replace K:=J.below0 K;clear D J M S T s3 s6 s5 b4 b12 N1 i1;refine Xk (wp_ret ?_);refine bodyPost_ret (v:=Bv (ZC r p&&Yx p (YX r p))) (by simp [results,Tryz.results10,go_sem,s4]) C ?_;exact ⟨by unfold Ko;rw [q7];rfl,K⟩
def logB (l:List Int):Bool:=l.all λ x=>ZL x 1 3
def Kw (r:XU) (p:List Half) (l:List Int):Bool:=!decide ((l.length:Int) > 40)&&logB l&&(!decide (p.length=0)&&Ko r p)
theorem log_next {l:List Int} {k:Nat} (h:k<l.length) (h1:logB (l.take k)=true) (hb:ZL (l.getD k 0) 1 3=true):logB (l.take (k+1))=true:=by
 rw [getD_el h] at hb;unfold logB at h1 ⊢;rw [List.take_add_one,List.getElem?_eq_getElem h,List.all_append,h1];simp [hb]
theorem log_stop {l:List Int} {k:Nat} (h:k<l.length) (hb:ZL (l.getD k 0) 1 3=false):logB l=false:=by
 rw [getD_el h] at hb;unfold logB;rw [List.all_eq_false];exact ⟨_,List.getElem_mem h,by rw [hb];decide⟩
theorem iWatchOk_c (r:XU) (p:List Half) (l:List Int) (ra:Yn) (b:Zi) (w:World) (hn:Xy r<=1048576) (hin:Zh r) (hs:Ym w r ra) (hnl:YJ ra) (hlp:p.length<=1048576) (hpi:∀ h∈p,h.In) (hsp:Sl 3 Xd w b.A p) (hnb:b.A=none->b.c=0) (e:Zi) (hll:l.length<=1048576) (hsl:Sl 1 Zm w e.A l) :
 Calls Tryz.prog 54 #[XO ⟨r,p,l⟩ ⟨ra,b,e⟩] w λ x w'=>x=.returned (Bv (Kw r p l))/\Below w.heap.size w w':=by
 refine YN Tryz.func54 rfl (n:=31) Tryz.ntmps54 Sz ?_;intro a0 P C ha;have s0:a0.tmps[0]?.getD undef=XO ⟨r,p,l⟩ ⟨ra,b,e⟩:=ha 0 _ rfl;clear ha;have K:=Below.refl w.heap.size w;have R:=Nat.le_refl w.heap.size;refine wp_seq ?_;refine Yt [1,2] [Pz w.heap.size,Bf] [some (.cells (XJ ⟨r,p,l⟩ ⟨ra,b,e⟩).toArray 38),none] [0,1] [1,2] [0,1] (by kernel_rfl) (by rw [P];decide) (ec ?_ (ec ?_ .nil)) ?_
 ·intro a w' D hs N Q B;simp [go_sem,D.g rfl s0];rw [hs];exact B
 ·intro a w' D hs N Q B;simp [go_sem];exact B
 intro a1 w2 D M hb hO;replace P:=D.size.trans P;replace C:=D.defers.trans C;have s1:a1.tmps[1]?.getD undef=Pz w.heap.size:=M 0 Dz;have b3:Xz w2 w.heap.size 38 (XJ ⟨r,p,l⟩ ⟨ra,b,e⟩):=hO 0 _ rfl;have hG:=b3.lt;replace K:=Xe K hb;have zw2:=Nat.le_trans R hb.size;replace R:=Nat.le_refl w2.heap.size;clear D M hb hO s0;refine Xk (wp_seq (wp_seq ?_));refine Xj [5,6,7,8] [some (.pointer (some ⟨w.heap.size,9,none⟩)),some (Sv e.A l.length e.c),some (Vi (l.length:Int)),some (Bv (decide ((l.length:Int) > 40)))] (Yc 4) [5,6,7,8] [] (λ _ _ _=>True) ?_ (e4 ?_ ?_ ?_ ?_ .nil) ?_
 ·exact λ _ _=>trivial
 ·intro O F I H _ _ B;simp [go_sem,H.f.g rfl s1];exact (B _ _ H.k rfl trivial)
 ·intro O F I H _ _ B;simp [go_sem,(gS F 5 (H.d 0 rfl rfl)),(b3.k0 H.k).cell];exact (B _ _ H.k rfl trivial)
 ·intro O F I H _ _ B;simp [go_sem,(gS F 6 (H.d 1 rfl rfl))];exact (B _ _ H.k rfl trivial)
 ·exact λ O F I H _ _ B=>Yl rfl (ev (H.d 2 rfl rfl)) rfl rfl rfl (B _ _ H.k rfl trivial)
 intro L a4 w5 S D J M T;replace P:=D.Z P;replace C:=D.E C;replace s1:=D.G s1;have s8:=gS a4 8 (M 3 _ rfl);replace b3:=b3.k0 J;replace R:=Nat.le_trans R J.size;replace K:=J.below0 K;clear D J M S T;refine Xk ?_;rcases Bool.eq_false_or_eq_true (decide ((l.length:Int) > 40)) with q6|q6
 ·refine wp_cond_true (ev (vb s8 q6)) ?_;refine wp_seq ?_;refine Xj [2] [some Bf] (Yc 1) [2] [] (λ _ _ _=>True) ?_ (en rfl ?_ .nil) ?_
  ·exact λ _ _=>trivial
  ·exact JB rfl rfl
  intro L a7 w8 S D J M T;replace P:=D.Z P;replace C:=D.E C;have s2:=gS a7 2 (M 0 _ rfl);replace R:=Nat.le_trans R J.size;replace K:=J.below0 K;clear D J M S T s1 s8 b3;refine Xk (wp_ret (Y6 ?_));refine bodyPost_ret (v:=Bf) (by simp [results,Tryz.results54,go_sem,s2]) C ?_;exact ⟨by unfold Kw;rw [q6];rfl,K⟩
 ·refine wp_cond_false (ev (vb s8 q6)) ?_;refine wp_skip (Xk (wp_seq (wp_seq ?_)));refine Xj [9,10,11,12] [some (.pointer (some ⟨w.heap.size,9,none⟩)),some (Sv e.A l.length e.c),some (Vi (l.length:Int)),some V0] (Yc 4) [9,10,11,12] [] (λ _ _ _=>True) ?_ (e4 ?_ ?_ ?_ ?_ .nil) ?_
  ·exact λ _ _=>trivial
  ·intro O F I H _ _ B;simp [go_sem,H.f.g rfl s1];exact (B _ _ H.k rfl trivial)
  ·intro O F I H _ _ B;simp [go_sem,(gS F 9 (H.d 0 rfl rfl)),(b3.k0 H.k).cell];exact (B _ _ H.k rfl trivial)
  ·intro O F I H _ _ B;simp [go_sem,(gS F 10 (H.d 1 rfl rfl))];exact (B _ _ H.k rfl trivial)
  ·exact oMCT rfl rfl
  intro L a9 w10 S D J M T;replace P:=D.Z P;replace C:=D.E C;replace s1:=D.G s1;have s10:=gS a9 10 (M 1 _ rfl);have s11:=gS a9 11 (M 2 _ rfl);have s12:=gS a9 12 (M 3 _ rfl);replace b3:=b3.k0 J;replace R:=Nat.le_trans R J.size;replace K:=J.below0 K;clear D J M S T s8;refine Xk (wp_block ?_);refine wp_loop (λ al wl=>al.tmps.size=31/\al.defers=[]/\∃ (k:Nat),(k<=l.length)/\(logB (l.take k)=true)/\al.tmps[1]?.getD undef=Pz w.heap.size/\al.tmps[10]?.getD undef=Sv e.A l.length e.c/\al.tmps[11]?.getD undef=Vi (l.length:Int)/\al.tmps[12]?.getD undef=Vi (k:Int)/\Xz wl w.heap.size 38 (XJ ⟨r,p,l⟩ ⟨ra,b,e⟩)/\Below w.heap.size w wl/\w2.heap.size<=wl.heap.size) (λ al _=>(l.length-(intOf (al.tmps[12]?.getD undef)).toNat)) ?_ ?_
  ·exact ⟨P,C,(0),(Nat.zero_le _),(rfl),s1,s10,s11,s12,b3,K,Oz⟩
  clear P C K R s1 s10 s11 s12 b3;rintro a11 w12 ⟨P,C,k,hk,hall,s1,s10,s11,s12,b3,K,R⟩;have zw12:=R;replace R:=Nat.le_refl w12.heap.size;have hmu:(l.length-(intOf (a11.tmps[12]?.getD undef)).toNat)=(l.length-(intOf ((Vi (k:Int)))).toNat):=by rw [s12]
  refine wp_seq ?_;refine Xj [13] [some (Bv (decide ((k:Int)<(l.length:Int))))] (Yc 1) [13] [] (λ _ _ _=>True) ?_ (en rfl ?_ .nil) ?_
  ·exact λ _ _=>trivial
  ·exact λ O F I H _ _ B=>Yl rfl (ev (H.f.g rfl s12)) (ev (H.f.g rfl s11)) rfl rfl (B _ _ H.k rfl trivial)
  intro L a13 w14 S D J M T;replace P:=D.Z P;replace C:=D.E C;obtain ⟨s1,s10,s11,s12⟩:=D.G4 s1 s10 s11 s12;have s13:=gS a13 13 (M 0 _ rfl);replace b3:=b3.k0 J;replace R:=Nat.le_trans R J.size;replace K:=J.below0 K;clear D J M S T;refine Xk (wp_seq ?_);rcases Bool.eq_false_or_eq_true (decide ((k:Int)<(l.length:Int))) with q15|q15
  ·have hkl:k<l.length:=by have:=KZ q15;omega
   obtain ⟨bl,ol,el,fe⟩:=ElS.open_ (hsl.below K) Oz;refine wp_cond_true (ev (vb s13 q15)) ?_;refine wp_skip (Xk (wp_seq (wp_block (wp_seq ?_))));refine Xj [14,15,4] [some (.pointer (some ⟨bl,ol+k,none⟩)),some (Vi (l.getD k 0)),some (Vi (l.getD k 0))] (Yc 3) [14,15,4] [] (λ _ _ _=>True) ?_ (e2 ?_ ?_ (en rfl ?_ .nil)) ?_
   ·exact λ _ _=>trivial
   ·intro O F I H _ _ B;simp [go_sem,H.f.g rfl s10,H.f.g rfl s12,hkl,el];exact (B _ _ H.k rfl trivial)
   ·intro O F I H _ _ B;have hE:=fe.kp H.k Sz;simp [go_sem,(gS F 14 (H.d 0 rfl rfl)),(hE.at_ 0 (i:=k) Oz 0 (p:=ol+k) Oz rfl)];exact (B _ _ H.k rfl trivial)
   ·exact KE 1 rfl rfl rfl rfl
   intro L a16 w17 S D J M T;replace P:=D.Z P;replace C:=D.E C;obtain ⟨s1,s10,s11,s12⟩:=D.G4 s1 s10 s11 s12;have s4:=gS a16 4 (M 2 _ rfl);replace b3:=b3.k0 J;replace R:=Nat.le_trans R J.size;replace K:=J.below0 K;clear D J M S T s13 fe;refine Xk (wp_seq ?_);refine Xj [16,17,18] [some (Vi (l.getD k 0)),some (Bv (ZL (l.getD k 0) 1 3)),some (Bv (!(ZL (l.getD k 0) 1 3)))] (Yc 3) [16,17,18] [] (λ _ _ _=>True) ?_ (e2 ?_ ?_ (en rfl ?_ .nil)) ?_
   ·exact λ _ _=>trivial
   ·exact Z1 s4 rfl rfl rfl
   ·intro O F I H _ _ B;simp [go_sem,(gS F 16 (H.d 0 rfl rfl))];refine (Zn (l.getD k 0) 1 3 I).mono ?_;rintro x wx ⟨rfl,rfl⟩;exact (B _ _ H.k rfl trivial)
   ·exact Jc 1 rfl rfl rfl rfl
   intro L a18 w19 S D J M T;replace P:=D.Z P;replace C:=D.E C;obtain ⟨s1,s10,s11,s12⟩:=D.G4 s1 s10 s11 s12;have s18:=gS a18 18 (M 2 _ rfl);replace b3:=b3.k0 J;replace R:=Nat.le_trans R J.size;replace K:=J.below0 K;clear D J M S T s4;refine Xk ?_;rcases Bool.eq_false_or_eq_true (!(ZL (l.getD k 0) 1 3)) with q20|q20
   ·refine wp_cond_true (ev (vb s18 q20)) ?_;refine wp_seq ?_;refine Xj [2] [some Bf] (Yc 1) [2] [] (λ _ _ _=>True) ?_ (en rfl ?_ .nil) ?_
    ·exact λ _ _=>trivial
    ·exact JB rfl rfl
    intro L a21 w22 S D J M T;replace P:=D.Z P;replace C:=D.E C;have s2:=gS a21 2 (M 0 _ rfl);replace R:=Nat.le_trans R J.size;replace K:=J.below0 K;clear D J M S T s1 s10 s11 s12 s18 b3;refine Xk (wp_ret ?_);refine Jj (Y6 (Y6 (Jj (Y6 ?_))));refine bodyPost_ret (v:=Bf) (by simp [results,Tryz.results54,go_sem,s2]) C ?_;exact ⟨by unfold Kw;rw [log_stop hkl (Jw q20),Bool.and_false];rfl,K⟩
   ·refine wp_cond_false (ev (vb s18 q20)) ?_;refine wp_skip ?_;refine J8 (Xk ?_);refine Xj [19,12] [some (Vi ((k:Int)+1)),some (Vi ((k:Int)+1))] (Yc 2) [19,12] [] (λ L aa I=>(L 1=false->aa.tmps[12]?.getD undef=Vi (k:Int))) ?_ (e2 ?_ ?_ .nil) ?_
    ·exact λ _ h=>(λ _=>s12)
    ·intro O F I H _ _ B;have x0:=H.x;exact Z2 rfl (ev (x0 (H.t 1 rfl))) rfl Oz (B _ _ H.k rfl (λ h=>(Xg Dz _).trans (x0 h)))
    ·intro O F I H _ _ B;have x0:=H.x;exact XR rfl (ev (H.d 0 rfl rfl)) (B _ _ H.k rfl (λ h=>by simp [ZV] at h))
    intro L a23 w24 S D J M T;have x0:=T;replace P:=D.Z P;replace C:=D.E C;obtain ⟨s1,s10,s11⟩:=D.G3 s1 s10 s11;have s12:=gS a23 12 (M 1 _ rfl);replace b3:=b3.k0 J;replace R:=Nat.le_trans R J.size;replace K:=J.below0 K;clear D J M S x0 s18;refine Xk ?_;refine ⟨?_, ?_⟩
    ·exact ⟨P,C,(k+1),Oz,(log_next hkl hall (Yu q20)),s1,s10,s11,s12,b3,K,Oz⟩
    ·show (l.length-(intOf (a23.tmps[12]?.getD undef)).toNat)<_;rw [s12,hmu];simp only [intOf];omega
  ·have ek:k=l.length:=by have:=YT q15;omega
   rw [ek,List.take_length] at hall;refine wp_cond_false (ev (vb s13 q15)) ?_;refine wp_exit ?_;refine th_e (th_e (ib_x (Xk (wp_seq ?_))));refine Xj [20,21,22,23,24,25,26,27,28,29,30,2] [some (.pointer (some ⟨w.heap.size,8,none⟩)),some (.agg #[Sv b.A p.length b.c]),some (Bv (decide (p.length=0))),some (Bv (!(decide (p.length=0)))),some (Bv (!(decide (p.length=0)))),some ((bif !(decide (p.length=0)) then (Pz w.heap.size:Value) else undef)),some ((bif !(decide (p.length=0)) then (Ya r ra:Value) else undef)),some ((bif !(decide (p.length=0)) then (.pointer (some ⟨w.heap.size,8,none⟩):Value) else undef)),some ((bif !(decide (p.length=0)) then (.agg #[Sv b.A p.length b.c]:Value) else undef)),some ((bif !(decide (p.length=0)) then (Bv (Ko r p):Value) else undef)),some (Bv (!(decide (p.length=0))&&Ko r p)),some (Bv (!(decide (p.length=0))&&Ko r p))] (Yc 12) [20,21,22,23,24,25,26,27,28,29,30,2] [] (λ _ _ _=>True) ?_ (e4 ?_ ?_ ?_ ?_ (en rfl ?_ (eg ?_ (eg ?_ (eg ?_ (eg ?_ (eg ?_ (e2 ?_ ?_ .nil)))))))) ?_
   ·exact λ _ _=>trivial
   ·intro O F I H _ _ B;simp [go_sem,H.f.g rfl s1];exact (B _ _ H.k rfl trivial)
   ·intro O F I H _ _ B;simp [go_sem,(gS F 20 (H.d 0 rfl rfl)),(b3.k0 H.k).cell];exact (B _ _ H.k rfl trivial)
   ·intro O F I H _ _ B;simp [go_sem,(gS F 21 (H.d 1 rfl rfl))];refine (KJ p b I).mono ?_;rintro x wx ⟨rfl,hb⟩;exact (B _ _ (H.k.call hb) rfl trivial)
   ·exact Jc 2 rfl rfl rfl rfl
   ·exact Ks 3 rfl rfl rfl rfl
   ·intro O F I H _ _ B;refine wgt rfl rfl rfl (H.d 4 rfl rfl) (λ qg=>B _ _ H.k (Xq qg).symm trivial) λ qg=>?_;simp [go_sem,H.f.g rfl s1];exact (B _ _ H.k (Xu qg).symm trivial)
   ·intro O F I H _ _ B;refine wgt rfl rfl rfl (H.d 4 rfl rfl) (λ qg=>B _ _ H.k (Xq qg).symm trivial) λ qg=>?_;simp [go_sem,(show F.tmps[25]?.getD undef=_ from (H.d 5 rfl rfl).trans (Xu qg)),(b3.k0 H.k).cell];exact (B _ _ H.k (Xu qg).symm trivial)
   ·intro O F I H _ _ B;refine wgt rfl rfl rfl (H.d 4 rfl rfl) (λ qg=>B _ _ H.k (Xq qg).symm trivial) λ qg=>?_;simp [go_sem,H.f.g rfl s1];exact (B _ _ H.k (Xu qg).symm trivial)
   ·intro O F I H _ _ B;refine wgt rfl rfl rfl (H.d 4 rfl rfl) (λ qg=>B _ _ H.k (Xq qg).symm trivial) λ qg=>?_;simp [go_sem,(show F.tmps[27]?.getD undef=_ from (H.d 7 rfl rfl).trans (Xu qg)),(b3.k0 H.k).cell];exact (B _ _ H.k (Xu qg).symm trivial)
   ·intro O F I H _ _ B;refine wgt rfl rfl rfl (H.d 4 rfl rfl) (λ qg=>B _ _ H.k (Xq qg).symm trivial) λ qg=>?_;simp [go_sem,(show F.tmps[26]?.getD undef=_ from (H.d 6 rfl rfl).trans (Xu qg)),(show F.tmps[28]?.getD undef=_ from (H.d 8 rfl rfl).trans (Xu qg))];have hBi:=H.k.below0 K;refine (iKept_c r p ra b I hn hin (hs.below hBi) hnl hlp hpi (hsp.below hBi) hnb).mono ?_;rintro x wx ⟨rfl,hb⟩;exact (B _ _ (H.k.call hb) (Xu qg).symm trivial)
   ·exact λ O F I H _ _ B=>Zp rfl (ev (H.d 4 rfl rfl)) (λ h=>(ev ((H.d 9 rfl rfl).trans (Xu h))).trans (Jl h)) (λ h=>Jm h) (B _ _ H.k rfl trivial)
   ·exact KE 10 rfl rfl rfl rfl
   intro L a25 w26 S D J M T;replace P:=D.Z P;replace C:=D.E C;have s2:=gS a25 2 (M 11 _ rfl);replace R:=Nat.le_trans R J.size;replace K:=J.below0 K;clear D J M S T s1 s10 s11 s12 s13 b3;refine Xk (wp_ret ?_);refine bodyPost_ret (v:=Bv (!(decide (p.length=0))&&Ko r p)) (by simp [results,Tryz.results54,go_sem,s2]) C ?_;exact ⟨by unfold Kw;rw [q6,hall];rfl,K⟩
end Go.Proofs.YtbekjpkcicjcgaaGreat
