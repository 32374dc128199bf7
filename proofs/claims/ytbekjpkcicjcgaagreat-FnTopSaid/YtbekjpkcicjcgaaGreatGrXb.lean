/-
 Whether a region is kept in one step: of the program.
 Conditions: the slices hold at most 2^20 elements.
-/
import Derived.Test.YtbekjpkcicjcgaaGreatPre
set_option maxHeartbeats 3000000
set_option maxRecDepth 100000
namespace Go.Proofs.YtbekjpkcicjcgaaGreat
open Go.RowKit
structure RoomR (r:XD):Prop where
 noise:Xc r.noise=true
 nne:r.noise≠[]
 limits:Xc r.limits=true
 lne:r.limits≠[]
theorem JA {r:XD} (h:XJ r=true):RoomR r:=by
 simp only [XJ,Bool.and_eq_true] at h;obtain ⟨⟨⟨⟨_,h1⟩,h2⟩,h3⟩,h4⟩:=h;refine ⟨h3,λ e=>?_,h4,λ e=>?_⟩
 ·rw [e] at h1;cases h1
 ·rw [e] at h2;cases h2
def KW (r:XD) (p:List Half):Bool:=!(!(XJ r) || !(Xc p) || !(Zs p r.limits))&&(ZH r p&&Zs p (Yj r p))
theorem preR_ok (r:XD) (p:List Half):Xc (Yj r p)=true:=by
 unfold Yj;split
 ·exact movR_ok (λ _ _ _ e=>pulH_ok e)
 ·rfl
theorem iKept_c (r:XD) (p:List Half) (ra:Y7) (b:Kw) (w:World) (hn:Kt r<=1048576) (hin:JO r) (hs:ZX w r ra) (hnl:Jk ra) (hlp:p.length<=1048576) (hpi:∀ h∈p,h.In) (hsp:Sl 3 Xe w b.A p) (hnb:b.A=none->b.c=0) :
 Calls Tryz.prog 10 #[X7 r ra,.agg #[Sv b.A p.length b.c]] w λ x w'=>x=.returned (Bv (KW r p))/\Below w.heap.size w w':=by
 refine Yz Tryz.func10 rfl (n:=34) Tryz.ntmps10 Sz ?_;intro a0 P C ha;have s0:a0.tmps[0]?.getD undef=X7 r ra:=ha 0 _ rfl;have s1:a0.tmps[1]?.getD undef=.agg #[Sv b.A p.length b.c]:=ha 1 _ rfl;clear ha;have K:=Below.refl w.heap.size w;have R:=Nat.le_refl w.heap.size;refine wp_seq ?_;refine Yk [2,3,4] [Pz w.heap.size,Pz (w.heap.size+1),Bf] [some (.cells (YR r ra).toArray 28),some (.cells [Sv b.A p.length b.c].toArray 26),none] [0,1,2] [2,3,4] [0,1,2] (by kernel_rfl) (by rw [P];decide) (ec ?_ (ec ?_ (ec ?_ .nil))) ?_
 ·intro a w' D hs N Q B;simp [go_sem,D.g rfl s0];rw [hs];exact B
 ·intro a w' D hs N Q B;simp [go_sem,D.g rfl s1];rw [hs];exact B
 ·intro a w' D hs N Q B;simp [go_sem];exact B
 intro a1 w2 D M hb hO;replace P:=D.size.trans P;replace C:=D.defers.trans C;have s2:a1.tmps[2]?.getD undef=Pz w.heap.size:=M 0 Dz;have s3:a1.tmps[3]?.getD undef=Pz (w.heap.size+1):=M 1 Dz;have b3:Xq w2 w.heap.size 28 (YR r ra):=hO 0 _ rfl;have b4:Xq w2 (w.heap.size+1) 26 [Sv b.A p.length b.c]:=hO 1 _ rfl;have hG:=b4.lt;replace K:=Xf K hb;have zw2:=Nat.le_trans R hb.size;replace R:=Nat.le_refl w2.heap.size;clear D M hb hO s0 s1;refine Xi (wp_seq (wp_seq ?_));refine Xl [7,8,9,10,11,12,13,14,15,16,17,18,19,20,21] [some (X7 r ra),some (Bv (XJ r)),some (Bv (!(XJ r))),some (Bv (!(XJ r))),some ((bif !(XJ r) then undef else (.agg #[Sv b.A p.length b.c]:Value))),some ((bif !(XJ r) then undef else (Bv (Xc p):Value))),some ((bif !(XJ r) then undef else (Bv (!(Xc p)):Value))),some (Bv (!(XJ r) || !(Xc p))),some (Bv (!(XJ r) || !(Xc p))),some ((bif (!(XJ r) || !(Xc p)) then undef else (.agg #[Sv b.A p.length b.c]:Value))),some ((bif (!(XJ r) || !(Xc p)) then undef else (.pointer (some ⟨w.heap.size,7,none⟩):Value))),some ((bif (!(XJ r) || !(Xc p)) then undef else (.agg #[Sv ra.limits.A r.limits.length ra.limits.c]:Value))),some ((bif (!(XJ r) || !(Xc p)) then undef else (Bv (Zs p r.limits):Value))),some ((bif (!(XJ r) || !(Xc p)) then undef else (Bv (!(Zs p r.limits)):Value))),some (Bv ((!(XJ r) || !(Xc p)) || !(Zs p r.limits)))] (X9 15) [7,8,9,10,11,12,13,14,15,16,17,18,19,20,21] [] (λ _ _ _=>True) ?_ (e4 ?_ ?_ ?_ ?_ (eg ?_ (eg ?_ (eg ?_ (e2 ?_ ?_ (eg ?_ (eg ?_ (eg ?_ (eg ?_ (eg ?_ (en rfl ?_ .nil))))))))))) ?_
 ·exact λ _ _=>trivial
 ·intro O F I H _ _ B;simp [go_sem,H.f.g rfl s2,(b3.k0 H.k).cell];exact (B _ _ H.k rfl trivial)
 ·intro O F I H _ _ B;simp [go_sem,(gS F 7 (H.d 0 rfl rfl))];have hBi:=H.k.below0 K;refine (iRoomOk_c r ra I hn hin (hs.below hBi) hnl).mono ?_;rintro x wx ⟨rfl,hb⟩;exact (B _ _ (H.k.call hb) rfl trivial)
 ·exact JC 1 rfl rfl rfl rfl
 ·exact KC 2 rfl rfl rfl rfl
 ·intro O F I H _ _ B;refine J4 rfl rfl rfl (H.d 3 rfl rfl) (λ qg=>B _ _ H.k (Xz qg).symm trivial) λ qg=>?_;simp [go_sem,H.f.g rfl s3,(b4.k0 H.k).cell];exact (B _ _ H.k (XC qg).symm trivial)
 ·intro O F I H _ _ B;refine J4 rfl rfl rfl (H.d 3 rfl rfl) (λ qg=>B _ _ H.k (Xz qg).symm trivial) λ qg=>?_;simp [go_sem,(show F.tmps[11]?.getD undef=_ from (H.d 4 rfl rfl).trans (XC qg))];have hBi:=H.k.below0 K;refine (KE p b I hlp hpi (hsp.below hBi) hnb).mono ?_;rintro x wx ⟨rfl,hb⟩;exact (B _ _ (H.k.call hb) (XC qg).symm trivial)
 ·intro O F I H _ _ B;refine J4 rfl rfl rfl (H.d 3 rfl rfl) (λ qg=>B _ _ H.k (Xz qg).symm trivial) λ qg=>?_;exact KJ rfl (ev ((H.d 5 rfl rfl).trans (XC qg))) (B _ _ H.k (XC qg).symm trivial)
 ·exact oPOT 3 6 rfl rfl rfl rfl rfl rfl
 ·exact KC 7 rfl rfl rfl rfl
 ·intro O F I H _ _ B;refine J4 rfl rfl rfl (H.d 8 rfl rfl) (λ qg=>B _ _ H.k (Xz qg).symm trivial) λ qg=>?_;simp [go_sem,H.f.g rfl s3,(b4.k0 H.k).cell];exact (B _ _ H.k (XC qg).symm trivial)
 ·intro O F I H _ _ B;refine J4 rfl rfl rfl (H.d 8 rfl rfl) (λ qg=>B _ _ H.k (Xz qg).symm trivial) λ qg=>?_;simp [go_sem,H.f.g rfl s2];exact (B _ _ H.k (XC qg).symm trivial)
 ·intro O F I H _ _ B;refine J4 rfl rfl rfl (H.d 8 rfl rfl) (λ qg=>B _ _ H.k (Xz qg).symm trivial) λ qg=>?_;simp [go_sem,(show F.tmps[17]?.getD undef=_ from (H.d 10 rfl rfl).trans (XC qg)),(b3.k0 H.k).cell];exact (B _ _ H.k (XC qg).symm trivial)
 ·intro O F I H _ _ B;refine J4 rfl rfl rfl (H.d 8 rfl rfl) (λ qg=>B _ _ H.k (Xz qg).symm trivial) λ qg=>?_;simp [go_sem,(show F.tmps[16]?.getD undef=_ from (H.d 9 rfl rfl).trans (XC qg)),(show F.tmps[18]?.getD undef=_ from (H.d 11 rfl rfl).trans (XC qg))];have hBi:=H.k.below0 K;refine (iWithin_c p r.limits b ra.limits I (YT (or_f2 qg)) (JA (YT (JB qg))).limits (hsp.below hBi) (hs.limits.halves.below hBi)).mono ?_;rintro x wx ⟨rfl,hb⟩;exact (B _ _ (H.k.call hb) (XC qg).symm trivial)
 ·intro O F I H _ _ B;refine J4 rfl rfl rfl (H.d 8 rfl rfl) (λ qg=>B _ _ H.k (Xz qg).symm trivial) λ qg=>?_;exact KJ rfl (ev ((H.d 12 rfl rfl).trans (XC qg))) (B _ _ H.k (XC qg).symm trivial)
 ·exact oPOT 8 13 rfl rfl rfl rfl rfl rfl
 intro L a5 w6 S D J M T;replace P:=D.Z P;replace C:=D.E C;obtain ⟨s2,s3⟩:=D.G2 s2 s3;have s21:=gS a5 21 (M 14 _ rfl);replace b3:=b3.k0 J;replace b4:=b4.k0 J;replace R:=Nat.le_trans R J.size;replace K:=J.below0 K;clear D J M S T;refine Xi ?_;rcases Bool.eq_false_or_eq_true ((!(XJ r) || !(Xc p)) || !(Zs p r.limits)) with q7|q7
 ·refine wp_cond_true (ev (vb s21 q7)) ?_;refine wp_seq ?_;refine Xl [4] [some Bf] (X9 1) [4] [] (λ _ _ _=>True) ?_ (en rfl ?_ .nil) ?_
  ·exact λ _ _=>trivial
  ·exact oACT rfl rfl
  intro L a8 w9 S D J M T;replace P:=D.Z P;replace C:=D.E C;have s4:=gS a8 4 (M 0 _ rfl);replace R:=Nat.le_trans R J.size;replace K:=J.below0 K;clear D J M S T s2 s3 s21 b3 b4;refine Xi (wp_ret (Ki ?_));refine bodyPost_ret (v:=Bf) (by simp [results,Tryz.results10,go_sem,s4]) C ?_;exact ⟨by unfold KW;rw [q7];rfl,K⟩
 ·refine wp_cond_false (ev (vb s21 q7)) ?_;refine wp_skip (Xi (wp_seq ?_));have hX0:=Xd.e 25 2 (λ I v=>∃ A1 c1,v=.tuple #[.agg #[Sv A1 ((Yj r p).length) c1],Bv (ZH r p)]/\XG 136 3 Xe I w6.heap.size (Sv A1 (Yj r p).length c1) (Yj r p)) (λ hb _ h=>by obtain ⟨A1',c1',e,f1'⟩:=h;exact ⟨A1',c1',e,f1'.below hb Xy⟩);have hX1:=Xd.e 22 3 (λ I v=>∃ A1 c1,v=.tuple #[.agg #[Sv A1 ((Yj r p).length) c1],Bv (ZH r p)]/\XG 136 3 Xe I w6.heap.size (Sv A1 (Yj r p).length c1) (Yj r p)) (λ hb _ h=>by obtain ⟨A1',c1',e,f1'⟩:=h;exact ⟨A1',c1',e,f1'.below hb Xy⟩);have hX2:=Xd.e 26 4 (λ I v=>∃ A1 c1,v=.agg #[Sv A1 ((Yj r p).length) c1]/\XG 136 3 Xe I w6.heap.size (Sv A1 (Yj r p).length c1) (Yj r p)) (λ hb _ h=>by obtain ⟨A1',c1',e,f1'⟩:=h;exact ⟨A1',c1',e,f1'.below hb Xy⟩);have hX3:=Xd.x 5 6 7 w6 26 [Nz] (λ I vs=>∃ A1 c1,vs=[Sv A1 ((Yj r p).length) c1]/\XG 136 3 Xe I w6.heap.size (Sv A1 (Yj r p).length c1) (Yj r p)) (λ hb _ h=>by obtain ⟨A1',c1',e,f1'⟩:=h;exact ⟨A1',c1',e,f1'.below hb Xy⟩);have U:=hX0.a (hX1.a (hX2.a hX3));refine Xr U [23,24,25,22,26,27,5,0,6] [some (X7 r ra),some (.agg #[Sv b.A p.length b.c]),none,none,none,some (Bv (ZH r p)),none,none,some (Bv (ZH r p))] (X9 9) [23,24,25,22,26,27,5,6] [] ?_ (e4 ?_ ?_ ?_ ?_ (e4 ?_ ?_ ?_ ?_ (en rfl ?_ .nil))) ?_
  ·exact λ _ h=>⟨Cz,Cz,Cz,Cz⟩
  ·intro O F I H _ _ B;simp [go_sem,H.f.g rfl s2,(b3.k0 H.k).cell];exact (B _ _ H.k rfl (U.q rfl H.x))
  ·intro O F I H _ _ B;simp [go_sem,H.f.g rfl s3,(b4.k0 H.k).cell];exact (B _ _ H.k rfl (U.q rfl H.x))
  ·intro O F I H _ _ B;obtain ⟨x0,x1,x2,x3⟩:=H.x;simp [go_sem,(gS F 23 (H.d 0 rfl rfl)),(gS F 24 (H.d 1 rfl rfl))];have hBi:=H.k.below0 K;refine (iPre_c r p ra b I (YT (JB (JB q7))) (YT (or_f2 (JB q7))) (JA (YT (JB (JB q7)))).noise (JA (YT (JB (JB q7)))).nne (hs.below hBi) (hsp.below hBi)).mono ?_;rintro x wx ⟨_,rfl,⟨A1,c1,rfl,f0⟩,hb⟩;have f1:=XG.mono (show XG 136 3 Xe wx I.heap.size (Sv A1 (Yj r p).length c1) (Yj r p) from ⟨_,_,rfl,f0⟩) H.k.size;exact (B _ _ (H.k.call hb) trivial ⟨(λ _=>⟨A1,c1,H.f.s P,f1⟩),(hX1.b rfl hb x1),(hX2.b rfl hb x2),(hX3.b rfl hb x3)⟩)
  ·intro O F I H _ _ B;obtain ⟨x0,x1,x2,x3⟩:=H.x;obtain ⟨A1,c1,ee2,f1⟩:=x0 (H.r 2 rfl);exact XQ rfl (ev ee2) (B _ _ H.k trivial ⟨(hX0.q rfl x0),(λ _=>⟨A1,c1,H.f.s P,f1⟩),(hX2.q rfl x2),(hX3.q rfl x3)⟩)
  ·intro O F I H _ _ B;obtain ⟨x0,x1,x2,x3⟩:=H.x;obtain ⟨A1,c1,ee3,f1⟩:=x1 (H.r 3 rfl);exact XI rfl (ev ee3) rfl (B _ _ H.k trivial ⟨(hX0.q rfl x0),(hX1.q rfl x1),(λ _=>⟨A1,c1,H.f.s P,f1⟩),(hX3.q rfl x3)⟩)
  ·intro O F I H _ _ B;obtain ⟨x0,x1,x2,x3⟩:=H.x;obtain ⟨A1,c1,ee3,f1⟩:=x1 (H.r 3 rfl);exact XI rfl (ev ee3) rfl (B _ _ H.k rfl (U.q rfl H.x))
  ·intro O F I H _ _ B;obtain ⟨x0,x1,x2,x3⟩:=H.x;simp [go_sem];exact B _ _ (H.k.alloc _) trivial ⟨(hX0.b rfl (Xb bR _) x0),(hX1.b rfl (Xb bR _) x1),(hX2.b rfl (Xb bR _) x2),(λ _=>by rw [show Yc O 6 7=false from H.t 7 rfl];exact X6.new (s:=5) (H.f.lt (by rw [P];decide)) H.k.size [Nz])⟩
  ·intro O F I H _ _ B;obtain ⟨x0,x1,x2,x3⟩:=H.x;obtain ⟨A1,c1,ee4,f1⟩:=x2 (H.r 4 rfl);obtain ⟨g,eg,hg,y,_⟩:=x3 (H.r 6 rfl);have V:=y H.n;simp [go_sem,ee4,eg,V.cell,V.frz];have f1:=f1.otherC (f1.typ V Dz) [Sv A1 ((Yj r p).length) c1] 0;exact B undef _ (H.k.store (.inl hg) [Sv A1 ((Yj r p).length) c1] 0) trivial ⟨(λ h=>by obtain ⟨A1',c1',e,f1'⟩:=x0 h;exact ⟨A1',c1',e,f1'.otherC (f1'.typ V Dz) [Sv A1 ((Yj r p).length) c1] 0⟩),(λ h=>by obtain ⟨A1',c1',e,f1'⟩:=x1 h;exact ⟨A1',c1',e,f1'.otherC (f1'.typ V Dz) [Sv A1 ((Yj r p).length) c1] 0⟩),(λ h=>by obtain ⟨A1',c1',e,f1'⟩:=x2 h;exact ⟨A1',c1',e,f1'.otherC (f1'.typ V Dz) [Sv A1 ((Yj r p).length) c1] 0⟩),(λ _=>X6.set eg hg V (us:=[Sv A1 ((Yj r p).length) c1]) rfl ⟨A1,c1,rfl,f1⟩)⟩
  ·exact KS 5 rfl rfl rfl rfl λ _ _ _ _=>U.q rfl
  intro L a10 w11 S D J M T;obtain ⟨x0,x1,x2,x3⟩:=T;replace P:=D.Z P;replace C:=D.E C;replace s3:=D.G s3;have s6:=gS a10 6 (M 8 _ rfl);replace b4:=b4.k0 J;obtain ⟨g12,s5,lg12,-,b12⟩:=x3 (S 6 Dz);obtain ⟨_,b12,A1,c1,rfl,N1⟩:=b12 (S 7 Dz);have i1:∀ p,A1=some p->p.block<w11.heap.size:=λ p hp=>(N1.blk p hp).2;have ug12:=b12.lt;have zw6:=R;have zw11:=J.size;replace R:=Nat.le_refl w11.heap.size;replace K:=J.below0 K;clear D J M S x0 x1 x2 x3 U hX0 hX1 hX2 hX3 s2 s21 b3;refine Xi (wp_seq ?_);refine Xl [28,29,30,31,32,33,4] [some (Bv (ZH r p)),some (Bv (ZH r p)),some ((bif ZH r p then (.agg #[Sv b.A p.length b.c]:Value) else undef)),some ((bif ZH r p then (.agg #[Sv A1 ((Yj r p).length) c1]:Value) else undef)),some ((bif ZH r p then (Bv (Zs p (Yj r p)):Value) else undef)),some (Bv (ZH r p&&Zs p (Yj r p))),some (Bv (ZH r p&&Zs p (Yj r p)))] (X9 7) [28,29,30,31,32,33,4] [] (λ _ _ _=>True) ?_ (e2 ?_ ?_ (eg ?_ (eg ?_ (eg ?_ (e2 ?_ ?_ .nil))))) ?_
  ·exact λ _ _=>trivial
  ·exact Kq s6 rfl rfl rfl
  ·exact KC 0 rfl rfl rfl rfl
  ·intro O F I H _ _ B;refine wgt rfl rfl rfl (H.d 1 rfl rfl) (λ qg=>B _ _ H.k (XC qg).symm trivial) λ qg=>?_;simp [go_sem,H.f.g rfl s3,(b4.k0 H.k).cell];exact (B _ _ H.k (Xz qg).symm trivial)
  ·intro O F I H _ _ B;refine wgt rfl rfl rfl (H.d 1 rfl rfl) (λ qg=>B _ _ H.k (XC qg).symm trivial) λ qg=>?_;simp [go_sem,H.f.g rfl s5,(b12.k0 H.k).cell];exact (B _ _ H.k (Xz qg).symm trivial)
  ·intro O F I H _ _ B;refine wgt rfl rfl rfl (H.d 1 rfl rfl) (λ qg=>B _ _ H.k (XC qg).symm trivial) λ qg=>?_;simp [go_sem,(show F.tmps[30]?.getD undef=_ from (H.d 2 rfl rfl).trans (Xz qg)),(show F.tmps[31]?.getD undef=_ from (H.d 3 rfl rfl).trans (Xz qg))];have hBi:=H.k.below0 K;refine (iWithin_c p (Yj r p) b ⟨A1,c1⟩ I (YT (or_f2 (JB q7))) (preR_ok r p) (hsp.below hBi) ((N1.below H.k.toBelow Xy).out Xx)).mono ?_;rintro x wx ⟨rfl,hb⟩;exact (B _ _ (H.k.call hb) (Xz qg).symm trivial)
  ·exact λ O F I H _ _ B=>Za rfl (ev (H.d 1 rfl rfl)) (λ h=>(ev ((H.d 4 rfl rfl).trans (Xz h))).trans (J9 h)) (λ h=>vand_f h) (B _ _ H.k rfl trivial)
  ·exact Jm 5 rfl rfl rfl rfl
  intro L a13 w14 S D J M T;replace P:=D.Z P;replace C:=D.E C;have s4:=gS a13 4 (M 6 _ rfl);replace R:=Nat.le_trans R J.size;replace K:=J.below0 K;clear D J M S T s3 s6 s5 b4 b12 N1 i1;refine Xi (wp_ret ?_);refine bodyPost_ret (v:=Bv (ZH r p&&Zs p (Yj r p))) (by simp [results,Tryz.results10,go_sem,s4]) C ?_;exact ⟨by unfold KW;rw [q7];rfl,K⟩
def logB (l:List Int):Bool:=l.all λ x=>ZT x 1 3
def J7 (r:XD) (p:List Half) (l:List Int):Bool:=!decide ((l.length:Int) > 40)&&logB l&&(!decide (p.length=0)&&KW r p)
theorem log_next {l:List Int} {k:Nat} (h:k<l.length) (h1:logB (l.take k)=true) (hb:ZT (l.getD k 0) 1 3=true):logB (l.take (k+1))=true:=by
 rw [getD_el h] at hb;unfold logB at h1 ⊢;rw [List.take_add_one,List.getElem?_eq_getElem h,List.all_append,h1];simp [hb]
theorem log_stop {l:List Int} {k:Nat} (h:k<l.length) (hb:ZT (l.getD k 0) 1 3=false):logB l=false:=by
 rw [getD_el h] at hb;unfold logB;rw [List.all_eq_false];exact ⟨_,List.getElem_mem h,by rw [hb];decide⟩
theorem iWatchOk_c (r:XD) (p:List Half) (l:List Int) (ra:Y7) (b:Kw) (w:World) (hn:Kt r<=1048576) (hin:JO r) (hs:ZX w r ra) (hnl:Jk ra) (hlp:p.length<=1048576) (hpi:∀ h∈p,h.In) (hsp:Sl 3 Xe w b.A p) (hnb:b.A=none->b.c=0) (e:Kw) (hll:l.length<=1048576) (hsl:Sl 1 Kk w e.A l) :
 Calls Tryz.prog 54 #[.agg #[Sv ra.map.A r.map.length ra.map.c,Vi r.div,Vi r.bx,Vi r.by_,Vi r.low,Vi r.high,Sv ra.noise.A r.noise.length ra.noise.c,Sv ra.limits.A r.limits.length ra.limits.c,Sv b.A p.length b.c,Sv e.A l.length e.c]] w λ x w'=>x=.returned (Bv (J7 r p l))/\Below w.heap.size w w':=by
 refine Yz Tryz.func54 rfl (n:=31) Tryz.ntmps54 Sz ?_;intro a0 P C ha;have s0:a0.tmps[0]?.getD undef=.agg #[Sv ra.map.A r.map.length ra.map.c,Vi r.div,Vi r.bx,Vi r.by_,Vi r.low,Vi r.high,Sv ra.noise.A r.noise.length ra.noise.c,Sv ra.limits.A r.limits.length ra.limits.c,Sv b.A p.length b.c,Sv e.A l.length e.c]:=ha 0 _ rfl;clear ha;have K:=Below.refl w.heap.size w;have R:=Nat.le_refl w.heap.size;refine wp_seq ?_;refine Yk [1,2] [Pz w.heap.size,Bf] [some (.cells [Sv ra.map.A r.map.length ra.map.c,Vi r.div,Vi r.bx,Vi r.by_,Vi r.low,Vi r.high,Sv ra.noise.A r.noise.length ra.noise.c,Sv ra.limits.A r.limits.length ra.limits.c,Sv b.A p.length b.c,Sv e.A l.length e.c].toArray 38),none] [0,1] [1,2] [0,1] (by kernel_rfl) (by rw [P];decide) (ec ?_ (ec ?_ .nil)) ?_
 ·intro a w' D hs N Q B;simp [go_sem,D.g rfl s0];rw [hs];exact B
 ·intro a w' D hs N Q B;simp [go_sem];exact B
 intro a1 w2 D M hb hO;replace P:=D.size.trans P;replace C:=D.defers.trans C;have s1:a1.tmps[1]?.getD undef=Pz w.heap.size:=M 0 Dz;have b3:Xq w2 w.heap.size 38 [Sv ra.map.A r.map.length ra.map.c,Vi r.div,Vi r.bx,Vi r.by_,Vi r.low,Vi r.high,Sv ra.noise.A r.noise.length ra.noise.c,Sv ra.limits.A r.limits.length ra.limits.c,Sv b.A p.length b.c,Sv e.A l.length e.c]:=hO 0 _ rfl;have hG:=b3.lt;replace K:=Xf K hb;have zw2:=Nat.le_trans R hb.size;replace R:=Nat.le_refl w2.heap.size;clear D M hb hO s0;refine Xi (wp_seq (wp_seq ?_));refine Xl [5,6,7,8] [some (.pointer (some ⟨w.heap.size,9,none⟩)),some (Sv e.A l.length e.c),some (Vi (l.length:Int)),some (Bv (decide ((l.length:Int) > 40)))] (X9 4) [5,6,7,8] [] (λ _ _ _=>True) ?_ (e4 ?_ ?_ ?_ ?_ .nil) ?_
 ·exact λ _ _=>trivial
 ·intro O F I H _ _ B;simp [go_sem,H.f.g rfl s1];exact (B _ _ H.k rfl trivial)
 ·intro O F I H _ _ B;simp [go_sem,(gS F 5 (H.d 0 rfl rfl)),(b3.k0 H.k).cell];exact (B _ _ H.k rfl trivial)
 ·intro O F I H _ _ B;simp [go_sem,(gS F 6 (H.d 1 rfl rfl))];exact (B _ _ H.k rfl trivial)
 ·exact λ O F I H _ _ B=>Y8 rfl (ev (H.d 2 rfl rfl)) rfl rfl rfl (B _ _ H.k rfl trivial)
 intro L a4 w5 S D J M T;replace P:=D.Z P;replace C:=D.E C;replace s1:=D.G s1;have s8:=gS a4 8 (M 3 _ rfl);replace b3:=b3.k0 J;replace R:=Nat.le_trans R J.size;replace K:=J.below0 K;clear D J M S T;refine Xi ?_;rcases Bool.eq_false_or_eq_true (decide ((l.length:Int) > 40)) with q6|q6
 ·refine wp_cond_true (ev (vb s8 q6)) ?_;refine wp_seq ?_;refine Xl [2] [some Bf] (X9 1) [2] [] (λ _ _ _=>True) ?_ (en rfl ?_ .nil) ?_
  ·exact λ _ _=>trivial
  ·exact oACT rfl rfl
  intro L a7 w8 S D J M T;replace P:=D.Z P;replace C:=D.E C;have s2:=gS a7 2 (M 0 _ rfl);replace R:=Nat.le_trans R J.size;replace K:=J.below0 K;clear D J M S T s1 s8 b3;refine Xi (wp_ret (Ki ?_));refine bodyPost_ret (v:=Bf) (by simp [results,Tryz.results54,go_sem,s2]) C ?_;exact ⟨by unfold J7;rw [q6];rfl,K⟩
 ·refine wp_cond_false (ev (vb s8 q6)) ?_;refine wp_skip (Xi (wp_seq (wp_seq ?_)));refine Xl [9,10,11,12] [some (.pointer (some ⟨w.heap.size,9,none⟩)),some (Sv e.A l.length e.c),some (Vi (l.length:Int)),some V0] (X9 4) [9,10,11,12] [] (λ _ _ _=>True) ?_ (e4 ?_ ?_ ?_ ?_ .nil) ?_
  ·exact λ _ _=>trivial
  ·intro O F I H _ _ B;simp [go_sem,H.f.g rfl s1];exact (B _ _ H.k rfl trivial)
  ·intro O F I H _ _ B;simp [go_sem,(gS F 9 (H.d 0 rfl rfl)),(b3.k0 H.k).cell];exact (B _ _ H.k rfl trivial)
  ·intro O F I H _ _ B;simp [go_sem,(gS F 10 (H.d 1 rfl rfl))];exact (B _ _ H.k rfl trivial)
  ·exact oMCT rfl rfl
  intro L a9 w10 S D J M T;replace P:=D.Z P;replace C:=D.E C;replace s1:=D.G s1;have s10:=gS a9 10 (M 1 _ rfl);have s11:=gS a9 11 (M 2 _ rfl);have s12:=gS a9 12 (M 3 _ rfl);replace b3:=b3.k0 J;replace R:=Nat.le_trans R J.size;replace K:=J.below0 K;clear D J M S T s8;refine Xi (wp_block ?_);refine wp_loop (λ al wl=>al.tmps.size=31/\al.defers=[]/\∃ (k:Nat),(k<=l.length)/\(logB (l.take k)=true)/\al.tmps[1]?.getD undef=Pz w.heap.size/\al.tmps[10]?.getD undef=Sv e.A l.length e.c/\al.tmps[11]?.getD undef=Vi (l.length:Int)/\al.tmps[12]?.getD undef=Vi (k:Int)/\Xq wl w.heap.size 38 [Sv ra.map.A r.map.length ra.map.c,Vi r.div,Vi r.bx,Vi r.by_,Vi r.low,Vi r.high,Sv ra.noise.A r.noise.length ra.noise.c,Sv ra.limits.A r.limits.length ra.limits.c,Sv b.A p.length b.c,Sv e.A l.length e.c]/\Below w.heap.size w wl/\w2.heap.size<=wl.heap.size) (λ al _=>(l.length-(intOf (al.tmps[12]?.getD undef)).toNat)) ?_ ?_
  ·exact ⟨P,C,(0),(Nat.zero_le _),(rfl),s1,s10,s11,s12,b3,K,Oz⟩
  clear P C K R s1 s10 s11 s12 b3;rintro a11 w12 ⟨P,C,k,hk,hall,s1,s10,s11,s12,b3,K,R⟩;have zw12:=R;replace R:=Nat.le_refl w12.heap.size;have hmu:(l.length-(intOf (a11.tmps[12]?.getD undef)).toNat)=(l.length-(intOf ((Vi (k:Int)))).toNat):=by rw [s12]
  refine wp_seq ?_;refine Xl [13] [some (Bv (decide ((k:Int)<(l.length:Int))))] (X9 1) [13] [] (λ _ _ _=>True) ?_ (en rfl ?_ .nil) ?_
  ·exact λ _ _=>trivial
  ·exact λ O F I H _ _ B=>Y8 rfl (ev (H.f.g rfl s12)) (ev (H.f.g rfl s11)) rfl rfl (B _ _ H.k rfl trivial)
  intro L a13 w14 S D J M T;replace P:=D.Z P;replace C:=D.E C;obtain ⟨s1,s10,s11,s12⟩:=D.G4 s1 s10 s11 s12;have s13:=gS a13 13 (M 0 _ rfl);replace b3:=b3.k0 J;replace R:=Nat.le_trans R J.size;replace K:=J.below0 K;clear D J M S T;refine Xi (wp_seq ?_);rcases Bool.eq_false_or_eq_true (decide ((k:Int)<(l.length:Int))) with q15|q15
  ·have hkl:k<l.length:=by have:=J0 q15;omega
   obtain ⟨bl,ol,el,fe⟩:=ElS.open_ (hsl.below K) Oz;refine wp_cond_true (ev (vb s13 q15)) ?_;refine wp_skip (Xi (wp_seq (wp_block (wp_seq ?_))));refine Xl [14,15,4] [some (.pointer (some ⟨bl,ol+k,none⟩)),some (Vi (l.getD k 0)),some (Vi (l.getD k 0))] (X9 3) [14,15,4] [] (λ _ _ _=>True) ?_ (e2 ?_ ?_ (en rfl ?_ .nil)) ?_
   ·exact λ _ _=>trivial
   ·intro O F I H _ _ B;simp [go_sem,H.f.g rfl s10,H.f.g rfl s12,hkl,el];exact (B _ _ H.k rfl trivial)
   ·intro O F I H _ _ B;have hE:=fe.kp H.k Sz;simp [go_sem,(gS F 14 (H.d 0 rfl rfl)),(hE.at_ 0 (i:=k) Oz 0 (p:=ol+k) Oz rfl)];exact (B _ _ H.k rfl trivial)
   ·exact Jm 1 rfl rfl rfl rfl
   intro L a16 w17 S D J M T;replace P:=D.Z P;replace C:=D.E C;obtain ⟨s1,s10,s11,s12⟩:=D.G4 s1 s10 s11 s12;have s4:=gS a16 4 (M 2 _ rfl);replace b3:=b3.k0 J;replace R:=Nat.le_trans R J.size;replace K:=J.below0 K;clear D J M S T s13 fe;refine Xi (wp_seq ?_);refine Xl [16,17,18] [some (Vi (l.getD k 0)),some (Bv (ZT (l.getD k 0) 1 3)),some (Bv (!(ZT (l.getD k 0) 1 3)))] (X9 3) [16,17,18] [] (λ _ _ _=>True) ?_ (e2 ?_ ?_ (en rfl ?_ .nil)) ?_
   ·exact λ _ _=>trivial
   ·exact Kq s4 rfl rfl rfl
   ·intro O F I H _ _ B;simp [go_sem,(gS F 16 (H.d 0 rfl rfl))];refine (Yb (l.getD k 0) 1 3 I).mono ?_;rintro x wx ⟨rfl,rfl⟩;exact (B _ _ H.k rfl trivial)
   ·exact JC 1 rfl rfl rfl rfl
   intro L a18 w19 S D J M T;replace P:=D.Z P;replace C:=D.E C;obtain ⟨s1,s10,s11,s12⟩:=D.G4 s1 s10 s11 s12;have s18:=gS a18 18 (M 2 _ rfl);replace b3:=b3.k0 J;replace R:=Nat.le_trans R J.size;replace K:=J.below0 K;clear D J M S T s4;refine Xi ?_;rcases Bool.eq_false_or_eq_true (!(ZT (l.getD k 0) 1 3)) with q20|q20
   ·refine wp_cond_true (ev (vb s18 q20)) ?_;refine wp_seq ?_;refine Xl [2] [some Bf] (X9 1) [2] [] (λ _ _ _=>True) ?_ (en rfl ?_ .nil) ?_
    ·exact λ _ _=>trivial
    ·exact oACT rfl rfl
    intro L a21 w22 S D J M T;replace P:=D.Z P;replace C:=D.E C;have s2:=gS a21 2 (M 0 _ rfl);replace R:=Nat.le_trans R J.size;replace K:=J.below0 K;clear D J M S T s1 s10 s11 s12 s18 b3;refine Xi (wp_ret ?_);refine ib_r (Ki (Ki (ib_r (Ki ?_))));refine bodyPost_ret (v:=Bf) (by simp [results,Tryz.results54,go_sem,s2]) C ?_;exact ⟨by unfold J7;rw [log_stop hkl (JD q20),Bool.and_false];rfl,K⟩
   ·refine wp_cond_false (ev (vb s18 q20)) ?_;refine wp_skip ?_;refine ib_n (Xi ?_);refine Xl [19,12] [some (Vi ((k:Int)+1)),some (Vi ((k:Int)+1))] (X9 2) [19,12] [] (λ L aa I=>(L 1=false->aa.tmps[12]?.getD undef=Vi (k:Int))) ?_ (e2 ?_ ?_ .nil) ?_
    ·exact λ _ h=>(λ _=>s12)
    ·intro O F I H _ _ B;have x0:=H.x;exact Zi rfl (ev (x0 (H.t 1 rfl))) rfl Oz (B _ _ H.k rfl (λ h=>(Xv Dz _).trans (x0 h)))
    ·intro O F I H _ _ B;have x0:=H.x;exact XQ rfl (ev (H.d 0 rfl rfl)) (B _ _ H.k rfl (λ h=>by simp [Yc] at h))
    intro L a23 w24 S D J M T;have x0:=T;replace P:=D.Z P;replace C:=D.E C;obtain ⟨s1,s10,s11⟩:=D.G3 s1 s10 s11;have s12:=gS a23 12 (M 1 _ rfl);replace b3:=b3.k0 J;replace R:=Nat.le_trans R J.size;replace K:=J.below0 K;clear D J M S x0 s18;refine Xi ?_;refine ⟨?_, ?_⟩
    ·exact ⟨P,C,(k+1),Oz,(log_next hkl hall (YT q20)),s1,s10,s11,s12,b3,K,Oz⟩
    ·show (l.length-(intOf (a23.tmps[12]?.getD undef)).toNat)<_;rw [s12,hmu];simp only [intOf];omega
  ·have ek:k=l.length:=by have:=Jr q15;omega
   rw [ek,List.take_length] at hall;refine wp_cond_false (ev (vb s13 q15)) ?_;refine wp_exit ?_;refine th_e (th_e (ib_x (Xi (wp_seq ?_))));refine Xl [20,21,22,23,24,25,26,27,28,29,30,2] [some (.pointer (some ⟨w.heap.size,8,none⟩)),some (.agg #[Sv b.A p.length b.c]),some (Bv (decide (p.length=0))),some (Bv (!(decide (p.length=0)))),some (Bv (!(decide (p.length=0)))),some ((bif !(decide (p.length=0)) then (Pz w.heap.size:Value) else undef)),some ((bif !(decide (p.length=0)) then (X7 r ra:Value) else undef)),some ((bif !(decide (p.length=0)) then (.pointer (some ⟨w.heap.size,8,none⟩):Value) else undef)),some ((bif !(decide (p.length=0)) then (.agg #[Sv b.A p.length b.c]:Value) else undef)),some ((bif !(decide (p.length=0)) then (Bv (KW r p):Value) else undef)),some (Bv (!(decide (p.length=0))&&KW r p)),some (Bv (!(decide (p.length=0))&&KW r p))] (X9 12) [20,21,22,23,24,25,26,27,28,29,30,2] [] (λ _ _ _=>True) ?_ (e4 ?_ ?_ ?_ ?_ (en rfl ?_ (eg ?_ (eg ?_ (eg ?_ (eg ?_ (eg ?_ (e2 ?_ ?_ .nil)))))))) ?_
   ·exact λ _ _=>trivial
   ·intro O F I H _ _ B;simp [go_sem,H.f.g rfl s1];exact (B _ _ H.k rfl trivial)
   ·intro O F I H _ _ B;simp [go_sem,(gS F 20 (H.d 0 rfl rfl)),(b3.k0 H.k).cell];exact (B _ _ H.k rfl trivial)
   ·intro O F I H _ _ B;simp [go_sem,(gS F 21 (H.d 1 rfl rfl))];refine (ZW p b I).mono ?_;rintro x wx ⟨rfl,hb⟩;exact (B _ _ (H.k.call hb) rfl trivial)
   ·exact JC 2 rfl rfl rfl rfl
   ·exact KC 3 rfl rfl rfl rfl
   ·intro O F I H _ _ B;refine wgt rfl rfl rfl (H.d 4 rfl rfl) (λ qg=>B _ _ H.k (XC qg).symm trivial) λ qg=>?_;simp [go_sem,H.f.g rfl s1];exact (B _ _ H.k (Xz qg).symm trivial)
   ·intro O F I H _ _ B;refine wgt rfl rfl rfl (H.d 4 rfl rfl) (λ qg=>B _ _ H.k (XC qg).symm trivial) λ qg=>?_;simp [go_sem,(show F.tmps[25]?.getD undef=_ from (H.d 5 rfl rfl).trans (Xz qg)),(b3.k0 H.k).cell];exact (B _ _ H.k (Xz qg).symm trivial)
   ·intro O F I H _ _ B;refine wgt rfl rfl rfl (H.d 4 rfl rfl) (λ qg=>B _ _ H.k (XC qg).symm trivial) λ qg=>?_;simp [go_sem,H.f.g rfl s1];exact (B _ _ H.k (Xz qg).symm trivial)
   ·intro O F I H _ _ B;refine wgt rfl rfl rfl (H.d 4 rfl rfl) (λ qg=>B _ _ H.k (XC qg).symm trivial) λ qg=>?_;simp [go_sem,(show F.tmps[27]?.getD undef=_ from (H.d 7 rfl rfl).trans (Xz qg)),(b3.k0 H.k).cell];exact (B _ _ H.k (Xz qg).symm trivial)
   ·intro O F I H _ _ B;refine wgt rfl rfl rfl (H.d 4 rfl rfl) (λ qg=>B _ _ H.k (XC qg).symm trivial) λ qg=>?_;simp [go_sem,(show F.tmps[26]?.getD undef=_ from (H.d 6 rfl rfl).trans (Xz qg)),(show F.tmps[28]?.getD undef=_ from (H.d 8 rfl rfl).trans (Xz qg))];have hBi:=H.k.below0 K;refine (iKept_c r p ra b I hn hin (hs.below hBi) hnl hlp hpi (hsp.below hBi) hnb).mono ?_;rintro x wx ⟨rfl,hb⟩;exact (B _ _ (H.k.call hb) (Xz qg).symm trivial)
   ·exact λ O F I H _ _ B=>Za rfl (ev (H.d 4 rfl rfl)) (λ h=>(ev ((H.d 9 rfl rfl).trans (Xz h))).trans (J9 h)) (λ h=>vand_f h) (B _ _ H.k rfl trivial)
   ·exact Jm 10 rfl rfl rfl rfl
   intro L a25 w26 S D J M T;replace P:=D.Z P;replace C:=D.E C;have s2:=gS a25 2 (M 11 _ rfl);replace R:=Nat.le_trans R J.size;replace K:=J.below0 K;clear D J M S T s1 s10 s11 s12 s13 b3;refine Xi (wp_ret ?_);refine bodyPost_ret (v:=Bv (!(decide (p.length=0))&&KW r p)) (by simp [results,Tryz.results54,go_sem,s2]) C ?_;exact ⟨by unfold J7;rw [q6,hall];rfl,K⟩
end Go.Proofs.YtbekjpkcicjcgaaGreat
