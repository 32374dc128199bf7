/-
 The region of the points that a map moves into a region: of the reference.
 Conditions: valid regions and maps.
-/
import Derived.Test.YtabfdkpdppemaaaGreatPulQd
namespace Go.Proofs.YtabfdkpdppemaaaGreat
open Go.RowKit
theorem movL_next {f:Half->Option Half} {p:List Half} {k:Nat} (h:k<p.length) (hs:(f (p.getD k Xd)).isSome=true):Jf f (p.take (k+1))=Jf f (p.take k)++[(f (p.getD k Xd)).getD Xd]:=by
 have e:p.getD k Xd=p[k]:=by rw [List.getD_eq_getElem?_getD,List.getElem?_eq_getElem h,Option.getD_some]
 rw [e] at hs ⊢;obtain ⟨g,hg⟩:=Option.isSome_iff_exists.1 hs;rw [movL_take h hg,hg];rfl
theorem movAll_next {f:Half->Option Half} {p:List Half} {k:Nat} (h:k<p.length) (h1:Kh f (p.take k)=true) (hs:(f (p.getD k Xd)).isSome=true):Kh f (p.take (k+1))=true:=by
 have e:p.getD k Xd=p[k]:=by rw [List.getD_eq_getElem?_getD,List.getElem?_eq_getElem h,Option.getD_some]
 rw [e] at hs;obtain ⟨g,hg⟩:=Option.isSome_iff_exists.1 hs;exact movAll_take h h1 hg
theorem getD_halfOk {p:List Half} {k:Nat} (h:k<p.length) (hp:Xi p=true):XG (p.getD k Xd)=true:=by
 have e:p.getD k Xd=p[k]:=by rw [List.getD_eq_getElem?_getD,List.getElem?_eq_getElem h,Option.getD_some]
 rw [e];exact ZH hp _ (List.getElem_mem h)
theorem far_at {xs:List XQ} {a b:Int}:∀ k:Nat,k<=xs.length->k≠0->∃ j,j<k/\(Zj xs a b k).2.1=JS xs a b j/\(Zj xs a b k).2.2=JI xs j
 | 0,_,h=>absurd rfl h
 | k+1,hk,_=>by
  by_cases hc:(Zj xs a b k).1<0∨0<cmpF (JS xs a b k) (JI xs k) (Zj xs a b k).2.1 (Zj xs a b k).2.2
  ·rw [farAt_yes hc];exact ⟨k,by omega,rfl,rfl⟩
  ·rw [farAt_no hc];have hk0:k≠0:=by
    rintro rfl;apply hc;left;simp [Zj]
   obtain ⟨j,h1,h2,h3⟩:=far_at (xs:=xs) (a:=a) (b:=b) k (by omega) hk0;exact ⟨j,by omega,h2,h3⟩
theorem corners_ne {p:List Half} (hne:p≠[]):∃ s,s∈XA p:=by
 have:0<(XA p).length:=by rw [Zv];exact List.length_pos_iff.2 hne
 exact ⟨_,List.getElem_mem this⟩
theorem sup_at {p:List Half} (hr:Xi p=true) (hne:p≠[]) {a b:Int} (ha : -50000<=a/\a<=50000) (hb : -50000<=b/\b<=50000):∃ s∈XA p,(KE p a b).n*s.d=(a*s.x+b*s.y)*(KE p a b).d:=by
 have B:=supB hr hne ha hb;have hn:=B.n;have hd:=B.d;obtain ⟨ok,k,hk,e1,e2⟩:=Ke (n:=(supF p a b).2.1) (d:=(supF p a b).2.2) ⟨by omega,by omega⟩ ⟨by omega,by omega⟩;change (supF p a b).2.1=k*(KE p a b).n at e1
 change (supF p a b).2.2=k*(KE p a b).d at e2
 obtain ⟨j,hj,h1,h2⟩:=far_at (xs:=XA p) (a:=a) (b:=b) (XA p).length Xg (by rw [Zv];have:=List.length_pos_iff.2 hne;omega);refine ⟨(XA p).getD j Kj,getD_mem hj Kj, ?_⟩;change (supF p a b).2.1=a*((XA p).getD j Kj).x+b*((XA p).getD j Kj).y at h1
 change (supF p a b).2.2=((XA p).getD j Kj).d at h2
 rw [<- h1,<- h2,e1,e2];rw [Int.mul_left_comm,Int.mul_assoc]
theorem cor_span {p:List Half} (hr:Xi p=true) (hne:p≠[]) {a b c:Int} (A : -50000<=a/\a<=50000) (B : -50000<=b/\b<=50000) (hc:∀ s∈XA p,a*s.x+b*s.y<=c*s.d) {x y d:Int} (hd:0<d) (hp:InP p x y d):a*x+b*y<=c*d:=by
 have R:=supR hr hne A B;have g:=sup_ge hr hne A B hd hp;obtain ⟨s,hs,e⟩:=sup_at hr hne A B;have sd:=spot_pos (corner_in hr hs).2;have h1:=hc s hs;have D:=R.d;have m1:(a*s.x+b*s.y)*(KE p a b).d<=c*s.d*(KE p a b).d:=Int.mul_le_mul_of_nonneg_right h1 (by omega);have m2:(KE p a b).n<=c*(KE p a b).d:=by
  refine le_cancel (k:=s.d) (by omega) ?_;rw [e,Int.mul_right_comm c];exact m1
 have m3:(KE p a b).n*d<=c*(KE p a b).d*d:=Int.mul_le_mul_of_nonneg_right m2 (by omega);refine le_cancel (k:=(KE p a b).d) (by omega) ?_;rw [Int.mul_right_comm c];omega
theorem within_pts {p q:List Half} (hp:Xi p=true) (hne:p≠[]) (hq:Xi q=true) (h:ZW p q=true):q≠[]/\∀ x y d,0<d->InP p x y d->InP q x y d:=by
 unfold ZW at h;rw [List.all_eq_true] at h;obtain ⟨s,hs⟩:=corners_ne hne;refine ⟨(holdsB_pt.1 (h s hs)).1,λ x y d hd hz g hg=>?_⟩;obtain ⟨A,B,_⟩:=Zx.1 (ZH hq g hg);exact cor_span hp hne A B (λ t ht=>(holdsB_pt.1 (h t ht)).2 g hg) hd hz
theorem pts_within {p q:List Half} (hp:Xi p=true) (hq:p≠[]->q≠[]) (h:p≠[]->∀ x y d,0<d->InP p x y d->InP q x y d):ZW p q=true:=by
 unfold ZW;rw [List.all_eq_true];intro s hs;have hne:p≠[]:=by rintro rfl;simp [XA] at hs
 obtain ⟨h1,h2⟩:=corner_in hp hs;have:=spot_pos h2;exact holdsB_pt.2 ⟨hq hne,h hne _ _ _ (by omega) h1⟩
theorem admi_no {r:XK} {p:List Half} {s:XQ} (h:(!(Yi r p) || !(Xv s))=true):XH r p s=none:=by
 unfold XH;rw [if_neg];intro q;rw [q.1,q.2] at h;cases h
theorem admi_yes {r:XK} {p:List Half} {s:XQ} (h:(!(Yi r p) || !(Xv s))=false):XH r p s=YH r (Kb r p) s:=by
 unfold XH;rw [if_pos ⟨YY (or_f1 h),YY (or_f2 h)⟩]
theorem rob_room2 {r:XK} {p:List Half} (h:Yi r p=true):X0 r=true:=by
 simp only [Yi,rpOk,Bool.and_eq_true] at h;exact h.1.2.1.1
set_option maxRecDepth 100000 in
set_option maxHeartbeats 3000000 in
theorem iAdmAt_c (r:XK) (p:List Half) (s:XQ) (ra:Y9) (b:KL) (w:World) (hn:Zq r<=1048576) (hin:JK r) (hs:Y8 w r ra) (hnl:KW ra) (hlp:p.length<=1048576) (hpi:∀ h∈p,h.In) (hsp:Sl 3 Xh w b.A p) (hnb:b.A=none->b.c=0) (hsi:s.In) :
 Calls Tryz.prog 22 #[X9 r ra,.agg #[.slice b.A p.length b.c],YQ s] w λ x w'=>x=.returned (optSpanV (XH r p s))/\Below w.heap.size w w':=by
 refine Yw Tryz.func22 rfl (n:=30) Tryz.ntmps22 (by simp) ?_;intro a0 R J ha;have s0:a0.tmps[0]?.getD undef=X9 r ra:=ha 0 _ rfl;have s1:a0.tmps[1]?.getD undef=.agg #[.slice b.A p.length b.c]:=ha 1 _ rfl;have s2:a0.tmps[2]?.getD undef=YQ s:=ha 2 _ rfl;clear ha;have O:=Below.refl w.heap.size w;have V:=Nat.le_refl w.heap.size;refine wp_seq ?_;refine Yp [3,4,5,6,7] [.pointer (some ⟨w.heap.size,0,none⟩),.pointer (some ⟨(w.heap.size+1),0,none⟩),.pointer (some ⟨(w.heap.size+2),0,none⟩),.pointer (some ⟨(w.heap.size+3),0,none⟩),.bool false] [some (.cells (Yq r ra).toArray 28),some (.cells [.slice b.A p.length b.c].toArray 26),some (.cells [.int .i64 s.x,.int .i64 s.y,.int .i64 s.d].toArray 30),some (.cells [.int .i64 0,.int .i64 0,.int .i64 0,.int .i64 0].toArray 49),none] [0,1,2,3,4] [3,4,5,6,7] [0,1,2,3,4] (by kernel_rfl) (by rw [R];decide) (ec ?_ (ec ?_ (ec ?_ (ec ?_ (ec ?_ .nil))))) ?_
 ·intro a w' D hs N Q B;simp [go_sem,D.g rfl s0];rw [hs];exact B
 ·intro a w' D hs N Q B;simp [go_sem,D.g rfl s1];rw [hs];exact B
 ·intro a w' D hs N Q B;simp [go_sem,D.g rfl s2];rw [hs];exact B
 ·intro a w' D hs N Q B;simp [go_sem];rw [hs];exact B
 ·intro a w' D hs N Q B;simp [go_sem];exact B
 intro a1 w2 D P hb hO;replace R:=D.size.trans R;replace J:=D.defers.trans J;have s3:a1.tmps[3]?.getD undef=.pointer (some ⟨w.heap.size,0,none⟩):=P 0 (by decide);have s4:a1.tmps[4]?.getD undef=.pointer (some ⟨(w.heap.size+1),0,none⟩):=P 1 (by decide);have s5:a1.tmps[5]?.getD undef=.pointer (some ⟨(w.heap.size+2),0,none⟩):=P 2 (by decide);have s6:a1.tmps[6]?.getD undef=.pointer (some ⟨(w.heap.size+3),0,none⟩):=P 3 (by decide);have b3:Xx w2 w.heap.size 28 (Yq r ra):=hO 0 _ rfl;have b4:Xx w2 (w.heap.size+1) 26 [.slice b.A p.length b.c]:=hO 1 _ rfl;have b5:Xx w2 (w.heap.size+2) 30 [.int .i64 s.x,.int .i64 s.y,.int .i64 s.d]:=hO 2 _ rfl;have b6:Xx w2 (w.heap.size+3) 49 [.int .i64 0,.int .i64 0,.int .i64 0,.int .i64 0]:=hO 3 _ rfl;have hG:=b6.lt;replace O:=Xf O hb;have zw2:=Nat.le_trans V hb.size;replace V:=Nat.le_refl w2.heap.size;clear D P hb hO s0 s1 s2;refine Xk (wp_seq ?_);have F:XF [8,10,13,14] (λ L aa C=>(L 2=true->(λ C v=>∃ A1 c1 R1,v=.tuple #[.agg #[.slice A1 R1.length c1],.bool (Yi r p)]/\(Yi r p=true->R1=Kb r p)/\R1.length<=40/\XU 174 3 Xh C w2.heap.size (.slice A1 R1.length c1) R1) C (aa.tmps[13]?.getD undef))/\(L 3=true->(λ C v=>∃ A1 c1 R1,v=.tuple #[.agg #[.slice A1 R1.length c1],.bool (Yi r p)]/\(Yi r p=true->R1=Kb r p)/\R1.length<=40/\XU 174 3 Xh C w2.heap.size (.slice A1 R1.length c1) R1) C (aa.tmps[10]?.getD undef))/\(L 4=true->(λ C v=>∃ A1 c1 R1,v=.agg #[.slice A1 R1.length c1]/\(Yi r p=true->R1=Kb r p)/\R1.length<=40/\XU 174 3 Xh C w2.heap.size (.slice A1 R1.length c1) R1) C (aa.tmps[14]?.getD undef))/\(L 6=true->XS w2 aa C 8 26 [.slice none 0 0] (L 7) (λ C vs=>∃ A1 c1 R1,vs=[.slice A1 R1.length c1]/\(Yi r p=true->R1=Kb r p)/\R1.length<=40/\XU 174 3 Xh C w2.heap.size (.slice A1 R1.length c1) R1))):=by
  intro L aa C w' kk vv hkk hb T;obtain ⟨x0,x1,x2,x3⟩:=T;exact ⟨(λ h=>by rw [Xa (hkk 13 (by simp))];obtain ⟨A1',c1',R1',e,f1'⟩:=x0 h;exact ⟨A1',c1',R1',e,And.intro f1'.1 (And.intro f1'.2.1 (f1'.2.2.below hb Xg))⟩),(λ h=>by rw [Xa (hkk 10 (by simp))];obtain ⟨A1',c1',R1',e,f1'⟩:=x1 h;exact ⟨A1',c1',R1',e,And.intro f1'.1 (And.intro f1'.2.1 (f1'.2.2.below hb Xg))⟩),(λ h=>by rw [Xa (hkk 14 (by simp))];obtain ⟨A1',c1',R1',e,f1'⟩:=x2 h;exact ⟨A1',c1',R1',e,And.intro f1'.1 (And.intro f1'.2.1 (f1'.2.2.below hb Xg))⟩),(λ h=>((x3 h).bel hb (λ _ ⟨A1',c1',R1',e,f1'⟩=>⟨A1',c1',R1',e,And.intro f1'.1 (And.intro f1'.2.1 (f1'.2.2.below hb Xg))⟩)).put (hkk 8 (by simp)) _)⟩
 refine Xt F [11,12,13,10,14,15,8,0,9] [some (X9 r ra),some (.agg #[.slice b.A p.length b.c]),none,none,none,some (.bool (Yi r p)),none,none,some (.bool (Yi r p))] (Yb 9) [11,12,13,10,14,15,8,9] [] ?_ (e4 ?_ ?_ ?_ ?_ (e4 ?_ ?_ ?_ ?_ (en rfl ?_ .nil))) ?_
 ·exact λ _ h=>⟨(λ h=>by cases h),(λ h=>by cases h),(λ h=>by cases h),(λ h=>by cases h)⟩
 ·intro M I C H _ _ B;simp [go_sem,H.f.g rfl s3,(b3.k0 H.k).cell];exact (B _ _ H.k rfl (F.q rfl H.x))
 ·intro M I C H _ _ B;simp [go_sem,H.f.g rfl s4,(b4.k0 H.k).cell];exact (B _ _ H.k rfl (F.q rfl H.x))
 ·intro M I C H _ _ B;obtain ⟨x0,x1,x2,x3⟩:=H.x;simp [go_sem,(gS I 11 (H.d 0 rfl rfl)),(gS I 12 (H.d 1 rfl rfl))];have hBi:=H.k.below0 O;refine (iRobustOf_c r p ra b C hn hin (hs.below hBi) hnl hlp hpi (hsp.below hBi) hnb).mono ?_;rintro x wx ⟨_,R1,rfl,f8,f9,⟨A1,c1,rfl,f0⟩,hb⟩;have f1:(Yi r p=true->R1=Kb r p)/\R1.length<=40/\XU 174 3 Xh wx _ (.slice A1 R1.length c1) R1:=⟨f8,f9,XU.mono (show XU 174 3 Xh wx C.heap.size (.slice A1 R1.length c1) R1 from ⟨_,_,rfl,f0⟩) H.k.size⟩;exact (B _ _ (H.k.call hb) trivial ⟨(λ _=>by rw [Xb (H.f.lt (by rw [R];decide))];exact ⟨A1,c1,R1,rfl,f1⟩),(λ h=>by rw [Xa (by decide)];obtain ⟨A1',c1',R1',e,f1'⟩:=x1 h;exact ⟨A1',c1',R1',e,And.intro f1'.1 (And.intro f1'.2.1 (f1'.2.2.below hb Xg))⟩),(λ h=>by rw [Xa (by decide)];obtain ⟨A1',c1',R1',e,f1'⟩:=x2 h;exact ⟨A1',c1',R1',e,And.intro f1'.1 (And.intro f1'.2.1 (f1'.2.2.below hb Xg))⟩),(λ h=>((x3 h).bel hb (λ _ ⟨A1',c1',R1',e,f1'⟩=>⟨A1',c1',R1',e,And.intro f1'.1 (And.intro f1'.2.1 (f1'.2.2.below hb Xg))⟩)).put (by decide) _)⟩)
 ·intro M I C H _ _ B;obtain ⟨x0,x1,x2,x3⟩:=H.x;obtain ⟨A1,c1,R1,ee2,f1⟩:=x0 (H.r 2 rfl);exact Xy rfl (ev ee2) (B _ _ H.k trivial ⟨(λ h=>by rw [Xa (by decide)];obtain ⟨A1',c1',R1',e,f1'⟩:=x0 h;exact ⟨A1',c1',R1',e,And.intro f1'.1 (And.intro f1'.2.1 (f1'.2.2.below bR Xg))⟩),(λ _=>by rw [Xb (H.f.lt (by rw [R];decide))];exact ⟨A1,c1,R1,rfl,f1⟩),(λ h=>by rw [Xa (by decide)];obtain ⟨A1',c1',R1',e,f1'⟩:=x2 h;exact ⟨A1',c1',R1',e,And.intro f1'.1 (And.intro f1'.2.1 (f1'.2.2.below bR Xg))⟩),(λ h=>((x3 h).bel bR (λ _ ⟨A1',c1',R1',e,f1'⟩=>⟨A1',c1',R1',e,And.intro f1'.1 (And.intro f1'.2.1 (f1'.2.2.below bR Xg))⟩)).put (by decide) _)⟩)
 ·intro M I C H _ _ B;obtain ⟨x0,x1,x2,x3⟩:=H.x;obtain ⟨A1,c1,R1,ee3,f1⟩:=x1 (H.r 3 rfl);exact XM rfl (ev ee3) rfl (B _ _ H.k trivial ⟨(λ h=>by rw [Xa (by decide)];obtain ⟨A1',c1',R1',e,f1'⟩:=x0 h;exact ⟨A1',c1',R1',e,And.intro f1'.1 (And.intro f1'.2.1 (f1'.2.2.below bR Xg))⟩),(λ h=>by rw [Xa (by decide)];obtain ⟨A1',c1',R1',e,f1'⟩:=x1 h;exact ⟨A1',c1',R1',e,And.intro f1'.1 (And.intro f1'.2.1 (f1'.2.2.below bR Xg))⟩),(λ _=>by rw [Xb (H.f.lt (by rw [R];decide))];exact ⟨A1,c1,R1,rfl,f1⟩),(λ h=>((x3 h).bel bR (λ _ ⟨A1',c1',R1',e,f1'⟩=>⟨A1',c1',R1',e,And.intro f1'.1 (And.intro f1'.2.1 (f1'.2.2.below bR Xg))⟩)).put (by decide) _)⟩)
 ·intro M I C H _ _ B;obtain ⟨x0,x1,x2,x3⟩:=H.x;obtain ⟨A1,c1,R1,ee3,f1⟩:=x1 (H.r 3 rfl);exact XM rfl (ev ee3) rfl (B _ _ H.k rfl (F.q rfl H.x))
 ·intro M I C H _ _ B;obtain ⟨x0,x1,x2,x3⟩:=H.x;simp [go_sem];exact B _ _ (H.k.alloc _) trivial ⟨(λ h=>by rw [Xa (by decide)];obtain ⟨A1',c1',R1',e,f1'⟩:=x0 h;exact ⟨A1',c1',R1',e,And.intro f1'.1 (And.intro f1'.2.1 (f1'.2.2.below (Xc bR _) Xg))⟩),(λ h=>by rw [Xa (by decide)];obtain ⟨A1',c1',R1',e,f1'⟩:=x1 h;exact ⟨A1',c1',R1',e,And.intro f1'.1 (And.intro f1'.2.1 (f1'.2.2.below (Xc bR _) Xg))⟩),(λ h=>by rw [Xa (by decide)];obtain ⟨A1',c1',R1',e,f1'⟩:=x2 h;exact ⟨A1',c1',R1',e,And.intro f1'.1 (And.intro f1'.2.1 (f1'.2.2.below (Xc bR _) Xg))⟩),(λ _=>by rw [show Yh M 6 7=false from H.t 7 rfl];exact XS.new (s:=8) (H.f.lt (by rw [R];decide)) H.k.size [.slice none 0 0])⟩
 ·intro M I C H _ _ B;obtain ⟨x0,x1,x2,x3⟩:=H.x;obtain ⟨A1,c1,R1,ee4,f1⟩:=x2 (H.r 4 rfl);obtain ⟨g,eg,hg,y,_⟩:=x3 (H.r 6 rfl);have S:=y H.n;simp [go_sem,ee4,eg,S.cell,S.frz];have f1:=And.intro f1.1 (And.intro f1.2.1 (f1.2.2.otherC (f1.2.2.typ S (by decide)) [.slice A1 R1.length c1] 0));exact B undef _ (H.k.store (.inl hg) [.slice A1 R1.length c1] 0) trivial ⟨(λ h=>by obtain ⟨A1',c1',R1',e,f1'⟩:=x0 h;exact ⟨A1',c1',R1',e,And.intro f1'.1 (And.intro f1'.2.1 (f1'.2.2.otherC (f1'.2.2.typ S (by decide)) [.slice A1 R1.length c1] 0))⟩),(λ h=>by obtain ⟨A1',c1',R1',e,f1'⟩:=x1 h;exact ⟨A1',c1',R1',e,And.intro f1'.1 (And.intro f1'.2.1 (f1'.2.2.otherC (f1'.2.2.typ S (by decide)) [.slice A1 R1.length c1] 0))⟩),(λ h=>by obtain ⟨A1',c1',R1',e,f1'⟩:=x2 h;exact ⟨A1',c1',R1',e,And.intro f1'.1 (And.intro f1'.2.1 (f1'.2.2.otherC (f1'.2.2.typ S (by decide)) [.slice A1 R1.length c1] 0))⟩),(λ _=>XS.set eg hg S (us:=[.slice A1 R1.length c1]) rfl ⟨A1,c1,R1,rfl,f1⟩)⟩
 ·exact Kz 5 rfl rfl rfl rfl λ _ _ _ _=>F.q rfl
 intro L a7 w8 U D K P T;obtain ⟨x0,x1,x2,x3⟩:=T;replace R:=D.Z R;replace J:=D.E J;replace s3:=D.G s3;replace s5:=D.G s5;replace s6:=D.G s6;have s9:=gS a7 9 (P 8 _ rfl);replace b3:=b3.k0 K;replace b5:=b5.k0 K;replace b6:=b6.k0 K;obtain ⟨g9,s8,lg9,-,b9⟩:=x3 (U 6 (by decide));obtain ⟨_,b9,A1,c1,R1,rfl,N1⟩:=b9 (U 7 (by decide));obtain ⟨E1r,E1l,N1⟩:=N1;have i1:∀ p,A1=some p->p.block<w8.heap.size:=λ p hp=>(N1.blk p hp).2;have ug9:=b9.lt;have zw8:=K.size;replace V:=Nat.le_refl w8.heap.size;replace O:=K.below0 O;clear D K P U x0 x1 x2 x3 F s4 b4;refine Xk (wp_seq (wp_seq ?_));refine Xj [16,17,18,19,20,21,22] [some (.bool (Yi r p)),some (.bool (!(Yi r p))),some (.bool (!(Yi r p))),some ((bif !(Yi r p) then undef else (YQ s:Value))),some ((bif !(Yi r p) then undef else (.bool (Xv s):Value))),some ((bif !(Yi r p) then undef else (.bool (!(Xv s)):Value))),some (.bool (!(Yi r p) || !(Xv s)))] (Yb 7) [16,17,18,19,20,21,22] [] (λ _ _ _=>True) ?_ (e2 ?_ ?_ (en rfl ?_ (eg ?_ (eg ?_ (eg ?_ (en rfl ?_ .nil)))))) ?_
 ·exact λ _ _=>trivial
 ·exact Zz s9 rfl rfl rfl
 ·exact Ky 0 rfl rfl rfl rfl
 ·exact YA 1 rfl rfl rfl rfl
 ·intro M I C H _ _ B;refine wgf rfl rfl rfl (H.d 2 rfl rfl) (λ qg=>B _ _ H.k (Xr qg).symm trivial) λ qg=>?_;simp [go_sem,H.f.g rfl s5,(b5.k0 H.k).cell];exact (B _ _ H.k (XC qg).symm trivial)
 ·intro M I C H _ _ B;refine wgf rfl rfl rfl (H.d 2 rfl rfl) (λ qg=>B _ _ H.k (Xr qg).symm trivial) λ qg=>?_;simp [go_sem,(show I.tmps[19]?.getD undef=_ from (H.d 3 rfl rfl).trans (XC qg))];refine (Jj s C hsi).mono ?_;rintro x wx ⟨rfl,hb⟩;exact (B _ _ (H.k.call hb) (XC qg).symm trivial)
 ·intro M I C H _ _ B;refine wgf rfl rfl rfl (H.d 2 rfl rfl) (λ qg=>B _ _ H.k (Xr qg).symm trivial) λ qg=>?_;exact ZR rfl (ev ((H.d 4 rfl rfl).trans (XC qg))) (B _ _ H.k (XC qg).symm trivial)
 ·exact oPOT 2 5 rfl rfl rfl rfl rfl rfl
 intro L a10 w11 U D K P T;replace R:=D.Z R;replace J:=D.E J;replace s3:=D.G s3;replace s5:=D.G s5;replace s6:=D.G s6;replace s8:=D.G s8;have s22:=gS a10 22 (P 6 _ rfl);replace b3:=b3.k0 K;replace b5:=b5.k0 K;replace b6:=b6.k0 K;replace b9:=b9.k0 K;replace N1:=N1.below K.toBelow Xg;replace V:=Nat.le_trans V K.size;replace O:=K.below0 O;clear D K P U T s9;refine Xk ?_;rcases Bool.eq_false_or_eq_true (!(Yi r p) || !(Xv s)) with q12|q12
 ·refine wp_cond_true (ev (vb s22 q12)) ?_;refine wp_seq ?_;have F:XF [] (λ L aa C=>Yc C (w.heap.size+3) 49 [.int .i64 0,.int .i64 0,.int .i64 0,.int .i64 0] (L 1) (λ _ vs=>vs=[.int .i64 0,.int .i64 0,.int .i64 0,.int .i64 0])):=by
   intro L aa C w' kk vv hkk hb T;have x0:=T;exact (x0.bel hb (λ _ h=>h))
  refine Xt F [23,0,7] [some (.agg #[.int .i64 0,.int .i64 0,.int .i64 0,.int .i64 0]),none,some (.bool false)] (Yb 3) [23,7] [(w.heap.size+3)] ?_ (e2 ?_ ?_ (en rfl ?_ .nil)) ?_
  ·exact λ _ h=>(⟨λ _=>b6.kp h (by simp),(λ h=>by cases h)⟩)
  ·intro M I C H _ _ B;simp [go_sem];exact (B _ _ H.k rfl H.x)
  ·intro M I C H _ _ B;have x0:=H.x;have S:=x0.1 H.n;simp [go_sem,(gS I 23 (H.d 0 rfl rfl)),H.f.g rfl s6,S.cell,S.frz];exact B undef _ (H.k.store (.inr (by simp)) [.int .i64 0,.int .i64 0,.int .i64 0,.int .i64 0] 0) trivial (Yc.set S (us:=[.int .i64 0,.int .i64 0,.int .i64 0,.int .i64 0]) rfl rfl)
  ·exact oACX rfl rfl λ _ _ _ _ h=>h
  intro L a13 w14 U D K P T;have x0:=T;replace R:=D.Z R;replace J:=D.E J;replace s6:=D.G s6;have s7:=gS a13 7 (P 2 _ rfl);clear b6;obtain ⟨_,b6,rfl⟩:=x0.2 (U 1 (by decide));replace V:=Nat.le_trans V K.size;replace O:=K.below O O.size (by simp<;>omega);clear D K P U x0 F s3 s5 s8 s22 b3 b5 b9 N1 i1;refine Xk (wp_ret (Km ?_));refine bodyPost_ret (v:=.tuple #[.agg #[.int .i64 0,.int .i64 0,.int .i64 0,.int .i64 0],.bool false]) (by simp [results,Tryz.results22,go_sem,s6,b6.cell,s7]) J ?_;exact ⟨by rw [admi_no q12];rfl,O⟩
 ·have hro:=YY (or_f1 q12);have hso:=YY (or_f2 q12);have hrm:=rob_room2 hro;have hR9:=E1r hro;subst hR9;refine wp_cond_false (ev (vb s22 q12)) ?_;refine wp_skip (Xk (wp_seq ?_));have F:XF [] (λ L aa C=>Yc C (w.heap.size+3) 49 [.int .i64 0,.int .i64 0,.int .i64 0,.int .i64 0] (L 6) (λ _ vs=>vs=[.int .i64 (((YH r (Kb r p) s).getD Xw).low.n),.int .i64 (((YH r (Kb r p) s).getD Xw).low.d),.int .i64 (((YH r (Kb r p) s).getD Xw).high.n),.int .i64 (((YH r (Kb r p) s).getD Xw).high.d)])):=by
   intro L aa C w' kk vv hkk hb T;have x0:=T;exact (x0.bel hb (λ _ h=>h))
  refine Xt F [24,25,26,27,28,29,0,7] [some (X9 r ra),some (.agg #[.slice A1 ((Kb r p).length) c1]),some (YQ s),some (.tuple #[Zm ((YH r (Kb r p) s).getD Xw),.bool ((YH r (Kb r p) s).isSome)]),some (Zm ((YH r (Kb r p) s).getD Xw)),some (.bool ((YH r (Kb r p) s).isSome)),none,some (.bool ((YH r (Kb r p) s).isSome))] (Yb 8) [24,25,26,27,28,29,7] [(w.heap.size+3)] ?_ (e4 ?_ ?_ ?_ ?_ (e4 ?_ ?_ ?_ ?_ .nil)) ?_
  ·exact λ _ h=>(⟨λ _=>b6.kp h (by simp),(λ h=>by cases h)⟩)
  ·intro M I C H _ _ B;simp [go_sem,H.f.g rfl s3,(b3.kp H.k (by simp<;>omega)).cell];exact (B _ _ H.k rfl H.x)
  ·intro M I C H _ _ B;simp [go_sem,H.f.g rfl s8,(b9.kp H.k (by simp<;>omega)).cell];exact (B _ _ H.k rfl H.x)
  ·intro M I C H _ _ B;simp [go_sem,H.f.g rfl s5,(b5.kp H.k (by simp<;>omega)).cell];exact (B _ _ H.k rfl H.x)
  ·intro M I C H _ _ B;simp [go_sem,(gS I 24 (H.d 0 rfl rfl)),(gS I 25 (H.d 1 rfl rfl)),(gS I 26 (H.d 2 rfl rfl))];have hBi:=H.k.below O O.size (by simp<;>omega);refine (iAdmit_c r (Kb r p) s ra ⟨A1,c1⟩ C hrm (ZH (rpR_ok r p)) (Za (rpR_ok r p)) hso (hs.below hBi) ((N1.kp H.k i1 (by omega) (by simp<;>omega)).out XJ)).mono ?_;rintro x wx ⟨rfl,hb⟩;exact (B _ _ (H.k.call hb) (JP _) (F M I C _ none undef (by simp) hb H.x))
  ·exact Je 3 rfl rfl rfl rfl rfl λ _ _ _ _ h=>h
  ·exact Je 3 rfl rfl rfl rfl rfl λ _ _ _ _ h=>h
  ·intro M I C H _ _ B;have x0:=H.x;have S:=x0.1 H.n;simp [go_sem,(gS I 28 (H.d 4 rfl rfl)),H.f.g rfl s6,S.cell,S.frz];exact B undef _ (H.k.store (.inr (by simp)) [.int .i64 (((YH r (Kb r p) s).getD Xw).low.n),.int .i64 (((YH r (Kb r p) s).getD Xw).low.d),.int .i64 (((YH r (Kb r p) s).getD Xw).high.n),.int .i64 (((YH r (Kb r p) s).getD Xw).high.d)] 0) trivial (Yc.set S (us:=[.int .i64 (((YH r (Kb r p) s).getD Xw).low.n),.int .i64 (((YH r (Kb r p) s).getD Xw).low.d),.int .i64 (((YH r (Kb r p) s).getD Xw).high.n),.int .i64 (((YH r (Kb r p) s).getD Xw).high.d)]) rfl rfl)
  ·exact Kz 5 rfl rfl rfl rfl λ _ _ _ _ h=>h
  intro L a15 w16 U D K P T;have x0:=T;replace R:=D.Z R;replace J:=D.E J;replace s6:=D.G s6;have s7:=gS a15 7 (P 7 _ rfl);clear b6;obtain ⟨_,b6,rfl⟩:=x0.2 (U 6 (by decide));replace V:=Nat.le_trans V K.size;replace O:=K.below O O.size (by simp<;>omega);clear D K P U x0 F s3 s5 s8 s22 b3 b5 b9 N1 i1;refine Xk (wp_ret ?_);refine bodyPost_ret (v:=.tuple #[Zm ((YH r (Kb r p) s).getD Xw),.bool ((YH r (Kb r p) s).isSome)]) (by simp [results,Tryz.results22,go_sem,s6,b6.cell,s7]) J ?_;exact ⟨by rw [admi_yes q12,JP],O⟩
end Go.Proofs.YtabfdkpdppemaaaGreat
