/-
 The states of a room that can be kept for ever, of the program.
 Conditions: the slices hold at most 2^20 elements.
-/
import Derived.Test.YtbekjpkcicjcgaaGreatKpn
import Derived.Test.YtbekjpkcicjcgaaGreatPlant
set_option maxHeartbeats 3000000
set_option maxRecDepth 100000
namespace Go.Proofs.YtbekjpkcicjcgaaGreat
open Go.RowKit
def KN (r:XD) (p:List Half):Bool:=ZH r p&&mrOk p (Yj r p)
def Zm (r:XD) (p:List Half):List Half:=if ZH r p=true then mrR p (Yj r p) else []
theorem keep_no {r:XD} {p:List Half} (h:ZH r p=false):KN r p=false/\Zm r p=[]:=by
 unfold KN Zm;rw [h];exact ⟨rfl,rfl⟩
theorem keep_yes {r:XD} {p:List Half} (h:ZH r p=true):KN r p=mrOk p (Yj r p)/\Zm r p=mrR p (Yj r p):=by
 unfold KN Zm;rw [h];exact ⟨rfl,rfl⟩
theorem keepR_ok {r:XD} {p:List Half} (hp:Xc p=true):Xc (Zm r p)=true:=by
 unfold Zm;split
 ·exact mrR_ok hp (preR_ok r p)
 ·rfl
section
variable {r:XD} {n:Nat} {p:List Half}
theorem kpF_eq (h:KN r p=true):kpF r (n+1) p=if Zm r p=p then some p else kpF r n (Zm r p):=by
 have h1:ZH r p=true:=by unfold KN at h;exact (and_t1 h)
 rw [(keep_yes h1).2,kpF,show (ZH r p&&mrOk p (Yj r p))=true from h,if_pos rfl]
theorem kpF_no (h:KN r p=false):kpF r (n+1) p=none:=by
 rw [kpF,show (ZH r p&&mrOk p (Yj r p))=false from h,if_neg Sz]
end
def rrF (r:XD):Nat->Nat->List Half->Option (List Half × Nat × Bool)
 | 0,k,p=>some (p,k,false)
 | n+1,k,p=>if KN r p=true then (if Zm r p=p then some (p,k,true) else rrF r n (k+1) (Zm r p)) else none
def rr0:List Half × Nat × Bool:=([],0,false)
def Jd (r:XD):Option (List Half × Nat × Bool):=if XJ r=true then rrF r 12 0 r.limits else none
section
variable {r:XD} {n k:Nat} {p:List Half}
theorem rrF_no (h:KN r p=false):rrF r (n+1) k p=none:=by rw [rrF,h,if_neg Sz]
theorem rrF_same (h:KN r p=true) (e:eqB (Zm r p) p=true):rrF r (n+1) k p=some (p,k,true):=by
 rw [rrF,if_pos h,if_pos (of_decide_eq_true (by simpa only [eqB] using e))]
theorem rrF_next (h:KN r p=true) (e:eqB (Zm r p) p=false):rrF r (n+1) k p=rrF r n (k+1) (Zm r p):=by
 rw [rrF,if_pos h,if_neg (of_decide_eq_false (by simpa only [eqB] using e))]
end
theorem rr_kp {r:XD}:∀ (n k:Nat) (p:List Half),kpF r n p=(rrF r n k p).bind λ z=>if z.2.2=true then some z.1 else none
 | 0,k,p=>rfl
 | n+1,k,p=>by
  cases h:KN r p
  ·rw [kpF_no h,rrF_no h];rfl
  ·rw [kpF_eq h,rrF,if_pos h];split
   ·rfl
   ·exact rr_kp n (k+1) _
theorem kpO_rr (r:XD):Ye r=(Jd r).bind λ z=>if z.2.2=true then some z.1 else none:=by
 unfold Ye Jd;split
 ·exact rr_kp 12 0 _
 ·rfl
theorem kp_bad {r:XD} (h:(!(Jd r).isSome || !((Jd r).getD rr0).2.2)=true):Ye r=none:=by
 rw [kpO_rr];cases e:Jd r with
 | none=>rfl
 | some z =>
  rw [e] at h;simp only [Option.isSome_some,Bool.not_true,Bool.false_or,Option.getD_some] at h;rw [Option.bind_some,if_neg (by rw [JD h];simp)]
theorem kp_good {r:XD} (h:(!(Jd r).isSome || !((Jd r).getD rr0).2.2)=false):Ye r=some ((Jd r).getD rr0).1:=by
 rw [kpO_rr];cases e:Jd r with
 | none=>rw [e] at h;cases h
 | some z =>
  rw [e] at h;simp only [Option.isSome_some,Bool.not_true,Bool.false_or,Option.getD_some] at h;rw [Option.bind_some,if_pos (YT h)];rfl
theorem rr_end {r:XD} {k:Nat} {st:Bool} {out:List Half} (h:(decide ((k:Int)<12) && !st)=false) (hk:k<=12) (h1:st=true->rrF r 12 0 r.limits=some (out,k,true)) (h2:st=false->rrF r (12-k) k out=rrF r 12 0 r.limits):rrF r 12 0 r.limits=some (out,k,st):=by
 cases st
 ·rw [Bool.not_false,Bool.and_true] at h;have h3:=of_decide_eq_false h;rw [<- h2 rfl,show 12-k=0 by omega];rfl
 ·exact h1 rfl
theorem kpO_reg (r:XD):Xc ((Ye r).getD [])=true:=by
 cases e:Ye r with
 | none=>rfl
 | some q=>exact (kpO_kept e).2.2
theorem kpO_le (r:XD):((Ye r).getD []).length<=1048576:=by
 have:=Y0 (kpO_reg r);omega
def kmu (v u:Value):Nat:=(12-(intOf v).toNat)+(match u with | .bool true=>0|_=>1)
theorem kmu_t (n:Int):kmu (Vi n) Bt=12-n.toNat:=rfl
theorem kmu_f (n:Int):kmu (Vi n) Bf=12-n.toNat+1:=rfl
theorem iKeep_c (r:XD) (p:List Half) (ra:Y7) (b:Kw) (w:World) (hr:XJ r=true) (hp:Xc p=true) (hs:ZX w r ra) (hsp:Sl 3 Xe w b.A p) (hnb:b.A=none->b.c=0) :
 Calls Tryz.prog 91 #[X7 r ra,.agg #[Sv b.A p.length b.c]] w λ x w'=>∃ v,x=.returned (.tuple #[.agg #[v],Bv (KN r p)])/\XG 136 3 Xe w' w.heap.size v (Zm r p)/\Below w.heap.size w w':=by
 refine Yz Tryz.func91 rfl (n:=22) Tryz.ntmps91 Sz ?_;intro a0 P I ha;have s0:a0.tmps[0]?.getD undef=X7 r ra:=ha 0 _ rfl;have s1:a0.tmps[1]?.getD undef=.agg #[Sv b.A p.length b.c]:=ha 1 _ rfl;clear ha;have O:=Below.refl w.heap.size w;have U:=Nat.le_refl w.heap.size;refine wp_seq ?_;refine Yk [2,3,4,5] [Pz w.heap.size,Pz (w.heap.size+1),Pz (w.heap.size+2),Bf] [some (.cells (YR r ra).toArray 28),some (.cells [Sv b.A p.length b.c].toArray 26),some (.cells [Nz].toArray 26),none] [0,1,2,3] [2,3,4,5] [0,1,2,3] (by kernel_rfl) (by rw [P];decide) (ec ?_ (ec ?_ (ec ?_ (ec ?_ .nil)))) ?_
 ·intro a w' D hs N Q B;simp [go_sem,D.g rfl s0];rw [hs];exact B
 ·intro a w' D hs N Q B;simp [go_sem,D.g rfl s1];rw [hs];exact B
 ·intro a w' D hs N Q B;simp [go_sem];rw [hs];exact B
 ·intro a w' D hs N Q B;simp [go_sem];exact B
 intro a1 w2 D S hb hO;replace P:=D.size.trans P;replace I:=D.defers.trans I;have s2:a1.tmps[2]?.getD undef=Pz w.heap.size:=S 0 Dz;have s3:a1.tmps[3]?.getD undef=Pz (w.heap.size+1):=S 1 Dz;have s4:a1.tmps[4]?.getD undef=Pz (w.heap.size+2):=S 2 Dz;have b3:Xq w2 w.heap.size 28 (YR r ra):=hO 0 _ rfl;have b4:Xq w2 (w.heap.size+1) 26 [Sv b.A p.length b.c]:=hO 1 _ rfl;have b5:Xq w2 (w.heap.size+2) 26 [Nz]:=hO 2 _ rfl;have hG:=b5.lt;replace O:=Xf O hb;have zw2:=Nat.le_trans U hb.size;replace U:=Nat.le_refl w2.heap.size;clear D S hb hO s0 s1;refine Xi (wp_seq ?_);have hX0:=Xd.e 11 2 (λ C v=>∃ A1 c1,v=.tuple #[.agg #[Sv A1 ((Yj r p).length) c1],Bv (ZH r p)]/\XG 136 3 Xe C w2.heap.size (Sv A1 (Yj r p).length c1) (Yj r p)) (λ hb _ h=>by obtain ⟨A1',c1',e,f1'⟩:=h;exact ⟨A1',c1',e,f1'.below hb Xy⟩);have hX1:=Xd.e 8 3 (λ C v=>∃ A1 c1,v=.tuple #[.agg #[Sv A1 ((Yj r p).length) c1],Bv (ZH r p)]/\XG 136 3 Xe C w2.heap.size (Sv A1 (Yj r p).length c1) (Yj r p)) (λ hb _ h=>by obtain ⟨A1',c1',e,f1'⟩:=h;exact ⟨A1',c1',e,f1'.below hb Xy⟩);have hX2:=Xd.e 12 4 (λ C v=>∃ A1 c1,v=.agg #[Sv A1 ((Yj r p).length) c1]/\XG 136 3 Xe C w2.heap.size (Sv A1 (Yj r p).length c1) (Yj r p)) (λ hb _ h=>by obtain ⟨A1',c1',e,f1'⟩:=h;exact ⟨A1',c1',e,f1'.below hb Xy⟩);have hX3:=Xd.x 6 6 7 w2 26 [Nz] (λ C vs=>∃ A1 c1,vs=[Sv A1 ((Yj r p).length) c1]/\XG 136 3 Xe C w2.heap.size (Sv A1 (Yj r p).length c1) (Yj r p)) (λ hb _ h=>by obtain ⟨A1',c1',e,f1'⟩:=h;exact ⟨A1',c1',e,f1'.below hb Xy⟩);have J:=hX0.a (hX1.a (hX2.a hX3));refine Xr J [9,10,11,8,12,13,6,0,7] [some (X7 r ra),some (.agg #[Sv b.A p.length b.c]),none,none,none,some (Bv (ZH r p)),none,none,some (Bv (ZH r p))] (X9 9) [9,10,11,8,12,13,6,7] [] ?_ (e4 ?_ ?_ ?_ ?_ (e4 ?_ ?_ ?_ ?_ (en rfl ?_ .nil))) ?_
 ·exact λ _ h=>⟨Cz,Cz,Cz,Cz⟩
 ·intro M K C H _ _ B;simp [go_sem,H.f.g rfl s2,(b3.k0 H.k).cell];exact (B _ _ H.k rfl (J.q rfl H.x))
 ·intro M K C H _ _ B;simp [go_sem,H.f.g rfl s3,(b4.k0 H.k).cell];exact (B _ _ H.k rfl (J.q rfl H.x))
 ·intro M K C H _ _ B;obtain ⟨x0,x1,x2,x3⟩:=H.x;simp [go_sem,(gS K 9 (H.d 0 rfl rfl)),(gS K 10 (H.d 1 rfl rfl))];have hBi:=H.k.below0 O;refine (iPre_c r p ra b C hr hp (JA hr).noise (JA hr).nne (hs.below hBi) (hsp.below hBi)).mono ?_;rintro x wx ⟨_,rfl,⟨A1,c1,rfl,f0⟩,hb⟩;have f1:=XG.mono (show XG 136 3 Xe wx C.heap.size (Sv A1 (Yj r p).length c1) (Yj r p) from ⟨_,_,rfl,f0⟩) H.k.size;exact (B _ _ (H.k.call hb) trivial ⟨(λ _=>⟨A1,c1,H.f.s P,f1⟩),(hX1.b rfl hb x1),(hX2.b rfl hb x2),(hX3.b rfl hb x3)⟩)
 ·intro M K C H _ _ B;obtain ⟨x0,x1,x2,x3⟩:=H.x;obtain ⟨A1,c1,ee2,f1⟩:=x0 (H.r 2 rfl);exact XQ rfl (ev ee2) (B _ _ H.k trivial ⟨(hX0.q rfl x0),(λ _=>⟨A1,c1,H.f.s P,f1⟩),(hX2.q rfl x2),(hX3.q rfl x3)⟩)
 ·intro M K C H _ _ B;obtain ⟨x0,x1,x2,x3⟩:=H.x;obtain ⟨A1,c1,ee3,f1⟩:=x1 (H.r 3 rfl);exact XI rfl (ev ee3) rfl (B _ _ H.k trivial ⟨(hX0.q rfl x0),(hX1.q rfl x1),(λ _=>⟨A1,c1,H.f.s P,f1⟩),(hX3.q rfl x3)⟩)
 ·intro M K C H _ _ B;obtain ⟨x0,x1,x2,x3⟩:=H.x;obtain ⟨A1,c1,ee3,f1⟩:=x1 (H.r 3 rfl);exact XI rfl (ev ee3) rfl (B _ _ H.k rfl (J.q rfl H.x))
 ·intro M K C H _ _ B;obtain ⟨x0,x1,x2,x3⟩:=H.x;simp [go_sem];exact B _ _ (H.k.alloc _) trivial ⟨(hX0.b rfl (Xb bR _) x0),(hX1.b rfl (Xb bR _) x1),(hX2.b rfl (Xb bR _) x2),(λ _=>by rw [show Yc M 6 7=false from H.t 7 rfl];exact X6.new (s:=6) (H.f.lt (by rw [P];decide)) H.k.size [Nz])⟩
 ·intro M K C H _ _ B;obtain ⟨x0,x1,x2,x3⟩:=H.x;obtain ⟨A1,c1,ee4,f1⟩:=x2 (H.r 4 rfl);obtain ⟨g,eg,hg,y,_⟩:=x3 (H.r 6 rfl);have R:=y H.n;simp [go_sem,ee4,eg,R.cell,R.frz];have f1:=f1.otherC (f1.typ R Dz) [Sv A1 ((Yj r p).length) c1] 0;exact B undef _ (H.k.store (.inl hg) [Sv A1 ((Yj r p).length) c1] 0) trivial ⟨(λ h=>by obtain ⟨A1',c1',e,f1'⟩:=x0 h;exact ⟨A1',c1',e,f1'.otherC (f1'.typ R Dz) [Sv A1 ((Yj r p).length) c1] 0⟩),(λ h=>by obtain ⟨A1',c1',e,f1'⟩:=x1 h;exact ⟨A1',c1',e,f1'.otherC (f1'.typ R Dz) [Sv A1 ((Yj r p).length) c1] 0⟩),(λ h=>by obtain ⟨A1',c1',e,f1'⟩:=x2 h;exact ⟨A1',c1',e,f1'.otherC (f1'.typ R Dz) [Sv A1 ((Yj r p).length) c1] 0⟩),(λ _=>X6.set eg hg R (us:=[Sv A1 ((Yj r p).length) c1]) rfl ⟨A1,c1,rfl,f1⟩)⟩
 ·exact KS 5 rfl rfl rfl rfl λ _ _ _ _=>J.q rfl
 intro L a6 w7 T D F S V;obtain ⟨x0,x1,x2,x3⟩:=V;replace P:=D.Z P;replace I:=D.E I;obtain ⟨s3,s4⟩:=D.G2 s3 s4;have s7:=gS a6 7 (S 8 _ rfl);replace b4:=b4.k0 F;replace b5:=b5.k0 F;obtain ⟨g8,s6,lg8,-,b8⟩:=x3 (T 6 Dz);obtain ⟨_,b8,A1,c1,rfl,N1⟩:=b8 (T 7 Dz);have i1:∀ p,A1=some p->p.block<w7.heap.size:=λ p hp=>(N1.blk p hp).2;have ug8:=b8.lt;have zw7:=F.size;replace U:=Nat.le_refl w7.heap.size;replace O:=F.below0 O;clear D F S T x0 x1 x2 x3 J hX0 hX1 hX2 hX3 s2 b3;refine Xi (wp_seq (wp_seq ?_));refine Xl [14,15] [some (Bv (ZH r p)),some (Bv (!(ZH r p)))] (X9 2) [14,15] [] (λ _ _ _=>True) ?_ (e2 ?_ ?_ .nil) ?_
 ·exact λ _ _=>trivial
 ·exact Kq s7 rfl rfl rfl
 ·exact JC 0 rfl rfl rfl rfl
 intro L a9 w10 T D F S V;replace P:=D.Z P;replace I:=D.E I;obtain ⟨s3,s4,s6⟩:=D.G3 s3 s4 s6;have s15:=gS a9 15 (S 1 _ rfl);replace b4:=b4.k0 F;replace b5:=b5.k0 F;replace b8:=b8.k0 F;replace N1:=N1.below F.toBelow Xy;replace U:=Nat.le_trans U F.size;replace O:=F.below0 O;clear D F S T V s7;refine Xi ?_;rcases Bool.eq_false_or_eq_true (!(ZH r p)) with q11|q11
 ·refine wp_cond_true (ev (vb s15 q11)) ?_;refine wp_seq ?_;have J:Xd [] (λ L aa C=>XY C (w.heap.size+2) 26 [Nz] (L 1) (λ _ vs=>vs=[Nz])):=λ L aa C w' kk vv hkk hb x0=>(x0.bel hb (λ _ h=>h));refine Xr J [16,0,5] [some (.agg #[Nz]),none,some Bf] (X9 3) [16,5] [(w.heap.size+2)] ?_ (e2 ?_ ?_ (en rfl ?_ .nil)) ?_
  ·exact λ _ h=>(⟨λ _=>b5.kp h Sz,Cz⟩)
  ·intro M K C H _ _ B;simp [go_sem];exact (B _ _ H.k rfl H.x)
  ·intro M K C H _ _ B;have x0:=H.x;have R:=x0.1 H.n;simp [go_sem,(gS K 16 (H.d 0 rfl rfl)),H.f.g rfl s4,R.cell,R.frz];exact B undef _ (H.k.store (.inr Sz) [Nz] 0) trivial (XY.set R (us:=[Nz]) rfl rfl)
  ·exact JL rfl rfl λ _ _ _ _ h=>h
  intro L a12 w13 T D F S V;have x0:=V;replace P:=D.Z P;replace I:=D.E I;replace s4:=D.G s4;have s5:=gS a12 5 (S 2 _ rfl);clear b5;obtain ⟨_,b5,rfl⟩:=x0.2 (T 1 Dz);replace U:=Nat.le_trans U F.size;replace O:=F.below O O.size (by simp<;>omega);clear D F S T x0 J s3 s6 s15 b4 b8 N1 i1;refine Xi (wp_ret (Ki ?_));refine bodyPost_ret (v:=.tuple #[.agg #[Nz],Bf]) (by simp [results,Tryz.results91,go_sem,s4,b5.cell,s5]) I ?_;have h0:=keep_no (JD q11);exact ⟨_,by rw [h0.1],by rw [h0.2];exact XG.nilN _ _ _ _ _,O⟩
 ·refine wp_cond_false (ev (vb s15 q11)) ?_;refine wp_skip (Xi (wp_seq ?_));have hX0:=Xd.e 19 2 (λ C v=>∃ A2 c2,v=.tuple #[.agg #[Sv A2 ((mrR p (Yj r p)).length) c2],Bv (mrOk p (Yj r p))]/\XG 136 3 Xe C w10.heap.size (Sv A2 (mrR p (Yj r p)).length c2) (mrR p (Yj r p))) (λ hb _ h=>by obtain ⟨A2',c2',e,f2'⟩:=h;exact ⟨A2',c2',e,f2'.below hb Xy⟩);have hX1:=Xd.e 20 3 (λ C v=>∃ A2 c2,v=.agg #[Sv A2 ((mrR p (Yj r p)).length) c2]/\XG 136 3 Xe C w10.heap.size (Sv A2 (mrR p (Yj r p)).length c2) (mrR p (Yj r p))) (λ hb _ h=>by obtain ⟨A2',c2',e,f2'⟩:=h;exact ⟨A2',c2',e,f2'.below hb Xy⟩);have hX2:Xd [] (λ L aa C=>XY C (w.heap.size+2) 26 [Nz] (L 5) (λ C vs=>∃ A2 c2,vs=[Sv A2 ((mrR p (Yj r p)).length) c2]/\XG 136 3 Xe C w10.heap.size (Sv A2 (mrR p (Yj r p)).length c2) (mrR p (Yj r p)))):=λ L aa C w' kk vv hkk hb x2=>(x2.bel hb (λ _ ⟨A2',c2',e,f2'⟩=>⟨A2',c2',e,f2'.below hb Xy⟩));have J:=hX0.a (hX1.a hX2);refine Xr J [17,18,19,20,21,0,5] [some (.agg #[Sv b.A p.length b.c]),some (.agg #[Sv A1 ((Yj r p).length) c1]),none,none,some (Bv (mrOk p (Yj r p))),none,some (Bv (mrOk p (Yj r p)))] (X9 7) [17,18,19,20,21,5] [(w.heap.size+2)] ?_ (e4 ?_ ?_ ?_ ?_ (e2 ?_ ?_ (en rfl ?_ .nil))) ?_
  ·exact λ _ h=>⟨Cz,Cz,(⟨λ _=>b5.kp h Sz,Cz⟩)⟩
  ·intro M K C H _ _ B;simp [go_sem,H.f.g rfl s3,(b4.kp H.k (by simp<;>omega)).cell];exact (B _ _ H.k rfl (J.q rfl H.x))
  ·intro M K C H _ _ B;simp [go_sem,H.f.g rfl s6,(b8.kp H.k (by simp<;>omega)).cell];exact (B _ _ H.k rfl (J.q rfl H.x))
  ·intro M K C H _ _ B;obtain ⟨x0,x1,x2⟩:=H.x;simp [go_sem,(gS K 17 (H.d 0 rfl rfl)),(gS K 18 (H.d 1 rfl rfl))];have hBi:=H.k.below O O.size (by simp<;>omega);refine (iMeetR_c p (Yj r p) b ⟨A1,c1⟩ C hp (preR_ok r p) (hsp.below hBi) ((N1.kp H.k i1 Oz (by simp<;>omega)).out Xx) hnb N1.nilcap).mono ?_;rintro x wx ⟨_,rfl,⟨A2,c2,rfl,f0⟩,hb⟩;have f2:=XG.mono (show XG 136 3 Xe wx C.heap.size (Sv A2 (mrR p (Yj r p)).length c2) (mrR p (Yj r p)) from ⟨_,_,rfl,f0⟩) H.k.size;exact (B _ _ (H.k.call hb) trivial ⟨(λ _=>⟨A2,c2,H.f.s P,f2⟩),(hX1.b rfl hb x1),(x2.bel hb (λ _ ⟨A2',c2',e,f2'⟩=>⟨A2',c2',e,f2'.below hb Xy⟩))⟩)
  ·intro M K C H _ _ B;obtain ⟨x0,x1,x2⟩:=H.x;obtain ⟨A2,c2,ee2,f2⟩:=x0 (H.r 2 rfl);exact XI rfl (ev ee2) rfl (B _ _ H.k trivial ⟨(hX0.q rfl x0),(λ _=>⟨A2,c2,H.f.s P,f2⟩),(x2.bel bR (λ _ ⟨A2',c2',e,f2'⟩=>⟨A2',c2',e,f2'.below bR Xy⟩))⟩)
  ·intro M K C H _ _ B;obtain ⟨x0,x1,x2⟩:=H.x;obtain ⟨A2,c2,ee2,f2⟩:=x0 (H.r 2 rfl);exact XI rfl (ev ee2) rfl (B _ _ H.k rfl (J.q rfl H.x))
  ·intro M K C H _ _ B;obtain ⟨x0,x1,x2⟩:=H.x;obtain ⟨A2,c2,ee3,f2⟩:=x1 (H.r 3 rfl);have R:=x2.1 H.n;simp [go_sem,ee3,H.f.g rfl s4,R.cell,R.frz];have f2:=f2.otherC (f2.typ R Dz) [Sv A2 ((mrR p (Yj r p)).length) c2] 0;exact B undef _ (H.k.store (.inr Sz) [Sv A2 ((mrR p (Yj r p)).length) c2] 0) trivial ⟨(λ h=>by obtain ⟨A2',c2',e,f2'⟩:=x0 h;exact ⟨A2',c2',e,f2'.otherC (f2'.typ R Dz) [Sv A2 ((mrR p (Yj r p)).length) c2] 0⟩),(λ h=>by obtain ⟨A2',c2',e,f2'⟩:=x1 h;exact ⟨A2',c2',e,f2'.otherC (f2'.typ R Dz) [Sv A2 ((mrR p (Yj r p)).length) c2] 0⟩),(XY.set R (us:=[Sv A2 ((mrR p (Yj r p)).length) c2]) rfl ⟨A2,c2,rfl,f2⟩)⟩
  ·exact KS 4 rfl rfl rfl rfl λ _ _ _ _=>J.q rfl
  intro L a14 w15 T D F S V;obtain ⟨x0,x1,x2⟩:=V;replace P:=D.Z P;replace I:=D.E I;replace s4:=D.G s4;have s5:=gS a14 5 (S 6 _ rfl);clear b5;obtain ⟨_,b5,A2,c2,rfl,N2⟩:=x2.2 (T 5 Dz);have i2:∀ p,A2=some p->p.block<w15.heap.size:=λ p hp=>(N2.blk p hp).2;have zw10:=U;have zw15:=F.size;replace U:=Nat.le_refl w15.heap.size;replace O:=F.below O O.size (by simp<;>omega);clear D F S T x0 x1 x2 J hX0 hX1 hX2 s3 s6 s15 b4 b8 N1 i1;refine Xi (wp_ret ?_);refine bodyPost_ret (v:=.tuple #[.agg #[Sv A2 ((mrR p (Yj r p)).length) c2],Bv (mrOk p (Yj r p))]) (by simp [results,Tryz.results91,go_sem,s4,b5.cell,s5]) I ?_;have h0:=keep_yes (YT q11);exact ⟨_,by rw [h0.1],by rw [h0.2];exact N2.mono Oz,O⟩
theorem iRounds_c (r:XD) (ra:Y7) (w:World) (hn:Kt r<=1048576) (hin:JO r) (hs:ZX w r ra) (hnl:Jk ra) :
 Calls Tryz.prog 35 #[X7 r ra,Vi 12] w λ x w'=>∃ v,x=.returned (.tuple #[.agg #[v,Vi ((((Jd r).getD rr0).2.1:Nat):Int),Bv ((Jd r).getD rr0).2.2],Bv (Jd r).isSome])/\XG 136 3 Xe w' w.heap.size v ((Jd r).getD rr0).1/\Below w.heap.size w w':=by
 obtain ⟨i0h,hi0h,hz0h,hz1h,hz2h⟩:=info_parts (show (Tryz.prog.info? 136).map (λ i=>(i.zero,i.size,i.bytes))=some (some (.agg #[V0,V0,V0]),3,24) by kernel_rfl);refine Yz Tryz.func35 rfl (n:=53) Tryz.ntmps35 Sz ?_;intro a0 P I ha;have s0:a0.tmps[0]?.getD undef=X7 r ra:=ha 0 _ rfl;have s1:a0.tmps[1]?.getD undef=Vi 12:=ha 1 _ rfl;clear ha;have O:=Below.refl w.heap.size w;have U:=Nat.le_refl w.heap.size;refine wp_seq ?_;refine Yk [2,4,5] [Pz w.heap.size,Pz (w.heap.size+1),Bf] [some (.cells (YR r ra).toArray 28),some (.cells [Nz,V0,Bf].toArray 91),none] [0,1,2] [2,4,5] [0,1,2] (by kernel_rfl) (by rw [P];decide) (ec ?_ (ec ?_ (ec ?_ .nil))) ?_
 ·intro a w' D hs N Q B;simp [go_sem,D.g rfl s0];rw [hs];exact B
 ·intro a w' D hs N Q B;simp [go_sem];rw [hs];exact B
 ·intro a w' D hs N Q B;simp [go_sem];exact B
 intro a1 w2 D S hb hO;replace P:=D.size.trans P;replace I:=D.defers.trans I;replace s1:=D.g rfl s1;have s2:a1.tmps[2]?.getD undef=Pz w.heap.size:=S 0 Dz;have s4:a1.tmps[4]?.getD undef=Pz (w.heap.size+1):=S 1 Dz;have b3:Xq w2 w.heap.size 28 (YR r ra):=hO 0 _ rfl;have b4:Xq w2 (w.heap.size+1) 91 [Nz,V0,Bf]:=hO 1 _ rfl;have hG:=b4.lt;replace O:=Xf O hb;have zw2:=Nat.le_trans U hb.size;replace U:=Nat.le_refl w2.heap.size;clear D S hb hO s0;refine Xi (wp_seq (wp_seq ?_));refine Xl [9,10,11,12,13,14,15,16] [some (Vi 12),some Bt,some Bf,some Bf,some (X7 r ra),some (Bv (XJ r)),some (Bv (!(XJ r))),some (Bv (!(XJ r)))] (X9 8) [9,10,11,12,13,14,15,16] [] (λ _ _ _=>True) ?_ (e4 ?_ ?_ ?_ ?_ (eg ?_ (eg ?_ (eg ?_ (en rfl ?_ .nil))))) ?_
 ·exact λ _ _=>trivial
 ·exact Kq s1 rfl rfl rfl
 ·intro M K C H _ _ B;simp [go_sem,(gS K 9 (H.d 0 rfl rfl))];refine (Yb 12 0 12 C).mono ?_;rintro x wx ⟨rfl,rfl⟩;exact (B _ _ H.k (congrArg Value.bool Dz) trivial)
 ·exact JC 1 rfl rfl rfl rfl
 ·exact KC 2 rfl rfl rfl rfl
 ·intro M K C H _ _ B;refine YM rfl rfl rfl (H.d 3 rfl rfl) ?_;simp [go_sem,H.f.g rfl s2,(b3.k0 H.k).cell];exact (B _ _ H.k rfl trivial)
 ·intro M K C H _ _ B;refine YM rfl rfl rfl (H.d 3 rfl rfl) ?_;simp [go_sem,(gS K 13 (H.d 4 rfl rfl))];have hBi:=H.k.below0 O;refine (iRoomOk_c r ra C hn hin (hs.below hBi) hnl).mono ?_;rintro x wx ⟨rfl,hb⟩;exact (B _ _ (H.k.call hb) rfl trivial)
 ·intro M K C H _ _ B;refine YM rfl rfl rfl (H.d 3 rfl rfl) ?_;exact KJ rfl (ev (H.d 5 rfl rfl)) (B _ _ H.k rfl trivial)
 ·exact λ M K C H _ _ B=>Za rfl (ev (H.d 3 rfl rfl)) Cz (λ _=>(ev (H.d 6 rfl rfl))) (B _ _ H.k rfl trivial)
 intro L a5 w6 T D F S V;replace P:=D.Z P;replace I:=D.E I;obtain ⟨s1,s2,s4⟩:=D.G3 s1 s2 s4;have s16:=gS a5 16 (S 7 _ rfl);replace b3:=b3.k0 F;replace b4:=b4.k0 F;replace U:=Nat.le_trans U F.size;replace O:=F.below0 O;clear D F S T V;refine Xi ?_;rcases Bool.eq_false_or_eq_true (!(XJ r)) with q7|q7
 ·refine wp_cond_true (ev (vb s16 q7)) ?_;refine wp_seq ?_;have J:Xd [] (λ L aa C=>XY C (w.heap.size+1) 91 [Nz,V0,Bf] (L 1) (λ _ vs=>vs=[Nz,V0,Bf])):=λ L aa C w' kk vv hkk hb x0=>(x0.bel hb (λ _ h=>h));refine Xr J [17,0,5] [some (.agg #[Nz,V0,Bf]),none,some Bf] (X9 3) [17,5] [(w.heap.size+1)] ?_ (e2 ?_ ?_ (en rfl ?_ .nil)) ?_
  ·exact λ _ h=>(⟨λ _=>b4.kp h Sz,Cz⟩)
  ·intro M K C H _ _ B;simp [go_sem];exact (B _ _ H.k rfl H.x)
  ·intro M K C H _ _ B;have x0:=H.x;have R:=x0.1 H.n;simp [go_sem,(gS K 17 (H.d 0 rfl rfl)),H.f.g rfl s4,R.cell,R.frz];exact B undef _ (H.k.store (.inr Sz) [Nz,V0,Bf] 0) trivial (XY.set R (us:=[Nz,V0,Bf]) rfl rfl)
  ·exact JL rfl rfl λ _ _ _ _ h=>h
  intro L a8 w9 T D F S V;have x0:=V;replace P:=D.Z P;replace I:=D.E I;replace s4:=D.G s4;have s5:=gS a8 5 (S 2 _ rfl);clear b4;obtain ⟨_,b4,rfl⟩:=x0.2 (T 1 Dz);replace U:=Nat.le_trans U F.size;replace O:=F.below O O.size (by simp<;>omega);clear D F S T x0 J s1 s2 s16 b3;refine Xi (wp_ret (Ki ?_));refine bodyPost_ret (v:=.tuple #[.agg #[Nz,V0,Bf],Bf]) (by simp [results,Tryz.results35,go_sem,s4,b4.cell,s5]) I ?_;have h0:Jd r=none:=if_neg (by rw [JD q7];simp);exact ⟨_,by rw [h0];rfl,by rw [h0];exact XG.nilN _ _ _ _ _,O⟩
 ·have hr:=YT q7;have hlim:=(JA hr).limits;have hpo:Jd r=rrF r 12 0 r.limits:=if_pos hr;refine wp_cond_false (ev (vb s16 q7)) ?_;refine wp_skip (Xi (wp_seq ?_));have hX0:=Xd.e 20 2 (λ C v=>∃ m1,v=.agg #[Sv m1.A r.limits.length m1.c]/\X1 C w6.heap.size r.limits m1) (λ hb _ h=>by obtain ⟨m1',e,f1'⟩:=h;exact ⟨m1',e,f1'.below hb Xy⟩);have hX1:=Xd.e 21 3 (λ C v=>∃ m1,v=.agg #[Sv m1.A r.limits.length m1.c,V0,Bf]/\X1 C w6.heap.size r.limits m1) (λ hb _ h=>by obtain ⟨m1',e,f1'⟩:=h;exact ⟨m1',e,f1'.below hb Xy⟩);have hX2:=Xd.x 6 4 5 w6 91 [Nz,V0,Bf] (λ C vs=>∃ m1,vs=[Sv m1.A r.limits.length m1.c,V0,Bf]/\X1 C w6.heap.size r.limits m1) (λ hb _ h=>by obtain ⟨m1',e,f1'⟩:=h;exact ⟨m1',e,f1'.below hb Xy⟩);have J:=hX0.a (hX1.a hX2);refine Xr J [18,19,20,21,6,0] [some (.pointer (some ⟨w.heap.size,7,none⟩)),some (.agg #[Sv ra.limits.A r.limits.length ra.limits.c]),none,none,none,none] (X9 6) [18,19,20,21,6] [] ?_ (e4 ?_ ?_ ?_ ?_ (e2 ?_ ?_ .nil)) ?_
  ·exact λ _ h=>⟨Cz,Cz,Cz⟩
  ·intro M K C H _ _ B;simp [go_sem,H.f.g rfl s2];exact (B _ _ H.k rfl (J.q rfl H.x))
  ·intro M K C H _ _ B;simp [go_sem,(gS K 18 (H.d 0 rfl rfl)),(b3.k0 H.k).cell];exact (B _ _ H.k rfl (J.q rfl H.x))
  ·intro M K C H _ _ B;obtain ⟨x0,x1,x2⟩:=H.x;simp [go_sem,(gS K 19 (H.d 1 rfl rfl))];have hBi:=H.k.below0 O;refine (Jh r.limits ra.limits C (by have:=Y0 hlim;omega) (hs.limits.halves.below hBi)).mono ?_;rintro x wx ⟨m1,rfl,f0,hb⟩;have f1:=f0.mono H.k.size;exact (B _ _ (H.k.call hb) trivial ⟨(λ _=>⟨m1,H.f.s P,f1⟩),(hX1.b rfl hb x1),(hX2.b rfl hb x2)⟩)
  ·intro M K C H _ _ B;obtain ⟨x0,x1,x2⟩:=H.x;obtain ⟨m1,ee2,f1⟩:=x0 (H.r 2 rfl);simp [go_sem,ee2];exact (B _ _ H.k trivial ⟨(hX0.q rfl x0),(λ _=>⟨m1,H.f.s P,f1⟩),(hX2.q rfl x2)⟩)
  ·intro M K C H _ _ B;obtain ⟨x0,x1,x2⟩:=H.x;simp [go_sem];exact B _ _ (H.k.alloc _) trivial ⟨(hX0.b rfl (Xb bR _) x0),(hX1.b rfl (Xb bR _) x1),(λ _=>by rw [show Yc M 4 5=false from H.t 5 rfl];exact X6.new (s:=6) (H.f.lt (by rw [P];decide)) H.k.size [Nz,V0,Bf])⟩
  ·intro M K C H _ _ B;obtain ⟨x0,x1,x2⟩:=H.x;obtain ⟨m1,ee3,f1⟩:=x1 (H.r 3 rfl);obtain ⟨g,eg,hg,y,_⟩:=x2 (H.r 4 rfl);have R:=y H.n;simp [go_sem,ee3,eg,R.cell,R.frz];have f1:=f1.otherT R Dz [Sv m1.A r.limits.length m1.c,V0,Bf] 0;exact B undef _ (H.k.store (.inl hg) [Sv m1.A r.limits.length m1.c,V0,Bf] 0) trivial ⟨(λ h=>by obtain ⟨m1',e,f1'⟩:=x0 h;exact ⟨m1',e,f1'.otherT R Dz [Sv m1.A r.limits.length m1.c,V0,Bf] 0⟩),(λ h=>by obtain ⟨m1',e,f1'⟩:=x1 h;exact ⟨m1',e,f1'.otherT R Dz [Sv m1.A r.limits.length m1.c,V0,Bf] 0⟩),(λ _=>X6.set eg hg R (us:=[Sv m1.A r.limits.length m1.c,V0,Bf]) rfl ⟨m1,rfl,f1⟩)⟩
  intro L a10 w11 T D F S V;obtain ⟨x0,x1,x2⟩:=V;replace P:=D.Z P;replace I:=D.E I;obtain ⟨s1,s2,s4⟩:=D.G3 s1 s2 s4;replace b3:=b3.k0 F;replace b4:=b4.k0 F;obtain ⟨g12,s6,lg12,-,b12⟩:=x2 (T 4 Dz);obtain ⟨_,b12,m1,rfl,N1⟩:=b12 (T 5 Dz);have ug12:=b12.lt;have zw6:=U;have zw11:=F.size;replace U:=Nat.le_refl w11.heap.size;replace O:=F.below0 O;clear D F S T x0 x1 x2 J hX0 hX1 hX2 s16;refine Xi (wp_seq (wp_block ?_));refine wp_loop (λ al wl=>al.tmps.size=53/\al.defers=[]/\∃ (k:Nat) (st:Bool) (out:List Half) (A2:Option Addr) (c2:Nat),(k<=12)/\(st=true->rrF r 12 0 r.limits=some (out,k,true))/\(st=false->rrF r (12-k) k out=rrF r 12 0 r.limits)/\(Xc out=true)/\al.tmps[1]?.getD undef=Vi 12/\al.tmps[2]?.getD undef=Pz w.heap.size/\al.tmps[4]?.getD undef=Pz (w.heap.size+1)/\al.tmps[6]?.getD undef=Pz g12/\Xq wl w.heap.size 28 (YR r ra)/\Xq wl (w.heap.size+1) 91 [Nz,V0,Bf]/\Xq wl g12 91 [Sv A2 out.length c2,Vi (k:Int),Bv st]/\XG 136 3 Xe wl w6.heap.size (Sv A2 out.length c2) out/\Below w.heap.size w wl/\w11.heap.size<=wl.heap.size) (λ al wl=>kmu ((wl.cell? ⟨g12,1,none⟩).getD undef) ((wl.cell? ⟨g12,2,none⟩).getD undef)) ?_ ?_
  ·exact ⟨P,I,(0),(false),(r.limits),(m1.A),(m1.c),(Nat.zero_le _),Cz,(λ _=>rfl),(hlim),s1,s2,s4,s6,b3,b4,b12,(N1.halves),O,Oz⟩
  clear P I O U s1 s2 s4 s6 b3 b4 b12 N1;rintro a13 w14 ⟨P,I,k,st,out,A2,c2,hk,hst,hpr,hout,s1,s2,s4,s6,b3,b4,b12,N2,O,U⟩;have zw14:=U;replace U:=Nat.le_refl w14.heap.size;have i2:∀ p,A2=some p->p.block<w14.heap.size:=λ p hp=>(N2.blk p hp).2;have nt2:=N2.typ b12 Dz;have hmu:kmu ((w14.cell? ⟨g12,1,none⟩).getD undef) ((w14.cell? ⟨g12,2,none⟩).getD undef)=kmu (Vi (k:Int)) (Bv st):=by rw [b12.cell 1,b12.cell 2];rfl
  refine wp_seq (wp_seq ?_);refine Xl [22,23,24,25,26,27,28,29,30] [some (.pointer (some ⟨g12,1,none⟩)),some (Vi (k:Int)),some (Vi 12),some (Bv (decide ((k:Int)<12))),some (Bv (decide ((k:Int)<12))),some ((bif decide ((k:Int)<12) then (.pointer (some ⟨g12,2,none⟩):Value) else undef)),some ((bif decide ((k:Int)<12) then (Bv st:Value) else undef)),some ((bif decide ((k:Int)<12) then (Bv (!st):Value) else undef)),some (Bv (decide ((k:Int)<12) && !st))] (X9 9) [22,23,24,25,26,27,28,29,30] [] (λ _ _ _=>True) ?_ (e4 ?_ ?_ ?_ ?_ (en rfl ?_ (eg ?_ (eg ?_ (eg ?_ (en rfl ?_ .nil)))))) ?_
  ·exact λ _ _=>trivial
  ·intro M K C H _ _ B;simp [go_sem,H.f.g rfl s6];exact (B _ _ H.k rfl trivial)
  ·intro M K C H _ _ B;simp [go_sem,(gS K 22 (H.d 0 rfl rfl)),(b12.k0 H.k).cell];exact (B _ _ H.k rfl trivial)
  ·exact Kq s1 rfl rfl rfl
  ·exact λ M K C H _ _ B=>Y8 rfl (ev (H.d 1 rfl rfl)) (ev (H.d 2 rfl rfl)) rfl rfl (B _ _ H.k rfl trivial)
  ·exact KC 3 rfl rfl rfl rfl
  ·intro M K C H _ _ B;refine wgt rfl rfl rfl (H.d 4 rfl rfl) (λ qg=>B _ _ H.k (XC qg).symm trivial) λ qg=>?_;simp [go_sem,H.f.g rfl s6];exact (B _ _ H.k (Xz qg).symm trivial)
  ·intro M K C H _ _ B;refine wgt rfl rfl rfl (H.d 4 rfl rfl) (λ qg=>B _ _ H.k (XC qg).symm trivial) λ qg=>?_;simp [go_sem,(show K.tmps[27]?.getD undef=_ from (H.d 5 rfl rfl).trans (Xz qg)),(b12.k0 H.k).cell];exact (B _ _ H.k (Xz qg).symm trivial)
  ·intro M K C H _ _ B;refine wgt rfl rfl rfl (H.d 4 rfl rfl) (λ qg=>B _ _ H.k (XC qg).symm trivial) λ qg=>?_;exact KJ rfl (ev ((H.d 6 rfl rfl).trans (Xz qg))) (B _ _ H.k (Xz qg).symm trivial)
  ·exact λ M K C H _ _ B=>Za rfl (ev (H.d 4 rfl rfl)) (λ h=>(ev ((H.d 7 rfl rfl).trans (Xz h))).trans (J9 h)) (λ h=>vand_f h) (B _ _ H.k rfl trivial)
  intro L a15 w16 T D F S V;replace P:=D.Z P;replace I:=D.E I;obtain ⟨s1,s2,s4,s6⟩:=D.G4 s1 s2 s4 s6;have s30:=gS a15 30 (S 8 _ rfl);replace b3:=b3.k0 F;replace b4:=b4.k0 F;replace b12:=b12.k0 F;replace N2:=N2.below F.toBelow Xy;replace U:=Nat.le_trans U F.size;replace O:=F.below0 O;clear D F S T V;refine Xi ?_;rcases Bool.eq_false_or_eq_true (decide ((k:Int)<12) && !st) with q17|q17
  ·have hkl:k<12:=by have:=J0 (and_t1 q17);omega
   refine wp_cond_true (ev (vb s30 q17)) ?_;refine wp_skip (Xi (wp_block (wp_seq ?_)));have hX0:=Xd.e 35 3 (λ C v=>∃ A3 c3,v=.tuple #[.agg #[Sv A3 ((Zm r out).length) c3],Bv (KN r out)]/\XG 136 3 Xe C w16.heap.size (Sv A3 (Zm r out).length c3) (Zm r out)) (λ hb _ h=>by obtain ⟨A3',c3',e,f3'⟩:=h;exact ⟨A3',c3',e,f3'.below hb Xy⟩);have hX1:=Xd.e 31 4 (λ C v=>∃ A3 c3,v=.tuple #[.agg #[Sv A3 ((Zm r out).length) c3],Bv (KN r out)]/\XG 136 3 Xe C w16.heap.size (Sv A3 (Zm r out).length c3) (Zm r out)) (λ hb _ h=>by obtain ⟨A3',c3',e,f3'⟩:=h;exact ⟨A3',c3',e,f3'.below hb Xy⟩);have hX2:=Xd.e 36 5 (λ C v=>∃ A3 c3,v=.agg #[Sv A3 ((Zm r out).length) c3]/\XG 136 3 Xe C w16.heap.size (Sv A3 (Zm r out).length c3) (Zm r out)) (λ hb _ h=>by obtain ⟨A3',c3',e,f3'⟩:=h;exact ⟨A3',c3',e,f3'.below hb Xy⟩);have hX3:=Xd.x 7 7 8 w16 26 [Nz] (λ C vs=>∃ A3 c3,vs=[Sv A3 ((Zm r out).length) c3]/\XG 136 3 Xe C w16.heap.size (Sv A3 (Zm r out).length c3) (Zm r out)) (λ hb _ h=>by obtain ⟨A3',c3',e,f3'⟩:=h;exact ⟨A3',c3',e,f3'.below hb Xy⟩);have J:=hX0.a (hX1.a (hX2.a hX3));refine Xr J [32,33,34,35,31,36,37,7,0,8] [some (X7 r ra),some (Pz g12),some (.agg #[Sv A2 out.length c2]),none,none,none,some (Bv (KN r out)),none,none,some (Bv (KN r out))] (X9 10) [32,33,34,35,31,36,37,7,8] [] ?_ (e4 ?_ ?_ ?_ ?_ (e4 ?_ ?_ ?_ ?_ (e2 ?_ ?_ .nil))) ?_
   ·exact λ _ h=>⟨Cz,Cz,Cz,Cz⟩
   ·intro M K C H _ _ B;simp [go_sem,H.f.g rfl s2,(b3.k0 H.k).cell];exact (B _ _ H.k rfl (J.q rfl H.x))
   ·intro M K C H _ _ B;simp [go_sem,H.f.g rfl s6];exact (B _ _ H.k rfl (J.q rfl H.x))
   ·intro M K C H _ _ B;simp [go_sem,(gS K 33 (H.d 1 rfl rfl)),(b12.k0 H.k).cell];exact (B _ _ H.k rfl (J.q rfl H.x))
   ·intro M K C H _ _ B;obtain ⟨x0,x1,x2,x3⟩:=H.x;simp [go_sem,(gS K 32 (H.d 0 rfl rfl)),(gS K 34 (H.d 2 rfl rfl))];have hBi:=H.k.below0 O;refine (iKeep_c r out ra ⟨A2,c2⟩ C hr hout (hs.below hBi) ((N2.below H.k.toBelow Xy).out Xx) N2.nilcap).mono ?_;rintro x wx ⟨_,rfl,⟨A3,c3,rfl,f0⟩,hb⟩;have f3:=XG.mono (show XG 136 3 Xe wx C.heap.size (Sv A3 (Zm r out).length c3) (Zm r out) from ⟨_,_,rfl,f0⟩) H.k.size;exact (B _ _ (H.k.call hb) trivial ⟨(λ _=>⟨A3,c3,H.f.s P,f3⟩),(hX1.b rfl hb x1),(hX2.b rfl hb x2),(hX3.b rfl hb x3)⟩)
   ·intro M K C H _ _ B;obtain ⟨x0,x1,x2,x3⟩:=H.x;obtain ⟨A3,c3,ee3,f3⟩:=x0 (H.r 3 rfl);exact XQ rfl (ev ee3) (B _ _ H.k trivial ⟨(hX0.q rfl x0),(λ _=>⟨A3,c3,H.f.s P,f3⟩),(hX2.q rfl x2),(hX3.q rfl x3)⟩)
   ·intro M K C H _ _ B;obtain ⟨x0,x1,x2,x3⟩:=H.x;obtain ⟨A3,c3,ee4,f3⟩:=x1 (H.r 4 rfl);exact XI rfl (ev ee4) rfl (B _ _ H.k trivial ⟨(hX0.q rfl x0),(hX1.q rfl x1),(λ _=>⟨A3,c3,H.f.s P,f3⟩),(hX3.q rfl x3)⟩)
   ·intro M K C H _ _ B;obtain ⟨x0,x1,x2,x3⟩:=H.x;obtain ⟨A3,c3,ee4,f3⟩:=x1 (H.r 4 rfl);exact XI rfl (ev ee4) rfl (B _ _ H.k rfl (J.q rfl H.x))
   ·intro M K C H _ _ B;obtain ⟨x0,x1,x2,x3⟩:=H.x;simp [go_sem];exact B _ _ (H.k.alloc _) trivial ⟨(hX0.b rfl (Xb bR _) x0),(hX1.b rfl (Xb bR _) x1),(hX2.b rfl (Xb bR _) x2),(λ _=>by rw [show Yc M 7 8=false from H.t 8 rfl];exact X6.new (s:=7) (H.f.lt (by rw [P];decide)) H.k.size [Nz])⟩
   ·intro M K C H _ _ B;obtain ⟨x0,x1,x2,x3⟩:=H.x;obtain ⟨A3,c3,ee5,f3⟩:=x2 (H.r 5 rfl);obtain ⟨g,eg,hg,y,_⟩:=x3 (H.r 7 rfl);have R:=y H.n;simp [go_sem,ee5,eg,R.cell,R.frz];have f3:=f3.otherC (f3.typ R Dz) [Sv A3 ((Zm r out).length) c3] 0;exact B undef _ (H.k.store (.inl hg) [Sv A3 ((Zm r out).length) c3] 0) trivial ⟨(λ h=>by obtain ⟨A3',c3',e,f3'⟩:=x0 h;exact ⟨A3',c3',e,f3'.otherC (f3'.typ R Dz) [Sv A3 ((Zm r out).length) c3] 0⟩),(λ h=>by obtain ⟨A3',c3',e,f3'⟩:=x1 h;exact ⟨A3',c3',e,f3'.otherC (f3'.typ R Dz) [Sv A3 ((Zm r out).length) c3] 0⟩),(λ h=>by obtain ⟨A3',c3',e,f3'⟩:=x2 h;exact ⟨A3',c3',e,f3'.otherC (f3'.typ R Dz) [Sv A3 ((Zm r out).length) c3] 0⟩),(λ _=>X6.set eg hg R (us:=[Sv A3 ((Zm r out).length) c3]) rfl ⟨A3,c3,rfl,f3⟩)⟩
   ·exact KS 6 rfl rfl rfl rfl λ _ _ _ _=>J.q rfl
   intro L a18 w19 T D F S V;obtain ⟨x0,x1,x2,x3⟩:=V;replace P:=D.Z P;replace I:=D.E I;obtain ⟨s1,s2,s4,s6⟩:=D.G4 s1 s2 s4 s6;have s8:=gS a18 8 (S 9 _ rfl);replace b3:=b3.k0 F;replace b4:=b4.k0 F;replace b12:=b12.k0 F;obtain ⟨g20,s7,lg20,-,b20⟩:=x3 (T 7 Dz);obtain ⟨_,b20,A3,c3,rfl,N3⟩:=b20 (T 8 Dz);have i3:∀ p,A3=some p->p.block<w19.heap.size:=λ p hp=>(N3.blk p hp).2;have ug20:=b20.lt;replace N2:=N2.below F.toBelow Xy;have zw16:=U;have zw19:=F.size;replace U:=Nat.le_refl w19.heap.size;replace O:=F.below0 O;clear D F S T x0 x1 x2 x3 J hX0 hX1 hX2 hX3 s30;refine Xi (wp_seq (wp_seq ?_));refine Xl [38,39] [some (Bv (KN r out)),some (Bv (!(KN r out)))] (X9 2) [38,39] [] (λ _ _ _=>True) ?_ (e2 ?_ ?_ .nil) ?_
   ·exact λ _ _=>trivial
   ·exact Kq s8 rfl rfl rfl
   ·exact JC 0 rfl rfl rfl rfl
   intro L a21 w22 T D F S V;replace P:=D.Z P;replace I:=D.E I;obtain ⟨s1,s2,s4,s6,s7⟩:=D.G5 s1 s2 s4 s6 s7;have s39:=gS a21 39 (S 1 _ rfl);replace b3:=b3.k0 F;replace b4:=b4.k0 F;replace b12:=b12.k0 F;replace b20:=b20.k0 F;replace N2:=N2.below F.toBelow Xy;replace N3:=N3.below F.toBelow Xy;replace U:=Nat.le_trans U F.size;replace O:=F.below0 O;clear D F S T V s8;refine Xi ?_;rcases Bool.eq_false_or_eq_true (!(KN r out)) with q23|q23
   ·refine wp_cond_true (ev (vb s39 q23)) ?_;refine wp_seq ?_;have J:Xd [] (λ L aa C=>XY C (w.heap.size+1) 91 [Nz,V0,Bf] (L 1) (λ _ vs=>vs=[Nz,V0,Bf])):=λ L aa C w' kk vv hkk hb x0=>(x0.bel hb (λ _ h=>h));refine Xr J [40,0,5] [some (.agg #[Nz,V0,Bf]),none,some Bf] (X9 3) [40,5] [(w.heap.size+1)] ?_ (e2 ?_ ?_ (en rfl ?_ .nil)) ?_
    ·exact λ _ h=>(⟨λ _=>b4.kp h Sz,Cz⟩)
    ·intro M K C H _ _ B;simp [go_sem];exact (B _ _ H.k rfl H.x)
    ·intro M K C H _ _ B;have x0:=H.x;have R:=x0.1 H.n;simp [go_sem,(gS K 40 (H.d 0 rfl rfl)),H.f.g rfl s4,R.cell,R.frz];exact B undef _ (H.k.store (.inr Sz) [Nz,V0,Bf] 0) trivial (XY.set R (us:=[Nz,V0,Bf]) rfl rfl)
    ·exact JL rfl rfl λ _ _ _ _ h=>h
    intro L a24 w25 T D F S V;have x0:=V;replace P:=D.Z P;replace I:=D.E I;replace s4:=D.G s4;have s5:=gS a24 5 (S 2 _ rfl);clear b4;obtain ⟨_,b4,rfl⟩:=x0.2 (T 1 Dz);replace U:=Nat.le_trans U F.size;replace O:=F.below O O.size (by simp<;>omega);clear D F S T x0 J s1 s2 s6 s7 s39 b3 b12 b20 N2 i2 N3 i3;refine Xi (wp_ret ?_);refine Ki (ib_r (Ki (ib_r (Ki ?_))));refine bodyPost_ret (v:=.tuple #[.agg #[Nz,V0,Bf],Bf]) (by simp [results,Tryz.results35,go_sem,s4,b4.cell,s5]) I ?_;have h0:Jd r=none:=by rw [hpo,<- hpr (JD (and_t2 q17)),show 12-k=(12-(k+1))+1 by omega];exact rrF_no (JD q23)
    exact ⟨_,by rw [h0];rfl,by rw [h0];exact XG.nilN _ _ _ _ _,O⟩
   ·refine wp_cond_false (ev (vb s39 q23)) ?_;refine wp_skip (Xi (wp_seq ?_));refine Xl [41,42,43,44] [some (.agg #[Sv A3 ((Zm r out).length) c3]),some (Pz g12),some (.agg #[Sv A2 out.length c2]),some (Bv (eqB (Zm r out) out))] (X9 4) [41,42,43,44] [] (λ _ _ _=>True) ?_ (e4 ?_ ?_ ?_ ?_ .nil) ?_
    ·exact λ _ _=>trivial
    ·intro M K C H _ _ B;simp [go_sem,H.f.g rfl s7,(b20.k0 H.k).cell];exact (B _ _ H.k rfl trivial)
    ·intro M K C H _ _ B;simp [go_sem,H.f.g rfl s6];exact (B _ _ H.k rfl trivial)
    ·intro M K C H _ _ B;simp [go_sem,(gS K 42 (H.d 1 rfl rfl)),(b12.k0 H.k).cell];exact (B _ _ H.k rfl trivial)
    ·intro M K C H _ _ B;simp [go_sem,(gS K 41 (H.d 0 rfl rfl)),(gS K 43 (H.d 2 rfl rfl))];refine (iSameRegion_c (Zm r out) out ⟨A3,c3⟩ ⟨A2,c2⟩ C (by have:=Y0 (keepR_ok (r:=r) hout);omega) (by have:=Y0 hout;omega) ((N3.below H.k.toBelow Xy).out Xx) ((N2.below H.k.toBelow Xy).out Xx)).mono ?_;rintro x wx ⟨rfl,hb⟩;exact (B _ _ (H.k.call hb) rfl trivial)
    intro L a26 w27 T D F S V;replace P:=D.Z P;replace I:=D.E I;obtain ⟨s1,s2,s4,s6,s7⟩:=D.G5 s1 s2 s4 s6 s7;have s44:=gS a26 44 (S 3 _ rfl);replace b3:=b3.k0 F;replace b4:=b4.k0 F;replace b12:=b12.k0 F;replace b20:=b20.k0 F;replace N2:=N2.below F.toBelow Xy;replace N3:=N3.below F.toBelow Xy;replace U:=Nat.le_trans U F.size;replace O:=F.below0 O;clear D F S T V s39;refine Xi ?_;rcases Bool.eq_false_or_eq_true (eqB (Zm r out) out) with q28|q28
    ·refine wp_cond_true (ev (vb s44 q28)) ?_;refine Xl [45,0] [some (.pointer (some ⟨g12,2,none⟩)),none] (X9 2) [45] [g12] (λ L aa C=>XY C g12 91 [Sv A2 out.length c2,Vi (k:Int),Bv st] (L 1) (λ _ vs=>vs=[Sv A2 out.length c2,Vi (k:Int),Bt])) ?_ (e2 ?_ ?_ .nil) ?_
     ·exact λ _ h=>(⟨λ _=>b12.kp h Sz,Cz⟩)
     ·intro M K C H _ _ B;simp [go_sem,H.f.g rfl s6];exact (B _ _ H.k rfl (H.x.bel bR (λ _ h=>h)))
     ·intro M K C H _ _ B;have x0:=H.x;have R:=x0.1 H.n;simp [go_sem,(gS K 45 (H.d 0 rfl rfl)),R.cell,R.frz];exact B undef _ (H.k.store (.inr Sz) [Bt] 2) trivial (⟨(λ q=>by cases q),λ _=>⟨_,(R.set_ 2 _),rfl⟩⟩)
     intro L a29 w30 T D F S V;have x0:=V;replace P:=D.Z P;replace I:=D.E I;obtain ⟨s1,s2,s4,s6⟩:=D.G4 s1 s2 s4 s6;replace b3:=b3.kp F (by simp<;>omega);replace b4:=b4.kp F (by simp<;>omega);clear b12;obtain ⟨_,b12,rfl⟩:=x0.2 (T 1 Dz);replace N2:=N2.kpN F (λ p hp=>by simp only [List.mem_singleton];exact nt2 p hp);replace U:=Nat.le_trans U F.size;replace O:=F.below O O.size (by simp<;>omega);clear D F S T x0 s7 s44 b20 N3 i3;refine ib_n (Xi ?_);refine ⟨?_, ?_⟩
     ·exact ⟨P,I,(k),(true),(out),(A2),(c2),(hk),(λ _=>by rw [<- hpr (JD (and_t2 q17)),show 12-k=(12-(k+1))+1 by omega];exact rrF_same (YT q23) q28),Cz,(hout),s1,s2,s4,s6,b3,b4,b12,(N2),O,Oz⟩
     ·show kmu ((w30.cell? ⟨g12,1,none⟩).getD undef) ((w30.cell? ⟨g12,2,none⟩).getD undef)<_;rw [b12.cell 1,b12.cell 2,hmu,(JD (and_t2 q17))];show kmu (Vi (k:Int)) Bt<kmu (Vi (k:Int)) Bf;rw [kmu_t,kmu_f];omega
    ·refine wp_cond_false (ev (vb s44 q28)) ?_;refine wp_seq ?_;have J:Xd [] (λ L aa C=>XY C g12 91 [Sv A2 out.length c2,Vi (k:Int),Bv st] (L 2) (λ _ vs=>vs=[Sv A3 ((Zm r out).length) c3,Vi (k:Int),Bv st])):=λ L aa C w' kk vv hkk hb x0=>(x0.bel hb (λ _ h=>h));refine Xr J [46,47,0] [some (.agg #[Sv A3 ((Zm r out).length) c3]),some (Pz g12),none] (X9 3) [46,47] [g12] ?_ (e2 ?_ ?_ (en rfl ?_ .nil)) ?_
     ·exact λ _ h=>(⟨λ _=>b12.kp h Sz,Cz⟩)
     ·intro M K C H _ _ B;simp [go_sem,H.f.g rfl s7,(b20.kp H.k (by simp<;>omega)).cell];exact (B _ _ H.k rfl H.x)
     ·intro M K C H _ _ B;simp [go_sem,H.f.g rfl s6];exact (B _ _ H.k rfl H.x)
     ·intro M K C H _ _ B;have x0:=H.x;have R:=x0.1 H.n;simp [go_sem,(gS K 47 (H.d 1 rfl rfl)),(gS K 46 (H.d 0 rfl rfl)),R.cell,R.frz];exact B undef _ (H.k.store (.inr Sz) [Sv A3 ((Zm r out).length) c3] 0) trivial (⟨(λ q=>by cases q),λ _=>⟨_,(R.set_ 0 _),rfl⟩⟩)
     intro L a31 w32 T D F S V;have x0:=V;replace P:=D.Z P;replace I:=D.E I;obtain ⟨s1,s2,s4,s6⟩:=D.G4 s1 s2 s4 s6;replace b3:=b3.kp F (by simp<;>omega);replace b4:=b4.kp F (by simp<;>omega);clear b12;obtain ⟨_,b12,rfl⟩:=x0.2 (T 2 Dz);replace N3:=N3.kp F i3 Oz (by simp<;>omega);replace U:=Nat.le_trans U F.size;replace O:=F.below O O.size (by simp<;>omega);clear D F S T x0 J s7 s44 b20 N2 i2;refine Xi ?_;have J:Xd [] (λ L aa C=>XY C g12 91 [Sv A3 ((Zm r out).length) c3,Vi (k:Int),Bv st] (L 4) (λ _ vs=>vs=[Sv A3 ((Zm r out).length) c3,Vi ((k:Int)+1),Bv st])):=λ L aa C w' kk vv hkk hb x0=>(x0.bel hb (λ _ h=>h));refine Xr J [48,49,50,51,0] [some (.pointer (some ⟨g12,1,none⟩)),some (Vi (k:Int)),some (Vi ((k:Int)+1)),some (.pointer (some ⟨g12,1,none⟩)),none] (X9 5) [48,49,50,51] [g12] ?_ (e4 ?_ ?_ ?_ ?_ (en rfl ?_ .nil)) ?_
     ·exact λ _ h=>(⟨λ _=>b12.kp h Sz,Cz⟩)
     ·intro M K C H _ _ B;simp [go_sem,H.f.g rfl s6];exact (B _ _ H.k rfl H.x)
     ·intro M K C H _ _ B;have x0:=H.x;have hb0:=x0.1 (H.t 4 rfl);simp [go_sem,(gS K 48 (H.d 0 rfl rfl)),hb0.cell];exact (B _ _ H.k rfl H.x)
     ·exact λ M K C H _ _ B=>Zi rfl (ev (H.d 1 rfl rfl)) rfl Oz (B _ _ H.k rfl H.x)
     ·intro M K C H _ _ B;simp [go_sem,H.f.g rfl s6];exact (B _ _ H.k rfl H.x)
     ·intro M K C H _ _ B;have x0:=H.x;have R:=x0.1 H.n;simp [go_sem,(gS K 51 (H.d 3 rfl rfl)),(gS K 50 (H.d 2 rfl rfl)),R.cell,R.frz];exact B undef _ (H.k.store (.inr Sz) [Vi ((k:Int)+1)] 1) trivial (⟨(λ q=>by cases q),λ _=>⟨_,(R.set_ 1 _),rfl⟩⟩)
     intro L a33 w34 T D F S V;have x0:=V;replace P:=D.Z P;replace I:=D.E I;obtain ⟨s1,s2,s4,s6⟩:=D.G4 s1 s2 s4 s6;replace b3:=b3.kp F (by simp<;>omega);replace b4:=b4.kp F (by simp<;>omega);clear b12;obtain ⟨_,b12,rfl⟩:=x0.2 (T 4 Dz);replace N3:=N3.kp F i3 Oz (by simp<;>omega);replace U:=Nat.le_trans U F.size;replace O:=F.below O O.size (by simp<;>omega);clear D F S T x0 J;refine ib_n (Xi ?_);refine ⟨?_, ?_⟩
     ·exact ⟨P,I,(k+1),(st),((Zm r out)),(A3),(c3),Oz,(λ h=>absurd ((JD (and_t2 q17)).symm.trans h) Dz),(λ _=>by rw [<- hpr (JD (and_t2 q17)),show 12-k=(12-(k+1))+1 by omega];exact (rrF_next (YT q23) q28).symm),(keepR_ok hout),s1,s2,s4,s6,b3,b4,b12,(N3.mono Oz),O,Oz⟩
     ·show kmu ((w34.cell? ⟨g12,1,none⟩).getD undef) ((w34.cell? ⟨g12,2,none⟩).getD undef)<_;rw [b12.cell 1,b12.cell 2,hmu,(JD (and_t2 q17))];show kmu (Vi ((k:Int)+1)) Bf<kmu (Vi (k:Int)) Bf;rw [kmu_f,kmu_f];omega
  ·refine wp_cond_false (ev (vb s30 q17)) ?_;refine wp_exit ?_;refine th_e (th_e (ib_x (Xi (wp_seq ?_))));have J:Xd [] (λ L aa C=>XY C (w.heap.size+1) 91 [Nz,V0,Bf] (L 1) (λ _ vs=>vs=[Sv A2 out.length c2,Vi (k:Int),Bv st])):=λ L aa C w' kk vv hkk hb x0=>(x0.bel hb (λ _ h=>h));refine Xr J [52,0,5] [some (.agg #[Sv A2 out.length c2,Vi (k:Int),Bv st]),none,some Bt] (X9 3) [52,5] [(w.heap.size+1)] ?_ (e2 ?_ ?_ (en rfl ?_ .nil)) ?_
   ·exact λ _ h=>(⟨λ _=>b4.kp h Sz,Cz⟩)
   ·intro M K C H _ _ B;simp [go_sem,H.f.g rfl s6,(b12.kp H.k (by simp<;>omega)).cell];exact (B _ _ H.k rfl H.x)
   ·intro M K C H _ _ B;have x0:=H.x;have R:=x0.1 H.n;simp [go_sem,(gS K 52 (H.d 0 rfl rfl)),H.f.g rfl s4,R.cell,R.frz];exact B undef _ (H.k.store (.inr Sz) [Sv A2 out.length c2,Vi (k:Int),Bv st] 0) trivial (XY.set R (us:=[Sv A2 out.length c2,Vi (k:Int),Bv st]) rfl rfl)
   ·exact JL rfl rfl λ _ _ _ _ h=>h
   intro L a35 w36 T D F S V;have x0:=V;replace P:=D.Z P;replace I:=D.E I;replace s4:=D.G s4;have s5:=gS a35 5 (S 2 _ rfl);clear b4;obtain ⟨_,b4,rfl⟩:=x0.2 (T 1 Dz);replace N2:=N2.kp F i2 Oz (by simp<;>omega);replace U:=Nat.le_trans U F.size;replace O:=F.below O O.size (by simp<;>omega);clear D F S T x0 J s1 s2 s6 s30 b3 b12;refine Xi (wp_ret ?_);refine bodyPost_ret (v:=.tuple #[.agg #[Sv A2 out.length c2,Vi (k:Int),Bv st],Bt]) (by simp [results,Tryz.results35,go_sem,s4,b4.cell,s5]) I ?_;have h0:=hpo.trans (rr_end q17 hk hst hpr);exact ⟨_,by rw [h0];rfl,by rw [h0];exact N2.mono Oz,O⟩
theorem iKeptR_c (r:XD) (ra:Y7) (w:World) (hn:Kt r<=1048576) (hin:JO r) (hs:ZX w r ra) (hnl:Jk ra) :
 Calls Tryz.prog 6 #[X7 r ra] w λ x w'=>∃ v,x=.returned (.tuple #[.agg #[v],Bv (Ye r).isSome])/\XG 136 3 Xe w' w.heap.size v ((Ye r).getD [])/\Below w.heap.size w w':=by
 refine Yz Tryz.func6 rfl (n:=21) Tryz.ntmps6 Sz ?_;intro a0 P I ha;have s0:a0.tmps[0]?.getD undef=X7 r ra:=ha 0 _ rfl;clear ha;have O:=Below.refl w.heap.size w;have U:=Nat.le_refl w.heap.size;refine wp_seq ?_;refine Yk [1,2,3] [Pz w.heap.size,Pz (w.heap.size+1),Bf] [some (.cells (YR r ra).toArray 28),some (.cells [Nz].toArray 26),none] [0,1,2] [1,2,3] [0,1,2] (by kernel_rfl) (by rw [P];decide) (ec ?_ (ec ?_ (ec ?_ .nil))) ?_
 ·intro a w' D hs N Q B;simp [go_sem,D.g rfl s0];rw [hs];exact B
 ·intro a w' D hs N Q B;simp [go_sem];rw [hs];exact B
 ·intro a w' D hs N Q B;simp [go_sem];exact B
 intro a1 w2 D S hb hO;replace P:=D.size.trans P;replace I:=D.defers.trans I;have s1:a1.tmps[1]?.getD undef=Pz w.heap.size:=S 0 Dz;have s2:a1.tmps[2]?.getD undef=Pz (w.heap.size+1):=S 1 Dz;have b3:Xq w2 w.heap.size 28 (YR r ra):=hO 0 _ rfl;have b4:Xq w2 (w.heap.size+1) 26 [Nz]:=hO 1 _ rfl;have hG:=b4.lt;replace O:=Xf O hb;have zw2:=Nat.le_trans U hb.size;replace U:=Nat.le_refl w2.heap.size;clear D S hb hO s0;refine Xi (wp_seq ?_);have hX0:=Xd.e 8 1 (λ C v=>∃ A1 c1,v=.tuple #[.agg #[Sv A1 ((((Jd r).getD rr0).1).length) c1,Vi ((((Jd r).getD rr0).2.1:Nat):Int),Bv (((Jd r).getD rr0).2.2)],Bv ((Jd r).isSome)]/\XG 136 3 Xe C w2.heap.size (Sv A1 (((Jd r).getD rr0).1).length c1) (((Jd r).getD rr0).1)) (λ hb _ h=>by obtain ⟨A1',c1',e,f1'⟩:=h;exact ⟨A1',c1',e,f1'.below hb Xy⟩);have hX1:=Xd.e 6 2 (λ C v=>∃ A1 c1,v=.tuple #[.agg #[Sv A1 ((((Jd r).getD rr0).1).length) c1,Vi ((((Jd r).getD rr0).2.1:Nat):Int),Bv (((Jd r).getD rr0).2.2)],Bv ((Jd r).isSome)]/\XG 136 3 Xe C w2.heap.size (Sv A1 (((Jd r).getD rr0).1).length c1) (((Jd r).getD rr0).1)) (λ hb _ h=>by obtain ⟨A1',c1',e,f1'⟩:=h;exact ⟨A1',c1',e,f1'.below hb Xy⟩);have hX2:=Xd.e 9 3 (λ C v=>∃ A1 c1,v=.agg #[Sv A1 ((((Jd r).getD rr0).1).length) c1,Vi ((((Jd r).getD rr0).2.1:Nat):Int),Bv (((Jd r).getD rr0).2.2)]/\XG 136 3 Xe C w2.heap.size (Sv A1 (((Jd r).getD rr0).1).length c1) (((Jd r).getD rr0).1)) (λ hb _ h=>by obtain ⟨A1',c1',e,f1'⟩:=h;exact ⟨A1',c1',e,f1'.below hb Xy⟩);have hX3:=Xd.x 4 5 6 w2 91 [Nz,V0,Bf] (λ C vs=>∃ A1 c1,vs=[Sv A1 ((((Jd r).getD rr0).1).length) c1,Vi ((((Jd r).getD rr0).2.1:Nat):Int),Bv (((Jd r).getD rr0).2.2)]/\XG 136 3 Xe C w2.heap.size (Sv A1 (((Jd r).getD rr0).1).length c1) (((Jd r).getD rr0).1)) (λ hb _ h=>by obtain ⟨A1',c1',e,f1'⟩:=h;exact ⟨A1',c1',e,f1'.below hb Xy⟩);have J:=hX0.a (hX1.a (hX2.a hX3));refine Xr J [7,8,6,9,10,4,0,5] [some (X7 r ra),none,none,none,some (Bv ((Jd r).isSome)),none,none,some (Bv ((Jd r).isSome))] (X9 8) [7,8,6,9,10,4,5] [] ?_ (e4 ?_ ?_ ?_ ?_ (e4 ?_ ?_ ?_ ?_ .nil)) ?_
 ·exact λ _ h=>⟨Cz,Cz,Cz,Cz⟩
 ·intro M K C H _ _ B;simp [go_sem,H.f.g rfl s1,(b3.k0 H.k).cell];exact (B _ _ H.k rfl (J.q rfl H.x))
 ·intro M K C H _ _ B;obtain ⟨x0,x1,x2,x3⟩:=H.x;simp [go_sem,(gS K 7 (H.d 0 rfl rfl))];have hBi:=H.k.below0 O;refine (iRounds_c r ra C hn hin (hs.below hBi) hnl).mono ?_;rintro x wx ⟨_,rfl,⟨A1,c1,rfl,f0⟩,hb⟩;have f1:=XG.mono (show XG 136 3 Xe wx C.heap.size (Sv A1 (((Jd r).getD rr0).1).length c1) (((Jd r).getD rr0).1) from ⟨_,_,rfl,f0⟩) H.k.size;exact (B _ _ (H.k.call hb) trivial ⟨(λ _=>⟨A1,c1,H.f.s P,f1⟩),(hX1.b rfl hb x1),(hX2.b rfl hb x2),(hX3.b rfl hb x3)⟩)
 ·intro M K C H _ _ B;obtain ⟨x0,x1,x2,x3⟩:=H.x;obtain ⟨A1,c1,ee1,f1⟩:=x0 (H.r 1 rfl);exact XQ rfl (ev ee1) (B _ _ H.k trivial ⟨(hX0.q rfl x0),(λ _=>⟨A1,c1,H.f.s P,f1⟩),(hX2.q rfl x2),(hX3.q rfl x3)⟩)
 ·intro M K C H _ _ B;obtain ⟨x0,x1,x2,x3⟩:=H.x;obtain ⟨A1,c1,ee2,f1⟩:=x1 (H.r 2 rfl);exact XI rfl (ev ee2) rfl (B _ _ H.k trivial ⟨(hX0.q rfl x0),(hX1.q rfl x1),(λ _=>⟨A1,c1,H.f.s P,f1⟩),(hX3.q rfl x3)⟩)
 ·intro M K C H _ _ B;obtain ⟨x0,x1,x2,x3⟩:=H.x;obtain ⟨A1,c1,ee2,f1⟩:=x1 (H.r 2 rfl);exact XI rfl (ev ee2) rfl (B _ _ H.k rfl (J.q rfl H.x))
 ·intro M K C H _ _ B;obtain ⟨x0,x1,x2,x3⟩:=H.x;simp [go_sem];exact B _ _ (H.k.alloc _) trivial ⟨(hX0.b rfl (Xb bR _) x0),(hX1.b rfl (Xb bR _) x1),(hX2.b rfl (Xb bR _) x2),(λ _=>by rw [show Yc M 5 6=false from H.t 6 rfl];exact X6.new (s:=4) (H.f.lt (by rw [P];decide)) H.k.size [Nz,V0,Bf])⟩
 ·intro M K C H _ _ B;obtain ⟨x0,x1,x2,x3⟩:=H.x;obtain ⟨A1,c1,ee3,f1⟩:=x2 (H.r 3 rfl);obtain ⟨g,eg,hg,y,_⟩:=x3 (H.r 5 rfl);have R:=y H.n;simp [go_sem,ee3,eg,R.cell,R.frz];have f1:=f1.otherC (f1.typ R Dz) [Sv A1 ((((Jd r).getD rr0).1).length) c1,Vi ((((Jd r).getD rr0).2.1:Nat):Int),Bv (((Jd r).getD rr0).2.2)] 0;exact B undef _ (H.k.store (.inl hg) [Sv A1 ((((Jd r).getD rr0).1).length) c1,Vi ((((Jd r).getD rr0).2.1:Nat):Int),Bv (((Jd r).getD rr0).2.2)] 0) trivial ⟨(λ h=>by obtain ⟨A1',c1',e,f1'⟩:=x0 h;exact ⟨A1',c1',e,f1'.otherC (f1'.typ R Dz) [Sv A1 ((((Jd r).getD rr0).1).length) c1,Vi ((((Jd r).getD rr0).2.1:Nat):Int),Bv (((Jd r).getD rr0).2.2)] 0⟩),(λ h=>by obtain ⟨A1',c1',e,f1'⟩:=x1 h;exact ⟨A1',c1',e,f1'.otherC (f1'.typ R Dz) [Sv A1 ((((Jd r).getD rr0).1).length) c1,Vi ((((Jd r).getD rr0).2.1:Nat):Int),Bv (((Jd r).getD rr0).2.2)] 0⟩),(λ h=>by obtain ⟨A1',c1',e,f1'⟩:=x2 h;exact ⟨A1',c1',e,f1'.otherC (f1'.typ R Dz) [Sv A1 ((((Jd r).getD rr0).1).length) c1,Vi ((((Jd r).getD rr0).2.1:Nat):Int),Bv (((Jd r).getD rr0).2.2)] 0⟩),(λ _=>X6.set eg hg R (us:=[Sv A1 ((((Jd r).getD rr0).1).length) c1,Vi ((((Jd r).getD rr0).2.1:Nat):Int),Bv (((Jd r).getD rr0).2.2)]) rfl ⟨A1,c1,rfl,f1⟩)⟩
 ·exact KS 4 rfl rfl rfl rfl λ _ _ _ _=>J.q rfl
 intro L a5 w6 T D F S V;obtain ⟨x0,x1,x2,x3⟩:=V;replace P:=D.Z P;replace I:=D.E I;replace s2:=D.G s2;have s5:=gS a5 5 (S 7 _ rfl);replace b4:=b4.k0 F;obtain ⟨g7,s4,lg7,-,b7⟩:=x3 (T 5 Dz);obtain ⟨_,b7,A1,c1,rfl,N1⟩:=b7 (T 6 Dz);have i1:∀ p,A1=some p->p.block<w6.heap.size:=λ p hp=>(N1.blk p hp).2;have ug7:=b7.lt;have zw6:=F.size;replace U:=Nat.le_refl w6.heap.size;replace O:=F.below0 O;clear D F S T x0 x1 x2 x3 J hX0 hX1 hX2 hX3 s1 b3;refine Xi (wp_seq (wp_seq ?_));refine Xl [11,12,13,14,15,16,17] [some (Bv ((Jd r).isSome)),some (Bv (!((Jd r).isSome))),some (Bv (!((Jd r).isSome))),some ((bif !((Jd r).isSome) then undef else (.pointer (some ⟨g7,2,none⟩):Value))),some ((bif !((Jd r).isSome) then undef else (Bv (((Jd r).getD rr0).2.2):Value))),some ((bif !((Jd r).isSome) then undef else (Bv (!(((Jd r).getD rr0).2.2)):Value))),some (Bv (!((Jd r).isSome) || !(((Jd r).getD rr0).2.2)))] (X9 7) [11,12,13,14,15,16,17] [] (λ _ _ _=>True) ?_ (e2 ?_ ?_ (en rfl ?_ (eg ?_ (eg ?_ (eg ?_ (en rfl ?_ .nil)))))) ?_
 ·exact λ _ _=>trivial
 ·exact Kq s5 rfl rfl rfl
 ·exact JC 0 rfl rfl rfl rfl
 ·exact KC 1 rfl rfl rfl rfl
 ·intro M K C H _ _ B;refine J4 rfl rfl rfl (H.d 2 rfl rfl) (λ qg=>B _ _ H.k (Xz qg).symm trivial) λ qg=>?_;simp [go_sem,H.f.g rfl s4];exact (B _ _ H.k (XC qg).symm trivial)
 ·intro M K C H _ _ B;refine J4 rfl rfl rfl (H.d 2 rfl rfl) (λ qg=>B _ _ H.k (Xz qg).symm trivial) λ qg=>?_;simp [go_sem,(show K.tmps[14]?.getD undef=_ from (H.d 3 rfl rfl).trans (XC qg)),(b7.k0 H.k).cell];exact (B _ _ H.k (XC qg).symm trivial)
 ·intro M K C H _ _ B;refine J4 rfl rfl rfl (H.d 2 rfl rfl) (λ qg=>B _ _ H.k (Xz qg).symm trivial) λ qg=>?_;exact KJ rfl (ev ((H.d 4 rfl rfl).trans (XC qg))) (B _ _ H.k (XC qg).symm trivial)
 ·exact oPOT 2 5 rfl rfl rfl rfl rfl rfl
 intro L a8 w9 T D F S V;replace P:=D.Z P;replace I:=D.E I;obtain ⟨s2,s4⟩:=D.G2 s2 s4;have s17:=gS a8 17 (S 6 _ rfl);replace b4:=b4.k0 F;replace b7:=b7.k0 F;replace N1:=N1.below F.toBelow Xy;replace U:=Nat.le_trans U F.size;replace O:=F.below0 O;clear D F S T V s5;refine Xi ?_;rcases Bool.eq_false_or_eq_true (!((Jd r).isSome) || !(((Jd r).getD rr0).2.2)) with q10|q10
 ·refine wp_cond_true (ev (vb s17 q10)) ?_;refine wp_seq ?_;have J:Xd [] (λ L aa C=>XY C (w.heap.size+1) 26 [Nz] (L 1) (λ _ vs=>vs=[Nz])):=λ L aa C w' kk vv hkk hb x0=>(x0.bel hb (λ _ h=>h));refine Xr J [18,0,3] [some (.agg #[Nz]),none,some Bf] (X9 3) [18,3] [(w.heap.size+1)] ?_ (e2 ?_ ?_ (en rfl ?_ .nil)) ?_
  ·exact λ _ h=>(⟨λ _=>b4.kp h Sz,Cz⟩)
  ·intro M K C H _ _ B;simp [go_sem];exact (B _ _ H.k rfl H.x)
  ·intro M K C H _ _ B;have x0:=H.x;have R:=x0.1 H.n;simp [go_sem,(gS K 18 (H.d 0 rfl rfl)),H.f.g rfl s2,R.cell,R.frz];exact B undef _ (H.k.store (.inr Sz) [Nz] 0) trivial (XY.set R (us:=[Nz]) rfl rfl)
  ·exact JL rfl rfl λ _ _ _ _ h=>h
  intro L a11 w12 T D F S V;have x0:=V;replace P:=D.Z P;replace I:=D.E I;replace s2:=D.G s2;have s3:=gS a11 3 (S 2 _ rfl);clear b4;obtain ⟨_,b4,rfl⟩:=x0.2 (T 1 Dz);replace U:=Nat.le_trans U F.size;replace O:=F.below O O.size (by simp<;>omega);clear D F S T x0 J s4 s17 b7 N1 i1;refine Xi (wp_ret (Ki ?_));refine bodyPost_ret (v:=.tuple #[.agg #[Nz],Bf]) (by simp [results,Tryz.results6,go_sem,s2,b4.cell,s3]) I ?_;have h0:=kp_bad q10;exact ⟨_,by rw [h0];rfl,by rw [h0];exact XG.nilN _ _ _ _ _,O⟩
 ·refine wp_cond_false (ev (vb s17 q10)) ?_;refine wp_skip (Xi (wp_seq ?_));have J:Xd [] (λ L aa C=>XY C (w.heap.size+1) 26 [Nz] (L 2) (λ _ vs=>vs=[Sv A1 ((((Jd r).getD rr0).1).length) c1])):=λ L aa C w' kk vv hkk hb x0=>(x0.bel hb (λ _ h=>h));refine Xr J [19,20,0,3] [some (Pz g7),some (.agg #[Sv A1 ((((Jd r).getD rr0).1).length) c1]),none,some Bt] (X9 4) [19,20,3] [(w.heap.size+1)] ?_ (e4 ?_ ?_ ?_ ?_ .nil) ?_
  ·exact λ _ h=>(⟨λ _=>b4.kp h Sz,Cz⟩)
  ·intro M K C H _ _ B;simp [go_sem,H.f.g rfl s4];exact (B _ _ H.k rfl H.x)
  ·intro M K C H _ _ B;simp [go_sem,(gS K 19 (H.d 0 rfl rfl)),(b7.kp H.k (by simp<;>omega)).cell];exact (B _ _ H.k rfl H.x)
  ·intro M K C H _ _ B;have x0:=H.x;have R:=x0.1 H.n;simp [go_sem,(gS K 20 (H.d 1 rfl rfl)),H.f.g rfl s2,R.cell,R.frz];exact B undef _ (H.k.store (.inr Sz) [Sv A1 ((((Jd r).getD rr0).1).length) c1] 0) trivial (XY.set R (us:=[Sv A1 ((((Jd r).getD rr0).1).length) c1]) rfl rfl)
  ·exact JL rfl rfl λ _ _ _ _ h=>h
  intro L a13 w14 T D F S V;have x0:=V;replace P:=D.Z P;replace I:=D.E I;replace s2:=D.G s2;have s3:=gS a13 3 (S 3 _ rfl);clear b4;obtain ⟨_,b4,rfl⟩:=x0.2 (T 2 Dz);replace N1:=N1.kp F i1 Oz (by simp<;>omega);replace U:=Nat.le_trans U F.size;replace O:=F.below O O.size (by simp<;>omega);clear D F S T x0 J s4 s17 b7;refine Xi (wp_ret ?_);refine bodyPost_ret (v:=.tuple #[.agg #[Sv A1 ((((Jd r).getD rr0).1).length) c1],Bt]) (by simp [results,Tryz.results6,go_sem,s2,b4.cell,s3]) I ?_;have h0:=kp_good q10;exact ⟨_,by rw [h0];rfl,by rw [h0];exact N1.mono Oz,O⟩
end Go.Proofs.YtbekjpkcicjcgaaGreat
