/-
 New watches and copies of watches: of the program and of the reference.
 Conditions: the slices hold at most 2^20 elements.
-/
import Derived.Test.YtbekjpkcicjcgaaGreatNextM
namespace Go.Proofs.YtbekjpkcicjcgaaGreat
open Go.RowKit
def watch0:Jv:=⟨⟨[],0,0,0,0,0,[],[]⟩,[],[]⟩
def wnOk (r:XD) (p:List Half):Bool:=!(decide (p.length=0) || !(KW r p))
def wnX (r:XD) (p:List Half):Jv:=if wnOk r p=true then ⟨r,p,[]⟩ else watch0
theorem wn_no {r:XD} {p:List Half} (h:(decide (p.length=0) || !(KW r p))=true):wnX r p=watch0/\wnOk r p=false:=by
 have e:wnOk r p=false:=by unfold wnOk;rw [h];rfl
 exact ⟨by unfold wnX;rw [if_neg (by rw [e];simp)],e⟩
theorem wn_yes {r:XD} {p:List Half} (h:(decide (p.length=0) || !(KW r p))=false):wnX r p=⟨r,p,[]⟩/\wnOk r p=true:=by
 have e:wnOk r p=true:=by unfold wnOk;rw [h];rfl
 exact ⟨by unfold wnX;rw [if_pos e],e⟩
def sasF:Value->List Nat
 | .slice (some p) _ _=>[p.block]
 | _=>[]
def sas:Value->List Nat
 | .agg xs=>xs.toList.flatMap sasF
 | v=>sasF v
def ApV (u v:Value):Prop:=∀ p∈sas u,∀ q∈sas v,p≠q
theorem ApV.symm {u v:Value} (h:ApV u v):ApV v u:=λ p hp q hq e=>h q hq p hp e.symm
theorem apv_ge {u v:Value} {n:Nat} (h:∀ q∈sas u,n<=q) (h2:∀ q∈sas v,q<n):ApV u v:=λ p hp q hq e=>by have:=h p hp;have:=h2 q hq;omega
theorem sasF_blk {lo hi n c:Nat} {A:Option Addr} {c2:Nat} (h:Blk lo hi ⟨A,c2⟩):∀ q∈sasF (Sv A n c),lo<=q/\q<hi:=by
 intro q hq;cases A with
 | none=>cases hq
 | some p=>simp only [sasF,List.mem_singleton] at hq;rw [hq];exact h p rfl
theorem reg_sas {w:World} {base:Nat} {x:List Half} {a:Kw} (h:X1 w base x a):∀ q∈sas (.agg #[Sv a.A x.length a.c]),base<=q/\q<w.heap.size:=by
 intro q hq;simp only [sas,List.flatMap_cons,List.flatMap_nil,List.append_nil] at hq;exact sasF_blk h.blk q hq
theorem room_sas {w:World} {base:Nat} {x:XD} {a:Y7} (h:Zb w base x a):∀ q∈sas (X7 x a),base<=q/\q<w.heap.size:=by
 intro q hq;obtain ⟨h1,h2,h3⟩:=h.blk;simp only [sas,List.flatMap_cons,List.flatMap_nil,List.append_nil,List.mem_append] at hq;rcases hq with hq|hq|hq|hq|hq|hq|hq|hq
 ·exact sasF_blk h1 q hq
 ·cases hq
 ·cases hq
 ·cases hq
 ·cases hq
 ·cases hq
 ·exact sasF_blk h2 q hq
 ·exact sasF_blk h3 q hq
theorem apF {A B:Kw} {u v:Value} {n m:Nat} (h:ApV u v) (hA:∀ q∈sasF (Sv A.A n A.c),q∈sas u) (K:∀ q∈sasF (Sv B.A m B.c),q∈sas v):Apart A B:=λ p q hp hq=>h _ (hA _ (by rw [hp];simp [sasF])) _ (K _ (by rw [hq];simp [sasF]))
theorem roomM (x:XD) (a:Y7):(∀ q∈sasF (Sv a.map.A x.map.length a.map.c),q∈sas (X7 x a))/\(∀ q∈sasF (Sv a.noise.A x.noise.length a.noise.c),q∈sas (X7 x a))/\(∀ q∈sasF (Sv a.limits.A x.limits.length a.limits.c),q∈sas (X7 x a)):=by
 refine ⟨λ q hq=>?_,λ q hq=>?_,λ q hq=>?_⟩<;>simp only [sas,List.flatMap_cons,List.flatMap_nil,List.append_nil,List.mem_append]
 ·exact .inl hq
 ·exact .inr (.inr (.inr (.inr (.inr (.inr (.inl hq))))))
 ·exact .inr (.inr (.inr (.inr (.inr (.inr (.inr hq))))))
theorem regM (x:List Half) (a:Kw):∀ q∈sasF (Sv a.A x.length a.c),q∈sas (.agg #[Sv a.A x.length a.c]):=by
 intro q hq;simp only [sas,List.flatMap_cons,List.flatMap_nil,List.append_nil];exact hq
theorem watch_mk {w:World} {base:Nat} {r:XD} {p:List Half} {l:List Int} {m:Y7} {a:Kw} {A:Option Addr} {c:Nat} (h1:Zb w base r m) (h2:X1 w base p a) (h3:XG 3 1 Kk w base (Sv A l.length c) l)
 (k1:ApV (X7 r m) (.agg #[Sv a.A p.length a.c])) (k2:ApV (X7 r m) (Sv A l.length c)) (k3:ApV (.agg #[Sv a.A p.length a.c]) (Sv A l.length c)):Yn w base ⟨r,p,l⟩ ⟨m,a,⟨A,c⟩⟩:=by
 refine ⟨h1,h2,h3, ?_⟩;have Q0:=h1.apart;obtain ⟨r1,r2,r3⟩:=roomM r m;have r4:=regM p a;have r5:∀ q∈sasF (Sv A l.length c),q∈sas (Sv A l.length c):=λ q hq=>hq;simp only [List.pairwise_cons,List.mem_cons,List.not_mem_nil,or_false,forall_eq_or_imp,forall_eq,false_implies,implies_true,List.Pairwise.nil,and_true] at Q0 ⊢;exact ⟨⟨Q0.1.1,Q0.1.2,apF k1 r1 r4,apF (B:=⟨A,c⟩) k2 r1 r5⟩,⟨Q0.2,apF k1 r2 r4,apF (B:=⟨A,c⟩) k2 r2 r5⟩,⟨apF k1 r3 r4,apF (B:=⟨A,c⟩) k2 r3 r5⟩,apF (B:=⟨A,c⟩) k3 r4 r5⟩
theorem apv_none (u:Value):ApV u Nz:=λ _ _ _ hq=>by cases hq
theorem watch_mk0 {w:World} {base:Nat} {r:XD} {p:List Half} {m:Y7} {a:Kw} (h1:Zb w base r m) (h2:X1 w base p a) (k1:ApV (X7 r m) (.agg #[Sv a.A p.length a.c])):Yn w base ⟨r,p,[]⟩ ⟨m,a,⟨none,0⟩⟩ :=
 watch_mk (l:=[]) h1 h2 (XG.nilN _ _ _ _ _) k1 (apv_none _) (apv_none _)
theorem Yn.nil (w:World) (base:Nat):Yn w base watch0 ⟨⟨⟨none,0⟩,⟨none,0⟩,⟨none,0⟩⟩,⟨none,0⟩,⟨none,0⟩⟩:=by
 refine ⟨⟨XG.nilN _ _ _ _ _,⟨XG.nilN _ _ _ _ _⟩,⟨XG.nilN _ _ _ _ _⟩, ?_⟩,⟨XG.nilN _ _ _ _ _⟩,XG.nilN _ _ _ _ _, ?_⟩ <;>
 ·simp only [List.pairwise_cons,List.mem_cons,List.not_mem_nil,or_false,forall_eq_or_imp,forall_eq,false_implies,implies_true,List.Pairwise.nil,and_true];simp [Apart]
set_option maxRecDepth 100000 in
set_option maxHeartbeats 3000000 in
theorem iWatchNew_c (r:XD) (p:List Half) (ra:Y7) (b:Kw) (w:World) (hn:Kt r<=1048576) (hin:JO r) (hs:ZX w r ra) (hnl:Jk ra) (hlp:p.length<=1048576) (hpi:∀ h∈p,h.In) (hsp:Sl 3 Xe w b.A p) (hnb:b.A=none->b.c=0) :
 Calls Tryz.prog 9 #[X7 r ra,.agg #[Sv b.A p.length b.c]] w λ x w'=>∃ m,x=.returned (.tuple #[watchV (wnX r p) m,Bv (wnOk r p)])/\Yn w' w.heap.size (wnX r p) m/\Below w.heap.size w w':=by
 refine Yz Tryz.func9 rfl (n:=20) Tryz.ntmps9 Sz ?_;intro a0 R I ha;have s0:a0.tmps[0]?.getD undef=X7 r ra:=ha 0 _ rfl;have s1:a0.tmps[1]?.getD undef=.agg #[Sv b.A p.length b.c]:=ha 1 _ rfl;clear ha;have K:=Below.refl w.heap.size w;have V:=Nat.le_refl w.heap.size;refine wp_seq ?_;refine Yk [2,3,4,5] [Pz w.heap.size,Pz (w.heap.size+1),Pz (w.heap.size+2),Bf] [some (.cells (YR r ra).toArray 28),some (.cells [Sv b.A p.length b.c].toArray 26),some (.cells [Nz,V0,V0,V0,V0,V0,Nz,Nz,Nz,Nz].toArray 38),none] [0,1,2,3] [2,3,4,5] [0,1,2,3] (by kernel_rfl) (by rw [R];decide) (ec ?_ (ec ?_ (ec ?_ (ec ?_ .nil)))) ?_
 ·intro a w' F hs N Q C;simp [go_sem,F.g rfl s0];rw [hs];exact C
 ·intro a w' F hs N Q C;simp [go_sem,F.g rfl s1];rw [hs];exact C
 ·intro a w' F hs N Q C;simp [go_sem];rw [hs];exact C
 ·intro a w' F hs N Q C;simp [go_sem];exact C
 intro a1 w2 F S hb hO;replace R:=F.size.trans R;replace I:=F.defers.trans I;have s2:a1.tmps[2]?.getD undef=Pz w.heap.size:=S 0 Dz;have s3:a1.tmps[3]?.getD undef=Pz (w.heap.size+1):=S 1 Dz;have s4:a1.tmps[4]?.getD undef=Pz (w.heap.size+2):=S 2 Dz;have b3:Xq w2 w.heap.size 28 (YR r ra):=hO 0 _ rfl;have b4:Xq w2 (w.heap.size+1) 26 [Sv b.A p.length b.c]:=hO 1 _ rfl;have b5:Xq w2 (w.heap.size+2) 38 [Nz,V0,V0,V0,V0,V0,Nz,Nz,Nz,Nz]:=hO 2 _ rfl;have hG:=b5.lt;replace K:=Xf K hb;have zw2:=Nat.le_trans V hb.size;replace V:=Nat.le_refl w2.heap.size;clear F S hb hO s0 s1;refine Xi (wp_seq (wp_seq ?_));refine Xl [6,7,8,9,10,11,12,13] [some (.agg #[Sv b.A p.length b.c]),some (Bv (decide (p.length=0))),some (Bv (decide (p.length=0))),some ((bif decide (p.length=0) then undef else (X7 r ra:Value))),some ((bif decide (p.length=0) then undef else (.agg #[Sv b.A p.length b.c]:Value))),some ((bif decide (p.length=0) then undef else (Bv (KW r p):Value))),some ((bif decide (p.length=0) then undef else (Bv (!(KW r p)):Value))),some (Bv (decide (p.length=0) || !(KW r p)))] (X9 8) [6,7,8,9,10,11,12,13] [] (λ _ _ _=>True) ?_ (e2 ?_ ?_ (en rfl ?_ (eg ?_ (eg ?_ (eg ?_ (eg ?_ (en rfl ?_ .nil))))))) ?_
 ·exact λ _ _=>trivial
 ·intro P J D H _ _ C;simp [go_sem,H.f.g rfl s3,(b4.k0 H.k).cell];exact (C _ _ H.k rfl trivial)
 ·intro P J D H _ _ C;simp [go_sem,(gS J 6 (H.d 0 rfl rfl))];refine (ZW p b D).mono ?_;rintro x wx ⟨rfl,hb⟩;exact (C _ _ (H.k.call hb) rfl trivial)
 ·exact KC 1 rfl rfl rfl rfl
 ·intro P J D H _ _ C;refine J4 rfl rfl rfl (H.d 2 rfl rfl) (λ qg=>C _ _ H.k (Xz qg).symm trivial) λ qg=>?_;simp [go_sem,H.f.g rfl s2,(b3.k0 H.k).cell];exact (C _ _ H.k (XC qg).symm trivial)
 ·intro P J D H _ _ C;refine J4 rfl rfl rfl (H.d 2 rfl rfl) (λ qg=>C _ _ H.k (Xz qg).symm trivial) λ qg=>?_;simp [go_sem,H.f.g rfl s3,(b4.k0 H.k).cell];exact (C _ _ H.k (XC qg).symm trivial)
 ·intro P J D H _ _ C;refine J4 rfl rfl rfl (H.d 2 rfl rfl) (λ qg=>C _ _ H.k (Xz qg).symm trivial) λ qg=>?_;simp [go_sem,(show J.tmps[9]?.getD undef=_ from (H.d 3 rfl rfl).trans (XC qg)),(show J.tmps[10]?.getD undef=_ from (H.d 4 rfl rfl).trans (XC qg))];have hBi:=H.k.below0 K;refine (iKept_c r p ra b D hn hin (hs.below hBi) hnl hlp hpi (hsp.below hBi) hnb).mono ?_;rintro x wx ⟨rfl,hb⟩;exact (C _ _ (H.k.call hb) (XC qg).symm trivial)
 ·intro P J D H _ _ C;refine J4 rfl rfl rfl (H.d 2 rfl rfl) (λ qg=>C _ _ H.k (Xz qg).symm trivial) λ qg=>?_;exact KJ rfl (ev ((H.d 5 rfl rfl).trans (XC qg))) (C _ _ H.k (XC qg).symm trivial)
 ·exact oPOT 2 6 rfl rfl rfl rfl rfl rfl
 intro L a6 w7 W F O S U;replace R:=F.Z R;replace I:=F.E I;obtain ⟨s2,s3,s4⟩:=F.G3 s2 s3 s4;have s13:=gS a6 13 (S 7 _ rfl);replace b3:=b3.k0 O;replace b4:=b4.k0 O;replace b5:=b5.k0 O;replace V:=Nat.le_trans V O.size;replace K:=O.below0 K;clear F O S W U;refine Xi ?_;rcases Bool.eq_false_or_eq_true (decide (p.length=0) || !(KW r p)) with q8|q8
 ·refine wp_cond_true (ev (vb s13 q8)) ?_;refine wp_seq ?_;have M:Xd [] (λ L aa D=>XY D (w.heap.size+2) 38 [Nz,V0,V0,V0,V0,V0,Nz,Nz,Nz,Nz] (L 1) (λ _ vs=>vs=[Nz,V0,V0,V0,V0,V0,Nz,Nz,Nz,Nz])):=by
   intro L aa D w' kk vv hkk hb U;have x0:=U;exact (x0.bel hb (λ _ h=>h))
  refine Xr M [14,0,5] [some (.agg #[Nz,V0,V0,V0,V0,V0,Nz,Nz,Nz,Nz]),none,some Bf] (X9 3) [14,5] [(w.heap.size+2)] ?_ (e2 ?_ ?_ (en rfl ?_ .nil)) ?_
  ·exact λ _ h=>(⟨λ _=>b5.kp h Sz,Cz⟩)
  ·intro P J D H _ _ C;simp [go_sem];exact (C _ _ H.k rfl H.x)
  ·intro P J D H _ _ C;have x0:=H.x;have T:=x0.1 H.n;simp [go_sem,(gS J 14 (H.d 0 rfl rfl)),H.f.g rfl s4,T.cell,T.frz];exact C undef _ (H.k.store (.inr Sz) [Nz,V0,V0,V0,V0,V0,Nz,Nz,Nz,Nz] 0) trivial (XY.set T (us:=[Nz,V0,V0,V0,V0,V0,Nz,Nz,Nz,Nz]) rfl rfl)
  ·exact JL rfl rfl λ _ _ _ _ h=>h
  intro L a9 w10 W F O S U;have x0:=U;replace R:=F.Z R;replace I:=F.E I;replace s4:=F.G s4;have s5:=gS a9 5 (S 2 _ rfl);clear b5;obtain ⟨_,b5,rfl⟩:=x0.2 (W 1 Dz);replace V:=Nat.le_trans V O.size;replace K:=O.below K K.size (by simp<;>omega);clear F O S W x0 M s2 s3 s13 b3 b4;refine Xi (wp_ret (Ki ?_));refine bodyPost_ret (v:=.tuple #[.agg #[Nz,V0,V0,V0,V0,V0,Nz,Nz,Nz,Nz],Bf]) (by simp [results,Tryz.results9,go_sem,s4,b5.cell,s5]) I ?_;exact ⟨⟨⟨⟨none,0⟩,⟨none,0⟩,⟨none,0⟩⟩,⟨none,0⟩,⟨none,0⟩⟩,by rw [(wn_no q8).1,(wn_no q8).2];rfl,by rw [(wn_no q8).1];exact Yn.nil _ _,K⟩
 ·refine wp_cond_false (ev (vb s13 q8)) ?_;refine wp_skip (Xi (wp_seq ?_));have M:Xd [16,18,19] (λ L aa D=>(L 1=true->(λ D v=>∃ m1,v=X7 r m1/\Zb D w7.heap.size r m1) D (aa.tmps[16]?.getD undef))/\(L 3=true->(λ D v=>∃ m2,v=.agg #[Sv m2.A p.length m2.c]/\X1 D w7.heap.size p m2) D (aa.tmps[18]?.getD undef))/\(L 4=true->(λ D v=>∃ m3,v=.agg #[Sv m3.room.map.A r.map.length m3.room.map.c,Vi r.div,Vi r.bx,Vi r.by_,Vi r.low,Vi r.high,Sv m3.room.noise.A r.noise.length m3.room.noise.c,Sv m3.room.limits.A r.limits.length m3.room.limits.c,Sv m3.reg.A p.length m3.reg.c,Sv m3.log.A 0 m3.log.c]/\Yn D w7.heap.size (⟨r,p,[]⟩:Jv) m3) D (aa.tmps[19]?.getD undef))/\XY D (w.heap.size+2) 38 [Nz,V0,V0,V0,V0,V0,Nz,Nz,Nz,Nz] (L 5) (λ D vs=>∃ m3,vs=[Sv m3.room.map.A r.map.length m3.room.map.c,Vi r.div,Vi r.bx,Vi r.by_,Vi r.low,Vi r.high,Sv m3.room.noise.A r.noise.length m3.room.noise.c,Sv m3.room.limits.A r.limits.length m3.room.limits.c,Sv m3.reg.A p.length m3.reg.c,Sv m3.log.A 0 m3.log.c]/\Yn D w7.heap.size (⟨r,p,[]⟩:Jv) m3)/\(L 1=true->L 3=true->ApV (aa.tmps[16]?.getD undef) (aa.tmps[18]?.getD undef))):=by
   intro L aa D w' kk vv hkk hb U;obtain ⟨x0,x1,x2,x3,x4⟩:=U;exact ⟨(λ h=>by rw [Xv (hkk 16 Sz)];obtain ⟨m1',e,f1'⟩:=x0 h;exact ⟨m1',e,f1'.below hb Xy⟩),(λ h=>by rw [Xv (hkk 18 Sz)];obtain ⟨m2',e,f2'⟩:=x1 h;exact ⟨m2',e,f2'.below hb Xy⟩),(λ h=>by rw [Xv (hkk 19 Sz)];obtain ⟨m3',e,f3'⟩:=x2 h;exact ⟨m3',e,f3'.below hb Xy⟩),(x3.bel hb (λ _ ⟨m3',e,f3'⟩=>⟨m3',e,f3'.below hb Xy⟩)),(λ h1 h2=>by rw [Xv (hkk 16 Sz),Xv (hkk 18 Sz)];exact x4 h1 h2)⟩
  refine Xr M [15,16,17,18,19,0,5] [some (X7 r ra),none,some (.agg #[Sv b.A p.length b.c]),none,none,none,some Bt] ([[],[0],[],[0,1,2],[0,1,2,3],[0,1,2,3,4],[0,1,2,3,4,5]]) [15,16,17,18,19,5] [(w.heap.size+2)] ?_ (e4 ?_ ?_ ?_ ?_ (e2 ?_ ?_ (en rfl ?_ .nil))) ?_
  ·exact λ _ h=>⟨Cz,Cz,Cz,(⟨λ _=>b5.kp h Sz,Cz⟩),Cz⟩
  ·intro P J D H _ _ C;simp [go_sem,H.f.g rfl s2,(b3.kp H.k (by simp<;>omega)).cell];exact (C _ _ H.k rfl (M.q rfl H.x))
  ·intro P J D H _ _ C;obtain ⟨x0,x1,x2,x3,x4⟩:=H.x;simp [go_sem,(gS J 15 (H.d 0 rfl rfl))];have hBi:=H.k.below K K.size (by simp<;>omega);refine (iCopyRoom_c r ra D hn (hs.below hBi)).mono ?_;rintro x wx ⟨m1,rfl,f0,hb⟩;have g1:∀ q∈sas (X7 r m1),D.heap.size<=q:=λ q hq=>(room_sas f0 q hq).1;have f1:=f0.mono H.k.size;exact (C _ _ (H.k.call hb) trivial ⟨(λ _=>by rw [Xp (H.f.lt (by rw [R];decide))];exact ⟨m1,rfl,f1⟩),(λ h=>by rw [Xv Dz];obtain ⟨m2',e,f2'⟩:=x1 h;exact ⟨m2',e,f2'.below hb Xy⟩),(λ h=>by rw [Xv Dz];obtain ⟨m3',e,f3'⟩:=x2 h;exact ⟨m3',e,f3'.below hb Xy⟩),(x3.bel hb (λ _ ⟨m3',e,f3'⟩=>⟨m3',e,f3'.below hb Xy⟩)),(λ h1 h2=>absurd ((H.t 3 rfl).symm.trans h2) Dz)⟩)
  ·intro P J D H _ _ C;simp [go_sem,H.f.g rfl s3,(b4.kp H.k (by simp<;>omega)).cell];exact (C _ _ H.k rfl (M.q rfl H.x))
  ·intro P J D H _ _ C;obtain ⟨x0,x1,x2,x3,x4⟩:=H.x;simp [go_sem,(gS J 17 (H.d 2 rfl rfl))];have hBi:=H.k.below K K.size (by simp<;>omega);refine (Jh p b D hlp (hsp.below hBi)).mono ?_;rintro x wx ⟨m2,rfl,f0,hb⟩;have g2:∀ q∈sas (.agg #[Sv m2.A p.length m2.c]),D.heap.size<=q:=λ q hq=>(reg_sas f0 q hq).1;have f2:=f0.mono H.k.size;exact (C _ _ (H.k.call hb) trivial ⟨(λ h=>by rw [Xv Dz];obtain ⟨m1',e,f1'⟩:=x0 h;exact ⟨m1',e,f1'.below hb Xy⟩),(λ _=>by rw [Xp (H.f.lt (by rw [R];decide))];exact ⟨m2,rfl,f2⟩),(λ h=>by rw [Xv Dz];obtain ⟨m3',e,f3'⟩:=x2 h;exact ⟨m3',e,f3'.below hb Xy⟩),(x3.bel hb (λ _ ⟨m3',e,f3'⟩=>⟨m3',e,f3'.below hb Xy⟩)),(λ h1 h2=>by obtain ⟨m1',e',f1'⟩:=x0 h1;rw [Xp (H.f.lt (by rw [R];decide)),Xv Dz,e'];exact (apv_ge g2 (λ q hq=>((room_sas f1') q hq).2)).symm)⟩)
  ·intro P J D H _ _ C;obtain ⟨x0,x1,x2,x3,x4⟩:=H.x;obtain ⟨m1,ee1,f1⟩:=x0 (H.r 1 rfl);obtain ⟨m2,ee3,f2⟩:=x1 (H.r 3 rfl);simp [go_sem,ee1,ee3];have f3:=watch_mk0 f1 f2 (by have q:=x4 (H.r 1 rfl) (H.r 3 rfl);rw [ee1,ee3] at q;exact q);exact C _ _ H.k trivial ⟨(λ h=>by rw [Xv Dz];obtain ⟨m1',e,f1'⟩:=x0 h;exact ⟨m1',e,f1'.below bR Xy⟩),(λ h=>by rw [Xv Dz];obtain ⟨m2',e,f2'⟩:=x1 h;exact ⟨m2',e,f2'.below bR Xy⟩),(λ _=>by rw [Xp (H.f.lt (by rw [R];decide))];exact ⟨⟨m1,m2,⟨none,0⟩⟩,rfl,f3⟩),(x3.bel bR (λ _ ⟨m3',e,f3'⟩=>⟨m3',e,f3'.below bR Xy⟩)),(λ h1 h2=>by rw [Xv Dz,Xv Dz];exact x4 h1 h2)⟩
  ·intro P J D H _ _ C;obtain ⟨x0,x1,x2,x3,x4⟩:=H.x;obtain ⟨m3,ee4,f3⟩:=x2 (H.r 4 rfl);have T:=x3.1 H.n;simp [go_sem,ee4,H.f.g rfl s4,T.cell,T.frz];have f3:=f3.otherT T Dz Dz [Sv m3.room.map.A r.map.length m3.room.map.c,Vi r.div,Vi r.bx,Vi r.by_,Vi r.low,Vi r.high,Sv m3.room.noise.A r.noise.length m3.room.noise.c,Sv m3.room.limits.A r.limits.length m3.room.limits.c,Sv m3.reg.A p.length m3.reg.c,Sv m3.log.A 0 m3.log.c] 0;exact C undef _ (H.k.store (.inr Sz) [Sv m3.room.map.A r.map.length m3.room.map.c,Vi r.div,Vi r.bx,Vi r.by_,Vi r.low,Vi r.high,Sv m3.room.noise.A r.noise.length m3.room.noise.c,Sv m3.room.limits.A r.limits.length m3.room.limits.c,Sv m3.reg.A p.length m3.reg.c,Sv m3.log.A 0 m3.log.c] 0) trivial ⟨(λ h=>by obtain ⟨m1',e,f1'⟩:=x0 h;exact ⟨m1',e,f1'.otherT T Dz Dz [Sv m3.room.map.A r.map.length m3.room.map.c,Vi r.div,Vi r.bx,Vi r.by_,Vi r.low,Vi r.high,Sv m3.room.noise.A r.noise.length m3.room.noise.c,Sv m3.room.limits.A r.limits.length m3.room.limits.c,Sv m3.reg.A p.length m3.reg.c,Sv m3.log.A 0 m3.log.c] 0⟩),(λ h=>by obtain ⟨m2',e,f2'⟩:=x1 h;exact ⟨m2',e,f2'.otherT T Dz [Sv m3.room.map.A r.map.length m3.room.map.c,Vi r.div,Vi r.bx,Vi r.by_,Vi r.low,Vi r.high,Sv m3.room.noise.A r.noise.length m3.room.noise.c,Sv m3.room.limits.A r.limits.length m3.room.limits.c,Sv m3.reg.A p.length m3.reg.c,Sv m3.log.A 0 m3.log.c] 0⟩),(λ h=>by obtain ⟨m3',e,f3'⟩:=x2 h;exact ⟨m3',e,f3'.otherT T Dz Dz [Sv m3.room.map.A r.map.length m3.room.map.c,Vi r.div,Vi r.bx,Vi r.by_,Vi r.low,Vi r.high,Sv m3.room.noise.A r.noise.length m3.room.noise.c,Sv m3.room.limits.A r.limits.length m3.room.limits.c,Sv m3.reg.A p.length m3.reg.c,Sv m3.log.A 0 m3.log.c] 0⟩),(XY.set T (us:=[Sv m3.room.map.A r.map.length m3.room.map.c,Vi r.div,Vi r.bx,Vi r.by_,Vi r.low,Vi r.high,Sv m3.room.noise.A r.noise.length m3.room.noise.c,Sv m3.room.limits.A r.limits.length m3.room.limits.c,Sv m3.reg.A p.length m3.reg.c,Sv m3.log.A 0 m3.log.c]) rfl ⟨m3,rfl,f3⟩),(x4)⟩
  ·exact JL rfl rfl λ _ _ _ _=>M.q rfl
  intro L a11 w12 W F O S U;obtain ⟨x0,x1,x2,x3,x4⟩:=U;replace R:=F.Z R;replace I:=F.E I;replace s4:=F.G s4;have s5:=gS a11 5 (S 6 _ rfl);clear b5;obtain ⟨_,b5,m3,rfl,N3⟩:=x3.2 (W 5 Dz);have zw7:=V;have zw12:=O.size;replace V:=Nat.le_refl w12.heap.size;replace K:=O.below K K.size (by simp<;>omega);clear F O S W x0 x1 x2 x3 x4 M s2 s3 s13 b3 b4;refine Xi (wp_ret ?_);refine bodyPost_ret (v:=.tuple #[.agg #[Sv m3.room.map.A r.map.length m3.room.map.c,Vi r.div,Vi r.bx,Vi r.by_,Vi r.low,Vi r.high,Sv m3.room.noise.A r.noise.length m3.room.noise.c,Sv m3.room.limits.A r.limits.length m3.room.limits.c,Sv m3.reg.A p.length m3.reg.c,Sv m3.log.A 0 m3.log.c],Bt]) (by simp [results,Tryz.results9,go_sem,s4,b5.cell,s5]) I ?_;exact ⟨m3,by rw [(wn_yes q8).1,(wn_yes q8).2];rfl,by rw [(wn_yes q8).1];exact N3.mono Oz,K⟩
end Go.Proofs.YtbekjpkcicjcgaaGreat
