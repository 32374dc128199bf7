/-
 Whether a span has an input, and the inputs that are admitted at a state: of the program.
 Conditions: the slices hold at most 2^20 elements.
-/
import Derived.Test.YtkjimfapbjdafaaGreatAdmD
namespace Go.Proofs.YtkjimfapbjdafaaGreat
open Go.RowKit
theorem admi_no {r:XJ} {p:List Half} {s:XC} (h:(!(Zx r p) || !(XQ s))=true):X6 r p s=none:=by
 unfold X6
 rw [if_neg]
 intro q
 rw [q.1,q.2] at h;cases h
theorem admi_yes {r:XJ} {p:List Half} {s:XC} (h:(!(Zx r p) || !(XQ s))=false):X6 r p s=Yi r (ZA r p) s:=by
 unfold X6
 rw [if_pos ⟨not_f (or_f1 h),not_f (or_f2 h)⟩]
theorem rob_room2 {r:XJ} {p:List Half} (h:Zx r p=true):XU r=true:=by
 simp only [Zx,KB,Bool.and_eq_true] at h
 exact h.1.2.1.1
set_option maxRecDepth 100000 in
set_option maxHeartbeats 3000000 in
theorem iAdmAt_c (r:XJ) (p:List Half) (s:XC) (ra:Ye) (b:Zw) (w:World) (hn:Xp r≤1048576) (hin:Y6 r) (hs:Yh w r ra) (hnl:YV ra) (hlp:p.length≤1048576) (hpi:∀ h∈p,h.In) (hsp:Sl 3 Xj w b.A p) (hnb:b.A=none→b.c=0) (hsi:s.In) :
 Calls Tryz.prog 89 #[XY r ra,.agg #[.slice b.A p.length b.c],Zi s] w fun x w'=>x=.returned (optSpanV (X6 r p s))∧Below w.heap.size w w':=by
 refine calls_v Tryz.func89 rfl (n:=30) Tryz.ntmps89 (by simp) ?_
 intro a0 O K ha
 have s0:a0.tmps[0]?.getD undef=XY r ra:=ha 0 _ rfl;have s1:a0.tmps[1]?.getD undef=.agg #[.slice b.A p.length b.c]:=ha 1 _ rfl;have s2:a0.tmps[2]?.getD undef=Zi s:=ha 2 _ rfl;clear ha
 have P:=Below.refl w.heap.size w
 have V:=Nat.le_refl w.heap.size
 refine wp_seq ?_
 refine wp_entry [3,4,5,6,7] [.pointer (some ⟨w.heap.size,0,none⟩),.pointer (some ⟨(w.heap.size+1),0,none⟩),.pointer (some ⟨(w.heap.size+2),0,none⟩),.pointer (some ⟨(w.heap.size+3),0,none⟩),.bool false] [some (.cells (JC r ra).toArray 39),some (.cells [.slice b.A p.length b.c].toArray 37),some (.cells [.int .i64 s.x,.int .i64 s.y,.int .i64 s.d].toArray 44),some (.cells [.int .i64 0,.int .i64 0,.int .i64 0,.int .i64 0].toArray 72),none] [0,1,2,3,4] [3,4,5,6,7] [0,1,2,3,4] (by kernel_rfl) (by rw [O];decide) (ec ?_ (ec ?_ (ec ?_ (ec ?_ (ec ?_ .nil))))) ?_
 ·intro a w' D hs N Q B;simp [go_sem,D.g rfl s0];rw [hs];exact B
 ·intro a w' D hs N Q B;simp [go_sem,D.g rfl s1];rw [hs];exact B
 ·intro a w' D hs N Q B;simp [go_sem,D.g rfl s2];rw [hs];exact B
 ·intro a w' D hs N Q B;simp [go_sem];rw [hs];exact B
 ·intro a w' D hs N Q B;simp [go_sem];exact B
 intro a1 w2 D R hb hO
 replace O:=D.size.trans O;replace K:=D.defers.trans K
 have s3:a1.tmps[3]?.getD undef=.pointer (some ⟨w.heap.size,0,none⟩):=R 0 (by decide)
 have s4:a1.tmps[4]?.getD undef=.pointer (some ⟨(w.heap.size+1),0,none⟩):=R 1 (by decide)
 have s5:a1.tmps[5]?.getD undef=.pointer (some ⟨(w.heap.size+2),0,none⟩):=R 2 (by decide)
 have s6:a1.tmps[6]?.getD undef=.pointer (some ⟨(w.heap.size+3),0,none⟩):=R 3 (by decide)
 have b3:Xu w2 w.heap.size 39 (JC r ra):=hO 0 _ rfl
 have b4:Xu w2 (w.heap.size+1) 37 [.slice b.A p.length b.c]:=hO 1 _ rfl
 have b5:Xu w2 (w.heap.size+2) 44 [.int .i64 s.x,.int .i64 s.y,.int .i64 s.d]:=hO 2 _ rfl
 have b6:Xu w2 (w.heap.size+3) 72 [.int .i64 0,.int .i64 0,.int .i64 0,.int .i64 0]:=hO 3 _ rfl
 have hG:=b6.lt
 replace P:=Xb P hb;have zw2:=Nat.le_trans V hb.size;replace V:=Nat.le_refl w2.heap.size;clear D R hb hO s0 s1 s2;refine X0 ?_;refine wp_seq ?_
 have J:Yu [8,10,13,14] (fun L aa C=>(L 2=true→(fun C v=>∃ A1 c1 R1,v=.tuple #[.agg #[.slice A1 R1.length c1],.bool (Zx r p)]∧(Zx r p=true→R1=ZA r p)∧R1.length≤40∧XK 175 3 Xj C w2.heap.size (.slice A1 R1.length c1) R1) C (aa.tmps[13]?.getD undef))∧(L 3=true→(fun C v=>∃ A1 c1 R1,v=.tuple #[.agg #[.slice A1 R1.length c1],.bool (Zx r p)]∧(Zx r p=true→R1=ZA r p)∧R1.length≤40∧XK 175 3 Xj C w2.heap.size (.slice A1 R1.length c1) R1) C (aa.tmps[10]?.getD undef))∧(L 4=true→(fun C v=>∃ A1 c1 R1,v=.agg #[.slice A1 R1.length c1]∧(Zx r p=true→R1=ZA r p)∧R1.length≤40∧XK 175 3 Xj C w2.heap.size (.slice A1 R1.length c1) R1) C (aa.tmps[14]?.getD undef))∧(L 6=true→ZM w2 aa C 8 37 [.slice none 0 0] (L 7) (fun C vs=>∃ A1 c1 R1,vs=[.slice A1 R1.length c1]∧(Zx r p=true→R1=ZA r p)∧R1.length≤40∧XK 175 3 Xj C w2.heap.size (.slice A1 R1.length c1) R1))):=by
  intro L aa C w' kk vv hkk hb T
  obtain ⟨x0,x1,x2,x3⟩:=T
  exact ⟨(fun h=>by rw [Xe (hkk 13 (by simp))];obtain ⟨A1',c1',R1',e,f1'⟩:=x0 h;exact ⟨A1',c1',R1',e,And.intro f1'.1 (And.intro f1'.2.1 (f1'.2.2.below hb Xw))⟩),(fun h=>by rw [Xe (hkk 10 (by simp))];obtain ⟨A1',c1',R1',e,f1'⟩:=x1 h;exact ⟨A1',c1',R1',e,And.intro f1'.1 (And.intro f1'.2.1 (f1'.2.2.below hb Xw))⟩),(fun h=>by rw [Xe (hkk 14 (by simp))];obtain ⟨A1',c1',R1',e,f1'⟩:=x2 h;exact ⟨A1',c1',R1',e,And.intro f1'.1 (And.intro f1'.2.1 (f1'.2.2.below hb Xw))⟩),(fun h=>((x3 h).bel hb (fun _ ⟨A1',c1',R1',e,f1'⟩=>⟨A1',c1',R1',e,And.intro f1'.1 (And.intro f1'.2.1 (f1'.2.2.below hb Xw))⟩)).put (hkk 8 (by simp)) _)⟩
 refine Yn J (by kernel_rfl) [11,12,13,10,14,15,8,0,9] [some (XY r ra),some (.agg #[.slice b.A p.length b.c]),none,none,none,some (.bool (Zx r p)),none,none,some (.bool (Zx r p))] (Ka 9) [11,12,13,10,14,15,8,9] [0,1,2,3,4,5,6,7,8] [] (by kernel_rfl) (by rw [O];decide) ?_ (en rfl ?_ (en rfl ?_ (en rfl ?_ (en rfl ?_ (en rfl ?_ (en rfl ?_ (en rfl ?_ (en rfl ?_ (en rfl ?_ .nil))))))))) ?_
 ·exact fun _ h=>⟨(fun h=>by cases h),(fun h=>by cases h),(fun h=>by cases h),(fun h=>by cases h)⟩
 ·intro I F C H _ _ B
  simp [go_sem,H.f.g rfl s3,(b3.k0 H.k).cell]
  exact (B _ _ H.k rfl (J.q rfl H.x))
 ·intro I F C H _ _ B
  simp [go_sem,H.f.g rfl s4,(b4.k0 H.k).cell]
  exact (B _ _ H.k rfl (J.q rfl H.x))
 ·intro I F C H _ _ B
  obtain ⟨x0,x1,x2,x3⟩:=H.x
  simp [go_sem,(gS F 11 (H.d 0 rfl rfl)),(gS F 12 (H.d 1 rfl rfl))]
  have hBi:=H.k.below0 P
  refine (iRobustOf_c r p ra b C hn hin (hs.below hBi) hnl hlp hpi (hsp.below hBi) hnb).mono ?_
  rintro x wx ⟨_,R1,rfl,f8,f9,⟨A1,c1,rfl,f0⟩,hb⟩
  have f1:(Zx r p=true→R1=ZA r p)∧R1.length≤40∧XK 175 3 Xj wx _ (.slice A1 R1.length c1) R1:=⟨f8,f9,XK.mono (show XK 175 3 Xj wx C.heap.size (.slice A1 R1.length c1) R1 from ⟨_,_,rfl,f0⟩) H.k.size⟩
  exact (B _ _ (H.k.call hb) trivial ⟨(fun _=>by rw [Xa (H.f.lt (by rw [O];decide))];exact ⟨A1,c1,R1,rfl,f1⟩),(fun h=>by rw [Xe (by decide)];obtain ⟨A1',c1',R1',e,f1'⟩:=x1 h;exact ⟨A1',c1',R1',e,And.intro f1'.1 (And.intro f1'.2.1 (f1'.2.2.below hb Xw))⟩),(fun h=>by rw [Xe (by decide)];obtain ⟨A1',c1',R1',e,f1'⟩:=x2 h;exact ⟨A1',c1',R1',e,And.intro f1'.1 (And.intro f1'.2.1 (f1'.2.2.below hb Xw))⟩),(fun h=>((x3 h).bel hb (fun _ ⟨A1',c1',R1',e,f1'⟩=>⟨A1',c1',R1',e,And.intro f1'.1 (And.intro f1'.2.1 (f1'.2.2.below hb Xw))⟩)).put (by decide) _)⟩)
 ·intro I F C H _ _ B
  obtain ⟨x0,x1,x2,x3⟩:=H.x
  obtain ⟨A1,c1,R1,ee2,f1⟩:=x0 (H.r 2 rfl)
  exact Xs rfl (ev ee2) (B _ _ H.k trivial ⟨(fun h=>by rw [Xe (by decide)];obtain ⟨A1',c1',R1',e,f1'⟩:=x0 h;exact ⟨A1',c1',R1',e,And.intro f1'.1 (And.intro f1'.2.1 (f1'.2.2.below bR Xw))⟩),(fun _=>by rw [Xa (H.f.lt (by rw [O];decide))];exact ⟨A1,c1,R1,rfl,f1⟩),(fun h=>by rw [Xe (by decide)];obtain ⟨A1',c1',R1',e,f1'⟩:=x2 h;exact ⟨A1',c1',R1',e,And.intro f1'.1 (And.intro f1'.2.1 (f1'.2.2.below bR Xw))⟩),(fun h=>((x3 h).bel bR (fun _ ⟨A1',c1',R1',e,f1'⟩=>⟨A1',c1',R1',e,And.intro f1'.1 (And.intro f1'.2.1 (f1'.2.2.below bR Xw))⟩)).put (by decide) _)⟩)
 ·intro I F C H _ _ B
  obtain ⟨x0,x1,x2,x3⟩:=H.x
  obtain ⟨A1,c1,R1,ee3,f1⟩:=x1 (H.r 3 rfl)
  exact Zk rfl (ev ee3) rfl (B _ _ H.k trivial ⟨(fun h=>by rw [Xe (by decide)];obtain ⟨A1',c1',R1',e,f1'⟩:=x0 h;exact ⟨A1',c1',R1',e,And.intro f1'.1 (And.intro f1'.2.1 (f1'.2.2.below bR Xw))⟩),(fun h=>by rw [Xe (by decide)];obtain ⟨A1',c1',R1',e,f1'⟩:=x1 h;exact ⟨A1',c1',R1',e,And.intro f1'.1 (And.intro f1'.2.1 (f1'.2.2.below bR Xw))⟩),(fun _=>by rw [Xa (H.f.lt (by rw [O];decide))];exact ⟨A1,c1,R1,rfl,f1⟩),(fun h=>((x3 h).bel bR (fun _ ⟨A1',c1',R1',e,f1'⟩=>⟨A1',c1',R1',e,And.intro f1'.1 (And.intro f1'.2.1 (f1'.2.2.below bR Xw))⟩)).put (by decide) _)⟩)
 ·intro I F C H _ _ B
  obtain ⟨x0,x1,x2,x3⟩:=H.x
  obtain ⟨A1,c1,R1,ee3,f1⟩:=x1 (H.r 3 rfl)
  exact Zk rfl (ev ee3) rfl (B _ _ H.k rfl (J.q rfl H.x))
 ·intro I F C H _ _ B
  obtain ⟨x0,x1,x2,x3⟩:=H.x
  simp [go_sem]
  exact B _ _ (H.k.alloc _) trivial ⟨(fun h=>by rw [Xe (by decide)];obtain ⟨A1',c1',R1',e,f1'⟩:=x0 h;exact ⟨A1',c1',R1',e,And.intro f1'.1 (And.intro f1'.2.1 (f1'.2.2.below (Xf bR _) Xw))⟩),(fun h=>by rw [Xe (by decide)];obtain ⟨A1',c1',R1',e,f1'⟩:=x1 h;exact ⟨A1',c1',R1',e,And.intro f1'.1 (And.intro f1'.2.1 (f1'.2.2.below (Xf bR _) Xw))⟩),(fun h=>by rw [Xe (by decide)];obtain ⟨A1',c1',R1',e,f1'⟩:=x2 h;exact ⟨A1',c1',R1',e,And.intro f1'.1 (And.intro f1'.2.1 (f1'.2.2.below (Xf bR _) Xw))⟩),(fun _=>by rw [show Jp I 6 7=false from H.t 7 rfl];exact ZM.new (s:=8) (H.f.lt (by rw [O];decide)) H.k.size [.slice none 0 0])⟩
 ·intro I F C H _ _ B
  obtain ⟨x0,x1,x2,x3⟩:=H.x
  obtain ⟨A1,c1,R1,ee4,f1⟩:=x2 (H.r 4 rfl)
  obtain ⟨g,eg,hg,y,_⟩:=x3 (H.r 6 rfl)
  have S:=y H.n
  simp [go_sem,ee4,eg,S.cell,S.frz]
  have f1:=And.intro f1.1 (And.intro f1.2.1 (f1.2.2.otherC (f1.2.2.typ S (by decide)) [.slice A1 R1.length c1] 0))
  exact B undef _ (H.k.store (.inl hg) [.slice A1 R1.length c1] 0) trivial ⟨(fun h=>by obtain ⟨A1',c1',R1',e,f1'⟩:=x0 h;exact ⟨A1',c1',R1',e,And.intro f1'.1 (And.intro f1'.2.1 (f1'.2.2.otherC (f1'.2.2.typ S (by decide)) [.slice A1 R1.length c1] 0))⟩),(fun h=>by obtain ⟨A1',c1',R1',e,f1'⟩:=x1 h;exact ⟨A1',c1',R1',e,And.intro f1'.1 (And.intro f1'.2.1 (f1'.2.2.otherC (f1'.2.2.typ S (by decide)) [.slice A1 R1.length c1] 0))⟩),(fun h=>by obtain ⟨A1',c1',R1',e,f1'⟩:=x2 h;exact ⟨A1',c1',R1',e,And.intro f1'.1 (And.intro f1'.2.1 (f1'.2.2.otherC (f1'.2.2.typ S (by decide)) [.slice A1 R1.length c1] 0))⟩),(fun _=>ZM.set eg hg S (us:=[.slice A1 R1.length c1]) rfl ⟨A1,c1,R1,rfl,f1⟩)⟩
 ·exact fun I F C H _ _ B=>XA rfl (ev (H.d 5 rfl rfl)) (B _ _ H.k rfl (J.q rfl H.x))
 intro L a7 w8 U D M R T
 obtain ⟨x0,x1,x2,x3⟩:=T
 replace O:=D.Z O;replace K:=D.E K;replace s3:=D.G s3;replace s5:=D.G s5;replace s6:=D.G s6;have s9:=gS a7 9 (R 8 _ rfl);replace b3:=b3.k0 M;replace b5:=b5.k0 M;replace b6:=b6.k0 M
 obtain ⟨g9,s8,lg9,-,b9⟩:=x3 (U 6 (by decide))
 obtain ⟨_,b9,A1,c1,R1,rfl,N1⟩:=b9 (U 7 (by decide))
 obtain ⟨E1r,E1l,N1⟩:=N1
 have i1:∀ p,A1=some p→p.block<w8.heap.size:=fun p hp=>(N1.blk p hp).2
 have ug9:=b9.lt
 have zw8:=M.size;replace V:=Nat.le_refl w8.heap.size;replace P:=M.below0 P;clear D M R U x0 x1 x2 x3 J s4 b4;refine X0 ?_;refine wp_seq ?_;refine wp_seq ?_
 refine XO (by kernel_rfl) [16,17,18,19,20,21,22] [some (.bool (Zx r p)),some (.bool (!(Zx r p))),some (.bool (!(Zx r p))),some ((bif !(Zx r p) then undef else (Zi s:Value))),some ((bif !(Zx r p) then undef else (.bool (XQ s):Value))),some ((bif !(Zx r p) then undef else (.bool (!(XQ s)):Value))),some (.bool (!(Zx r p) || !(XQ s)))] (Ka 7) [16,17,18,19,20,21,22] [0,1,2,3,4,5,6] [] (fun _ _ _=>True) (by kernel_rfl) (by rw [O];decide) ?_ (en rfl ?_ (en rfl ?_ (en rfl ?_ (eg ?_ (eg ?_ (eg ?_ (en rfl ?_ .nil))))))) ?_
 ·exact fun _ _=>trivial
 ·exact fun I F C H _ _ B=>Xs rfl (ev (H.f.g rfl s9)) (B _ _ H.k rfl trivial)
 ·exact fun I F C H _ _ B=>Kx rfl (ev (H.d 0 rfl rfl)) (B _ _ H.k rfl trivial)
 ·exact fun I F C H _ _ B=>Xs rfl (ev (H.d 1 rfl rfl)) (B _ _ H.k rfl trivial)
 ·intro I F C H _ _ B
  refine wgf rfl rfl rfl (H.d 2 rfl rfl) (fun qg=>B _ _ H.k (bif_t qg).symm trivial) fun qg=>?_
  simp [go_sem,H.f.g rfl s5,(b5.k0 H.k).cell]
  exact (B _ _ H.k (Ke qg).symm trivial)
 ·intro I F C H _ _ B
  refine wgf rfl rfl rfl (H.d 2 rfl rfl) (fun qg=>B _ _ H.k (bif_t qg).symm trivial) fun qg=>?_
  simp [go_sem,(show F.tmps[19]?.getD undef=_ from (H.d 3 rfl rfl).trans (Ke qg))]
  refine (iSpotOk_c s C hsi).mono ?_
  rintro x wx ⟨rfl,hb⟩
  exact (B _ _ (H.k.call hb) (Ke qg).symm trivial)
 ·intro I F C H _ _ B
  refine wgf rfl rfl rfl (H.d 2 rfl rfl) (fun qg=>B _ _ H.k (bif_t qg).symm trivial) fun qg=>?_
  exact Kx rfl (ev ((H.d 4 rfl rfl).trans (Ke qg))) (B _ _ H.k (Ke qg).symm trivial)
 ·exact fun I F C H _ _ B=>wp_pick rfl (ev (H.d 2 rfl rfl)) (fun h=>vor_t h) (fun h=>(ev ((H.d 5 rfl rfl).trans (Ke h))).trans (vor_f h)) (B _ _ H.k rfl trivial)
 intro L a10 w11 U D M R T;replace O:=D.Z O;replace K:=D.E K;replace s3:=D.G s3;replace s5:=D.G s5;replace s6:=D.G s6;replace s8:=D.G s8;have s22:=gS a10 22 (R 6 _ rfl);replace b3:=b3.k0 M;replace b5:=b5.k0 M;replace b6:=b6.k0 M;replace b9:=b9.k0 M;replace N1:=N1.below M.toBelow Xw;replace V:=Nat.le_trans V M.size;replace P:=M.below0 P;clear D M R U T s9;refine X0 ?_
 rcases Bool.eq_false_or_eq_true (!(Zx r p) || !(XQ s)) with q12|q12
 ·skip
  refine wp_cond_true (ev (vb s22 q12)) ?_
  refine wp_seq ?_
  have J:Yu [] (fun L aa C=>PreX C (w.heap.size+3) 72 [.int .i64 0,.int .i64 0,.int .i64 0,.int .i64 0] (L 1) (fun _ vs=>vs=[.int .i64 0,.int .i64 0,.int .i64 0,.int .i64 0])):=by
   intro L aa C w' kk vv hkk hb T
   have x0:=T
   exact (x0.bel hb (fun _ h=>h))
  refine Yn J (by kernel_rfl) [23,0,7] [some (.agg #[.int .i64 0,.int .i64 0,.int .i64 0,.int .i64 0]),none,some (.bool false)] (Ka 3) [23,7] [0,1,2] [(w.heap.size+3)] (by kernel_rfl) (by rw [O];decide) ?_ (en rfl ?_ (en rfl ?_ (en rfl ?_ .nil))) ?_
  ·exact fun _ h=>(⟨fun _=>b6.kp h (by simp),(fun h=>by cases h)⟩)
  ·intro I F C H _ _ B
   simp [go_sem]
   exact (B _ _ H.k rfl H.x)
  ·intro I F C H _ _ B
   have x0:=H.x
   have S:=x0.1 H.n
   simp [go_sem,(gS F 23 (H.d 0 rfl rfl)),H.f.g rfl s6,S.cell,S.frz]
   exact B undef _ (H.k.store (.inr (by simp)) [.int .i64 0,.int .i64 0,.int .i64 0,.int .i64 0] 0) trivial (PreX.set S (us:=[.int .i64 0,.int .i64 0,.int .i64 0,.int .i64 0]) rfl rfl)
  ·exact fun I F C H _ _ B=>XA rfl rfl (B _ _ H.k rfl H.x)
  intro L a13 w14 U D M R T;have x0:=T;replace O:=D.Z O;replace K:=D.E K;replace s6:=D.G s6;have s7:=gS a13 7 (R 2 _ rfl);clear b6
  obtain ⟨_,b6,rfl⟩:=x0.2 (U 1 (by decide))
  replace V:=Nat.le_trans V M.size
  replace P:=M.below P P.size (by simp<;>omega)
  clear D M R U x0 J s3 s5 s8 s22 b3 b5 b9 N1 i1;refine X0 ?_
  refine wp_ret ?_
  refine th_r ?_
  refine bodyPost_ret (v:=.tuple #[.agg #[.int .i64 0,.int .i64 0,.int .i64 0,.int .i64 0],.bool false]) (by simp [results,Tryz.results89,go_sem,s6,b6.cell,s7]) K ?_
  exact ⟨by rw [admi_no q12];rfl,P⟩
 ·skip
  have hro:=not_f (or_f1 q12)
  have hso:=not_f (or_f2 q12)
  have hrm:=rob_room2 hro
  have hR9:=E1r hro
  subst hR9
  refine wp_cond_false (ev (vb s22 q12)) ?_
  refine wp_skip ?_;refine X0 ?_;refine wp_seq ?_
  have J:Yu [] (fun L aa C=>PreX C (w.heap.size+3) 72 [.int .i64 0,.int .i64 0,.int .i64 0,.int .i64 0] (L 6) (fun _ vs=>vs=[.int .i64 (((Yi r (ZA r p) s).getD XW).low.n),.int .i64 (((Yi r (ZA r p) s).getD XW).low.d),.int .i64 (((Yi r (ZA r p) s).getD XW).high.n),.int .i64 (((Yi r (ZA r p) s).getD XW).high.d)])):=by
   intro L aa C w' kk vv hkk hb T
   have x0:=T
   exact (x0.bel hb (fun _ h=>h))
  refine Yn J (by kernel_rfl) [24,25,26,27,28,29,0,7] [some (XY r ra),some (.agg #[.slice A1 ((ZA r p).length) c1]),some (Zi s),some (.tuple #[KQ ((Yi r (ZA r p) s).getD XW),.bool ((Yi r (ZA r p) s).isSome)]),some (KQ ((Yi r (ZA r p) s).getD XW)),some (.bool ((Yi r (ZA r p) s).isSome)),none,some (.bool ((Yi r (ZA r p) s).isSome))] (Ka 8) [24,25,26,27,28,29,7] [0,1,2,3,4,5,6,7] [(w.heap.size+3)] (by kernel_rfl) (by rw [O];decide) ?_ (en rfl ?_ (en rfl ?_ (en rfl ?_ (en rfl ?_ (en rfl ?_ (en rfl ?_ (en rfl ?_ (en rfl ?_ .nil)))))))) ?_
  ·exact fun _ h=>(⟨fun _=>b6.kp h (by simp),(fun h=>by cases h)⟩)
  ·intro I F C H _ _ B
   simp [go_sem,H.f.g rfl s3,(b3.kp H.k (by simp<;>omega)).cell]
   exact (B _ _ H.k rfl H.x)
  ·intro I F C H _ _ B
   simp [go_sem,H.f.g rfl s8,(b9.kp H.k (by simp<;>omega)).cell]
   exact (B _ _ H.k rfl H.x)
  ·intro I F C H _ _ B
   simp [go_sem,H.f.g rfl s5,(b5.kp H.k (by simp<;>omega)).cell]
   exact (B _ _ H.k rfl H.x)
  ·intro I F C H _ _ B
   simp [go_sem,(gS F 24 (H.d 0 rfl rfl)),(gS F 25 (H.d 1 rfl rfl)),(gS F 26 (H.d 2 rfl rfl))]
   have hBi:=H.k.below P P.size (by simp<;>omega)
   refine (iAdmit_c r (ZA r p) s ra ⟨A1,c1⟩ C hrm (reg_ok (rpR_ok r p)) (KL (rpR_ok r p)) hso (hs.below hBi) ((N1.kp H.k i1 (by omega) (by simp<;>omega)).out Xt)).mono ?_
   rintro x wx ⟨rfl,hb⟩
   exact (B _ _ (H.k.call hb) (KC _) (J I F C _ none undef (by simp) hb H.x))
  ·exact fun I F C H _ _ B=>Zk rfl (ev (H.d 3 rfl rfl)) rfl (B _ _ H.k rfl H.x)
  ·exact fun I F C H _ _ B=>Zk rfl (ev (H.d 3 rfl rfl)) rfl (B _ _ H.k rfl H.x)
  ·intro I F C H _ _ B
   have x0:=H.x
   have S:=x0.1 H.n
   simp [go_sem,(gS F 28 (H.d 4 rfl rfl)),H.f.g rfl s6,S.cell,S.frz]
   exact B undef _ (H.k.store (.inr (by simp)) [.int .i64 (((Yi r (ZA r p) s).getD XW).low.n),.int .i64 (((Yi r (ZA r p) s).getD XW).low.d),.int .i64 (((Yi r (ZA r p) s).getD XW).high.n),.int .i64 (((Yi r (ZA r p) s).getD XW).high.d)] 0) trivial (PreX.set S (us:=[.int .i64 (((Yi r (ZA r p) s).getD XW).low.n),.int .i64 (((Yi r (ZA r p) s).getD XW).low.d),.int .i64 (((Yi r (ZA r p) s).getD XW).high.n),.int .i64 (((Yi r (ZA r p) s).getD XW).high.d)]) rfl rfl)
  ·exact fun I F C H _ _ B=>XA rfl (ev (H.d 5 rfl rfl)) (B _ _ H.k rfl H.x)
  intro L a15 w16 U D M R T;have x0:=T;replace O:=D.Z O;replace K:=D.E K;replace s6:=D.G s6;have s7:=gS a15 7 (R 7 _ rfl);clear b6
  obtain ⟨_,b6,rfl⟩:=x0.2 (U 6 (by decide))
  replace V:=Nat.le_trans V M.size
  replace P:=M.below P P.size (by simp<;>omega)
  clear D M R U x0 J s3 s5 s8 s22 b3 b5 b9 N1 i1;refine X0 ?_
  refine wp_ret ?_
  refine bodyPost_ret (v:=.tuple #[KQ ((Yi r (ZA r p) s).getD XW),.bool ((Yi r (ZA r p) s).isSome)]) (by simp [results,Tryz.results89,go_sem,s6,b6.cell,s7]) K ?_
  exact ⟨by rw [admi_yes q12,KC],P⟩
end Go.Proofs.YtkjimfapbjdafaaGreat
