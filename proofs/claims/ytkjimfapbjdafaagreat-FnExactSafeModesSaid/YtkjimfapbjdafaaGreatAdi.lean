/-
 Whether a span has an input, and the inputs that are admitted at a state: of the program.
 Conditions: the slices hold at most 2^20 elements.
-/
import Derived.Test.YtkjimfapbjdafaaGreatV4
import Derived.Test.YtkjimfapbjdafaaGreatAdmD
namespace Go.Proofs.YtkjimfapbjdafaaGreat
open Go.RowKit
theorem admi_no {r:XN} {p:List Half} {s:XJ} (h:(!(Yg r p) || !(X9 s))=true):XO r p s=none:=by
 unfold XO
 rw [if_neg]
 intro q
 rw [q.1,q.2] at h;cases h
theorem admi_yes {r:XN} {p:List Half} {s:XJ} (h:(!(Yg r p) || !(X9 s))=false):XO r p s=XC r (Yj r p) s:=by
 unfold XO
 rw [if_pos ⟨Zv (KB h),Zv (JZ h)⟩]
theorem rob_room2 {r:XN} {p:List Half} (h:Yg r p=true):XU r=true:=by
 simp only [Yg,Zp,Bool.and_eq_true] at h
 exact h.1.2.1.1
set_option maxRecDepth 100000 in
set_option maxHeartbeats 3000000 in
theorem iInSpan_c (v:YX) (u:Yd) (w:World) (hv:v.In) (hu:u.In) :
 Calls Tryz.prog 124 #[Yf v,X6 u] w fun x w'=>x=.returned (.bool (Ju v u))∧Below w.heap.size w w':=by
 refine Y4 Tryz.func124 rfl (n:=25) Tryz.ntmps124 (by simp) ?_
 intro a0 O I ha
 have s0:a0.tmps[0]?.getD undef=Yf v:=ha 0 _ rfl;have s1:a0.tmps[1]?.getD undef=X6 u:=ha 1 _ rfl;clear ha
 have R:=Below.refl w.heap.size w
 have U:=Nat.le_refl w.heap.size
 refine wp_seq ?_
 refine YK [2,3,4] [.pointer (some ⟨w.heap.size,0,none⟩),.pointer (some ⟨(w.heap.size+1),0,none⟩),.bool false] [some (.cells [.int .i64 v.low.n,.int .i64 v.low.d,.int .i64 v.high.n,.int .i64 v.high.d].toArray 72),some (.cells [.int .i64 u.n,.int .i64 u.d].toArray 70),none] [0,1,2] [2,3,4] [0,1,2] (by kernel_rfl) (by rw [O];decide) (ec ?_ (ec ?_ (ec ?_ .nil))) ?_
 ·intro a w' F hs N Q B;simp [go_sem,F.g rfl s0];rw [hs];exact B
 ·intro a w' F hs N Q B;simp [go_sem,F.g rfl s1];rw [hs];exact B
 ·intro a w' F hs N Q B;simp [go_sem];exact B
 intro a1 w2 F P hb hO
 replace O:=F.size.trans O;replace I:=F.defers.trans I
 have s2:a1.tmps[2]?.getD undef=.pointer (some ⟨w.heap.size,0,none⟩):=P 0 (by decide)
 have s3:a1.tmps[3]?.getD undef=.pointer (some ⟨(w.heap.size+1),0,none⟩):=P 1 (by decide)
 have b3:Xy w2 w.heap.size 72 [.int .i64 v.low.n,.int .i64 v.low.d,.int .i64 v.high.n,.int .i64 v.high.d]:=hO 0 _ rfl
 have b4:Xy w2 (w.heap.size+1) 70 [.int .i64 u.n,.int .i64 u.d]:=hO 1 _ rfl
 have hG:=b4.lt
 replace R:=Xh R hb;have zw2:=Nat.le_trans U hb.size;replace U:=Nat.le_refl w2.heap.size;clear F P hb hO s0 s1;refine Xj (wp_seq ?_)
 refine Xe (by kernel_rfl) [5,6,7,8,9,10,11,12,13,14,15,16,17,18,19,20,21,22,23,24,4] [some (Yf v),some (.bool (Xv v)),some (.bool (Xv v)),some ((bif Xv v then (X6 u:Value) else undef)),some ((bif Xv v then (.bool (Xp u):Value) else undef)),some (.bool (Xv v&&Xp u)),some (.bool (Xv v&&Xp u)),some ((bif (Xv v&&Xp u) then (.pointer (some ⟨w.heap.size,0,none⟩):Value) else undef)),some ((bif (Xv v&&Xp u) then (.agg #[.int .i64 v.low.n,.int .i64 v.low.d]:Value) else undef)),some ((bif (Xv v&&Xp u) then (X6 u:Value) else undef)),some ((bif (Xv v&&Xp u) then (.int .i64 (Xq v.low u):Value) else undef)),some ((bif (Xv v&&Xp u) then (.bool (decide (Xq v.low u≤0)):Value) else undef)),some (.bool ((Xv v&&Xp u)&&decide (Xq v.low u≤0))),some (.bool ((Xv v&&Xp u)&&decide (Xq v.low u≤0))),some ((bif ((Xv v&&Xp u)&&decide (Xq v.low u≤0)) then (X6 u:Value) else undef)),some ((bif ((Xv v&&Xp u)&&decide (Xq v.low u≤0)) then (.pointer (some ⟨w.heap.size,2,none⟩):Value) else undef)),some ((bif ((Xv v&&Xp u)&&decide (Xq v.low u≤0)) then (.agg #[.int .i64 v.high.n,.int .i64 v.high.d]:Value) else undef)),some ((bif ((Xv v&&Xp u)&&decide (Xq v.low u≤0)) then (.int .i64 (Xq u v.high):Value) else undef)),some ((bif ((Xv v&&Xp u)&&decide (Xq v.low u≤0)) then (.bool (decide (Xq u v.high≤0)):Value) else undef)),some (.bool (((Xv v&&Xp u)&&decide (Xq v.low u≤0))&&decide (Xq u v.high≤0))),some (.bool (((Xv v&&Xp u)&&decide (Xq v.low u≤0))&&decide (Xq u v.high≤0)))] (X7 21) [5,6,7,8,9,10,11,12,13,14,15,16,17,18,19,20,21,22,23,24,4] [0,1,2,3,4,5,6,7,8,9,10,11,12,13,14,15,16,17,18,19,20] [] (fun _ _ _=>True) (by kernel_rfl) (by rw [O];decide) ?_ (en rfl ?_ (en rfl ?_ (en rfl ?_ (eg ?_ (eg ?_ (en rfl ?_ (en rfl ?_ (eg ?_ (eg ?_ (eg ?_ (eg ?_ (eg ?_ (en rfl ?_ (en rfl ?_ (eg ?_ (eg ?_ (eg ?_ (eg ?_ (eg ?_ (en rfl ?_ (en rfl ?_ .nil))))))))))))))))))))) ?_
 ·exact fun _ _=>trivial
 ·intro J D C H _ _ B
  simp [go_sem,H.f.g rfl s2,(b3.k0 H.k).cell]
  exact (B _ _ H.k rfl trivial)
 ·intro J D C H _ _ B
  simp [go_sem,(gS D 5 (H.d 0 rfl rfl))]
  refine (iSpanOk_c v C hv).mono ?_
  rintro x wx ⟨rfl,hb⟩
  exact (B _ _ (H.k.call hb) rfl trivial)
 ·exact Jj 1 rfl rfl rfl rfl
 ·intro J D C H _ _ B
  refine wgt rfl rfl rfl (H.d 2 rfl rfl) (fun qg=>B _ _ H.k (XA qg).symm trivial) fun qg=>?_
  simp [go_sem,H.f.g rfl s3,(b4.k0 H.k).cell]
  exact (B _ _ H.k (XM qg).symm trivial)
 ·intro J D C H _ _ B
  refine wgt rfl rfl rfl (H.d 2 rfl rfl) (fun qg=>B _ _ H.k (XA qg).symm trivial) fun qg=>?_
  simp [go_sem,(show D.tmps[8]?.getD undef=_ from (H.d 3 rfl rfl).trans (XM qg))]
  refine (Kb u C hu).mono ?_
  rintro x wx ⟨rfl,hb⟩
  exact (B _ _ (H.k.call hb) (XM qg).symm trivial)
 ·exact fun J D C H _ _ B=>Jd rfl (ev (H.d 2 rfl rfl)) (fun h=>(ev ((H.d 4 rfl rfl).trans (XM h))).trans (vand_t h)) (fun h=>vand_f h) (B _ _ H.k rfl trivial)
 ·exact Jj 5 rfl rfl rfl rfl
 ·intro J D C H _ _ B
  refine wgt rfl rfl rfl (H.d 6 rfl rfl) (fun qg=>B _ _ H.k (XA qg).symm trivial) fun qg=>?_
  simp [go_sem,H.f.g rfl s2]
  exact (B _ _ H.k (XM qg).symm trivial)
 ·intro J D C H _ _ B
  refine wgt rfl rfl rfl (H.d 6 rfl rfl) (fun qg=>B _ _ H.k (XA qg).symm trivial) fun qg=>?_
  simp [go_sem,(show D.tmps[12]?.getD undef=_ from (H.d 7 rfl rfl).trans (XM qg)),(b3.k0 H.k).cell]
  exact (B _ _ H.k (XM qg).symm trivial)
 ·intro J D C H _ _ B
  refine wgt rfl rfl rfl (H.d 6 rfl rfl) (fun qg=>B _ _ H.k (XA qg).symm trivial) fun qg=>?_
  simp [go_sem,H.f.g rfl s3,(b4.k0 H.k).cell]
  exact (B _ _ H.k (XM qg).symm trivial)
 ·intro J D C H _ _ B
  refine wgt rfl rfl rfl (H.d 6 rfl rfl) (fun qg=>B _ _ H.k (XA qg).symm trivial) fun qg=>?_
  simp [go_sem,(show D.tmps[13]?.getD undef=_ from (H.d 8 rfl rfl).trans (XM qg)),(show D.tmps[14]?.getD undef=_ from (H.d 9 rfl rfl).trans (XM qg))]
  refine (J2 v.low u C hv.1 hu).mono ?_
  rintro x wx ⟨rfl,hb⟩
  exact (B _ _ (H.k.call hb) (XM qg).symm trivial)
 ·intro J D C H _ _ B
  refine wgt rfl rfl rfl (H.d 6 rfl rfl) (fun qg=>B _ _ H.k (XA qg).symm trivial) fun qg=>?_
  exact Yc rfl (ev ((H.d 10 rfl rfl).trans (XM qg))) rfl rfl rfl (B _ _ H.k (XM qg).symm trivial)
 ·exact fun J D C H _ _ B=>Jd rfl (ev (H.d 6 rfl rfl)) (fun h=>(ev ((H.d 11 rfl rfl).trans (XM h))).trans (vand_t h)) (fun h=>vand_f h) (B _ _ H.k rfl trivial)
 ·exact Jj 12 rfl rfl rfl rfl
 ·intro J D C H _ _ B
  refine wgt rfl rfl rfl (H.d 13 rfl rfl) (fun qg=>B _ _ H.k (XA qg).symm trivial) fun qg=>?_
  simp [go_sem,H.f.g rfl s3,(b4.k0 H.k).cell]
  exact (B _ _ H.k (XM qg).symm trivial)
 ·intro J D C H _ _ B
  refine wgt rfl rfl rfl (H.d 13 rfl rfl) (fun qg=>B _ _ H.k (XA qg).symm trivial) fun qg=>?_
  simp [go_sem,H.f.g rfl s2]
  exact (B _ _ H.k (XM qg).symm trivial)
 ·intro J D C H _ _ B
  refine wgt rfl rfl rfl (H.d 13 rfl rfl) (fun qg=>B _ _ H.k (XA qg).symm trivial) fun qg=>?_
  simp [go_sem,(show D.tmps[20]?.getD undef=_ from (H.d 15 rfl rfl).trans (XM qg)),(b3.k0 H.k).cell]
  exact (B _ _ H.k (XM qg).symm trivial)
 ·intro J D C H _ _ B
  refine wgt rfl rfl rfl (H.d 13 rfl rfl) (fun qg=>B _ _ H.k (XA qg).symm trivial) fun qg=>?_
  simp [go_sem,(show D.tmps[19]?.getD undef=_ from (H.d 14 rfl rfl).trans (XM qg)),(show D.tmps[21]?.getD undef=_ from (H.d 16 rfl rfl).trans (XM qg))]
  refine (J2 u v.high C hu hv.2).mono ?_
  rintro x wx ⟨rfl,hb⟩
  exact (B _ _ (H.k.call hb) (XM qg).symm trivial)
 ·intro J D C H _ _ B
  refine wgt rfl rfl rfl (H.d 13 rfl rfl) (fun qg=>B _ _ H.k (XA qg).symm trivial) fun qg=>?_
  exact Yc rfl (ev ((H.d 17 rfl rfl).trans (XM qg))) rfl rfl rfl (B _ _ H.k (XM qg).symm trivial)
 ·exact fun J D C H _ _ B=>Jd rfl (ev (H.d 13 rfl rfl)) (fun h=>(ev ((H.d 18 rfl rfl).trans (XM h))).trans (vand_t h)) (fun h=>vand_f h) (B _ _ H.k rfl trivial)
 ·exact Ke 19 rfl rfl rfl rfl
 intro L a5 w6 V F K P S;replace O:=F.Z O;replace I:=F.E I;have s4:=gS a5 4 (P 20 _ rfl);replace U:=Nat.le_trans U K.size;replace R:=K.below0 R;clear F K P V S s2 s3 b3 b4;refine Xj (wp_ret ?_)
 refine bodyPost_ret (v:=.bool (((Xv v&&Xp u)&&decide (Xq v.low u≤0))&&decide (Xq u v.high≤0))) (by simp [results,Tryz.results124,go_sem,s4]) I ?_
 exact ⟨by unfold Ju;rfl,R⟩
set_option maxRecDepth 100000 in
set_option maxHeartbeats 3000000 in
theorem iAdmAt_c (r:XN) (p:List Half) (s:XJ) (ra:Yr) (b:ZR) (w:World) (hn:Xk r≤1048576) (hin:Za r) (hs:Yo w r ra) (hnl:Y5 ra) (hlp:p.length≤1048576) (hpi:∀ h∈p,h.In) (hsp:Sl 3 Xr w b.A p) (hnb:b.A=none→b.c=0) (hsi:s.In) :
 Calls Tryz.prog 89 #[XH r ra,.agg #[.slice b.A p.length b.c],Yz s] w fun x w'=>x=.returned (ZZ (XO r p s))∧Below w.heap.size w w':=by
 refine Y4 Tryz.func89 rfl (n:=30) Tryz.ntmps89 (by simp) ?_
 intro a0 O I ha
 have s0:a0.tmps[0]?.getD undef=XH r ra:=ha 0 _ rfl;have s1:a0.tmps[1]?.getD undef=.agg #[.slice b.A p.length b.c]:=ha 1 _ rfl;have s2:a0.tmps[2]?.getD undef=Yz s:=ha 2 _ rfl;clear ha
 have R:=Below.refl w.heap.size w
 have U:=Nat.le_refl w.heap.size
 refine wp_seq ?_
 refine YK [3,4,5,6,7] [.pointer (some ⟨w.heap.size,0,none⟩),.pointer (some ⟨(w.heap.size+1),0,none⟩),.pointer (some ⟨(w.heap.size+2),0,none⟩),.pointer (some ⟨(w.heap.size+3),0,none⟩),.bool false] [some (.cells (Y6 r ra).toArray 39),some (.cells [.slice b.A p.length b.c].toArray 37),some (.cells [.int .i64 s.x,.int .i64 s.y,.int .i64 s.d].toArray 44),some (.cells [.int .i64 0,.int .i64 0,.int .i64 0,.int .i64 0].toArray 72),none] [0,1,2,3,4] [3,4,5,6,7] [0,1,2,3,4] (by kernel_rfl) (by rw [O];decide) (ec ?_ (ec ?_ (ec ?_ (ec ?_ (ec ?_ .nil))))) ?_
 ·intro a w' F hs N Q B;simp [go_sem,F.g rfl s0];rw [hs];exact B
 ·intro a w' F hs N Q B;simp [go_sem,F.g rfl s1];rw [hs];exact B
 ·intro a w' F hs N Q B;simp [go_sem,F.g rfl s2];rw [hs];exact B
 ·intro a w' F hs N Q B;simp [go_sem];rw [hs];exact B
 ·intro a w' F hs N Q B;simp [go_sem];exact B
 intro a1 w2 F P hb hO
 replace O:=F.size.trans O;replace I:=F.defers.trans I
 have s3:a1.tmps[3]?.getD undef=.pointer (some ⟨w.heap.size,0,none⟩):=P 0 (by decide)
 have s4:a1.tmps[4]?.getD undef=.pointer (some ⟨(w.heap.size+1),0,none⟩):=P 1 (by decide)
 have s5:a1.tmps[5]?.getD undef=.pointer (some ⟨(w.heap.size+2),0,none⟩):=P 2 (by decide)
 have s6:a1.tmps[6]?.getD undef=.pointer (some ⟨(w.heap.size+3),0,none⟩):=P 3 (by decide)
 have b3:Xy w2 w.heap.size 39 (Y6 r ra):=hO 0 _ rfl
 have b4:Xy w2 (w.heap.size+1) 37 [.slice b.A p.length b.c]:=hO 1 _ rfl
 have b5:Xy w2 (w.heap.size+2) 44 [.int .i64 s.x,.int .i64 s.y,.int .i64 s.d]:=hO 2 _ rfl
 have b6:Xy w2 (w.heap.size+3) 72 [.int .i64 0,.int .i64 0,.int .i64 0,.int .i64 0]:=hO 3 _ rfl
 have hG:=b6.lt
 replace R:=Xh R hb;have zw2:=Nat.le_trans U hb.size;replace U:=Nat.le_refl w2.heap.size;clear F P hb hO s0 s1 s2;refine Xj (wp_seq ?_)
 have M:XI [8,10,13,14] (fun L aa C=>(L 2=true→(fun C v=>∃ A1 c1 R1,v=.tuple #[.agg #[.slice A1 R1.length c1],.bool (Yg r p)]∧(Yg r p=true→R1=Yj r p)∧R1.length≤40∧XY 175 3 Xr C w2.heap.size (.slice A1 R1.length c1) R1) C (aa.tmps[13]?.getD undef))∧(L 3=true→(fun C v=>∃ A1 c1 R1,v=.tuple #[.agg #[.slice A1 R1.length c1],.bool (Yg r p)]∧(Yg r p=true→R1=Yj r p)∧R1.length≤40∧XY 175 3 Xr C w2.heap.size (.slice A1 R1.length c1) R1) C (aa.tmps[10]?.getD undef))∧(L 4=true→(fun C v=>∃ A1 c1 R1,v=.agg #[.slice A1 R1.length c1]∧(Yg r p=true→R1=Yj r p)∧R1.length≤40∧XY 175 3 Xr C w2.heap.size (.slice A1 R1.length c1) R1) C (aa.tmps[14]?.getD undef))∧(L 6=true→Ye w2 aa C 8 37 [.slice none 0 0] (L 7) (fun C vs=>∃ A1 c1 R1,vs=[.slice A1 R1.length c1]∧(Yg r p=true→R1=Yj r p)∧R1.length≤40∧XY 175 3 Xr C w2.heap.size (.slice A1 R1.length c1) R1))):=by
  intro L aa C w' kk vv hkk hb S
  obtain ⟨x0,x1,x2,x3⟩:=S
  exact ⟨(fun h=>by rw [Xb (hkk 13 (by simp))];obtain ⟨A1',c1',R1',e,f1'⟩:=x0 h;exact ⟨A1',c1',R1',e,And.intro f1'.1 (And.intro f1'.2.1 (f1'.2.2.below hb Xu))⟩),(fun h=>by rw [Xb (hkk 10 (by simp))];obtain ⟨A1',c1',R1',e,f1'⟩:=x1 h;exact ⟨A1',c1',R1',e,And.intro f1'.1 (And.intro f1'.2.1 (f1'.2.2.below hb Xu))⟩),(fun h=>by rw [Xb (hkk 14 (by simp))];obtain ⟨A1',c1',R1',e,f1'⟩:=x2 h;exact ⟨A1',c1',R1',e,And.intro f1'.1 (And.intro f1'.2.1 (f1'.2.2.below hb Xu))⟩),(fun h=>((x3 h).bel hb (fun _ ⟨A1',c1',R1',e,f1'⟩=>⟨A1',c1',R1',e,And.intro f1'.1 (And.intro f1'.2.1 (f1'.2.2.below hb Xu))⟩)).put (hkk 8 (by simp)) _)⟩
 refine Xx M (by kernel_rfl) [11,12,13,10,14,15,8,0,9] [some (XH r ra),some (.agg #[.slice b.A p.length b.c]),none,none,none,some (.bool (Yg r p)),none,none,some (.bool (Yg r p))] (X7 9) [11,12,13,10,14,15,8,9] [0,1,2,3,4,5,6,7,8] [] (by kernel_rfl) (by rw [O];decide) ?_ (en rfl ?_ (en rfl ?_ (en rfl ?_ (en rfl ?_ (en rfl ?_ (en rfl ?_ (en rfl ?_ (en rfl ?_ (en rfl ?_ .nil))))))))) ?_
 ·exact fun _ h=>⟨(fun h=>by cases h),(fun h=>by cases h),(fun h=>by cases h),(fun h=>by cases h)⟩
 ·intro J D C H _ _ B
  simp [go_sem,H.f.g rfl s3,(b3.k0 H.k).cell]
  exact (B _ _ H.k rfl (M.q rfl H.x))
 ·intro J D C H _ _ B
  simp [go_sem,H.f.g rfl s4,(b4.k0 H.k).cell]
  exact (B _ _ H.k rfl (M.q rfl H.x))
 ·intro J D C H _ _ B
  obtain ⟨x0,x1,x2,x3⟩:=H.x
  simp [go_sem,(gS D 11 (H.d 0 rfl rfl)),(gS D 12 (H.d 1 rfl rfl))]
  have hBi:=H.k.below0 R
  refine (iRobustOf_c r p ra b C hn hin (hs.below hBi) hnl hlp hpi (hsp.below hBi) hnb).mono ?_
  rintro x wx ⟨_,R1,rfl,f8,f9,⟨A1,c1,rfl,f0⟩,hb⟩
  have f1:(Yg r p=true→R1=Yj r p)∧R1.length≤40∧XY 175 3 Xr wx _ (.slice A1 R1.length c1) R1:=⟨f8,f9,XY.mono (show XY 175 3 Xr wx C.heap.size (.slice A1 R1.length c1) R1 from ⟨_,_,rfl,f0⟩) H.k.size⟩
  exact (B _ _ (H.k.call hb) trivial ⟨(fun _=>by rw [Xc (H.f.lt (by rw [O];decide))];exact ⟨A1,c1,R1,rfl,f1⟩),(fun h=>by rw [Xb (by decide)];obtain ⟨A1',c1',R1',e,f1'⟩:=x1 h;exact ⟨A1',c1',R1',e,And.intro f1'.1 (And.intro f1'.2.1 (f1'.2.2.below hb Xu))⟩),(fun h=>by rw [Xb (by decide)];obtain ⟨A1',c1',R1',e,f1'⟩:=x2 h;exact ⟨A1',c1',R1',e,And.intro f1'.1 (And.intro f1'.2.1 (f1'.2.2.below hb Xu))⟩),(fun h=>((x3 h).bel hb (fun _ ⟨A1',c1',R1',e,f1'⟩=>⟨A1',c1',R1',e,And.intro f1'.1 (And.intro f1'.2.1 (f1'.2.2.below hb Xu))⟩)).put (by decide) _)⟩)
 ·intro J D C H _ _ B
  obtain ⟨x0,x1,x2,x3⟩:=H.x
  obtain ⟨A1,c1,R1,ee2,f1⟩:=x0 (H.r 2 rfl)
  exact XF rfl (ev ee2) (B _ _ H.k trivial ⟨(fun h=>by rw [Xb (by decide)];obtain ⟨A1',c1',R1',e,f1'⟩:=x0 h;exact ⟨A1',c1',R1',e,And.intro f1'.1 (And.intro f1'.2.1 (f1'.2.2.below bR Xu))⟩),(fun _=>by rw [Xc (H.f.lt (by rw [O];decide))];exact ⟨A1,c1,R1,rfl,f1⟩),(fun h=>by rw [Xb (by decide)];obtain ⟨A1',c1',R1',e,f1'⟩:=x2 h;exact ⟨A1',c1',R1',e,And.intro f1'.1 (And.intro f1'.2.1 (f1'.2.2.below bR Xu))⟩),(fun h=>((x3 h).bel bR (fun _ ⟨A1',c1',R1',e,f1'⟩=>⟨A1',c1',R1',e,And.intro f1'.1 (And.intro f1'.2.1 (f1'.2.2.below bR Xu))⟩)).put (by decide) _)⟩)
 ·intro J D C H _ _ B
  obtain ⟨x0,x1,x2,x3⟩:=H.x
  obtain ⟨A1,c1,R1,ee3,f1⟩:=x1 (H.r 3 rfl)
  exact ZK rfl (ev ee3) rfl (B _ _ H.k trivial ⟨(fun h=>by rw [Xb (by decide)];obtain ⟨A1',c1',R1',e,f1'⟩:=x0 h;exact ⟨A1',c1',R1',e,And.intro f1'.1 (And.intro f1'.2.1 (f1'.2.2.below bR Xu))⟩),(fun h=>by rw [Xb (by decide)];obtain ⟨A1',c1',R1',e,f1'⟩:=x1 h;exact ⟨A1',c1',R1',e,And.intro f1'.1 (And.intro f1'.2.1 (f1'.2.2.below bR Xu))⟩),(fun _=>by rw [Xc (H.f.lt (by rw [O];decide))];exact ⟨A1,c1,R1,rfl,f1⟩),(fun h=>((x3 h).bel bR (fun _ ⟨A1',c1',R1',e,f1'⟩=>⟨A1',c1',R1',e,And.intro f1'.1 (And.intro f1'.2.1 (f1'.2.2.below bR Xu))⟩)).put (by decide) _)⟩)
 ·intro J D C H _ _ B
  obtain ⟨x0,x1,x2,x3⟩:=H.x
  obtain ⟨A1,c1,R1,ee3,f1⟩:=x1 (H.r 3 rfl)
  exact ZK rfl (ev ee3) rfl (B _ _ H.k rfl (M.q rfl H.x))
 ·intro J D C H _ _ B
  obtain ⟨x0,x1,x2,x3⟩:=H.x
  simp [go_sem]
  exact B _ _ (H.k.alloc _) trivial ⟨(fun h=>by rw [Xb (by decide)];obtain ⟨A1',c1',R1',e,f1'⟩:=x0 h;exact ⟨A1',c1',R1',e,And.intro f1'.1 (And.intro f1'.2.1 (f1'.2.2.below (Xm bR _) Xu))⟩),(fun h=>by rw [Xb (by decide)];obtain ⟨A1',c1',R1',e,f1'⟩:=x1 h;exact ⟨A1',c1',R1',e,And.intro f1'.1 (And.intro f1'.2.1 (f1'.2.2.below (Xm bR _) Xu))⟩),(fun h=>by rw [Xb (by decide)];obtain ⟨A1',c1',R1',e,f1'⟩:=x2 h;exact ⟨A1',c1',R1',e,And.intro f1'.1 (And.intro f1'.2.1 (f1'.2.2.below (Xm bR _) Xu))⟩),(fun _=>by rw [show ZB J 6 7=false from H.t 7 rfl];exact Ye.new (s:=8) (H.f.lt (by rw [O];decide)) H.k.size [.slice none 0 0])⟩
 ·intro J D C H _ _ B
  obtain ⟨x0,x1,x2,x3⟩:=H.x
  obtain ⟨A1,c1,R1,ee4,f1⟩:=x2 (H.r 4 rfl)
  obtain ⟨g,eg,hg,y,_⟩:=x3 (H.r 6 rfl)
  have T:=y H.n
  simp [go_sem,ee4,eg,T.cell,T.frz]
  have f1:=And.intro f1.1 (And.intro f1.2.1 (f1.2.2.otherC (f1.2.2.typ T (by decide)) [.slice A1 R1.length c1] 0))
  exact B undef _ (H.k.store (.inl hg) [.slice A1 R1.length c1] 0) trivial ⟨(fun h=>by obtain ⟨A1',c1',R1',e,f1'⟩:=x0 h;exact ⟨A1',c1',R1',e,And.intro f1'.1 (And.intro f1'.2.1 (f1'.2.2.otherC (f1'.2.2.typ T (by decide)) [.slice A1 R1.length c1] 0))⟩),(fun h=>by obtain ⟨A1',c1',R1',e,f1'⟩:=x1 h;exact ⟨A1',c1',R1',e,And.intro f1'.1 (And.intro f1'.2.1 (f1'.2.2.otherC (f1'.2.2.typ T (by decide)) [.slice A1 R1.length c1] 0))⟩),(fun h=>by obtain ⟨A1',c1',R1',e,f1'⟩:=x2 h;exact ⟨A1',c1',R1',e,And.intro f1'.1 (And.intro f1'.2.1 (f1'.2.2.otherC (f1'.2.2.typ T (by decide)) [.slice A1 R1.length c1] 0))⟩),(fun _=>Ye.set eg hg T (us:=[.slice A1 R1.length c1]) rfl ⟨A1,c1,R1,rfl,f1⟩)⟩
 ·exact JC 5 rfl rfl rfl rfl fun _ _ _ _=>M.q rfl
 intro L a7 w8 V F K P S
 obtain ⟨x0,x1,x2,x3⟩:=S
 replace O:=F.Z O;replace I:=F.E I;replace s3:=F.G s3;replace s5:=F.G s5;replace s6:=F.G s6;have s9:=gS a7 9 (P 8 _ rfl);replace b3:=b3.k0 K;replace b5:=b5.k0 K;replace b6:=b6.k0 K
 obtain ⟨g9,s8,lg9,-,b9⟩:=x3 (V 6 (by decide))
 obtain ⟨_,b9,A1,c1,R1,rfl,N1⟩:=b9 (V 7 (by decide))
 obtain ⟨E1r,E1l,N1⟩:=N1
 have i1:∀ p,A1=some p→p.block<w8.heap.size:=fun p hp=>(N1.blk p hp).2
 have ug9:=b9.lt
 have zw8:=K.size;replace U:=Nat.le_refl w8.heap.size;replace R:=K.below0 R;clear F K P V x0 x1 x2 x3 M s4 b4;refine Xj (wp_seq (wp_seq ?_))
 refine Xe (by kernel_rfl) [16,17,18,19,20,21,22] [some (.bool (Yg r p)),some (.bool (!(Yg r p))),some (.bool (!(Yg r p))),some ((bif !(Yg r p) then undef else (Yz s:Value))),some ((bif !(Yg r p) then undef else (.bool (X9 s):Value))),some ((bif !(Yg r p) then undef else (.bool (!(X9 s)):Value))),some (.bool (!(Yg r p) || !(X9 s)))] (X7 7) [16,17,18,19,20,21,22] [0,1,2,3,4,5,6] [] (fun _ _ _=>True) (by kernel_rfl) (by rw [O];decide) ?_ (en rfl ?_ (en rfl ?_ (en rfl ?_ (eg ?_ (eg ?_ (eg ?_ (en rfl ?_ .nil))))))) ?_
 ·exact fun _ _=>trivial
 ·exact YA s9 rfl rfl rfl
 ·exact Jn 0 rfl rfl rfl rfl
 ·exact Jj 1 rfl rfl rfl rfl
 ·intro J D C H _ _ B
  refine KZ rfl rfl rfl (H.d 2 rfl rfl) (fun qg=>B _ _ H.k (XM qg).symm trivial) fun qg=>?_
  simp [go_sem,H.f.g rfl s5,(b5.k0 H.k).cell]
  exact (B _ _ H.k (XA qg).symm trivial)
 ·intro J D C H _ _ B
  refine KZ rfl rfl rfl (H.d 2 rfl rfl) (fun qg=>B _ _ H.k (XM qg).symm trivial) fun qg=>?_
  simp [go_sem,(show D.tmps[19]?.getD undef=_ from (H.d 3 rfl rfl).trans (XA qg))]
  refine (iSpotOk_c s C hsi).mono ?_
  rintro x wx ⟨rfl,hb⟩
  exact (B _ _ (H.k.call hb) (XA qg).symm trivial)
 ·intro J D C H _ _ B
  refine KZ rfl rfl rfl (H.d 2 rfl rfl) (fun qg=>B _ _ H.k (XM qg).symm trivial) fun qg=>?_
  exact Jh rfl (ev ((H.d 4 rfl rfl).trans (XA qg))) (B _ _ H.k (XA qg).symm trivial)
 ·exact oPOT 2 5 rfl rfl rfl rfl rfl rfl
 intro L a10 w11 V F K P S;replace O:=F.Z O;replace I:=F.E I;replace s3:=F.G s3;replace s5:=F.G s5;replace s6:=F.G s6;replace s8:=F.G s8;have s22:=gS a10 22 (P 6 _ rfl);replace b3:=b3.k0 K;replace b5:=b5.k0 K;replace b6:=b6.k0 K;replace b9:=b9.k0 K;replace N1:=N1.below K.toBelow Xu;replace U:=Nat.le_trans U K.size;replace R:=K.below0 R;clear F K P V S s9;refine Xj ?_
 rcases Bool.eq_false_or_eq_true (!(Yg r p) || !(X9 s)) with q12|q12
 ·refine wp_cond_true (ev (vb s22 q12)) ?_
  refine wp_seq ?_
  have M:XI [] (fun L aa C=>ZI C (w.heap.size+3) 72 [.int .i64 0,.int .i64 0,.int .i64 0,.int .i64 0] (L 1) (fun _ vs=>vs=[.int .i64 0,.int .i64 0,.int .i64 0,.int .i64 0])):=by
   intro L aa C w' kk vv hkk hb S
   have x0:=S
   exact (x0.bel hb (fun _ h=>h))
  refine Xx M (by kernel_rfl) [23,0,7] [some (.agg #[.int .i64 0,.int .i64 0,.int .i64 0,.int .i64 0]),none,some (.bool false)] (X7 3) [23,7] [0,1,2] [(w.heap.size+3)] (by kernel_rfl) (by rw [O];decide) ?_ (en rfl ?_ (en rfl ?_ (en rfl ?_ .nil))) ?_
  ·exact fun _ h=>(⟨fun _=>b6.kp h (by simp),(fun h=>by cases h)⟩)
  ·intro J D C H _ _ B
   simp [go_sem]
   exact (B _ _ H.k rfl H.x)
  ·intro J D C H _ _ B
   have x0:=H.x
   have T:=x0.1 H.n
   simp [go_sem,(gS D 23 (H.d 0 rfl rfl)),H.f.g rfl s6,T.cell,T.frz]
   exact B undef _ (H.k.store (.inr (by simp)) [.int .i64 0,.int .i64 0,.int .i64 0,.int .i64 0] 0) trivial (ZI.set T (us:=[.int .i64 0,.int .i64 0,.int .i64 0,.int .i64 0]) rfl rfl)
  ·exact oACX rfl rfl fun _ _ _ _ h=>h
  intro L a13 w14 V F K P S;have x0:=S;replace O:=F.Z O;replace I:=F.E I;replace s6:=F.G s6;have s7:=gS a13 7 (P 2 _ rfl);clear b6
  obtain ⟨_,b6,rfl⟩:=x0.2 (V 1 (by decide))
  replace U:=Nat.le_trans U K.size
  replace R:=K.below R R.size (by simp<;>omega)
  clear F K P V x0 M s3 s5 s8 s22 b3 b5 b9 N1 i1;refine Xj (wp_ret (YY ?_))
  refine bodyPost_ret (v:=.tuple #[.agg #[.int .i64 0,.int .i64 0,.int .i64 0,.int .i64 0],.bool false]) (by simp [results,Tryz.results89,go_sem,s6,b6.cell,s7]) I ?_
  exact ⟨by rw [admi_no q12];rfl,R⟩
 ·have hro:=Zv (KB q12)
  have hso:=Zv (JZ q12)
  have hrm:=rob_room2 hro
  have hR9:=E1r hro
  subst hR9
  refine wp_cond_false (ev (vb s22 q12)) ?_
  refine wp_skip (Xj (wp_seq ?_))
  have M:XI [] (fun L aa C=>ZI C (w.heap.size+3) 72 [.int .i64 0,.int .i64 0,.int .i64 0,.int .i64 0] (L 6) (fun _ vs=>vs=[.int .i64 (((XC r (Yj r p) s).getD Xd).low.n),.int .i64 (((XC r (Yj r p) s).getD Xd).low.d),.int .i64 (((XC r (Yj r p) s).getD Xd).high.n),.int .i64 (((XC r (Yj r p) s).getD Xd).high.d)])):=by
   intro L aa C w' kk vv hkk hb S
   have x0:=S
   exact (x0.bel hb (fun _ h=>h))
  refine Xx M (by kernel_rfl) [24,25,26,27,28,29,0,7] [some (XH r ra),some (.agg #[.slice A1 ((Yj r p).length) c1]),some (Yz s),some (.tuple #[Yf ((XC r (Yj r p) s).getD Xd),.bool ((XC r (Yj r p) s).isSome)]),some (Yf ((XC r (Yj r p) s).getD Xd)),some (.bool ((XC r (Yj r p) s).isSome)),none,some (.bool ((XC r (Yj r p) s).isSome))] (X7 8) [24,25,26,27,28,29,7] [0,1,2,3,4,5,6,7] [(w.heap.size+3)] (by kernel_rfl) (by rw [O];decide) ?_ (en rfl ?_ (en rfl ?_ (en rfl ?_ (en rfl ?_ (en rfl ?_ (en rfl ?_ (en rfl ?_ (en rfl ?_ .nil)))))))) ?_
  ·exact fun _ h=>(⟨fun _=>b6.kp h (by simp),(fun h=>by cases h)⟩)
  ·intro J D C H _ _ B
   simp [go_sem,H.f.g rfl s3,(b3.kp H.k (by simp<;>omega)).cell]
   exact (B _ _ H.k rfl H.x)
  ·intro J D C H _ _ B
   simp [go_sem,H.f.g rfl s8,(b9.kp H.k (by simp<;>omega)).cell]
   exact (B _ _ H.k rfl H.x)
  ·intro J D C H _ _ B
   simp [go_sem,H.f.g rfl s5,(b5.kp H.k (by simp<;>omega)).cell]
   exact (B _ _ H.k rfl H.x)
  ·intro J D C H _ _ B
   simp [go_sem,(gS D 24 (H.d 0 rfl rfl)),(gS D 25 (H.d 1 rfl rfl)),(gS D 26 (H.d 2 rfl rfl))]
   have hBi:=H.k.below R R.size (by simp<;>omega)
   refine (iAdmit_c r (Yj r p) s ra ⟨A1,c1⟩ C hrm (J8 (rpR_ok r p)) (KY (rpR_ok r p)) hso (hs.below hBi) ((N1.kp H.k i1 (by omega) (by simp<;>omega)).out Xz)).mono ?_
   rintro x wx ⟨rfl,hb⟩
   exact (B _ _ (H.k.call hb) (YQ _) (M J D C _ none undef (by simp) hb H.x))
  ·exact Jp 3 rfl rfl rfl rfl rfl fun _ _ _ _ h=>h
  ·exact Jp 3 rfl rfl rfl rfl rfl fun _ _ _ _ h=>h
  ·intro J D C H _ _ B
   have x0:=H.x
   have T:=x0.1 H.n
   simp [go_sem,(gS D 28 (H.d 4 rfl rfl)),H.f.g rfl s6,T.cell,T.frz]
   exact B undef _ (H.k.store (.inr (by simp)) [.int .i64 (((XC r (Yj r p) s).getD Xd).low.n),.int .i64 (((XC r (Yj r p) s).getD Xd).low.d),.int .i64 (((XC r (Yj r p) s).getD Xd).high.n),.int .i64 (((XC r (Yj r p) s).getD Xd).high.d)] 0) trivial (ZI.set T (us:=[.int .i64 (((XC r (Yj r p) s).getD Xd).low.n),.int .i64 (((XC r (Yj r p) s).getD Xd).low.d),.int .i64 (((XC r (Yj r p) s).getD Xd).high.n),.int .i64 (((XC r (Yj r p) s).getD Xd).high.d)]) rfl rfl)
  ·exact JC 5 rfl rfl rfl rfl fun _ _ _ _ h=>h
  intro L a15 w16 V F K P S;have x0:=S;replace O:=F.Z O;replace I:=F.E I;replace s6:=F.G s6;have s7:=gS a15 7 (P 7 _ rfl);clear b6
  obtain ⟨_,b6,rfl⟩:=x0.2 (V 6 (by decide))
  replace U:=Nat.le_trans U K.size
  replace R:=K.below R R.size (by simp<;>omega)
  clear F K P V x0 M s3 s5 s8 s22 b3 b5 b9 N1 i1;refine Xj (wp_ret ?_)
  refine bodyPost_ret (v:=.tuple #[Yf ((XC r (Yj r p) s).getD Xd),.bool ((XC r (Yj r p) s).isSome)]) (by simp [results,Tryz.results89,go_sem,s6,b6.cell,s7]) I ?_
  exact ⟨by rw [admi_yes q12,YQ],R⟩
end Go.Proofs.YtkjimfapbjdafaaGreat
