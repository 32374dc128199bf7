/-
 The meet of two regions: of the program and of the reference.
 Conditions: valid regions.
-/
import Derived.Test.YtdncnhcffbgjhaaGreatGrowS
namespace Go.Proofs.YtdncnhcffbgjhaaGreat
open Go.RowKit
def mrOk (p q:List Half):Bool:=decide (p.length+q.length≤40)
def mrR (p q:List Half):List Half:=if p.length+q.length≤40∧p.length≠0∧q.length≠0 then meetR (meetL (p++q)) else []
theorem mr_no {p q:List Half} (h:¬ p.length+q.length≤40):mrOk p q=false∧mrR p q=[]:=by
 unfold mrOk mrR
 rw [decide_eq_false h,if_neg (fun e=>h e.1)];exact ⟨rfl,rfl⟩
theorem mr_void {p q:List Half} (h:p.length+q.length≤40) (hv:p.length=0∨q.length=0):mrOk p q=true∧mrR p q=[]:=by
 unfold mrOk mrR
 rw [decide_eq_true h,if_neg (by omega)];exact ⟨rfl,rfl⟩
theorem mr_yes {p q:List Half} (hp:regionOk p=true) (hq:regionOk q=true) (h:p.length+q.length≤40) (hv:p.length≠0) (hw:q.length≠0):mrOk p q=true∧mrR p q=meetR (meetL (p++q))∧meetOk (meetL (p++q))=true∧mrR p q=meetI (meetL (p++q)):=by
 have hm:meetOk (meetL (p++q))=true:=meet_app_ok hp (fun e=>hv (by rw [e];rfl)) (reg_ok hq) h
 have e1:mrR p q=meetR (meetL (p++q)):=if_pos ⟨h,hv,hw⟩
 refine ⟨decide_eq_true h,e1,hm,e1.trans ?_⟩
 unfold meetR
 rw [if_pos hm]
theorem mrR_ok {p q:List Half} (hp:regionOk p=true) (hq:regionOk q=true):regionOk (mrR p q)=true:=by
 unfold mrR
 split
 ·exact regionOk_meetR (app_ok (reg_ok hp) (reg_ok hq))
 ·rfl
theorem concatX_c {xs ys XX:List Half} (hXX:XX=xs++ys) (A B:Option Addr) (ca cb gv:Nat) (w:World) (h0:0<xs.length) (hx:xs.length≤1048576) (hy:ys.length≤1048576) (hA:Sl 3 halfC w A xs) (hB:Sl 3 halfC w B ys) (hnil:B=none→cb=0) (HV:Has w gv [.slice A xs.length ca,.slice B ys.length cb]) :
 Calls Tryz.prog 217 #[.slice (some ⟨gv,0,none⟩) 2 2] w fun e w'=>∃ v,e=.returned v∧New 111 3 halfC w' w.heap.size v XX∧Below w.heap.size w w':=by
 subst hXX
 exact concat_c A B xs ys ca cb gv w h0 hx hy hA hB hnil HV
theorem app_hOk {p q:List Half} (hp:regionOk p=true) (hq:regionOk q=true):∀ h∈p++q,halfOk h=true:=app_ok (reg_ok hp) (reg_ok hq)
set_option maxRecDepth 100000 in
set_option maxHeartbeats 3000000 in
theorem iMeetR_c (p q:List Half) (a b:SlA) (w:World) (hp:regionOk p=true) (hq:regionOk q=true) (hsp:Sl 3 halfC w a.A p) (hsq:Sl 3 halfC w b.A q) (hna:a.A=none→a.c=0) (hnb:b.A=none→b.c=0) :
 Calls Tryz.prog 190 #[.agg #[.slice a.A p.length a.c],.agg #[.slice b.A q.length b.c]] w fun x w'=>∃ v,x=.returned (.tuple #[.agg #[v],.bool (mrOk p q)])∧New 111 3 halfC w' w.heap.size v (mrR p q)∧Below w.heap.size w w':=by
 have hlp:=reg_len hp
 have hlq:=reg_len hq
 obtain ⟨i0h,hi0h,hz0h,hz1h,hz2h⟩:=info_parts (show (Tryz.prog.info? 111).map (fun i=>(i.zero,i.size,i.bytes))=some (some (.agg #[.int .i64 0,.int .i64 0,.int .i64 0]),3,24) by kernel_rfl)
 refine calls_v Tryz.func190 rfl (n:=41) Tryz.ntmps190 (by simp) ?_
 intro a0 hz hdf ha
 have s0:a0.tmps[0]?.getD undef=.agg #[.slice a.A p.length a.c]:=ha 0 _ rfl;have s1:a0.tmps[1]?.getD undef=.agg #[.slice b.A q.length b.c]:=ha 1 _ rfl;clear ha
 have hB:=Below.refl w.heap.size w
 have hZ:=Nat.le_refl w.heap.size
 refine wp_seq ?_
 refine wp_entry [2,3,4,5] [.pointer (some ⟨w.heap.size,0,none⟩),.pointer (some ⟨(w.heap.size+1),0,none⟩),.pointer (some ⟨(w.heap.size+2),0,none⟩),.bool false] [some (.cells [.slice a.A p.length a.c].toArray 37),some (.cells [.slice b.A q.length b.c].toArray 37),some (.cells [.slice none 0 0].toArray 37),none] [0,1,2,3] [2,3,4,5] [0,1,2,3] (by kernel_rfl) (by rw [hz];decide) (ec ?_ (ec ?_ (ec ?_ (ec ?_ .nil)))) ?_
 ·intro a w' hF hs N Q hN;simp [go_sem,hF.g rfl s0];rw [hs];exact hN
 ·intro a w' hF hs N Q hN;simp [go_sem,hF.g rfl s1];rw [hs];exact hN
 ·intro a w' hF hs N Q hN;simp [go_sem];rw [hs];exact hN
 ·intro a w' hF hs N Q hN;simp [go_sem];exact hN
 intro a1 w2 hF hV hb hO
 replace hz:=hF.size.trans hz;replace hdf:=hF.defers.trans hdf
 have s2:a1.tmps[2]?.getD undef=.pointer (some ⟨w.heap.size,0,none⟩):=hV 0 (by decide)
 have s3:a1.tmps[3]?.getD undef=.pointer (some ⟨(w.heap.size+1),0,none⟩):=hV 1 (by decide)
 have s4:a1.tmps[4]?.getD undef=.pointer (some ⟨(w.heap.size+2),0,none⟩):=hV 2 (by decide)
 have b3:HasT w2 w.heap.size 37 [.slice a.A p.length a.c]:=hO 0 _ rfl
 have b4:HasT w2 (w.heap.size+1) 37 [.slice b.A q.length b.c]:=hO 1 _ rfl
 have b5:HasT w2 (w.heap.size+2) 37 [.slice none 0 0]:=hO 2 _ rfl
 have hG:=b5.lt
 replace hB:=below_tr hB hb;have zw2:=Nat.le_trans hZ hb.size;replace hZ:=Nat.le_refl w2.heap.size;clear hF hV hb hO s0 s1;refine th_n ?_;refine wp_seq ?_;refine wp_seq ?_
 refine wp_regJ (by kernel_rfl) [6,7,8,9,10,11,12,13,14,15,16,17,18,19,20,21,22,23] [some (.agg #[.slice a.A p.length a.c]),some (.bool true),some (.bool false),some (.bool false),some (.agg #[.slice b.A q.length b.c]),some (.bool true),some (.bool false),some (.bool false),some (.bool false),some (.pointer (some ⟨w.heap.size,0,none⟩)),some (.slice a.A p.length a.c),some (.int .i64 (p.length:Int)),some (.pointer (some ⟨(w.heap.size+1),0,none⟩)),some (.slice b.A q.length b.c),some (.int .i64 (q.length:Int)),some (.int .i64 ((p.length:Int)+(q.length:Int))),some (.bool (decide ((p.length:Int)+(q.length:Int) > 40))),some (.bool (decide ((p.length:Int)+(q.length:Int) > 40)))] (dlR 18) [6,7,8,9,10,11,12,13,14,15,16,17,18,19,20,21,22,23] [0,1,2,3,4,5,6,7,8,9,10,11,12,13,14,15,16,17] [] (fun _ _ _=>True) (by kernel_rfl) (by rw [hz];decide) ?_ (en rfl ?_ (en rfl ?_ (en rfl ?_ (en rfl ?_ (eg ?_ (eg ?_ (eg ?_ (en rfl ?_ (en rfl ?_ (eg ?_ (eg ?_ (eg ?_ (eg ?_ (eg ?_ (eg ?_ (eg ?_ (eg ?_ (en rfl ?_ .nil)))))))))))))))))) ?_
 ·exact fun _ _=>trivial
 ·intro Lk ak ww H _ _ hN
  simp [go_sem,H.f.g rfl s2,(b3.k0 H.k).cell]
  exact (hN _ _ H.k rfl trivial)
 ·intro Lk ak ww H _ _ hN
  simp [go_sem,(gS ak 6 (H.d 0 rfl rfl))]
  have hBi:=H.k.below0 hB
  refine (iRegionOk_c p a ww (by omega) (fun h hh=>hIn (hOk (reg_ok hp h hh))) (hsp.below hBi) hna).mono ?_
  rintro x wx ⟨rfl,hb⟩
  exact (hN _ _ (H.k.call hb) (congrArg Value.bool hp) trivial)
 ·exact fun Lk ak ww H _ _ hN=>wp_not rfl (ev (H.d 1 rfl rfl)) (hN _ _ H.k rfl trivial)
 ·exact fun Lk ak ww H _ _ hN=>wp_move rfl (ev (H.d 2 rfl rfl)) (hN _ _ H.k rfl trivial)
 ·intro Lk ak ww H _ _ hN
  refine wnt_y rfl rfl rfl (H.d 3 rfl rfl) ?_
  simp [go_sem,H.f.g rfl s3,(b4.k0 H.k).cell]
  exact (hN _ _ H.k rfl trivial)
 ·intro Lk ak ww H _ _ hN
  refine wnt_y rfl rfl rfl (H.d 3 rfl rfl) ?_
  simp [go_sem,(gS ak 10 (H.d 4 rfl rfl))]
  have hBi:=H.k.below0 hB
  refine (iRegionOk_c q b ww (by omega) (fun h hh=>hIn (hOk (reg_ok hq h hh))) (hsq.below hBi) hnb).mono ?_
  rintro x wx ⟨rfl,hb⟩
  exact (hN _ _ (H.k.call hb) (congrArg Value.bool hq) trivial)
 ·intro Lk ak ww H _ _ hN
  refine wnt_y rfl rfl rfl (H.d 3 rfl rfl) ?_
  exact wp_not rfl (ev (H.d 5 rfl rfl)) (hN _ _ H.k rfl trivial)
 ·exact fun Lk ak ww H _ _ hN=>wp_pick rfl (ev (H.d 3 rfl rfl)) (fun h=>by cases h) (fun _=>(ev (H.d 6 rfl rfl))) (hN _ _ H.k rfl trivial)
 ·exact fun Lk ak ww H _ _ hN=>wp_move rfl (ev (H.d 7 rfl rfl)) (hN _ _ H.k rfl trivial)
 ·intro Lk ak ww H _ _ hN
  refine wnt_y rfl rfl rfl (H.d 8 rfl rfl) ?_
  simp [go_sem,H.f.g rfl s2]
  exact (hN _ _ H.k rfl trivial)
 ·intro Lk ak ww H _ _ hN
  refine wnt_y rfl rfl rfl (H.d 8 rfl rfl) ?_
  simp [go_sem,(gS ak 15 (H.d 9 rfl rfl)),(b3.k0 H.k).cell]
  exact (hN _ _ H.k rfl trivial)
 ·intro Lk ak ww H _ _ hN
  refine wnt_y rfl rfl rfl (H.d 8 rfl rfl) ?_
  simp [go_sem,(gS ak 16 (H.d 10 rfl rfl))]
  exact (hN _ _ H.k rfl trivial)
 ·intro Lk ak ww H _ _ hN
  refine wnt_y rfl rfl rfl (H.d 8 rfl rfl) ?_
  simp [go_sem,H.f.g rfl s3]
  exact (hN _ _ H.k rfl trivial)
 ·intro Lk ak ww H _ _ hN
  refine wnt_y rfl rfl rfl (H.d 8 rfl rfl) ?_
  simp [go_sem,(gS ak 18 (H.d 12 rfl rfl)),(b4.k0 H.k).cell]
  exact (hN _ _ H.k rfl trivial)
 ·intro Lk ak ww H _ _ hN
  refine wnt_y rfl rfl rfl (H.d 8 rfl rfl) ?_
  simp [go_sem,(gS ak 19 (H.d 13 rfl rfl))]
  exact (hN _ _ H.k rfl trivial)
 ·intro Lk ak ww H _ _ hN
  refine wnt_y rfl rfl rfl (H.d 8 rfl rfl) ?_
  exact wp_add rfl (ev (H.d 11 rfl rfl)) (ev (H.d 14 rfl rfl)) (by omega) (hN _ _ H.k rfl trivial)
 ·intro Lk ak ww H _ _ hN
  refine wnt_y rfl rfl rfl (H.d 8 rfl rfl) ?_
  exact wp_bin rfl (ev (H.d 15 rfl rfl)) rfl rfl rfl (hN _ _ H.k rfl trivial)
 ·exact fun Lk ak ww H _ _ hN=>wp_pick rfl (ev (H.d 8 rfl rfl)) (fun h=>by cases h) (fun _=>(ev (H.d 16 rfl rfl))) (hN _ _ H.k rfl trivial)
 intro L a6 w7 hL hF hK hV hX;replace hz:=hF.Z hz;replace hdf:=hF.E hdf;replace s2:=hF.G s2;replace s3:=hF.G s3;replace s4:=hF.G s4;have s23:=gS a6 23 (hV 17 _ rfl);replace b3:=b3.k0 hK;replace b4:=b4.k0 hK;replace b5:=b5.k0 hK;replace hZ:=Nat.le_trans hZ hK.size;replace hB:=hK.below0 hB;clear hF hK hV hL hX;refine th_n ?_
 rcases Bool.eq_false_or_eq_true (decide ((p.length:Int)+(q.length:Int) > 40)) with q8|q8
 ·skip
  refine wp_cond_true (ev (vb s23 q8)) ?_
  refine wp_seq ?_
  have hXb:StaysX [] (fun L aa ww=>PreX ww (w.heap.size+2) 37 [.slice none 0 0] (L 1) (fun _ vs=>vs=[.slice none 0 0])):=by
   intro L aa ww w' kk vv hkk hb hX
   have x0:=hX
   exact (x0.bel hb (fun _ h=>h))
  refine wp_regK hXb (by kernel_rfl) [24,0,5] [some (.agg #[.slice none 0 0]),none,some (.bool false)] (dlR 3) [24,5] [0,1,2] [(w.heap.size+2)] (by kernel_rfl) (by rw [hz];decide) ?_ (en rfl ?_ (en rfl ?_ (en rfl ?_ .nil))) ?_
  ·exact fun _ h=>(⟨fun _=>b5.kp h (by simp),(fun h=>by cases h)⟩)
  ·intro Lk ak ww H _ _ hN
   simp [go_sem]
   exact (hN _ _ H.k rfl H.x)
  ·intro Lk ak ww H _ _ hN
   have x0:=H.x
   have HT:=x0.1 H.n
   simp [go_sem,(gS ak 24 (H.d 0 rfl rfl)),H.f.g rfl s4,HT.cell,HT.frz]
   exact hN undef _ (H.k.store (.inr (by simp)) [.slice none 0 0] 0) trivial (PreX.set HT (us:=[.slice none 0 0]) rfl rfl)
  ·exact fun Lk ak ww H _ _ hN=>wp_assign rfl rfl (hN _ _ H.k rfl H.x)
  intro L a9 w10 hL hF hK hV hX;have x0:=hX;replace hz:=hF.Z hz;replace hdf:=hF.E hdf;replace s4:=hF.G s4;have s5:=gS a9 5 (hV 2 _ rfl);clear b5
  obtain ⟨_,b5,rfl⟩:=x0.2 (hL 1 (by decide))
  replace hZ:=Nat.le_trans hZ hK.size
  replace hB:=hK.below hB hB.size (by simp<;>omega)
  clear hF hK hV hL x0 hXb s2 s3 s23 b3 b4;refine th_n ?_
  refine wp_ret ?_
  refine th_r ?_
  refine bodyPost_ret (v:=.tuple #[.agg #[.slice none 0 0],.bool false]) (by simp [results,Tryz.results190,go_sem,s4,b5.cell,s5]) hdf ?_
  have h0:=mr_no (p:=p) (q:=q) (by have:=of_decide_eq_true (show decide ((p.length:Int)+(q.length:Int) > 40)=true by simpa using q8);omega)
  exact ⟨_,by rw [h0.1],by rw [h0.2];exact New.nilN _ _ _ _ _,hB⟩
 ·skip
  refine wp_cond_false (ev (vb s23 q8)) ?_
  refine wp_skip ?_;refine th_n ?_;refine wp_seq ?_;refine wp_seq ?_
  refine wp_regJ (by kernel_rfl) [25,26,27,28,29,30] [some (.agg #[.slice a.A p.length a.c]),some (.bool (decide (p.length=0))),some (.bool (decide (p.length=0))),some ((bif decide (p.length=0) then undef else (.agg #[.slice b.A q.length b.c]:Value))),some ((bif decide (p.length=0) then undef else (.bool (decide (q.length=0)):Value))),some (.bool (decide (p.length=0)||decide (q.length=0)))] (dlR 6) [25,26,27,28,29,30] [0,1,2,3,4,5] [] (fun _ _ _=>True) (by kernel_rfl) (by rw [hz];decide) ?_ (en rfl ?_ (en rfl ?_ (en rfl ?_ (eg ?_ (eg ?_ (en rfl ?_ .nil)))))) ?_
  ·exact fun _ _=>trivial
  ·intro Lk ak ww H _ _ hN
   simp [go_sem,H.f.g rfl s2,(b3.k0 H.k).cell]
   exact (hN _ _ H.k rfl trivial)
  ·intro Lk ak ww H _ _ hN
   simp [go_sem,(gS ak 25 (H.d 0 rfl rfl))]
   refine (iIsVoid_c p a ww).mono ?_
   rintro x wx ⟨rfl,hb⟩
   exact (hN _ _ (H.k.call hb) rfl trivial)
  ·exact fun Lk ak ww H _ _ hN=>wp_move rfl (ev (H.d 1 rfl rfl)) (hN _ _ H.k rfl trivial)
  ·intro Lk ak ww H _ _ hN
   refine wgf rfl rfl rfl (H.d 2 rfl rfl) (fun qg=>hN _ _ H.k (bif_t qg).symm trivial) fun qg=>?_
   simp [go_sem,H.f.g rfl s3,(b4.k0 H.k).cell]
   exact (hN _ _ H.k (bif_f qg).symm trivial)
  ·intro Lk ak ww H _ _ hN
   refine wgf rfl rfl rfl (H.d 2 rfl rfl) (fun qg=>hN _ _ H.k (bif_t qg).symm trivial) fun qg=>?_
   simp [go_sem,(show ak.tmps[28]?.getD undef=_ from (H.d 3 rfl rfl).trans (bif_f qg))]
   refine (iIsVoid_c q b ww).mono ?_
   rintro x wx ⟨rfl,hb⟩
   exact (hN _ _ (H.k.call hb) (bif_f qg).symm trivial)
  ·exact fun Lk ak ww H _ _ hN=>wp_pick rfl (ev (H.d 2 rfl rfl)) (fun h=>vor_t h) (fun h=>(ev ((H.d 4 rfl rfl).trans (bif_f h))).trans (vor_f h)) (hN _ _ H.k rfl trivial)
  intro L a11 w12 hL hF hK hV hX;replace hz:=hF.Z hz;replace hdf:=hF.E hdf;replace s2:=hF.G s2;replace s3:=hF.G s3;replace s4:=hF.G s4;have s30:=gS a11 30 (hV 5 _ rfl);replace b3:=b3.k0 hK;replace b4:=b4.k0 hK;replace b5:=b5.k0 hK;replace hZ:=Nat.le_trans hZ hK.size;replace hB:=hK.below0 hB;clear hF hK hV hL hX s23;refine th_n ?_
  rcases Bool.eq_false_or_eq_true (decide (p.length=0)||decide (q.length=0)) with q13|q13
  ·skip
   refine wp_cond_true (ev (vb s30 q13)) ?_
   refine wp_seq ?_
   have hXb:StaysX [] (fun L aa ww=>PreX ww (w.heap.size+2) 37 [.slice none 0 0] (L 1) (fun _ vs=>vs=[.slice none 0 0])):=by
    intro L aa ww w' kk vv hkk hb hX
    have x0:=hX
    exact (x0.bel hb (fun _ h=>h))
   refine wp_regK hXb (by kernel_rfl) [31,0,5] [some (.agg #[.slice none 0 0]),none,some (.bool true)] (dlR 3) [31,5] [0,1,2] [(w.heap.size+2)] (by kernel_rfl) (by rw [hz];decide) ?_ (en rfl ?_ (en rfl ?_ (en rfl ?_ .nil))) ?_
   ·exact fun _ h=>(⟨fun _=>b5.kp h (by simp),(fun h=>by cases h)⟩)
   ·intro Lk ak ww H _ _ hN
    simp [go_sem]
    exact (hN _ _ H.k rfl H.x)
   ·intro Lk ak ww H _ _ hN
    have x0:=H.x
    have HT:=x0.1 H.n
    simp [go_sem,(gS ak 31 (H.d 0 rfl rfl)),H.f.g rfl s4,HT.cell,HT.frz]
    exact hN undef _ (H.k.store (.inr (by simp)) [.slice none 0 0] 0) trivial (PreX.set HT (us:=[.slice none 0 0]) rfl rfl)
   ·exact fun Lk ak ww H _ _ hN=>wp_assign rfl rfl (hN _ _ H.k rfl H.x)
   intro L a14 w15 hL hF hK hV hX;have x0:=hX;replace hz:=hF.Z hz;replace hdf:=hF.E hdf;replace s4:=hF.G s4;have s5:=gS a14 5 (hV 2 _ rfl);clear b5
   obtain ⟨_,b5,rfl⟩:=x0.2 (hL 1 (by decide))
   replace hZ:=Nat.le_trans hZ hK.size
   replace hB:=hK.below hB hB.size (by simp<;>omega)
   clear hF hK hV hL x0 hXb s2 s3 s30 b3 b4;refine th_n ?_
   refine wp_ret ?_
   refine th_r ?_
   refine bodyPost_ret (v:=.tuple #[.agg #[.slice none 0 0],.bool true]) (by simp [results,Tryz.results190,go_sem,s4,b5.cell,s5]) hdf ?_
   have h9:p.length+q.length≤40:=by have:=of_decide_eq_false (show decide ((p.length:Int)+(q.length:Int) > 40)=false by simpa using q8);omega
   have h0:=mr_void (p:=p) (q:=q) h9 (by have:=q13;simpa using this)
   exact ⟨_,by rw [h0.1],by rw [h0.2];exact New.nilN _ _ _ _ _,hB⟩
  ·skip
   have h9:p.length+q.length≤40:=by have:=of_decide_eq_false (show decide ((p.length:Int)+(q.length:Int) > 40)=false by simpa using q8);omega
   have hv9:p.length≠0∧q.length≠0:=by have:=q13;simpa using this
   obtain ⟨XX,hXX⟩:∃ z,z=p++q:=⟨_,rfl⟩
   have hmr:=mr_yes hp hq h9 hv9.1 hv9.2
   have hap:=app_hOk hp hq
   have hal:(p++q).length≤40:=by rw [List.length_append];exact h9
   rw [← hXX] at hmr hap hal
   refine wp_cond_false (ev (vb s30 q13)) ?_
   refine wp_skip ?_;refine th_n ?_;refine wp_seq ?_
   have hXb:StaysX [36,37,38,39] (fun L aa ww=>(L 4=true→(fun ww v=>∃ g1,v=.slice (some ⟨g1,0,none⟩) 2 2∧HasT ww g1 35 [.slice a.A p.length a.c,.slice b.A q.length b.c]∧w12.heap.size≤g1) ww (aa.tmps[36]?.getD undef))∧(L 5=true→(fun ww v=>∃ A2 c2,v=.slice A2 ((XX).length) c2∧New 111 3 halfC ww w12.heap.size (.slice A2 (XX).length c2) XX) ww (aa.tmps[37]?.getD undef))∧(L 6=true→(fun ww v=>∃ A3 c3,v=.tuple #[.agg #[.slice A3 ((meetR (meetL XX)).length) c3],.bool (meetOk (meetL XX))]∧New 111 3 halfC ww w12.heap.size (.slice A3 (meetR (meetL XX)).length c3) (meetR (meetL XX))) ww (aa.tmps[38]?.getD undef))∧(L 7=true→(fun ww v=>∃ A3 c3,v=.agg #[.slice A3 ((meetR (meetL XX)).length) c3]∧New 111 3 halfC ww w12.heap.size (.slice A3 (meetR (meetL XX)).length c3) (meetR (meetL XX))) ww (aa.tmps[39]?.getD undef))∧PreX ww (w.heap.size+2) 37 [.slice none 0 0] (L 9) (fun ww vs=>∃ A3 c3,vs=[.slice A3 ((meetR (meetL XX)).length) c3]∧New 111 3 halfC ww w12.heap.size (.slice A3 (meetR (meetL XX)).length c3) (meetR (meetL XX)))):=by
    intro L aa ww w' kk vv hkk hb hX
    obtain ⟨x0,x1,x2,x3,x4⟩:=hX
    exact ⟨(fun h=>by rw [put_ne' (hkk 36 (by simp))];obtain ⟨g1',e,f1'⟩:=x0 h;exact ⟨g1',e,⟨f1'.1.bel hb,f1'.2⟩⟩),(fun h=>by rw [put_ne' (hkk 37 (by simp))];obtain ⟨A2',c2',e,f2'⟩:=x1 h;exact ⟨A2',c2',e,f2'.below hb leR⟩),(fun h=>by rw [put_ne' (hkk 38 (by simp))];obtain ⟨A3',c3',e,f3'⟩:=x2 h;exact ⟨A3',c3',e,f3'.below hb leR⟩),(fun h=>by rw [put_ne' (hkk 39 (by simp))];obtain ⟨A3',c3',e,f3'⟩:=x3 h;exact ⟨A3',c3',e,f3'.below hb leR⟩),(x4.bel hb (fun _ ⟨A3',c3',e,f3'⟩=>⟨A3',c3',e,f3'.below hb leR⟩))⟩
   refine wp_regK hXb (by kernel_rfl) [32,33,34,35,36,37,38,39,40,0,5] [some (.pointer (some ⟨w.heap.size,0,none⟩)),some (.slice a.A p.length a.c),some (.pointer (some ⟨(w.heap.size+1),0,none⟩)),some (.slice b.A q.length b.c),none,none,none,none,some (.bool (meetOk (meetL XX))),none,some (.bool (meetOk (meetL XX)))] (dlR 11) [32,33,34,35,36,37,38,39,40,5] [0,1,2,3,4,5,6,7,8,9,10] [(w.heap.size+2)] (by kernel_rfl) (by rw [hz];decide) ?_ (en rfl ?_ (en rfl ?_ (en rfl ?_ (en rfl ?_ (en rfl ?_ (en rfl ?_ (en rfl ?_ (en rfl ?_ (en rfl ?_ (en rfl ?_ (en rfl ?_ .nil))))))))))) ?_
   ·exact fun _ h=>⟨(fun h=>by cases h),(fun h=>by cases h),(fun h=>by cases h),(fun h=>by cases h),(⟨fun _=>b5.kp h (by simp),(fun h=>by cases h)⟩)⟩
   ·intro Lk ak ww H _ _ hN
    simp [go_sem,H.f.g rfl s2]
    exact (hN _ _ H.k rfl (hXb.q rfl H.x))
   ·intro Lk ak ww H _ _ hN
    simp [go_sem,(gS ak 32 (H.d 0 rfl rfl)),(b3.kp H.k (by simp<;>omega)).cell]
    exact (hN _ _ H.k rfl (hXb.q rfl H.x))
   ·intro Lk ak ww H _ _ hN
    simp [go_sem,H.f.g rfl s3]
    exact (hN _ _ H.k rfl (hXb.q rfl H.x))
   ·intro Lk ak ww H _ _ hN
    simp [go_sem,(gS ak 34 (H.d 2 rfl rfl)),(b4.kp H.k (by simp<;>omega)).cell]
    exact (hN _ _ H.k rfl (hXb.q rfl H.x))
   ·intro Lk ak ww H _ _ hN
    obtain ⟨x0,x1,x2,x3,x4⟩:=H.x
    simp [go_sem,(gS ak 33 (H.d 1 rfl rfl)),(gS ak 35 (H.d 3 rfl rfl))]
    have f1:HasT (ww.alloc (.cells #[.slice a.A p.length a.c,.slice b.A q.length b.c] 35)) ww.heap.size 35 [.slice a.A p.length a.c,.slice b.A q.length b.c]∧w12.heap.size≤ww.heap.size:=⟨HasT.new _ _ _,H.k.size⟩
    exact hN _ _ (H.k.alloc _) trivial ⟨(fun _=>by rw [put_get_self (H.f.lt (by rw [hz];decide))];exact ⟨_,rfl,f1⟩),(fun h=>by rw [put_ne' (by decide)];obtain ⟨A2',c2',e,f2'⟩:=x1 h;exact ⟨A2',c2',e,f2'.below (below_al bR _) leR⟩),(fun h=>by rw [put_ne' (by decide)];obtain ⟨A3',c3',e,f3'⟩:=x2 h;exact ⟨A3',c3',e,f3'.below (below_al bR _) leR⟩),(fun h=>by rw [put_ne' (by decide)];obtain ⟨A3',c3',e,f3'⟩:=x3 h;exact ⟨A3',c3',e,f3'.below (below_al bR _) leR⟩),(x4.bel (below_al bR _) (fun _ ⟨A3',c3',e,f3'⟩=>⟨A3',c3',e,f3'.below (below_al bR _) leR⟩))⟩
   ·intro Lk ak ww H _ _ hN
    obtain ⟨x0,x1,x2,x3,x4⟩:=H.x
    obtain ⟨g1,ee4,f1⟩:=x0 (H.r 4 rfl)
    simp [go_sem,ee4]
    have hBi:=H.k.below hB hB.size (by simp<;>omega)
    refine (concatX_c hXX a.A b.A a.c b.c g1 ww (by omega) (by omega) (by omega) (hsp.below hBi) (hsq.below hBi) hnb f1.1.has).mono ?_
    rintro x wx ⟨_,rfl,⟨A2,c2,rfl,f0⟩,hb⟩
    have f2:=New.mono (show New 111 3 halfC wx ww.heap.size (.slice A2 (XX).length c2) (XX) from ⟨_,_,rfl,f0⟩) H.k.size
    exact (hN _ _ (H.k.call hb) trivial ⟨(fun h=>by rw [put_ne' (by decide)];obtain ⟨g1',e,f1'⟩:=x0 h;exact ⟨g1',e,⟨f1'.1.bel hb,f1'.2⟩⟩),(fun _=>by rw [put_get_self (H.f.lt (by rw [hz];decide))];exact ⟨A2,c2,rfl,f2⟩),(fun h=>by rw [put_ne' (by decide)];obtain ⟨A3',c3',e,f3'⟩:=x2 h;exact ⟨A3',c3',e,f3'.below hb leR⟩),(fun h=>by rw [put_ne' (by decide)];obtain ⟨A3',c3',e,f3'⟩:=x3 h;exact ⟨A3',c3',e,f3'.below hb leR⟩),(x4.bel hb (fun _ ⟨A3',c3',e,f3'⟩=>⟨A3',c3',e,f3'.below hb leR⟩))⟩)
   ·intro Lk ak ww H _ _ hN
    obtain ⟨x0,x1,x2,x3,x4⟩:=H.x
    obtain ⟨A2,c2,ee5,f2⟩:=x1 (H.r 5 rfl)
    simp [go_sem,ee5]
    refine (iMeet_c A2 XX c2 ww (by omega) hap (f2.out halfC_len) f2.nilcap).mono ?_
    rintro x wx ⟨_,rfl,⟨A3,c3,rfl,f0⟩,hb⟩
    have f3:=New.mono (show New 111 3 halfC wx ww.heap.size (.slice A3 (meetR (meetL XX)).length c3) (meetR (meetL XX)) from ⟨_,_,rfl,f0⟩) H.k.size
    exact (hN _ _ (H.k.call hb) trivial ⟨(fun h=>by rw [put_ne' (by decide)];obtain ⟨g1',e,f1'⟩:=x0 h;exact ⟨g1',e,⟨f1'.1.bel hb,f1'.2⟩⟩),(fun h=>by rw [put_ne' (by decide)];obtain ⟨A2',c2',e,f2'⟩:=x1 h;exact ⟨A2',c2',e,f2'.below hb leR⟩),(fun _=>by rw [put_get_self (H.f.lt (by rw [hz];decide))];exact ⟨A3,c3,rfl,f3⟩),(fun h=>by rw [put_ne' (by decide)];obtain ⟨A3',c3',e,f3'⟩:=x3 h;exact ⟨A3',c3',e,f3'.below hb leR⟩),(x4.bel hb (fun _ ⟨A3',c3',e,f3'⟩=>⟨A3',c3',e,f3'.below hb leR⟩))⟩)
   ·intro Lk ak ww H _ _ hN
    obtain ⟨x0,x1,x2,x3,x4⟩:=H.x
    obtain ⟨A3,c3,ee6,f3⟩:=x2 (H.r 6 rfl)
    exact wp_extract rfl (ev ee6) rfl (hN _ _ H.k trivial ⟨(fun h=>by rw [put_ne' (by decide)];obtain ⟨g1',e,f1'⟩:=x0 h;exact ⟨g1',e,⟨f1'.1.bel bR,f1'.2⟩⟩),(fun h=>by rw [put_ne' (by decide)];obtain ⟨A2',c2',e,f2'⟩:=x1 h;exact ⟨A2',c2',e,f2'.below bR leR⟩),(fun h=>by rw [put_ne' (by decide)];obtain ⟨A3',c3',e,f3'⟩:=x2 h;exact ⟨A3',c3',e,f3'.below bR leR⟩),(fun _=>by rw [put_get_self (H.f.lt (by rw [hz];decide))];exact ⟨A3,c3,rfl,f3⟩),(x4.bel bR (fun _ ⟨A3',c3',e,f3'⟩=>⟨A3',c3',e,f3'.below bR leR⟩))⟩)
   ·intro Lk ak ww H _ _ hN
    obtain ⟨x0,x1,x2,x3,x4⟩:=H.x
    obtain ⟨A3,c3,ee6,f3⟩:=x2 (H.r 6 rfl)
    exact wp_extract rfl (ev ee6) rfl (hN _ _ H.k rfl (hXb.q rfl H.x))
   ·intro Lk ak ww H _ _ hN
    obtain ⟨x0,x1,x2,x3,x4⟩:=H.x
    obtain ⟨A3,c3,ee7,f3⟩:=x3 (H.r 7 rfl)
    have HT:=x4.1 H.n
    simp [go_sem,ee7,H.f.g rfl s4,HT.cell,HT.frz]
    have f3:=f3.otherC (f3.typ HT (by decide)) [.slice A3 ((meetR (meetL XX)).length) c3] 0
    exact hN undef _ (H.k.store (.inr (by simp)) [.slice A3 ((meetR (meetL XX)).length) c3] 0) trivial ⟨(fun h=>by obtain ⟨g1',e,f1'⟩:=x0 h;exact ⟨g1',e,⟨f1'.1.other (f1'.1.ne HT (by decide)) [.slice A3 ((meetR (meetL XX)).length) c3] 0,f1'.2⟩⟩),(fun h=>by obtain ⟨A2',c2',e,f2'⟩:=x1 h;exact ⟨A2',c2',e,f2'.otherC (f2'.typ HT (by decide)) [.slice A3 ((meetR (meetL XX)).length) c3] 0⟩),(fun h=>by obtain ⟨A3',c3',e,f3'⟩:=x2 h;exact ⟨A3',c3',e,f3'.otherC (f3'.typ HT (by decide)) [.slice A3 ((meetR (meetL XX)).length) c3] 0⟩),(fun h=>by obtain ⟨A3',c3',e,f3'⟩:=x3 h;exact ⟨A3',c3',e,f3'.otherC (f3'.typ HT (by decide)) [.slice A3 ((meetR (meetL XX)).length) c3] 0⟩),(PreX.set HT (us:=[.slice A3 ((meetR (meetL XX)).length) c3]) rfl ⟨A3,c3,rfl,f3⟩)⟩
   ·exact fun Lk ak ww H _ _ hN=>wp_assign rfl (ev (H.d 8 rfl rfl)) (hN _ _ H.k rfl (hXb.q rfl H.x))
   intro L a16 w17 hL hF hK hV hX
   obtain ⟨x0,x1,x2,x3,x4⟩:=hX
   replace hz:=hF.Z hz;replace hdf:=hF.E hdf;replace s4:=hF.G s4;have s5:=gS a16 5 (hV 10 _ rfl);clear b5
   obtain ⟨_,b5,A3,c3,rfl,N3⟩:=x4.2 (hL 9 (by decide))
   have zw12:=hZ;have zw17:=hK.size;replace hZ:=Nat.le_refl w17.heap.size
   replace hB:=hK.below hB hB.size (by simp<;>omega)
   clear hF hK hV hL x0 x1 x2 x3 x4 hXb s2 s3 s30 b3 b4;refine th_n ?_
   refine wp_ret ?_
   refine bodyPost_ret (v:=.tuple #[.agg #[.slice A3 ((meetR (meetL XX)).length) c3],.bool (meetOk (meetL XX))]) (by simp [results,Tryz.results190,go_sem,s4,b5.cell,s5]) hdf ?_
   exact ⟨_,by rw [hmr.1];rw [hmr.2.2.1],by rw [hmr.2.1];exact N3.mono (by omega),hB⟩
set_option maxRecDepth 100000 in
set_option maxHeartbeats 3000000 in
theorem sMeetL_c (p q:List Half) (a b:SlA) (w:World) (hp:regionOk p=true) (hq:regionOk q=true) (hsp:Sl 3 halfC w a.A p) (hsq:Sl 3 halfC w b.A q) (hna:a.A=none→a.c=0) (hnb:b.A=none→b.c=0) (h9:p.length+q.length≤40) :
 Calls Tryz.prog 188 #[.agg #[.slice a.A p.length a.c],.agg #[.slice b.A q.length b.c]] w fun x w'=>∃ v,x=.returned (.agg #[v])∧New 111 3 halfC w' w.heap.size v (mrR p q)∧Below w.heap.size w w':=by
 have hlp:=reg_len hp
 have hlq:=reg_len hq
 obtain ⟨i0h,hi0h,hz0h,hz1h,hz2h⟩:=info_parts (show (Tryz.prog.info? 111).map (fun i=>(i.zero,i.size,i.bytes))=some (some (.agg #[.int .i64 0,.int .i64 0,.int .i64 0]),3,24) by kernel_rfl)
 refine calls_v Tryz.func188 rfl (n:=20) Tryz.ntmps188 (by simp) ?_
 intro a0 hz hdf ha
 have s0:a0.tmps[0]?.getD undef=.agg #[.slice a.A p.length a.c]:=ha 0 _ rfl;have s1:a0.tmps[1]?.getD undef=.agg #[.slice b.A q.length b.c]:=ha 1 _ rfl;clear ha
 have hB:=Below.refl w.heap.size w
 have hZ:=Nat.le_refl w.heap.size
 refine wp_seq ?_
 refine wp_entry [2,3,4] [.pointer (some ⟨w.heap.size,0,none⟩),.pointer (some ⟨(w.heap.size+1),0,none⟩),.pointer (some ⟨(w.heap.size+2),0,none⟩)] [some (.cells [.slice a.A p.length a.c].toArray 37),some (.cells [.slice b.A q.length b.c].toArray 37),some (.cells [.slice none 0 0].toArray 37)] [0,1,2] [2,3,4] [0,1,2] (by kernel_rfl) (by rw [hz];decide) (ec ?_ (ec ?_ (ec ?_ .nil))) ?_
 ·intro a w' hF hs N Q hN;simp [go_sem,hF.g rfl s0];rw [hs];exact hN
 ·intro a w' hF hs N Q hN;simp [go_sem,hF.g rfl s1];rw [hs];exact hN
 ·intro a w' hF hs N Q hN;simp [go_sem];rw [hs];exact hN
 intro a1 w2 hF hV hb hO
 replace hz:=hF.size.trans hz;replace hdf:=hF.defers.trans hdf
 have s2:a1.tmps[2]?.getD undef=.pointer (some ⟨w.heap.size,0,none⟩):=hV 0 (by decide)
 have s3:a1.tmps[3]?.getD undef=.pointer (some ⟨(w.heap.size+1),0,none⟩):=hV 1 (by decide)
 have s4:a1.tmps[4]?.getD undef=.pointer (some ⟨(w.heap.size+2),0,none⟩):=hV 2 (by decide)
 have b3:HasT w2 w.heap.size 37 [.slice a.A p.length a.c]:=hO 0 _ rfl
 have b4:HasT w2 (w.heap.size+1) 37 [.slice b.A q.length b.c]:=hO 1 _ rfl
 have b5:HasT w2 (w.heap.size+2) 37 [.slice none 0 0]:=hO 2 _ rfl
 have hG:=b5.lt
 replace hB:=below_tr hB hb;have zw2:=Nat.le_trans hZ hb.size;replace hZ:=Nat.le_refl w2.heap.size;clear hF hV hb hO s0 s1;refine th_n ?_;refine wp_seq ?_;refine wp_seq ?_
 refine wp_regJ (by kernel_rfl) [5,6,7,8,9,10] [some (.agg #[.slice a.A p.length a.c]),some (.bool (decide (p.length=0))),some (.bool (decide (p.length=0))),some ((bif decide (p.length=0) then undef else (.agg #[.slice b.A q.length b.c]:Value))),some ((bif decide (p.length=0) then undef else (.bool (decide (q.length=0)):Value))),some (.bool (decide (p.length=0)||decide (q.length=0)))] (dlR 6) [5,6,7,8,9,10] [0,1,2,3,4,5] [] (fun _ _ _=>True) (by kernel_rfl) (by rw [hz];decide) ?_ (en rfl ?_ (en rfl ?_ (en rfl ?_ (eg ?_ (eg ?_ (en rfl ?_ .nil)))))) ?_
 ·exact fun _ _=>trivial
 ·intro Lk ak ww H _ _ hN
  simp [go_sem,H.f.g rfl s2,(b3.k0 H.k).cell]
  exact (hN _ _ H.k rfl trivial)
 ·intro Lk ak ww H _ _ hN
  simp [go_sem,(gS ak 5 (H.d 0 rfl rfl))]
  refine (sIsVoid_c p a ww).mono ?_
  rintro x wx ⟨rfl,hb⟩
  exact (hN _ _ (H.k.call hb) rfl trivial)
 ·exact fun Lk ak ww H _ _ hN=>wp_move rfl (ev (H.d 1 rfl rfl)) (hN _ _ H.k rfl trivial)
 ·intro Lk ak ww H _ _ hN
  refine wgf rfl rfl rfl (H.d 2 rfl rfl) (fun qg=>hN _ _ H.k (bif_t qg).symm trivial) fun qg=>?_
  simp [go_sem,H.f.g rfl s3,(b4.k0 H.k).cell]
  exact (hN _ _ H.k (bif_f qg).symm trivial)
 ·intro Lk ak ww H _ _ hN
  refine wgf rfl rfl rfl (H.d 2 rfl rfl) (fun qg=>hN _ _ H.k (bif_t qg).symm trivial) fun qg=>?_
  simp [go_sem,(show ak.tmps[8]?.getD undef=_ from (H.d 3 rfl rfl).trans (bif_f qg))]
  refine (sIsVoid_c q b ww).mono ?_
  rintro x wx ⟨rfl,hb⟩
  exact (hN _ _ (H.k.call hb) (bif_f qg).symm trivial)
 ·exact fun Lk ak ww H _ _ hN=>wp_pick rfl (ev (H.d 2 rfl rfl)) (fun h=>vor_t h) (fun h=>(ev ((H.d 4 rfl rfl).trans (bif_f h))).trans (vor_f h)) (hN _ _ H.k rfl trivial)
 intro L a6 w7 hL hF hK hV hX;replace hz:=hF.Z hz;replace hdf:=hF.E hdf;replace s2:=hF.G s2;replace s3:=hF.G s3;replace s4:=hF.G s4;have s10:=gS a6 10 (hV 5 _ rfl);replace b3:=b3.k0 hK;replace b4:=b4.k0 hK;replace b5:=b5.k0 hK;replace hZ:=Nat.le_trans hZ hK.size;replace hB:=hK.below0 hB;clear hF hK hV hL hX;refine th_n ?_
 rcases Bool.eq_false_or_eq_true (decide (p.length=0)||decide (q.length=0)) with q8|q8
 ·skip
  refine wp_cond_true (ev (vb s10 q8)) ?_
  refine wp_seq ?_
  refine wp_regJ (by kernel_rfl) [11,0] [some (.agg #[.slice none 0 0]),none] (dlR 2) [11] [0,1] [(w.heap.size+2)] (fun L aa ww=>PreX ww (w.heap.size+2) 37 [.slice none 0 0] (L 1) (fun _ vs=>vs=[.slice none 0 0])) (by kernel_rfl) (by rw [hz];decide) ?_ (en rfl ?_ (en rfl ?_ .nil)) ?_
  ·exact fun _ h=>(⟨fun _=>b5.kp h (by simp),(fun h=>by cases h)⟩)
  ·intro Lk ak ww H _ _ hN
   simp [go_sem]
   exact (hN _ _ H.k rfl (H.x.bel bR (fun _ h=>h)))
  ·intro Lk ak ww H _ _ hN
   have x0:=H.x
   have HT:=x0.1 H.n
   simp [go_sem,(gS ak 11 (H.d 0 rfl rfl)),H.f.g rfl s4,HT.cell,HT.frz]
   exact hN undef _ (H.k.store (.inr (by simp)) [.slice none 0 0] 0) trivial (PreX.set HT (us:=[.slice none 0 0]) rfl rfl)
  intro L a9 w10 hL hF hK hV hX;have x0:=hX;replace hz:=hF.Z hz;replace hdf:=hF.E hdf;replace s4:=hF.G s4;clear b5
  obtain ⟨_,b5,rfl⟩:=x0.2 (hL 1 (by decide))
  replace hZ:=Nat.le_trans hZ hK.size
  replace hB:=hK.below hB hB.size (by simp<;>omega)
  clear hF hK hV hL x0 s2 s3 s10 b3 b4;refine th_n ?_
  refine wp_ret ?_
  refine th_r ?_
  refine bodyPost_ret (v:=.agg #[.slice none 0 0]) (by simp [results,Tryz.results188,go_sem,s4,b5.cell]) hdf ?_
  have h0:=mr_void (p:=p) (q:=q) h9 (by have:=q8;simpa using this)
  exact ⟨_,rfl,by rw [h0.2];exact New.nilN _ _ _ _ _,hB⟩
 ·skip
  have hv9:p.length≠0∧q.length≠0:=by have:=q8;simpa using this
  obtain ⟨XX,hXX⟩:∃ z,z=p++q:=⟨_,rfl⟩
  have hmr:=mr_yes hp hq h9 hv9.1 hv9.2
  have hap:=app_hOk hp hq
  have hal:(p++q).length≤40:=by rw [List.length_append];exact h9
  rw [← hXX] at hmr hap hal
  refine wp_cond_false (ev (vb s10 q8)) ?_
  refine wp_skip ?_;refine th_n ?_;refine wp_seq ?_
  have hXb:StaysX [12,15,18,19] (fun L aa ww=>(L 0=true→L 3=false→(fun ww v=>∃ e1,v=.slice (some ⟨e1,0,none⟩) 0 0∧New 111 3 halfC ww w7.heap.size (.slice (some ⟨e1,0,none⟩) 0 0) []) ww (aa.tmps[12]?.getD undef))∧(L 3=true→L 6=false→(fun ww v=>∃ A2 c2,v=.slice A2 p.length c2∧New 111 3 halfC ww w7.heap.size (.slice A2 p.length c2) p) ww (aa.tmps[15]?.getD undef))∧(L 6=true→(fun ww v=>∃ A3 c3,v=.slice A3 XX.length c3∧New 111 3 halfC ww w7.heap.size (.slice A3 XX.length c3) XX) ww (aa.tmps[18]?.getD undef))∧(L 7=true→(fun ww v=>∃ A4 c4,v=.agg #[.slice A4 ((meetI (meetL XX)).length) c4]∧New 111 3 halfC ww w7.heap.size (.slice A4 (meetI (meetL XX)).length c4) (meetI (meetL XX))) ww (aa.tmps[19]?.getD undef))∧PreX ww (w.heap.size+2) 37 [.slice none 0 0] (L 8) (fun ww vs=>∃ A4 c4,vs=[.slice A4 ((meetI (meetL XX)).length) c4]∧New 111 3 halfC ww w7.heap.size (.slice A4 (meetI (meetL XX)).length c4) (meetI (meetL XX)))):=by
   intro L aa ww w' kk vv hkk hb hX
   obtain ⟨x0,x1,x2,x3,x4⟩:=hX
   exact ⟨(fun h h2=>by rw [put_ne' (hkk 12 (by simp))];obtain ⟨e1',e,f1'⟩:=x0 h h2;exact ⟨e1',e,f1'.below hb leR⟩),(fun h h2=>by rw [put_ne' (hkk 15 (by simp))];obtain ⟨A2',c2',e,f2'⟩:=x1 h h2;exact ⟨A2',c2',e,f2'.below hb leR⟩),(fun h=>by rw [put_ne' (hkk 18 (by simp))];obtain ⟨A3',c3',e,f3'⟩:=x2 h;exact ⟨A3',c3',e,f3'.below hb leR⟩),(fun h=>by rw [put_ne' (hkk 19 (by simp))];obtain ⟨A4',c4',e,f4'⟩:=x3 h;exact ⟨A4',c4',e,f4'.below hb leR⟩),(x4.bel hb (fun _ ⟨A4',c4',e,f4'⟩=>⟨A4',c4',e,f4'.below hb leR⟩))⟩
  refine wp_regK hXb (by kernel_rfl) [12,13,14,15,16,17,18,19,0] [none,some (.pointer (some ⟨w.heap.size,0,none⟩)),some (.slice a.A p.length a.c),none,some (.pointer (some ⟨(w.heap.size+1),0,none⟩)),some (.slice b.A q.length b.c),none,none,none] ([[],[],[1],[0,1,2],[],[4],[0,1,2,3,4,5],[0,1,2,3,4,5,6],[0,1,2,3,4,5,6,7]]) [12,13,14,15,16,17,18,19] [0,1,2,3,4,5,6,7,8] [(w.heap.size+2)] (by kernel_rfl) (by rw [hz];decide) ?_ (en rfl ?_ (en rfl ?_ (en rfl ?_ (en rfl ?_ (en rfl ?_ (en rfl ?_ (en rfl ?_ (en rfl ?_ (en rfl ?_ .nil))))))))) ?_
  ·exact fun _ h=>⟨(fun h=>by cases h),(fun h=>by cases h),(fun h=>by cases h),(fun h=>by cases h),(⟨fun _=>b5.kp h (by simp),(fun h=>by cases h)⟩)⟩
  ·intro Lk ak ww H _ _ hN
   obtain ⟨x0,x1,x2,x3,x4⟩:=H.x
   simp [go_sem]
   have f1:New 111 3 halfC (ww.alloc (.cells #[] 111)) w7.heap.size (.slice (some ⟨ww.heap.size,0,none⟩) 0 0) []:=(New.mk0 ww).mono H.k.size
   exact hN _ _ (H.k.alloc _) trivial ⟨(fun _ _=>by rw [put_get_self (H.f.lt (by rw [hz];decide))];exact ⟨_,rfl,f1⟩),(fun h h2=>by rw [put_ne' (by decide)];obtain ⟨A2',c2',e,f2'⟩:=x1 h h2;exact ⟨A2',c2',e,f2'.below (below_al bR _) leR⟩),(fun h=>by rw [put_ne' (by decide)];obtain ⟨A3',c3',e,f3'⟩:=x2 h;exact ⟨A3',c3',e,f3'.below (below_al bR _) leR⟩),(fun h=>by rw [put_ne' (by decide)];obtain ⟨A4',c4',e,f4'⟩:=x3 h;exact ⟨A4',c4',e,f4'.below (below_al bR _) leR⟩),(x4.bel (below_al bR _) (fun _ ⟨A4',c4',e,f4'⟩=>⟨A4',c4',e,f4'.below (below_al bR _) leR⟩))⟩
  ·intro Lk ak ww H _ _ hN
   simp [go_sem,H.f.g rfl s2]
   exact (hN _ _ H.k rfl (hXb.q rfl H.x))
  ·intro Lk ak ww H _ _ hN
   simp [go_sem,(gS ak 13 (H.d 1 rfl rfl)),(b3.kp H.k (by simp<;>omega)).cell]
   exact (hN _ _ H.k rfl (hXb.q rfl H.x))
  ·intro Lk ak ww H _ _ hN
   obtain ⟨x0,x1,x2,x3,x4⟩:=H.x
   obtain ⟨e1,ee0,f1⟩:=x0 (H.r 0 rfl) H.n
   have hBi:=H.k.below hB hB.size (by simp<;>omega)
   refine step_app0 halfC_len _ _ _ rfl w7.heap.size i0h _ 24 Tryz.underlying35 hi0h hz0h hz1h hz2h rfl (by decide) (ev ee0) f1 a.A a.c (ev (H.d 2 rfl rfl)) (hsp.below hBi) hna H.k.size (by have:=hlp;omega) (by decide) ?_
   rintro _ wx ⟨A2,c2,rfl,f2⟩ hb
   replace f2:New 111 3 halfC wx w7.heap.size (.slice A2 p.length c2) p:=⟨_,_,rfl,f2⟩
   exact hN _ _ (H.k.call hb) trivial ⟨(fun h h2=>by simp [upd] at h2),(fun _ _=>by rw [put_get_self (H.f.lt (by rw [hz];decide))];exact ⟨A2,c2,rfl,f2⟩),(fun h=>by rw [put_ne' (by decide)];obtain ⟨A3',c3',e,f3'⟩:=x2 h;exact ⟨A3',c3',e,f3'.below hb leR⟩),(fun h=>by rw [put_ne' (by decide)];obtain ⟨A4',c4',e,f4'⟩:=x3 h;exact ⟨A4',c4',e,f4'.below hb leR⟩),(x4.bel hb (fun _ ⟨A4',c4',e,f4'⟩=>⟨A4',c4',e,f4'.below hb leR⟩))⟩
  ·intro Lk ak ww H _ _ hN
   simp [go_sem,H.f.g rfl s3]
   exact (hN _ _ H.k rfl (hXb.q rfl H.x))
  ·intro Lk ak ww H _ _ hN
   simp [go_sem,(gS ak 16 (H.d 4 rfl rfl)),(b4.kp H.k (by simp<;>omega)).cell]
   exact (hN _ _ H.k rfl (hXb.q rfl H.x))
  ·intro Lk ak ww H _ _ hN
   obtain ⟨x0,x1,x2,x3,x4⟩:=H.x
   obtain ⟨A2,c2,ee3,f2⟩:=x1 (H.r 3 rfl) H.n
   have hBi:=H.k.below hB hB.size (by simp<;>omega)
   refine step_appO halfC_len _ _ _ rfl w7.heap.size i0h _ 24 Tryz.underlying35 hi0h hz0h hz1h hz2h rfl (by decide) (ev ee3) f2 b.A b.c (ys:=q) (ev (H.d 5 rfl rfl)) (hsq.below hBi) hnb halfC_one H.k.size (by omega) (by decide) ?_
   rintro v wx hv-hG
   rw [← hXX] at hv
   obtain ⟨A3,c3,rfl,f3⟩:=hv
   replace f3:New 111 3 halfC wx w7.heap.size (.slice A3 XX.length c3) XX:=⟨_,_,rfl,f3⟩;replace hG:=Kp.grown hG
   exact hN _ _ (H.k.trans2 hG (fun m hm=>.inr (by obtain ⟨p,hp,rfl⟩:=blkL_in hm;exact (f2.blk p hp).1))) trivial ⟨(fun h h2=>absurd ((H.r 3 rfl).symm.trans h2) (by decide)),(fun h h2=>by simp [upd] at h2),(fun _=>by rw [put_get_self (H.f.lt (by rw [hz];decide))];exact ⟨A3,c3,rfl,f3⟩),(fun h=>absurd ((H.t 7 rfl).symm.trans h) (by decide)),(⟨fun h=>(x4.1 h).kp hG (blkL_nin (fun p hp=>by have q1:=f2.blk p hp;have:=b5.lt;omega)),fun h=>absurd ((H.t 8 rfl).symm.trans h) (by decide)⟩)⟩
  ·intro Lk ak ww H _ _ hN
   obtain ⟨x0,x1,x2,x3,x4⟩:=H.x
   obtain ⟨A3,c3,ee6,f3⟩:=x2 (H.r 6 rfl)
   simp [go_sem,ee6]
   refine (sMake_c A3 XX c3 ww (by omega) hap (f3.out halfC_len) f3.nilcap).mono ?_
   rintro x wx ⟨_,rfl,⟨A4,c4,rfl,f0⟩,hb⟩
   have f4:=New.mono (show New 111 3 halfC wx ww.heap.size (.slice A4 (meetI (meetL XX)).length c4) (meetI (meetL XX)) from ⟨_,_,rfl,f0⟩) H.k.size
   exact (hN _ _ (H.k.call hb) trivial ⟨(fun h h2=>by rw [put_ne' (by decide)];obtain ⟨e1',e,f1'⟩:=x0 h h2;exact ⟨e1',e,f1'.below hb leR⟩),(fun h h2=>by rw [put_ne' (by decide)];obtain ⟨A2',c2',e,f2'⟩:=x1 h h2;exact ⟨A2',c2',e,f2'.below hb leR⟩),(fun h=>by rw [put_ne' (by decide)];obtain ⟨A3',c3',e,f3'⟩:=x2 h;exact ⟨A3',c3',e,f3'.below hb leR⟩),(fun _=>by rw [put_get_self (H.f.lt (by rw [hz];decide))];exact ⟨A4,c4,rfl,f4⟩),(x4.bel hb (fun _ ⟨A4',c4',e,f4'⟩=>⟨A4',c4',e,f4'.below hb leR⟩))⟩)
  ·intro Lk ak ww H _ _ hN
   obtain ⟨x0,x1,x2,x3,x4⟩:=H.x
   obtain ⟨A4,c4,ee7,f4⟩:=x3 (H.r 7 rfl)
   have HT:=x4.1 H.n
   simp [go_sem,ee7,H.f.g rfl s4,HT.cell,HT.frz]
   have f4:=f4.otherC (f4.typ HT (by decide)) [.slice A4 ((meetI (meetL XX)).length) c4] 0
   exact hN undef _ (H.k.store (.inr (by simp)) [.slice A4 ((meetI (meetL XX)).length) c4] 0) trivial ⟨(fun h h2=>by obtain ⟨e1',e,f1'⟩:=x0 h h2;exact ⟨e1',e,f1'.otherC (f1'.typ HT (by decide)) [.slice A4 ((meetI (meetL XX)).length) c4] 0⟩),(fun h h2=>by obtain ⟨A2',c2',e,f2'⟩:=x1 h h2;exact ⟨A2',c2',e,f2'.otherC (f2'.typ HT (by decide)) [.slice A4 ((meetI (meetL XX)).length) c4] 0⟩),(fun h=>by obtain ⟨A3',c3',e,f3'⟩:=x2 h;exact ⟨A3',c3',e,f3'.otherC (f3'.typ HT (by decide)) [.slice A4 ((meetI (meetL XX)).length) c4] 0⟩),(fun h=>by obtain ⟨A4',c4',e,f4'⟩:=x3 h;exact ⟨A4',c4',e,f4'.otherC (f4'.typ HT (by decide)) [.slice A4 ((meetI (meetL XX)).length) c4] 0⟩),(PreX.set HT (us:=[.slice A4 ((meetI (meetL XX)).length) c4]) rfl ⟨A4,c4,rfl,f4⟩)⟩
  intro L a11 w12 hL hF hK hV hX
  obtain ⟨x0,x1,x2,x3,x4⟩:=hX
  replace hz:=hF.Z hz;replace hdf:=hF.E hdf;replace s4:=hF.G s4;clear b5
  obtain ⟨_,b5,A4,c4,rfl,N4⟩:=x4.2 (hL 8 (by decide))
  have zw7:=hZ;have zw12:=hK.size;replace hZ:=Nat.le_refl w12.heap.size
  replace hB:=hK.below hB hB.size (by simp<;>omega)
  clear hF hK hV hL x0 x1 x2 x3 x4 hXb s2 s3 s10 b3 b4;refine th_n ?_
  refine wp_ret ?_
  refine bodyPost_ret (v:=.agg #[.slice A4 ((meetI (meetL XX)).length) c4]) (by simp [results,Tryz.results188,go_sem,s4,b5.cell]) hdf ?_
  exact ⟨_,rfl,by rw [hmr.2.2.2];exact N4.mono (by omega),hB⟩
set_option maxRecDepth 100000 in
set_option maxHeartbeats 3000000 in
theorem sMeetR_c (p q:List Half) (a b:SlA) (w:World) (hp:regionOk p=true) (hq:regionOk q=true) (hsp:Sl 3 halfC w a.A p) (hsq:Sl 3 halfC w b.A q) (hna:a.A=none→a.c=0) (hnb:b.A=none→b.c=0) :
 Calls Tryz.prog 119 #[.agg #[.slice a.A p.length a.c],.agg #[.slice b.A q.length b.c]] w fun x w'=>∃ v,x=.returned (.tuple #[.agg #[v],.bool (mrOk p q)])∧New 111 3 halfC w' w.heap.size v (mrR p q)∧Below w.heap.size w w':=by
 have hlp:=reg_len hp
 have hlq:=reg_len hq
 obtain ⟨i0h,hi0h,hz0h,hz1h,hz2h⟩:=info_parts (show (Tryz.prog.info? 111).map (fun i=>(i.zero,i.size,i.bytes))=some (some (.agg #[.int .i64 0,.int .i64 0,.int .i64 0]),3,24) by kernel_rfl)
 refine calls_v Tryz.func119 rfl (n:=28) Tryz.ntmps119 (by simp) ?_
 intro a0 hz hdf ha
 have s0:a0.tmps[0]?.getD undef=.agg #[.slice a.A p.length a.c]:=ha 0 _ rfl;have s1:a0.tmps[1]?.getD undef=.agg #[.slice b.A q.length b.c]:=ha 1 _ rfl;clear ha
 have hB:=Below.refl w.heap.size w
 have hZ:=Nat.le_refl w.heap.size
 refine wp_seq ?_
 refine wp_entry [2,3,4,5] [.pointer (some ⟨w.heap.size,0,none⟩),.pointer (some ⟨(w.heap.size+1),0,none⟩),.pointer (some ⟨(w.heap.size+2),0,none⟩),.bool false] [some (.cells [.slice a.A p.length a.c].toArray 37),some (.cells [.slice b.A q.length b.c].toArray 37),some (.cells [.slice none 0 0].toArray 37),none] [0,1,2,3] [2,3,4,5] [0,1,2,3] (by kernel_rfl) (by rw [hz];decide) (ec ?_ (ec ?_ (ec ?_ (ec ?_ .nil)))) ?_
 ·intro a w' hF hs N Q hN;simp [go_sem,hF.g rfl s0];rw [hs];exact hN
 ·intro a w' hF hs N Q hN;simp [go_sem,hF.g rfl s1];rw [hs];exact hN
 ·intro a w' hF hs N Q hN;simp [go_sem];rw [hs];exact hN
 ·intro a w' hF hs N Q hN;simp [go_sem];exact hN
 intro a1 w2 hF hV hb hO
 replace hz:=hF.size.trans hz;replace hdf:=hF.defers.trans hdf
 have s2:a1.tmps[2]?.getD undef=.pointer (some ⟨w.heap.size,0,none⟩):=hV 0 (by decide)
 have s3:a1.tmps[3]?.getD undef=.pointer (some ⟨(w.heap.size+1),0,none⟩):=hV 1 (by decide)
 have s4:a1.tmps[4]?.getD undef=.pointer (some ⟨(w.heap.size+2),0,none⟩):=hV 2 (by decide)
 have b3:HasT w2 w.heap.size 37 [.slice a.A p.length a.c]:=hO 0 _ rfl
 have b4:HasT w2 (w.heap.size+1) 37 [.slice b.A q.length b.c]:=hO 1 _ rfl
 have b5:HasT w2 (w.heap.size+2) 37 [.slice none 0 0]:=hO 2 _ rfl
 have hG:=b5.lt
 replace hB:=below_tr hB hb;have zw2:=Nat.le_trans hZ hb.size;replace hZ:=Nat.le_refl w2.heap.size;clear hF hV hb hO s0 s1;refine th_n ?_;refine wp_seq ?_;refine wp_seq ?_
 refine wp_regJ (by kernel_rfl) [6,7,8,9,10,11,12,13,14,15,16,17,18,19,20,21,22,23] [some (.agg #[.slice a.A p.length a.c]),some (.bool true),some (.bool false),some (.bool false),some (.agg #[.slice b.A q.length b.c]),some (.bool true),some (.bool false),some (.bool false),some (.bool false),some (.pointer (some ⟨w.heap.size,0,none⟩)),some (.slice a.A p.length a.c),some (.int .i64 (p.length:Int)),some (.pointer (some ⟨(w.heap.size+1),0,none⟩)),some (.slice b.A q.length b.c),some (.int .i64 (q.length:Int)),some (.int .i64 ((p.length:Int)+(q.length:Int))),some (.bool (decide ((p.length:Int)+(q.length:Int) > 40))),some (.bool (decide ((p.length:Int)+(q.length:Int) > 40)))] (dlR 18) [6,7,8,9,10,11,12,13,14,15,16,17,18,19,20,21,22,23] [0,1,2,3,4,5,6,7,8,9,10,11,12,13,14,15,16,17] [] (fun _ _ _=>True) (by kernel_rfl) (by rw [hz];decide) ?_ (en rfl ?_ (en rfl ?_ (en rfl ?_ (en rfl ?_ (eg ?_ (eg ?_ (eg ?_ (en rfl ?_ (en rfl ?_ (eg ?_ (eg ?_ (eg ?_ (eg ?_ (eg ?_ (eg ?_ (eg ?_ (eg ?_ (en rfl ?_ .nil)))))))))))))))))) ?_
 ·exact fun _ _=>trivial
 ·intro Lk ak ww H _ _ hN
  simp [go_sem,H.f.g rfl s2,(b3.k0 H.k).cell]
  exact (hN _ _ H.k rfl trivial)
 ·intro Lk ak ww H _ _ hN
  simp [go_sem,(gS ak 6 (H.d 0 rfl rfl))]
  have hBi:=H.k.below0 hB
  refine (sRegionOk_c p a ww (by omega) (fun h hh=>hIn (hOk (reg_ok hp h hh))) (hsp.below hBi) hna).mono ?_
  rintro x wx ⟨rfl,hb⟩
  exact (hN _ _ (H.k.call hb) (congrArg Value.bool hp) trivial)
 ·exact fun Lk ak ww H _ _ hN=>wp_not rfl (ev (H.d 1 rfl rfl)) (hN _ _ H.k rfl trivial)
 ·exact fun Lk ak ww H _ _ hN=>wp_move rfl (ev (H.d 2 rfl rfl)) (hN _ _ H.k rfl trivial)
 ·intro Lk ak ww H _ _ hN
  refine wnt_y rfl rfl rfl (H.d 3 rfl rfl) ?_
  simp [go_sem,H.f.g rfl s3,(b4.k0 H.k).cell]
  exact (hN _ _ H.k rfl trivial)
 ·intro Lk ak ww H _ _ hN
  refine wnt_y rfl rfl rfl (H.d 3 rfl rfl) ?_
  simp [go_sem,(gS ak 10 (H.d 4 rfl rfl))]
  have hBi:=H.k.below0 hB
  refine (sRegionOk_c q b ww (by omega) (fun h hh=>hIn (hOk (reg_ok hq h hh))) (hsq.below hBi) hnb).mono ?_
  rintro x wx ⟨rfl,hb⟩
  exact (hN _ _ (H.k.call hb) (congrArg Value.bool hq) trivial)
 ·intro Lk ak ww H _ _ hN
  refine wnt_y rfl rfl rfl (H.d 3 rfl rfl) ?_
  exact wp_not rfl (ev (H.d 5 rfl rfl)) (hN _ _ H.k rfl trivial)
 ·exact fun Lk ak ww H _ _ hN=>wp_pick rfl (ev (H.d 3 rfl rfl)) (fun h=>by cases h) (fun _=>(ev (H.d 6 rfl rfl))) (hN _ _ H.k rfl trivial)
 ·exact fun Lk ak ww H _ _ hN=>wp_move rfl (ev (H.d 7 rfl rfl)) (hN _ _ H.k rfl trivial)
 ·intro Lk ak ww H _ _ hN
  refine wnt_y rfl rfl rfl (H.d 8 rfl rfl) ?_
  simp [go_sem,H.f.g rfl s2]
  exact (hN _ _ H.k rfl trivial)
 ·intro Lk ak ww H _ _ hN
  refine wnt_y rfl rfl rfl (H.d 8 rfl rfl) ?_
  simp [go_sem,(gS ak 15 (H.d 9 rfl rfl)),(b3.k0 H.k).cell]
  exact (hN _ _ H.k rfl trivial)
 ·intro Lk ak ww H _ _ hN
  refine wnt_y rfl rfl rfl (H.d 8 rfl rfl) ?_
  simp [go_sem,(gS ak 16 (H.d 10 rfl rfl))]
  exact (hN _ _ H.k rfl trivial)
 ·intro Lk ak ww H _ _ hN
  refine wnt_y rfl rfl rfl (H.d 8 rfl rfl) ?_
  simp [go_sem,H.f.g rfl s3]
  exact (hN _ _ H.k rfl trivial)
 ·intro Lk ak ww H _ _ hN
  refine wnt_y rfl rfl rfl (H.d 8 rfl rfl) ?_
  simp [go_sem,(gS ak 18 (H.d 12 rfl rfl)),(b4.k0 H.k).cell]
  exact (hN _ _ H.k rfl trivial)
 ·intro Lk ak ww H _ _ hN
  refine wnt_y rfl rfl rfl (H.d 8 rfl rfl) ?_
  simp [go_sem,(gS ak 19 (H.d 13 rfl rfl))]
  exact (hN _ _ H.k rfl trivial)
 ·intro Lk ak ww H _ _ hN
  refine wnt_y rfl rfl rfl (H.d 8 rfl rfl) ?_
  exact wp_add rfl (ev (H.d 11 rfl rfl)) (ev (H.d 14 rfl rfl)) (by omega) (hN _ _ H.k rfl trivial)
 ·intro Lk ak ww H _ _ hN
  refine wnt_y rfl rfl rfl (H.d 8 rfl rfl) ?_
  exact wp_bin rfl (ev (H.d 15 rfl rfl)) rfl rfl rfl (hN _ _ H.k rfl trivial)
 ·exact fun Lk ak ww H _ _ hN=>wp_pick rfl (ev (H.d 8 rfl rfl)) (fun h=>by cases h) (fun _=>(ev (H.d 16 rfl rfl))) (hN _ _ H.k rfl trivial)
 intro L a6 w7 hL hF hK hV hX;replace hz:=hF.Z hz;replace hdf:=hF.E hdf;replace s2:=hF.G s2;replace s3:=hF.G s3;replace s4:=hF.G s4;have s23:=gS a6 23 (hV 17 _ rfl);replace b3:=b3.k0 hK;replace b4:=b4.k0 hK;replace b5:=b5.k0 hK;replace hZ:=Nat.le_trans hZ hK.size;replace hB:=hK.below0 hB;clear hF hK hV hL hX;refine th_n ?_
 rcases Bool.eq_false_or_eq_true (decide ((p.length:Int)+(q.length:Int) > 40)) with q8|q8
 ·skip
  refine wp_cond_true (ev (vb s23 q8)) ?_
  refine wp_seq ?_
  have hXb:StaysX [] (fun L aa ww=>PreX ww (w.heap.size+2) 37 [.slice none 0 0] (L 1) (fun _ vs=>vs=[.slice none 0 0])):=by
   intro L aa ww w' kk vv hkk hb hX
   have x0:=hX
   exact (x0.bel hb (fun _ h=>h))
  refine wp_regK hXb (by kernel_rfl) [24,0,5] [some (.agg #[.slice none 0 0]),none,some (.bool false)] (dlR 3) [24,5] [0,1,2] [(w.heap.size+2)] (by kernel_rfl) (by rw [hz];decide) ?_ (en rfl ?_ (en rfl ?_ (en rfl ?_ .nil))) ?_
  ·exact fun _ h=>(⟨fun _=>b5.kp h (by simp),(fun h=>by cases h)⟩)
  ·intro Lk ak ww H _ _ hN
   simp [go_sem]
   exact (hN _ _ H.k rfl H.x)
  ·intro Lk ak ww H _ _ hN
   have x0:=H.x
   have HT:=x0.1 H.n
   simp [go_sem,(gS ak 24 (H.d 0 rfl rfl)),H.f.g rfl s4,HT.cell,HT.frz]
   exact hN undef _ (H.k.store (.inr (by simp)) [.slice none 0 0] 0) trivial (PreX.set HT (us:=[.slice none 0 0]) rfl rfl)
  ·exact fun Lk ak ww H _ _ hN=>wp_assign rfl rfl (hN _ _ H.k rfl H.x)
  intro L a9 w10 hL hF hK hV hX;have x0:=hX;replace hz:=hF.Z hz;replace hdf:=hF.E hdf;replace s4:=hF.G s4;have s5:=gS a9 5 (hV 2 _ rfl);clear b5
  obtain ⟨_,b5,rfl⟩:=x0.2 (hL 1 (by decide))
  replace hZ:=Nat.le_trans hZ hK.size
  replace hB:=hK.below hB hB.size (by simp<;>omega)
  clear hF hK hV hL x0 hXb s2 s3 s23 b3 b4;refine th_n ?_
  refine wp_ret ?_
  refine th_r ?_
  refine bodyPost_ret (v:=.tuple #[.agg #[.slice none 0 0],.bool false]) (by simp [results,Tryz.results119,go_sem,s4,b5.cell,s5]) hdf ?_
  have h0:=mr_no (p:=p) (q:=q) (by have:=of_decide_eq_true (show decide ((p.length:Int)+(q.length:Int) > 40)=true by simpa using q8);omega)
  exact ⟨_,by rw [h0.1],by rw [h0.2];exact New.nilN _ _ _ _ _,hB⟩
 ·skip
  have h9:p.length+q.length≤40:=by have:=of_decide_eq_false (show decide ((p.length:Int)+(q.length:Int) > 40)=false by simpa using q8);omega
  refine wp_cond_false (ev (vb s23 q8)) ?_
  refine wp_skip ?_;refine th_n ?_;refine wp_seq ?_
  have hXb:StaysX [27] (fun L aa ww=>(L 2=true→(fun ww v=>∃ A1 c1,v=.agg #[.slice A1 ((mrR p q).length) c1]∧New 111 3 halfC ww w7.heap.size (.slice A1 (mrR p q).length c1) (mrR p q)) ww (aa.tmps[27]?.getD undef))∧PreX ww (w.heap.size+2) 37 [.slice none 0 0] (L 3) (fun ww vs=>∃ A1 c1,vs=[.slice A1 ((mrR p q).length) c1]∧New 111 3 halfC ww w7.heap.size (.slice A1 (mrR p q).length c1) (mrR p q))):=by
   intro L aa ww w' kk vv hkk hb hX
   obtain ⟨x0,x1⟩:=hX
   exact ⟨(fun h=>by rw [put_ne' (hkk 27 (by simp))];obtain ⟨A1',c1',e,f1'⟩:=x0 h;exact ⟨A1',c1',e,f1'.below hb leR⟩),(x1.bel hb (fun _ ⟨A1',c1',e,f1'⟩=>⟨A1',c1',e,f1'.below hb leR⟩))⟩
  refine wp_regK hXb (by kernel_rfl) [25,26,27,0,5] [some (.agg #[.slice a.A p.length a.c]),some (.agg #[.slice b.A q.length b.c]),none,none,some (.bool true)] (dlR 5) [25,26,27,5] [0,1,2,3,4] [(w.heap.size+2)] (by kernel_rfl) (by rw [hz];decide) ?_ (en rfl ?_ (en rfl ?_ (en rfl ?_ (en rfl ?_ (en rfl ?_ .nil))))) ?_
  ·exact fun _ h=>⟨(fun h=>by cases h),(⟨fun _=>b5.kp h (by simp),(fun h=>by cases h)⟩)⟩
  ·intro Lk ak ww H _ _ hN
   simp [go_sem,H.f.g rfl s2,(b3.kp H.k (by simp<;>omega)).cell]
   exact (hN _ _ H.k rfl (hXb.q rfl H.x))
  ·intro Lk ak ww H _ _ hN
   simp [go_sem,H.f.g rfl s3,(b4.kp H.k (by simp<;>omega)).cell]
   exact (hN _ _ H.k rfl (hXb.q rfl H.x))
  ·intro Lk ak ww H _ _ hN
   obtain ⟨x0,x1⟩:=H.x
   simp [go_sem,(gS ak 25 (H.d 0 rfl rfl)),(gS ak 26 (H.d 1 rfl rfl))]
   have hBi:=H.k.below hB hB.size (by simp<;>omega)
   refine (sMeetL_c p q a b ww hp hq (hsp.below hBi) (hsq.below hBi) hna hnb h9).mono ?_
   rintro x wx ⟨_,rfl,⟨A1,c1,rfl,f0⟩,hb⟩
   have f1:=New.mono (show New 111 3 halfC wx ww.heap.size (.slice A1 (mrR p q).length c1) (mrR p q) from ⟨_,_,rfl,f0⟩) H.k.size
   exact (hN _ _ (H.k.call hb) trivial ⟨(fun _=>by rw [put_get_self (H.f.lt (by rw [hz];decide))];exact ⟨A1,c1,rfl,f1⟩),(x1.bel hb (fun _ ⟨A1',c1',e,f1'⟩=>⟨A1',c1',e,f1'.below hb leR⟩))⟩)
  ·intro Lk ak ww H _ _ hN
   obtain ⟨x0,x1⟩:=H.x
   obtain ⟨A1,c1,ee2,f1⟩:=x0 (H.r 2 rfl)
   have HT:=x1.1 H.n
   simp [go_sem,ee2,H.f.g rfl s4,HT.cell,HT.frz]
   have f1:=f1.otherC (f1.typ HT (by decide)) [.slice A1 ((mrR p q).length) c1] 0
   exact hN undef _ (H.k.store (.inr (by simp)) [.slice A1 ((mrR p q).length) c1] 0) trivial ⟨(fun h=>by obtain ⟨A1',c1',e,f1'⟩:=x0 h;exact ⟨A1',c1',e,f1'.otherC (f1'.typ HT (by decide)) [.slice A1 ((mrR p q).length) c1] 0⟩),(PreX.set HT (us:=[.slice A1 ((mrR p q).length) c1]) rfl ⟨A1,c1,rfl,f1⟩)⟩
  ·exact fun Lk ak ww H _ _ hN=>wp_assign rfl rfl (hN _ _ H.k rfl (hXb.q rfl H.x))
  intro L a11 w12 hL hF hK hV hX
  obtain ⟨x0,x1⟩:=hX
  replace hz:=hF.Z hz;replace hdf:=hF.E hdf;replace s4:=hF.G s4;have s5:=gS a11 5 (hV 4 _ rfl);clear b5
  obtain ⟨_,b5,A1,c1,rfl,N1⟩:=x1.2 (hL 3 (by decide))
  have zw7:=hZ;have zw12:=hK.size;replace hZ:=Nat.le_refl w12.heap.size
  replace hB:=hK.below hB hB.size (by simp<;>omega)
  clear hF hK hV hL x0 x1 hXb s2 s3 s23 b3 b4;refine th_n ?_
  refine wp_ret ?_
  refine bodyPost_ret (v:=.tuple #[.agg #[.slice A1 ((mrR p q).length) c1],.bool true]) (by simp [results,Tryz.results119,go_sem,s4,b5.cell,s5]) hdf ?_
  exact ⟨_,by rw [show mrOk p q=true from decide_eq_true h9],N1.mono (by omega),hB⟩
end Go.Proofs.YtdncnhcffbgjhaaGreat
