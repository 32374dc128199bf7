/-
 The region from which an input leads into a region: of the program.
 Conditions: valid rooms and regions.
-/
import Derived.Test.YtdncnhcffbgjhaaGreatGrow
import Derived.Test.YtdncnhcffbgjhaaGreatGrV
namespace Go.Proofs.YtdncnhcffbgjhaaGreat
open Go.RowKit
def preE (r:Room) (p:List Half):List Half:=movR (eroH r.noise) p
def preG (r:Room) (p:List Half):List Half:=grwR r.bx r.by_ r.low r.high (preE r p)
def preA (r:Room) (p:List Half):Bool:=movOk (eroH r.noise) p&&decide ((preE r p).length≤38)
def preOk (r:Room) (p:List Half):Bool:=preA r p&&grwOk r.bx r.by_ r.low r.high (preE r p)&&movOk (pulH r.map r.div) (preG r p)
def preR (r:Room) (p:List Half):List Half:=if (preA r p&&grwOk r.bx r.by_ r.low r.high (preE r p))=true then movR (pulH r.map r.div) (preG r p) else []
theorem pre_no1 {r:Room} {p:List Half} (h:(!(movOk (eroH r.noise) p)||decide ((((preE r p).length:Nat):Int) > 38))=true):preOk r p=false∧preR r p=[]:=by
 have:preA r p=false:=by
  unfold preA
  rcases Bool.eq_false_or_eq_true (movOk (eroH r.noise) p) with h1|h1
  ·rw [h1] at h ⊢
   have h2:=of_decide_eq_true (by simpa using h:decide ((((preE r p).length:Nat):Int) > 38)=true)
   rw [decide_eq_false (by omega)];rfl
  ·rw [h1];rfl
 unfold preOk preR
 rw [this,if_neg (by simp)];exact ⟨rfl,rfl⟩
theorem pre_yes1 {r:Room} {p:List Half} (h:(!(movOk (eroH r.noise) p)||decide ((((preE r p).length:Nat):Int) > 38))=false):preA r p=true:=by
 have h1:=not_f (or_f1 h)
 have h2:=dec_f (or_f2 h)
 unfold preA
 rw [h1,decide_eq_true (by omega)];rfl
theorem pre_no2 {r:Room} {p:List Half} (h:grwOk r.bx r.by_ r.low r.high (preE r p)=false):preOk r p=false∧preR r p=[]:=by
 unfold preOk preR
 rw [h,Bool.and_false,if_neg (by simp)];exact ⟨rfl,rfl⟩
theorem pre_yes {r:Room} {p:List Half} (h:preA r p=true) (h2:grwOk r.bx r.by_ r.low r.high (preE r p)=true):preOk r p=movOk (pulH r.map r.div) (preG r p)∧preR r p=movR (pulH r.map r.div) (preG r p):=by
 unfold preOk preR
 rw [h,h2];exact ⟨by simp,if_pos rfl⟩
theorem preE_ok (r:Room) (p:List Half):regionOk (preE r p)=true:=movR_ok (fun _ _ _ e=>eroH_ok e)
theorem grwR_ok {bx by_ lo hi:Int} {p:List Half} (hp:regionOk p=true):regionOk (grwR bx by_ lo hi p)=true:=by
 unfold grwR
 split
 ·exact hp
 ·split
  ·rename_i h
   refine regionOk_meetR (fun g hg=>?_)
   rcases List.mem_append.1 hg with h1|h1
   ·exact sdL_ok (and_t1 h) g h1
   ·exact movL_ok (fun _ _ _ e=>growH_ok e) (and_t2 h) g h1
  ·rfl
theorem preG_ok (r:Room) (p:List Half):regionOk (preG r p)=true:=grwR_ok (preE_ok r p)
theorem drvIn {r:Room} (h:roomOk r=true):DrvIn r.bx r.by_ r.low r.high:=⟨(roomB h).bx,(roomB h).by_,(roomB h).low,(roomB h).high⟩
set_option maxRecDepth 100000 in
set_option maxHeartbeats 3000000 in
theorem iPre_c (r:Room) (p:List Half) (ra:RoomA) (b:SlA) (w:World) (hr:roomOk r=true) (hp:regionOk p=true) (hno:regionOk r.noise=true) (hne:r.noise≠[]) (hs:RoomSl w r ra) (hsp:Sl 3 halfC w b.A p) :
 Calls Tryz.prog 147 #[roomV r ra,.agg #[.slice b.A p.length b.c]] w fun x w'=>∃ v,x=.returned (.tuple #[.agg #[v],.bool (preOk r p)])∧New 111 3 halfC w' w.heap.size v (preR r p)∧Below w.heap.size w w':=by
 refine calls_v Tryz.func147 rfl (n:=49) Tryz.ntmps147 (by simp) ?_
 intro a0 hz hdf ha
 have s0:a0.tmps[0]?.getD undef=roomV r ra:=ha 0 _ rfl;have s1:a0.tmps[1]?.getD undef=.agg #[.slice b.A p.length b.c]:=ha 1 _ rfl;clear ha
 have hB:=Below.refl w.heap.size w
 have hZ:=Nat.le_refl w.heap.size
 refine wp_seq ?_
 refine wp_entry [2,3,4,5] [.pointer (some ⟨w.heap.size,0,none⟩),.pointer (some ⟨(w.heap.size+1),0,none⟩),.pointer (some ⟨(w.heap.size+2),0,none⟩),.bool false] [some (.cells (roomC r ra).toArray 39),some (.cells [.slice b.A p.length b.c].toArray 37),some (.cells [.slice none 0 0].toArray 37),none] [0,1,2,3] [2,3,4,5] [0,1,2,3] (by kernel_rfl) (by rw [hz];decide) (ec ?_ (ec ?_ (ec ?_ (ec ?_ .nil)))) ?_
 ·intro a w' hF hs N Q hN;simp [go_sem,hF.g rfl s0];rw [hs];exact hN
 ·intro a w' hF hs N Q hN;simp [go_sem,hF.g rfl s1];rw [hs];exact hN
 ·intro a w' hF hs N Q hN;simp [go_sem];rw [hs];exact hN
 ·intro a w' hF hs N Q hN;simp [go_sem];exact hN
 intro a1 w2 hF hV hb hO
 replace hz:=hF.size.trans hz;replace hdf:=hF.defers.trans hdf
 have s2:a1.tmps[2]?.getD undef=.pointer (some ⟨w.heap.size,0,none⟩):=hV 0 (by decide)
 have s3:a1.tmps[3]?.getD undef=.pointer (some ⟨(w.heap.size+1),0,none⟩):=hV 1 (by decide)
 have s4:a1.tmps[4]?.getD undef=.pointer (some ⟨(w.heap.size+2),0,none⟩):=hV 2 (by decide)
 have b3:HasT w2 w.heap.size 39 (roomC r ra):=hO 0 _ rfl
 have b4:HasT w2 (w.heap.size+1) 37 [.slice b.A p.length b.c]:=hO 1 _ rfl
 have b5:HasT w2 (w.heap.size+2) 37 [.slice none 0 0]:=hO 2 _ rfl
 have hG:=b5.lt
 replace hB:=below_tr hB hb;have zw2:=Nat.le_trans hZ hb.size;replace hZ:=Nat.le_refl w2.heap.size;clear hF hV hb hO s0 s1;refine th_n ?_;refine wp_seq ?_
 have hXb:StaysX [6,9,13,14] (fun L aa ww=>(L 3=true→(fun ww v=>∃ A1 c1,v=.tuple #[.agg #[.slice A1 ((preE r p).length) c1],.bool (movOk (eroH r.noise) p)]∧New 111 3 halfC ww w2.heap.size (.slice A1 (preE r p).length c1) (preE r p)) ww (aa.tmps[13]?.getD undef))∧(L 4=true→(fun ww v=>∃ A1 c1,v=.tuple #[.agg #[.slice A1 ((preE r p).length) c1],.bool (movOk (eroH r.noise) p)]∧New 111 3 halfC ww w2.heap.size (.slice A1 (preE r p).length c1) (preE r p)) ww (aa.tmps[9]?.getD undef))∧(L 5=true→(fun ww v=>∃ A1 c1,v=.agg #[.slice A1 ((preE r p).length) c1]∧New 111 3 halfC ww w2.heap.size (.slice A1 (preE r p).length c1) (preE r p)) ww (aa.tmps[14]?.getD undef))∧(L 7=true→BoxX w2 aa ww 6 37 [.slice none 0 0] (L 8) (fun ww vs=>∃ A1 c1,vs=[.slice A1 ((preE r p).length) c1]∧New 111 3 halfC ww w2.heap.size (.slice A1 (preE r p).length c1) (preE r p)))):=by
  intro L aa ww w' kk vv hkk hb hX
  obtain ⟨x0,x1,x2,x3⟩:=hX
  exact ⟨(fun h=>by rw [put_ne' (hkk 13 (by simp))];obtain ⟨A1',c1',e,f1'⟩:=x0 h;exact ⟨A1',c1',e,f1'.below hb leR⟩),(fun h=>by rw [put_ne' (hkk 9 (by simp))];obtain ⟨A1',c1',e,f1'⟩:=x1 h;exact ⟨A1',c1',e,f1'.below hb leR⟩),(fun h=>by rw [put_ne' (hkk 14 (by simp))];obtain ⟨A1',c1',e,f1'⟩:=x2 h;exact ⟨A1',c1',e,f1'.below hb leR⟩),(fun h=>((x3 h).bel hb (fun _ ⟨A1',c1',e,f1'⟩=>⟨A1',c1',e,f1'.below hb leR⟩)).put (hkk 6 (by simp)) _)⟩
 refine wp_regK hXb (by kernel_rfl) [10,11,12,13,9,14,15,6,0,7] [some (.agg #[.slice b.A p.length b.c]),some (.pointer (some ⟨w.heap.size,6,none⟩)),some (.agg #[.slice ra.noise.A r.noise.length ra.noise.c]),none,none,none,some (.bool (movOk (eroH r.noise) p)),none,none,some (.bool (movOk (eroH r.noise) p))] (dlR 10) [10,11,12,13,9,14,15,6,7] [0,1,2,3,4,5,6,7,8,9] [] (by kernel_rfl) (by rw [hz];decide) ?_ (en rfl ?_ (en rfl ?_ (en rfl ?_ (en rfl ?_ (en rfl ?_ (en rfl ?_ (en rfl ?_ (en rfl ?_ (en rfl ?_ (en rfl ?_ .nil)))))))))) ?_
 ·exact fun _ h=>⟨(fun h=>by cases h),(fun h=>by cases h),(fun h=>by cases h),(fun h=>by cases h)⟩
 ·intro Lk ak ww H _ _ hN
  simp [go_sem,H.f.g rfl s3,(b4.k0 H.k).cell]
  exact (hN _ _ H.k rfl (hXb.q rfl H.x))
 ·intro Lk ak ww H _ _ hN
  simp [go_sem,H.f.g rfl s2]
  exact (hN _ _ H.k rfl (hXb.q rfl H.x))
 ·intro Lk ak ww H _ _ hN
  simp [go_sem,(gS ak 11 (H.d 1 rfl rfl)),(b3.k0 H.k).cell]
  exact (hN _ _ H.k rfl (hXb.q rfl H.x))
 ·intro Lk ak ww H _ _ hN
  obtain ⟨x0,x1,x2,x3⟩:=H.x
  simp [go_sem,(gS ak 10 (H.d 0 rfl rfl)),(gS ak 12 (H.d 2 rfl rfl))]
  have hBi:=H.k.below0 hB
  refine (iErode_c p r.noise b ra.noise ww hp hno hne (hsp.below hBi) (hs.below hBi).noise.halves).mono ?_
  rintro x wx ⟨_,rfl,⟨A1,c1,rfl,f0⟩,hb⟩
  have f1:=New.mono (show New 111 3 halfC wx ww.heap.size (.slice A1 (preE r p).length c1) (preE r p) from ⟨_,_,rfl,f0⟩) H.k.size
  exact (hN _ _ (H.k.call hb) trivial ⟨(fun _=>by rw [put_get_self (H.f.lt (by rw [hz];decide))];exact ⟨A1,c1,rfl,f1⟩),(fun h=>by rw [put_ne' (by decide)];obtain ⟨A1',c1',e,f1'⟩:=x1 h;exact ⟨A1',c1',e,f1'.below hb leR⟩),(fun h=>by rw [put_ne' (by decide)];obtain ⟨A1',c1',e,f1'⟩:=x2 h;exact ⟨A1',c1',e,f1'.below hb leR⟩),(fun h=>((x3 h).bel hb (fun _ ⟨A1',c1',e,f1'⟩=>⟨A1',c1',e,f1'.below hb leR⟩)).put (by decide) _)⟩)
 ·intro Lk ak ww H _ _ hN
  obtain ⟨x0,x1,x2,x3⟩:=H.x
  obtain ⟨A1,c1,ee3,f1⟩:=x0 (H.r 3 rfl)
  exact wp_move rfl (ev ee3) (hN _ _ H.k trivial ⟨(fun h=>by rw [put_ne' (by decide)];obtain ⟨A1',c1',e,f1'⟩:=x0 h;exact ⟨A1',c1',e,f1'.below bR leR⟩),(fun _=>by rw [put_get_self (H.f.lt (by rw [hz];decide))];exact ⟨A1,c1,rfl,f1⟩),(fun h=>by rw [put_ne' (by decide)];obtain ⟨A1',c1',e,f1'⟩:=x2 h;exact ⟨A1',c1',e,f1'.below bR leR⟩),(fun h=>((x3 h).bel bR (fun _ ⟨A1',c1',e,f1'⟩=>⟨A1',c1',e,f1'.below bR leR⟩)).put (by decide) _)⟩)
 ·intro Lk ak ww H _ _ hN
  obtain ⟨x0,x1,x2,x3⟩:=H.x
  obtain ⟨A1,c1,ee4,f1⟩:=x1 (H.r 4 rfl)
  exact wp_extract rfl (ev ee4) rfl (hN _ _ H.k trivial ⟨(fun h=>by rw [put_ne' (by decide)];obtain ⟨A1',c1',e,f1'⟩:=x0 h;exact ⟨A1',c1',e,f1'.below bR leR⟩),(fun h=>by rw [put_ne' (by decide)];obtain ⟨A1',c1',e,f1'⟩:=x1 h;exact ⟨A1',c1',e,f1'.below bR leR⟩),(fun _=>by rw [put_get_self (H.f.lt (by rw [hz];decide))];exact ⟨A1,c1,rfl,f1⟩),(fun h=>((x3 h).bel bR (fun _ ⟨A1',c1',e,f1'⟩=>⟨A1',c1',e,f1'.below bR leR⟩)).put (by decide) _)⟩)
 ·intro Lk ak ww H _ _ hN
  obtain ⟨x0,x1,x2,x3⟩:=H.x
  obtain ⟨A1,c1,ee4,f1⟩:=x1 (H.r 4 rfl)
  exact wp_extract rfl (ev ee4) rfl (hN _ _ H.k rfl (hXb.q rfl H.x))
 ·intro Lk ak ww H _ _ hN
  obtain ⟨x0,x1,x2,x3⟩:=H.x
  simp [go_sem]
  exact hN _ _ (H.k.alloc _) trivial ⟨(fun h=>by rw [put_ne' (by decide)];obtain ⟨A1',c1',e,f1'⟩:=x0 h;exact ⟨A1',c1',e,f1'.below (below_al bR _) leR⟩),(fun h=>by rw [put_ne' (by decide)];obtain ⟨A1',c1',e,f1'⟩:=x1 h;exact ⟨A1',c1',e,f1'.below (below_al bR _) leR⟩),(fun h=>by rw [put_ne' (by decide)];obtain ⟨A1',c1',e,f1'⟩:=x2 h;exact ⟨A1',c1',e,f1'.below (below_al bR _) leR⟩),(fun _=>by rw [show upd Lk 7 8=false from H.t 8 rfl];exact BoxX.new (s:=6) (H.f.lt (by rw [hz];decide)) H.k.size [.slice none 0 0])⟩
 ·intro Lk ak ww H _ _ hN
  obtain ⟨x0,x1,x2,x3⟩:=H.x
  obtain ⟨A1,c1,ee5,f1⟩:=x2 (H.r 5 rfl)
  obtain ⟨g,eg,hg,y,_⟩:=x3 (H.r 7 rfl)
  have HT:=y H.n
  simp [go_sem,ee5,eg,HT.cell,HT.frz]
  have f1:=f1.otherC (f1.typ HT (by decide)) [.slice A1 ((preE r p).length) c1] 0
  exact hN undef _ (H.k.store (.inl hg) [.slice A1 ((preE r p).length) c1] 0) trivial ⟨(fun h=>by obtain ⟨A1',c1',e,f1'⟩:=x0 h;exact ⟨A1',c1',e,f1'.otherC (f1'.typ HT (by decide)) [.slice A1 ((preE r p).length) c1] 0⟩),(fun h=>by obtain ⟨A1',c1',e,f1'⟩:=x1 h;exact ⟨A1',c1',e,f1'.otherC (f1'.typ HT (by decide)) [.slice A1 ((preE r p).length) c1] 0⟩),(fun h=>by obtain ⟨A1',c1',e,f1'⟩:=x2 h;exact ⟨A1',c1',e,f1'.otherC (f1'.typ HT (by decide)) [.slice A1 ((preE r p).length) c1] 0⟩),(fun _=>BoxX.set eg hg HT (us:=[.slice A1 ((preE r p).length) c1]) rfl ⟨A1,c1,rfl,f1⟩)⟩
 ·exact fun Lk ak ww H _ _ hN=>wp_assign rfl (ev (H.d 6 rfl rfl)) (hN _ _ H.k rfl (hXb.q rfl H.x))
 intro L a6 w7 hL hF hK hV hX
 obtain ⟨x0,x1,x2,x3⟩:=hX
 replace hz:=hF.Z hz;replace hdf:=hF.E hdf;replace s2:=hF.G s2;replace s4:=hF.G s4;have s7:=gS a6 7 (hV 9 _ rfl);replace b3:=b3.k0 hK;replace b5:=b5.k0 hK
 obtain ⟨g8,s6,lg8,-,b8⟩:=x3 (hL 7 (by decide))
 obtain ⟨_,b8,A1,c1,rfl,N1⟩:=b8 (hL 8 (by decide))
 have i1:∀ p,A1=some p→p.block<w7.heap.size:=fun p hp=>(N1.blk p hp).2
 have ug8:=b8.lt
 have zw7:=hK.size;replace hZ:=Nat.le_refl w7.heap.size;replace hB:=hK.below0 hB;clear hF hK hV hL x0 x1 x2 x3 hXb s3 b4;refine th_n ?_;refine wp_seq ?_;refine wp_seq ?_
 refine wp_regJ (by kernel_rfl) [16,17,18,19,20,21,22,23] [some (.bool (movOk (eroH r.noise) p)),some (.bool (!(movOk (eroH r.noise) p))),some (.bool (!(movOk (eroH r.noise) p))),some ((bif !(movOk (eroH r.noise) p) then undef else (.pointer (some ⟨g8,0,none⟩):Value))),some ((bif !(movOk (eroH r.noise) p) then undef else (.slice A1 ((preE r p).length) c1:Value))),some ((bif !(movOk (eroH r.noise) p) then undef else (.int .i64 (((preE r p).length:Nat):Int):Value))),some ((bif !(movOk (eroH r.noise) p) then undef else (.bool (decide ((((preE r p).length:Nat):Int) > 38)):Value))),some (.bool (!(movOk (eroH r.noise) p)||decide ((((preE r p).length:Nat):Int) > 38)))] (dlR 8) [16,17,18,19,20,21,22,23] [0,1,2,3,4,5,6,7] [] (fun _ _ _=>True) (by kernel_rfl) (by rw [hz];decide) ?_ (en rfl ?_ (en rfl ?_ (en rfl ?_ (eg ?_ (eg ?_ (eg ?_ (eg ?_ (en rfl ?_ .nil)))))))) ?_
 ·exact fun _ _=>trivial
 ·exact fun Lk ak ww H _ _ hN=>wp_move rfl (ev (H.f.g rfl s7)) (hN _ _ H.k rfl trivial)
 ·exact fun Lk ak ww H _ _ hN=>wp_not rfl (ev (H.d 0 rfl rfl)) (hN _ _ H.k rfl trivial)
 ·exact fun Lk ak ww H _ _ hN=>wp_move rfl (ev (H.d 1 rfl rfl)) (hN _ _ H.k rfl trivial)
 ·intro Lk ak ww H _ _ hN
  refine wgf rfl rfl rfl (H.d 2 rfl rfl) (fun qg=>hN _ _ H.k (bif_t qg).symm trivial) fun qg=>?_
  simp [go_sem,H.f.g rfl s6]
  exact (hN _ _ H.k (bif_f qg).symm trivial)
 ·intro Lk ak ww H _ _ hN
  refine wgf rfl rfl rfl (H.d 2 rfl rfl) (fun qg=>hN _ _ H.k (bif_t qg).symm trivial) fun qg=>?_
  simp [go_sem,(show ak.tmps[19]?.getD undef=_ from (H.d 3 rfl rfl).trans (bif_f qg)),(b8.k0 H.k).cell]
  exact (hN _ _ H.k (bif_f qg).symm trivial)
 ·intro Lk ak ww H _ _ hN
  refine wgf rfl rfl rfl (H.d 2 rfl rfl) (fun qg=>hN _ _ H.k (bif_t qg).symm trivial) fun qg=>?_
  simp [go_sem,(show ak.tmps[20]?.getD undef=_ from (H.d 4 rfl rfl).trans (bif_f qg))]
  exact (hN _ _ H.k (bif_f qg).symm trivial)
 ·intro Lk ak ww H _ _ hN
  refine wgf rfl rfl rfl (H.d 2 rfl rfl) (fun qg=>hN _ _ H.k (bif_t qg).symm trivial) fun qg=>?_
  exact wp_bin rfl (ev ((H.d 5 rfl rfl).trans (bif_f qg))) rfl rfl rfl (hN _ _ H.k (bif_f qg).symm trivial)
 ·exact fun Lk ak ww H _ _ hN=>wp_pick rfl (ev (H.d 2 rfl rfl)) (fun h=>vor_t h) (fun h=>(ev ((H.d 6 rfl rfl).trans (bif_f h))).trans (vor_f h)) (hN _ _ H.k rfl trivial)
 intro L a9 w10 hL hF hK hV hX;replace hz:=hF.Z hz;replace hdf:=hF.E hdf;replace s2:=hF.G s2;replace s4:=hF.G s4;replace s6:=hF.G s6;have s23:=gS a9 23 (hV 7 _ rfl);replace b3:=b3.k0 hK;replace b5:=b5.k0 hK;replace b8:=b8.k0 hK;replace N1:=N1.below hK.toBelow leR;replace hZ:=Nat.le_trans hZ hK.size;replace hB:=hK.below0 hB;clear hF hK hV hL hX s7;refine th_n ?_
 rcases Bool.eq_false_or_eq_true (!(movOk (eroH r.noise) p)||decide ((((preE r p).length:Nat):Int) > 38)) with q11|q11
 ·skip
  refine wp_cond_true (ev (vb s23 q11)) ?_
  refine wp_seq ?_
  have hXb:StaysX [] (fun L aa ww=>PreX ww (w.heap.size+2) 37 [.slice none 0 0] (L 1) (fun _ vs=>vs=[.slice none 0 0])):=by
   intro L aa ww w' kk vv hkk hb hX
   have x0:=hX
   exact (x0.bel hb (fun _ h=>h))
  refine wp_regK hXb (by kernel_rfl) [24,0,5] [some (.agg #[.slice none 0 0]),none,some (.bool false)] (dlR 3) [24,5] [0,1,2] [(w.heap.size+2)] (by kernel_rfl) (by rw [hz];decide) ?_ (en rfl ?_ (en rfl ?_ (en rfl ?_ .nil))) ?_
  ·exact fun _ h=>(⟨fun _=>b5.kp h (by simp),(fun h=>by cases h)⟩)
  ·intro Lk ak ww H _ _ hN
   simp [go_sem]
   exact (hN _ _ H.k rfl H.x)
  ·intro Lk ak ww H _ _ hN
   have x0:=H.x
   have HT:=x0.1 H.n
   simp [go_sem,(gS ak 24 (H.d 0 rfl rfl)),H.f.g rfl s4,HT.cell,HT.frz]
   exact hN undef _ (H.k.store (.inr (by simp)) [.slice none 0 0] 0) trivial (PreX.set HT (us:=[.slice none 0 0]) rfl rfl)
  ·exact fun Lk ak ww H _ _ hN=>wp_assign rfl rfl (hN _ _ H.k rfl H.x)
  intro L a12 w13 hL hF hK hV hX;have x0:=hX;replace hz:=hF.Z hz;replace hdf:=hF.E hdf;replace s4:=hF.G s4;have s5:=gS a12 5 (hV 2 _ rfl);clear b5
  obtain ⟨_,b5,rfl⟩:=x0.2 (hL 1 (by decide))
  replace hZ:=Nat.le_trans hZ hK.size
  replace hB:=hK.below hB hB.size (by simp<;>omega)
  clear hF hK hV hL x0 hXb s2 s6 s23 b3 b8 N1 i1;refine th_n ?_
  refine wp_ret ?_
  refine th_r ?_
  refine bodyPost_ret (v:=.tuple #[.agg #[.slice none 0 0],.bool false]) (by simp [results,Tryz.results147,go_sem,s4,b5.cell,s5]) hdf ?_
  have h0:=pre_no1 q11
  exact ⟨_,by rw [h0.1],by rw [h0.2];exact New.nilN _ _ _ _ _,hB⟩
 ·skip
  refine wp_cond_false (ev (vb s23 q11)) ?_
  refine wp_skip ?_;refine th_n ?_;refine wp_seq ?_
  have hXb:StaysX [8,25,35,36] (fun L aa ww=>(L 9=true→(fun ww v=>∃ A2 c2,v=.tuple #[.agg #[.slice A2 ((preG r p).length) c2],.bool (grwOk r.bx r.by_ r.low r.high (preE r p))]∧New 111 3 halfC ww w10.heap.size (.slice A2 (preG r p).length c2) (preG r p)) ww (aa.tmps[35]?.getD undef))∧(L 10=true→(fun ww v=>∃ A2 c2,v=.tuple #[.agg #[.slice A2 ((preG r p).length) c2],.bool (grwOk r.bx r.by_ r.low r.high (preE r p))]∧New 111 3 halfC ww w10.heap.size (.slice A2 (preG r p).length c2) (preG r p)) ww (aa.tmps[25]?.getD undef))∧(L 11=true→(fun ww v=>∃ A2 c2,v=.agg #[.slice A2 ((preG r p).length) c2]∧New 111 3 halfC ww w10.heap.size (.slice A2 (preG r p).length c2) (preG r p)) ww (aa.tmps[36]?.getD undef))∧(L 13=true→BoxX w10 aa ww 8 37 [.slice none 0 0] (L 14) (fun ww vs=>∃ A2 c2,vs=[.slice A2 ((preG r p).length) c2]∧New 111 3 halfC ww w10.heap.size (.slice A2 (preG r p).length c2) (preG r p)))):=by
   intro L aa ww w' kk vv hkk hb hX
   obtain ⟨x0,x1,x2,x3⟩:=hX
   exact ⟨(fun h=>by rw [put_ne' (hkk 35 (by simp))];obtain ⟨A2',c2',e,f2'⟩:=x0 h;exact ⟨A2',c2',e,f2'.below hb leR⟩),(fun h=>by rw [put_ne' (hkk 25 (by simp))];obtain ⟨A2',c2',e,f2'⟩:=x1 h;exact ⟨A2',c2',e,f2'.below hb leR⟩),(fun h=>by rw [put_ne' (hkk 36 (by simp))];obtain ⟨A2',c2',e,f2'⟩:=x2 h;exact ⟨A2',c2',e,f2'.below hb leR⟩),(fun h=>((x3 h).bel hb (fun _ ⟨A2',c2',e,f2'⟩=>⟨A2',c2',e,f2'.below hb leR⟩)).put (hkk 8 (by simp)) _)⟩
  refine wp_regK hXb (by kernel_rfl) [26,27,28,29,30,31,32,33,34,35,25,36,37,8,0,7] [some (.agg #[.slice A1 ((preE r p).length) c1]),some (.pointer (some ⟨w.heap.size,2,none⟩)),some (.int .i64 r.bx),some (.pointer (some ⟨w.heap.size,3,none⟩)),some (.int .i64 r.by_),some (.pointer (some ⟨w.heap.size,4,none⟩)),some (.int .i64 r.low),some (.pointer (some ⟨w.heap.size,5,none⟩)),some (.int .i64 r.high),none,none,none,some (.bool (grwOk r.bx r.by_ r.low r.high (preE r p))),none,none,some (.bool (grwOk r.bx r.by_ r.low r.high (preE r p)))] (dlR 16) [26,27,28,29,30,31,32,33,34,35,25,36,37,8,7] [0,1,2,3,4,5,6,7,8,9,10,11,12,13,14,15] [] (by kernel_rfl) (by rw [hz];decide) ?_ (en rfl ?_ (en rfl ?_ (en rfl ?_ (en rfl ?_ (en rfl ?_ (en rfl ?_ (en rfl ?_ (en rfl ?_ (en rfl ?_ (en rfl ?_ (en rfl ?_ (en rfl ?_ (en rfl ?_ (en rfl ?_ (en rfl ?_ (en rfl ?_ .nil)))))))))))))))) ?_
  ·exact fun _ h=>⟨(fun h=>by cases h),(fun h=>by cases h),(fun h=>by cases h),(fun h=>by cases h)⟩
  ·intro Lk ak ww H _ _ hN
   simp [go_sem,H.f.g rfl s6,(b8.k0 H.k).cell]
   exact (hN _ _ H.k rfl (hXb.q rfl H.x))
  ·intro Lk ak ww H _ _ hN
   simp [go_sem,H.f.g rfl s2]
   exact (hN _ _ H.k rfl (hXb.q rfl H.x))
  ·intro Lk ak ww H _ _ hN
   simp [go_sem,(gS ak 27 (H.d 1 rfl rfl)),(b3.k0 H.k).cell]
   exact (hN _ _ H.k rfl (hXb.q rfl H.x))
  ·intro Lk ak ww H _ _ hN
   simp [go_sem,H.f.g rfl s2]
   exact (hN _ _ H.k rfl (hXb.q rfl H.x))
  ·intro Lk ak ww H _ _ hN
   simp [go_sem,(gS ak 29 (H.d 3 rfl rfl)),(b3.k0 H.k).cell]
   exact (hN _ _ H.k rfl (hXb.q rfl H.x))
  ·intro Lk ak ww H _ _ hN
   simp [go_sem,H.f.g rfl s2]
   exact (hN _ _ H.k rfl (hXb.q rfl H.x))
  ·intro Lk ak ww H _ _ hN
   simp [go_sem,(gS ak 31 (H.d 5 rfl rfl)),(b3.k0 H.k).cell]
   exact (hN _ _ H.k rfl (hXb.q rfl H.x))
  ·intro Lk ak ww H _ _ hN
   simp [go_sem,H.f.g rfl s2]
   exact (hN _ _ H.k rfl (hXb.q rfl H.x))
  ·intro Lk ak ww H _ _ hN
   simp [go_sem,(gS ak 33 (H.d 7 rfl rfl)),(b3.k0 H.k).cell]
   exact (hN _ _ H.k rfl (hXb.q rfl H.x))
  ·intro Lk ak ww H _ _ hN
   obtain ⟨x0,x1,x2,x3⟩:=H.x
   simp [go_sem,(gS ak 26 (H.d 0 rfl rfl)),(gS ak 28 (H.d 2 rfl rfl)),(gS ak 30 (H.d 4 rfl rfl)),(gS ak 32 (H.d 6 rfl rfl)),(gS ak 34 (H.d 8 rfl rfl))]
   refine (iGrow_c (preE r p) r.bx r.by_ r.low r.high ⟨A1,c1⟩ ww (preE_ok r p) (drvIn hr) ((N1.below H.k.toBelow leR).out halfC_len)).mono ?_
   rintro x wx ⟨_,rfl,⟨A2,c2,rfl,f0⟩,hb⟩
   have f2:=New.mono (show New 111 3 halfC wx ww.heap.size (.slice A2 (preG r p).length c2) (preG r p) from ⟨_,_,rfl,f0⟩) H.k.size
   exact (hN _ _ (H.k.call hb) trivial ⟨(fun _=>by rw [put_get_self (H.f.lt (by rw [hz];decide))];exact ⟨A2,c2,rfl,f2⟩),(fun h=>by rw [put_ne' (by decide)];obtain ⟨A2',c2',e,f2'⟩:=x1 h;exact ⟨A2',c2',e,f2'.below hb leR⟩),(fun h=>by rw [put_ne' (by decide)];obtain ⟨A2',c2',e,f2'⟩:=x2 h;exact ⟨A2',c2',e,f2'.below hb leR⟩),(fun h=>((x3 h).bel hb (fun _ ⟨A2',c2',e,f2'⟩=>⟨A2',c2',e,f2'.below hb leR⟩)).put (by decide) _)⟩)
  ·intro Lk ak ww H _ _ hN
   obtain ⟨x0,x1,x2,x3⟩:=H.x
   obtain ⟨A2,c2,ee9,f2⟩:=x0 (H.r 9 rfl)
   exact wp_move rfl (ev ee9) (hN _ _ H.k trivial ⟨(fun h=>by rw [put_ne' (by decide)];obtain ⟨A2',c2',e,f2'⟩:=x0 h;exact ⟨A2',c2',e,f2'.below bR leR⟩),(fun _=>by rw [put_get_self (H.f.lt (by rw [hz];decide))];exact ⟨A2,c2,rfl,f2⟩),(fun h=>by rw [put_ne' (by decide)];obtain ⟨A2',c2',e,f2'⟩:=x2 h;exact ⟨A2',c2',e,f2'.below bR leR⟩),(fun h=>((x3 h).bel bR (fun _ ⟨A2',c2',e,f2'⟩=>⟨A2',c2',e,f2'.below bR leR⟩)).put (by decide) _)⟩)
  ·intro Lk ak ww H _ _ hN
   obtain ⟨x0,x1,x2,x3⟩:=H.x
   obtain ⟨A2,c2,ee10,f2⟩:=x1 (H.r 10 rfl)
   exact wp_extract rfl (ev ee10) rfl (hN _ _ H.k trivial ⟨(fun h=>by rw [put_ne' (by decide)];obtain ⟨A2',c2',e,f2'⟩:=x0 h;exact ⟨A2',c2',e,f2'.below bR leR⟩),(fun h=>by rw [put_ne' (by decide)];obtain ⟨A2',c2',e,f2'⟩:=x1 h;exact ⟨A2',c2',e,f2'.below bR leR⟩),(fun _=>by rw [put_get_self (H.f.lt (by rw [hz];decide))];exact ⟨A2,c2,rfl,f2⟩),(fun h=>((x3 h).bel bR (fun _ ⟨A2',c2',e,f2'⟩=>⟨A2',c2',e,f2'.below bR leR⟩)).put (by decide) _)⟩)
  ·intro Lk ak ww H _ _ hN
   obtain ⟨x0,x1,x2,x3⟩:=H.x
   obtain ⟨A2,c2,ee10,f2⟩:=x1 (H.r 10 rfl)
   exact wp_extract rfl (ev ee10) rfl (hN _ _ H.k rfl (hXb.q rfl H.x))
  ·intro Lk ak ww H _ _ hN
   obtain ⟨x0,x1,x2,x3⟩:=H.x
   simp [go_sem]
   exact hN _ _ (H.k.alloc _) trivial ⟨(fun h=>by rw [put_ne' (by decide)];obtain ⟨A2',c2',e,f2'⟩:=x0 h;exact ⟨A2',c2',e,f2'.below (below_al bR _) leR⟩),(fun h=>by rw [put_ne' (by decide)];obtain ⟨A2',c2',e,f2'⟩:=x1 h;exact ⟨A2',c2',e,f2'.below (below_al bR _) leR⟩),(fun h=>by rw [put_ne' (by decide)];obtain ⟨A2',c2',e,f2'⟩:=x2 h;exact ⟨A2',c2',e,f2'.below (below_al bR _) leR⟩),(fun _=>by rw [show upd Lk 13 14=false from H.t 14 rfl];exact BoxX.new (s:=8) (H.f.lt (by rw [hz];decide)) H.k.size [.slice none 0 0])⟩
  ·intro Lk ak ww H _ _ hN
   obtain ⟨x0,x1,x2,x3⟩:=H.x
   obtain ⟨A2,c2,ee11,f2⟩:=x2 (H.r 11 rfl)
   obtain ⟨g,eg,hg,y,_⟩:=x3 (H.r 13 rfl)
   have HT:=y H.n
   simp [go_sem,ee11,eg,HT.cell,HT.frz]
   have f2:=f2.otherC (f2.typ HT (by decide)) [.slice A2 ((preG r p).length) c2] 0
   exact hN undef _ (H.k.store (.inl hg) [.slice A2 ((preG r p).length) c2] 0) trivial ⟨(fun h=>by obtain ⟨A2',c2',e,f2'⟩:=x0 h;exact ⟨A2',c2',e,f2'.otherC (f2'.typ HT (by decide)) [.slice A2 ((preG r p).length) c2] 0⟩),(fun h=>by obtain ⟨A2',c2',e,f2'⟩:=x1 h;exact ⟨A2',c2',e,f2'.otherC (f2'.typ HT (by decide)) [.slice A2 ((preG r p).length) c2] 0⟩),(fun h=>by obtain ⟨A2',c2',e,f2'⟩:=x2 h;exact ⟨A2',c2',e,f2'.otherC (f2'.typ HT (by decide)) [.slice A2 ((preG r p).length) c2] 0⟩),(fun _=>BoxX.set eg hg HT (us:=[.slice A2 ((preG r p).length) c2]) rfl ⟨A2,c2,rfl,f2⟩)⟩
  ·exact fun Lk ak ww H _ _ hN=>wp_assign rfl (ev (H.d 12 rfl rfl)) (hN _ _ H.k rfl (hXb.q rfl H.x))
  intro L a14 w15 hL hF hK hV hX
  obtain ⟨x0,x1,x2,x3⟩:=hX
  replace hz:=hF.Z hz;replace hdf:=hF.E hdf;replace s2:=hF.G s2;replace s4:=hF.G s4;have s7:=gS a14 7 (hV 15 _ rfl);replace b3:=b3.k0 hK;replace b5:=b5.k0 hK
  obtain ⟨g16,s8,lg16,-,b16⟩:=x3 (hL 13 (by decide))
  obtain ⟨_,b16,A2,c2,rfl,N2⟩:=b16 (hL 14 (by decide))
  have i2:∀ p,A2=some p→p.block<w15.heap.size:=fun p hp=>(N2.blk p hp).2
  have ug16:=b16.lt
  have zw10:=hZ;have zw15:=hK.size;replace hZ:=Nat.le_refl w15.heap.size;replace hB:=hK.below0 hB;clear hF hK hV hL x0 x1 x2 x3 hXb s6 s23 b8 N1 i1;refine th_n ?_;refine wp_seq ?_;refine wp_seq ?_
  refine wp_regJ (by kernel_rfl) [38,39] [some (.bool (grwOk r.bx r.by_ r.low r.high (preE r p))),some (.bool (!(grwOk r.bx r.by_ r.low r.high (preE r p))))] (dlR 2) [38,39] [0,1] [] (fun _ _ _=>True) (by kernel_rfl) (by rw [hz];decide) ?_ (en rfl ?_ (en rfl ?_ .nil)) ?_
  ·exact fun _ _=>trivial
  ·exact fun Lk ak ww H _ _ hN=>wp_move rfl (ev (H.f.g rfl s7)) (hN _ _ H.k rfl trivial)
  ·exact fun Lk ak ww H _ _ hN=>wp_not rfl (ev (H.d 0 rfl rfl)) (hN _ _ H.k rfl trivial)
  intro L a17 w18 hL hF hK hV hX;replace hz:=hF.Z hz;replace hdf:=hF.E hdf;replace s2:=hF.G s2;replace s4:=hF.G s4;replace s8:=hF.G s8;have s39:=gS a17 39 (hV 1 _ rfl);replace b3:=b3.k0 hK;replace b5:=b5.k0 hK;replace b16:=b16.k0 hK;replace N2:=N2.below hK.toBelow leR;replace hZ:=Nat.le_trans hZ hK.size;replace hB:=hK.below0 hB;clear hF hK hV hL hX s7;refine th_n ?_
  rcases Bool.eq_false_or_eq_true (!(grwOk r.bx r.by_ r.low r.high (preE r p))) with q19|q19
  ·skip
   refine wp_cond_true (ev (vb s39 q19)) ?_
   refine wp_seq ?_
   have hXb:StaysX [] (fun L aa ww=>PreX ww (w.heap.size+2) 37 [.slice none 0 0] (L 1) (fun _ vs=>vs=[.slice none 0 0])):=by
    intro L aa ww w' kk vv hkk hb hX
    have x0:=hX
    exact (x0.bel hb (fun _ h=>h))
   refine wp_regK hXb (by kernel_rfl) [40,0,5] [some (.agg #[.slice none 0 0]),none,some (.bool false)] (dlR 3) [40,5] [0,1,2] [(w.heap.size+2)] (by kernel_rfl) (by rw [hz];decide) ?_ (en rfl ?_ (en rfl ?_ (en rfl ?_ .nil))) ?_
   ·exact fun _ h=>(⟨fun _=>b5.kp h (by simp),(fun h=>by cases h)⟩)
   ·intro Lk ak ww H _ _ hN
    simp [go_sem]
    exact (hN _ _ H.k rfl H.x)
   ·intro Lk ak ww H _ _ hN
    have x0:=H.x
    have HT:=x0.1 H.n
    simp [go_sem,(gS ak 40 (H.d 0 rfl rfl)),H.f.g rfl s4,HT.cell,HT.frz]
    exact hN undef _ (H.k.store (.inr (by simp)) [.slice none 0 0] 0) trivial (PreX.set HT (us:=[.slice none 0 0]) rfl rfl)
   ·exact fun Lk ak ww H _ _ hN=>wp_assign rfl rfl (hN _ _ H.k rfl H.x)
   intro L a20 w21 hL hF hK hV hX;have x0:=hX;replace hz:=hF.Z hz;replace hdf:=hF.E hdf;replace s4:=hF.G s4;have s5:=gS a20 5 (hV 2 _ rfl);clear b5
   obtain ⟨_,b5,rfl⟩:=x0.2 (hL 1 (by decide))
   replace hZ:=Nat.le_trans hZ hK.size
   replace hB:=hK.below hB hB.size (by simp<;>omega)
   clear hF hK hV hL x0 hXb s2 s8 s39 b3 b16 N2 i2;refine th_n ?_
   refine wp_ret ?_
   refine th_r ?_
   refine bodyPost_ret (v:=.tuple #[.agg #[.slice none 0 0],.bool false]) (by simp [results,Tryz.results147,go_sem,s4,b5.cell,s5]) hdf ?_
   have h0:=pre_no2 (r:=r) (p:=p) (not_t q19)
   exact ⟨_,by rw [h0.1],by rw [h0.2];exact New.nilN _ _ _ _ _,hB⟩
  ·skip
   refine wp_cond_false (ev (vb s39 q19)) ?_
   refine wp_skip ?_;refine th_n ?_;refine wp_seq ?_
   have hXb:StaysX [46,47] (fun L aa ww=>(L 5=true→(fun ww v=>∃ A3 c3,v=.tuple #[.agg #[.slice A3 ((movR (pulH r.map r.div) (preG r p)).length) c3],.bool (movOk (pulH r.map r.div) (preG r p))]∧New 111 3 halfC ww w18.heap.size (.slice A3 (movR (pulH r.map r.div) (preG r p)).length c3) (movR (pulH r.map r.div) (preG r p))) ww (aa.tmps[46]?.getD undef))∧(L 6=true→(fun ww v=>∃ A3 c3,v=.agg #[.slice A3 ((movR (pulH r.map r.div) (preG r p)).length) c3]∧New 111 3 halfC ww w18.heap.size (.slice A3 (movR (pulH r.map r.div) (preG r p)).length c3) (movR (pulH r.map r.div) (preG r p))) ww (aa.tmps[47]?.getD undef))∧PreX ww (w.heap.size+2) 37 [.slice none 0 0] (L 8) (fun ww vs=>∃ A3 c3,vs=[.slice A3 ((movR (pulH r.map r.div) (preG r p)).length) c3]∧New 111 3 halfC ww w18.heap.size (.slice A3 (movR (pulH r.map r.div) (preG r p)).length c3) (movR (pulH r.map r.div) (preG r p)))):=by
    intro L aa ww w' kk vv hkk hb hX
    obtain ⟨x0,x1,x2⟩:=hX
    exact ⟨(fun h=>by rw [put_ne' (hkk 46 (by simp))];obtain ⟨A3',c3',e,f3'⟩:=x0 h;exact ⟨A3',c3',e,f3'.below hb leR⟩),(fun h=>by rw [put_ne' (hkk 47 (by simp))];obtain ⟨A3',c3',e,f3'⟩:=x1 h;exact ⟨A3',c3',e,f3'.below hb leR⟩),(x2.bel hb (fun _ ⟨A3',c3',e,f3'⟩=>⟨A3',c3',e,f3'.below hb leR⟩))⟩
   refine wp_regK hXb (by kernel_rfl) [41,42,43,44,45,46,47,48,0,5] [some (.agg #[.slice A2 ((preG r p).length) c2]),some (.pointer (some ⟨w.heap.size,0,none⟩)),some (.slice ra.map.A r.map.length ra.map.c),some (.pointer (some ⟨w.heap.size,1,none⟩)),some (.int .i64 r.div),none,none,some (.bool (movOk (pulH r.map r.div) (preG r p))),none,some (.bool (movOk (pulH r.map r.div) (preG r p)))] (dlR 10) [41,42,43,44,45,46,47,48,5] [0,1,2,3,4,5,6,7,8,9] [(w.heap.size+2)] (by kernel_rfl) (by rw [hz];decide) ?_ (en rfl ?_ (en rfl ?_ (en rfl ?_ (en rfl ?_ (en rfl ?_ (en rfl ?_ (en rfl ?_ (en rfl ?_ (en rfl ?_ (en rfl ?_ .nil)))))))))) ?_
   ·exact fun _ h=>⟨(fun h=>by cases h),(fun h=>by cases h),(⟨fun _=>b5.kp h (by simp),(fun h=>by cases h)⟩)⟩
   ·intro Lk ak ww H _ _ hN
    simp [go_sem,H.f.g rfl s8,(b16.kp H.k (by simp<;>omega)).cell]
    exact (hN _ _ H.k rfl (hXb.q rfl H.x))
   ·intro Lk ak ww H _ _ hN
    simp [go_sem,H.f.g rfl s2]
    exact (hN _ _ H.k rfl (hXb.q rfl H.x))
   ·intro Lk ak ww H _ _ hN
    simp [go_sem,(gS ak 42 (H.d 1 rfl rfl)),(b3.kp H.k (by simp<;>omega)).cell]
    exact (hN _ _ H.k rfl (hXb.q rfl H.x))
   ·intro Lk ak ww H _ _ hN
    simp [go_sem,H.f.g rfl s2]
    exact (hN _ _ H.k rfl (hXb.q rfl H.x))
   ·intro Lk ak ww H _ _ hN
    simp [go_sem,(gS ak 44 (H.d 3 rfl rfl)),(b3.kp H.k (by simp<;>omega)).cell]
    exact (hN _ _ H.k rfl (hXb.q rfl H.x))
   ·intro Lk ak ww H _ _ hN
    obtain ⟨x0,x1,x2⟩:=H.x
    simp [go_sem,(gS ak 41 (H.d 0 rfl rfl)),(gS ak 43 (H.d 2 rfl rfl)),(gS ak 45 (H.d 4 rfl rfl))]
    have hBi:=H.k.below hB hB.size (by simp<;>omega)
    refine (iPull_c (preG r p) r.map r.div ⟨A2,c2⟩ ra.map.A ra.map.c ww (preG_ok r p) (mapIn hr) ((N2.kp H.k i2 (by omega) (by simp<;>omega)).out halfC_len) (hs.below hBi).map).mono ?_
    rintro x wx ⟨_,rfl,⟨A3,c3,rfl,f0⟩,hb⟩
    have f3:=New.mono (show New 111 3 halfC wx ww.heap.size (.slice A3 (movR (pulH r.map r.div) (preG r p)).length c3) (movR (pulH r.map r.div) (preG r p)) from ⟨_,_,rfl,f0⟩) H.k.size
    exact (hN _ _ (H.k.call hb) trivial ⟨(fun _=>by rw [put_get_self (H.f.lt (by rw [hz];decide))];exact ⟨A3,c3,rfl,f3⟩),(fun h=>by rw [put_ne' (by decide)];obtain ⟨A3',c3',e,f3'⟩:=x1 h;exact ⟨A3',c3',e,f3'.below hb leR⟩),(x2.bel hb (fun _ ⟨A3',c3',e,f3'⟩=>⟨A3',c3',e,f3'.below hb leR⟩))⟩)
   ·intro Lk ak ww H _ _ hN
    obtain ⟨x0,x1,x2⟩:=H.x
    obtain ⟨A3,c3,ee5,f3⟩:=x0 (H.r 5 rfl)
    exact wp_extract rfl (ev ee5) rfl (hN _ _ H.k trivial ⟨(fun h=>by rw [put_ne' (by decide)];obtain ⟨A3',c3',e,f3'⟩:=x0 h;exact ⟨A3',c3',e,f3'.below bR leR⟩),(fun _=>by rw [put_get_self (H.f.lt (by rw [hz];decide))];exact ⟨A3,c3,rfl,f3⟩),(x2.bel bR (fun _ ⟨A3',c3',e,f3'⟩=>⟨A3',c3',e,f3'.below bR leR⟩))⟩)
   ·intro Lk ak ww H _ _ hN
    obtain ⟨x0,x1,x2⟩:=H.x
    obtain ⟨A3,c3,ee5,f3⟩:=x0 (H.r 5 rfl)
    exact wp_extract rfl (ev ee5) rfl (hN _ _ H.k rfl (hXb.q rfl H.x))
   ·intro Lk ak ww H _ _ hN
    obtain ⟨x0,x1,x2⟩:=H.x
    obtain ⟨A3,c3,ee6,f3⟩:=x1 (H.r 6 rfl)
    have HT:=x2.1 H.n
    simp [go_sem,ee6,H.f.g rfl s4,HT.cell,HT.frz]
    have f3:=f3.otherC (f3.typ HT (by decide)) [.slice A3 ((movR (pulH r.map r.div) (preG r p)).length) c3] 0
    exact hN undef _ (H.k.store (.inr (by simp)) [.slice A3 ((movR (pulH r.map r.div) (preG r p)).length) c3] 0) trivial ⟨(fun h=>by obtain ⟨A3',c3',e,f3'⟩:=x0 h;exact ⟨A3',c3',e,f3'.otherC (f3'.typ HT (by decide)) [.slice A3 ((movR (pulH r.map r.div) (preG r p)).length) c3] 0⟩),(fun h=>by obtain ⟨A3',c3',e,f3'⟩:=x1 h;exact ⟨A3',c3',e,f3'.otherC (f3'.typ HT (by decide)) [.slice A3 ((movR (pulH r.map r.div) (preG r p)).length) c3] 0⟩),(PreX.set HT (us:=[.slice A3 ((movR (pulH r.map r.div) (preG r p)).length) c3]) rfl ⟨A3,c3,rfl,f3⟩)⟩
   ·exact fun Lk ak ww H _ _ hN=>wp_assign rfl (ev (H.d 7 rfl rfl)) (hN _ _ H.k rfl (hXb.q rfl H.x))
   intro L a22 w23 hL hF hK hV hX
   obtain ⟨x0,x1,x2⟩:=hX
   replace hz:=hF.Z hz;replace hdf:=hF.E hdf;replace s4:=hF.G s4;have s5:=gS a22 5 (hV 9 _ rfl);clear b5
   obtain ⟨_,b5,A3,c3,rfl,N3⟩:=x2.2 (hL 8 (by decide))
   have i3:∀ p,A3=some p→p.block<w23.heap.size:=fun p hp=>(N3.blk p hp).2;have zw18:=hZ;have zw23:=hK.size;replace hZ:=Nat.le_refl w23.heap.size
   replace hB:=hK.below hB hB.size (by simp<;>omega)
   clear hF hK hV hL x0 x1 x2 hXb s2 s8 s39 b3 b16 N2 i2;refine th_n ?_
   refine wp_ret ?_
   refine bodyPost_ret (v:=.tuple #[.agg #[.slice A3 ((movR (pulH r.map r.div) (preG r p)).length) c3],.bool (movOk (pulH r.map r.div) (preG r p))]) (by simp [results,Tryz.results147,go_sem,s4,b5.cell,s5]) hdf ?_
   have h0:=pre_yes (pre_yes1 q11) (not_f q19)
   exact ⟨_,by rw [h0.1],by rw [h0.2];exact N3.mono (by omega),hB⟩
end Go.Proofs.YtdncnhcffbgjhaaGreat
