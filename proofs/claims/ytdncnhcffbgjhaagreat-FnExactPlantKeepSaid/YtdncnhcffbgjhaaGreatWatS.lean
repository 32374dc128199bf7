/-
 The region from which an input leads into a region, whether a region is kept, whether a watch is valid: of the reference.
 Conditions: the slices hold at most 2^20 elements.
-/
import Derived.Test.YtdncnhcffbgjhaaGreatGrowS
import Derived.Test.YtdncnhcffbgjhaaGreatGrXb
namespace Go.Proofs.YtdncnhcffbgjhaaGreat
open Go.RowKit
theorem rp_eq {r:Room} {p:List Half} (hr:roomOk r=true) (hp:regionOk p=true):rpOk r p=movOk (eroH r.noise) p∧rpR r p=preE r p:=by
 unfold rpOk rpR preE
 rw [hr,hp,if_pos ⟨rfl,rfl⟩];exact ⟨rfl,rfl⟩
theorem sRobE_c (r:Room) (p:List Half) (a:RoomA) (b:SlA) (w:World) (hr:roomOk r=true) (hp:regionOk p=true) (hn:roomLen r≤1048576) (hin:RoomIn r) (hs:RoomSl w r a) (hnl:RoomNil a) (hlp:p.length≤1048576) (hpi:∀ h∈p,h.In) (hsp:Sl 3 halfC w b.A p) (hnb:b.A=none→b.c=0) :
 Calls Tryz.prog 61 #[roomV r a,regionV p b] w fun e w'=>∃ v,e=.returned (.tuple #[.agg #[v],.bool (movOk (eroH r.noise) p)])∧New 111 3 halfC w' w.heap.size v (preE r p)∧Below w.heap.size w w':=by
 have h:=sRob_c r p a b w hn hin hs hnl hlp hpi hsp hnb
 rw [(rp_eq hr hp).1,(rp_eq hr hp).2] at h
 exact h
theorem preS_no1 {r:Room} {p:List Half} (h:movOk (eroH r.noise) p=false):preOk r p=false∧preR r p=[]:=pre_no1 (by rw [h];rfl)
theorem preS_no2 {r:Room} {p:List Half} (h:gaOk r.bx r.by_ r.low r.high (preE r p)=false):preOk r p=false∧preR r p=[]:=by
 unfold gaOk at h
 rcases Bool.eq_false_or_eq_true (decide ((preE r p).length≤38)) with h1|h1
 ·rw [h1,Bool.true_and] at h;exact pre_no2 h
 ·exact pre_no1 (by
   have:=of_decide_eq_false h1
   rw [decide_eq_true (show (((preE r p).length:Nat):Int) > 38 by omega),Bool.or_true])
theorem preS_yes {r:Room} {p:List Half} (h1:movOk (eroH r.noise) p=true) (h2:gaOk r.bx r.by_ r.low r.high (preE r p)=true):preOk r p=movOk (pulH r.map r.div) (preG r p)∧preR r p=movR (pulH r.map r.div) (preG r p):=by
 unfold gaOk at h2
 refine pre_yes ?_ (and_t2 h2)
 unfold preA
 rw [h1,and_t1 h2];rfl
theorem ga_eq {r:Room} {p:List Half} (h2:gaOk r.bx r.by_ r.low r.high (preE r p)=true):gaR r.bx r.by_ r.low r.high (preE r p)=preG r p:=(ga_yes (of_decide_eq_true (and_t1 h2))).2
theorem gaR_ok {bx by_ lo hi:Int} {p:List Half} (hp:regionOk p=true):regionOk (gaR bx by_ lo hi p)=true:=by
 unfold gaR
 split
 ·exact grwR_ok hp
 ·rfl
theorem room_map {r:Room} (h:roomOk r=true):mapOk r.map r.div=true:=by
 simp only [roomOk,turnOk,Bool.and_eq_true] at h
 exact h.1.1.1.1.1.1.1.1
theorem room_det {r:Room} (h:roomOk r=true):r.map.getD 0 0*r.map.getD 3 0-r.map.getD 1 0*r.map.getD 2 0≠0:=by
 simp only [roomOk,turnOk,Bool.and_eq_true] at h
 have h2:=h.1.1.1.1.1.1.1.2
 unfold det at h2
 simpa using h2
set_option maxRecDepth 100000 in
set_option maxHeartbeats 3000000 in
theorem sPre_c (r:Room) (p:List Half) (ra:RoomA) (b:SlA) (w:World) (hn:roomLen r≤1048576) (hin:RoomIn r) (hs:RoomSl w r ra) (hnl:RoomNil ra) (hlp:p.length≤1048576) (hpi:∀ h∈p,h.In) (hsp:Sl 3 halfC w b.A p) (hnb:b.A=none→b.c=0) (hr:roomOk r=true) (hp:regionOk p=true) :
 Calls Tryz.prog 117 #[roomV r ra,.agg #[.slice b.A p.length b.c]] w fun x w'=>∃ v,x=.returned (.tuple #[.agg #[v],.bool (preOk r p)])∧New 111 3 halfC w' w.heap.size v (preR r p)∧Below w.heap.size w w':=by
 have hmap:mapOk r.map r.div=true:=room_map hr
 have hdet:=room_det hr
 refine calls_v Tryz.func117 rfl (n:=43) Tryz.ntmps117 (by simp) ?_
 intro a0 hz hdf ha
 have s0:a0.tmps[0]?.getD undef=roomV r ra:=ha 0 _ rfl;have s1:a0.tmps[1]?.getD undef=.agg #[.slice b.A p.length b.c]:=ha 1 _ rfl;clear ha
 have hB:=Below.refl w.heap.size w
 have hZ:=Nat.le_refl w.heap.size
 refine wp_seq ?_
 refine wp_entry [2,3,4,5] [.pointer (some ⟨w.heap.size,0,none⟩),.pointer (some ⟨(w.heap.size+1),0,none⟩),.pointer (some ⟨(w.heap.size+2),0,none⟩),.bool false] [some (.cells (roomC r ra).toArray 39),some (.cells [.slice b.A p.length b.c].toArray 37),some (.cells [.slice none 0 0].toArray 37),none] [0,1,2,3] [2,3,4,5] [0,1,2,3] (by kernel_rfl) (by rw [hz];decide) (ec ?_ (ec ?_ (ec ?_ (ec ?_ .nil)))) ?_
 ·intro a w' hF hs N Q hN;simp [go_sem,hF.g rfl s0];rw [hs];exact hN
 ·intro a w' hF hs N Q hN;simp [go_sem,hF.g rfl s1];rw [hs];exact hN
 ·intro a w' hF hs N Q hN;simp [go_sem];rw [hs];exact hN
 ·intro a w' hF hs N Q hN;simp [go_sem];exact hN
 intro a1 w2 hF hV hb hO
 replace hz:=hF.size.trans hz;replace hdf:=hF.defers.trans hdf
 have s2:a1.tmps[2]?.getD undef=.pointer (some ⟨w.heap.size,0,none⟩):=hV 0 (by decide)
 have s3:a1.tmps[3]?.getD undef=.pointer (some ⟨(w.heap.size+1),0,none⟩):=hV 1 (by decide)
 have s4:a1.tmps[4]?.getD undef=.pointer (some ⟨(w.heap.size+2),0,none⟩):=hV 2 (by decide)
 have b3:HasT w2 w.heap.size 39 (roomC r ra):=hO 0 _ rfl
 have b4:HasT w2 (w.heap.size+1) 37 [.slice b.A p.length b.c]:=hO 1 _ rfl
 have b5:HasT w2 (w.heap.size+2) 37 [.slice none 0 0]:=hO 2 _ rfl
 have hG:=b5.lt
 replace hB:=below_tr hB hb;have zw2:=Nat.le_trans hZ hb.size;replace hZ:=Nat.le_refl w2.heap.size;clear hF hV hb hO s0 s1;refine th_n ?_;refine wp_seq ?_
 have hXb:StaysX [6,10,13,14] (fun L aa ww=>(L 2=true→(fun ww v=>∃ A1 c1,v=.tuple #[.agg #[.slice A1 ((preE r p).length) c1],.bool (movOk (eroH r.noise) p)]∧New 111 3 halfC ww w2.heap.size (.slice A1 (preE r p).length c1) (preE r p)) ww (aa.tmps[13]?.getD undef))∧(L 3=true→(fun ww v=>∃ A1 c1,v=.tuple #[.agg #[.slice A1 ((preE r p).length) c1],.bool (movOk (eroH r.noise) p)]∧New 111 3 halfC ww w2.heap.size (.slice A1 (preE r p).length c1) (preE r p)) ww (aa.tmps[10]?.getD undef))∧(L 4=true→(fun ww v=>∃ A1 c1,v=.agg #[.slice A1 ((preE r p).length) c1]∧New 111 3 halfC ww w2.heap.size (.slice A1 (preE r p).length c1) (preE r p)) ww (aa.tmps[14]?.getD undef))∧(L 6=true→BoxX w2 aa ww 6 37 [.slice none 0 0] (L 7) (fun ww vs=>∃ A1 c1,vs=[.slice A1 ((preE r p).length) c1]∧New 111 3 halfC ww w2.heap.size (.slice A1 (preE r p).length c1) (preE r p)))):=by
  intro L aa ww w' kk vv hkk hb hX
  obtain ⟨x0,x1,x2,x3⟩:=hX
  exact ⟨(fun h=>by rw [put_ne' (hkk 13 (by simp))];obtain ⟨A1',c1',e,f1'⟩:=x0 h;exact ⟨A1',c1',e,f1'.below hb leR⟩),(fun h=>by rw [put_ne' (hkk 10 (by simp))];obtain ⟨A1',c1',e,f1'⟩:=x1 h;exact ⟨A1',c1',e,f1'.below hb leR⟩),(fun h=>by rw [put_ne' (hkk 14 (by simp))];obtain ⟨A1',c1',e,f1'⟩:=x2 h;exact ⟨A1',c1',e,f1'.below hb leR⟩),(fun h=>((x3 h).bel hb (fun _ ⟨A1',c1',e,f1'⟩=>⟨A1',c1',e,f1'.below hb leR⟩)).put (hkk 6 (by simp)) _)⟩
 refine wp_regK hXb (by kernel_rfl) [11,12,13,10,14,15,6,0,7] [some (roomV r ra),some (.agg #[.slice b.A p.length b.c]),none,none,none,some (.bool (movOk (eroH r.noise) p)),none,none,some (.bool (movOk (eroH r.noise) p))] (dlR 9) [11,12,13,10,14,15,6,7] [0,1,2,3,4,5,6,7,8] [] (by kernel_rfl) (by rw [hz];decide) ?_ (en rfl ?_ (en rfl ?_ (en rfl ?_ (en rfl ?_ (en rfl ?_ (en rfl ?_ (en rfl ?_ (en rfl ?_ (en rfl ?_ .nil))))))))) ?_
 ·exact fun _ h=>⟨(fun h=>by cases h),(fun h=>by cases h),(fun h=>by cases h),(fun h=>by cases h)⟩
 ·intro Lk ak ww H _ _ hN
  simp [go_sem,H.f.g rfl s2,(b3.k0 H.k).cell]
  exact (hN _ _ H.k rfl (hXb.q rfl H.x))
 ·intro Lk ak ww H _ _ hN
  simp [go_sem,H.f.g rfl s3,(b4.k0 H.k).cell]
  exact (hN _ _ H.k rfl (hXb.q rfl H.x))
 ·intro Lk ak ww H _ _ hN
  obtain ⟨x0,x1,x2,x3⟩:=H.x
  simp [go_sem,(gS ak 11 (H.d 0 rfl rfl)),(gS ak 12 (H.d 1 rfl rfl))]
  have hBi:=H.k.below0 hB
  refine (sRobE_c r p ra b ww hr hp hn hin (hs.below hBi) hnl hlp hpi (hsp.below hBi) hnb).mono ?_
  rintro x wx ⟨_,rfl,⟨A1,c1,rfl,f0⟩,hb⟩
  have f1:=New.mono (show New 111 3 halfC wx ww.heap.size (.slice A1 (preE r p).length c1) (preE r p) from ⟨_,_,rfl,f0⟩) H.k.size
  exact (hN _ _ (H.k.call hb) trivial ⟨(fun _=>by rw [put_get_self (H.f.lt (by rw [hz];decide))];exact ⟨A1,c1,rfl,f1⟩),(fun h=>by rw [put_ne' (by decide)];obtain ⟨A1',c1',e,f1'⟩:=x1 h;exact ⟨A1',c1',e,f1'.below hb leR⟩),(fun h=>by rw [put_ne' (by decide)];obtain ⟨A1',c1',e,f1'⟩:=x2 h;exact ⟨A1',c1',e,f1'.below hb leR⟩),(fun h=>((x3 h).bel hb (fun _ ⟨A1',c1',e,f1'⟩=>⟨A1',c1',e,f1'.below hb leR⟩)).put (by decide) _)⟩)
 ·intro Lk ak ww H _ _ hN
  obtain ⟨x0,x1,x2,x3⟩:=H.x
  obtain ⟨A1,c1,ee2,f1⟩:=x0 (H.r 2 rfl)
  exact wp_move rfl (ev ee2) (hN _ _ H.k trivial ⟨(fun h=>by rw [put_ne' (by decide)];obtain ⟨A1',c1',e,f1'⟩:=x0 h;exact ⟨A1',c1',e,f1'.below bR leR⟩),(fun _=>by rw [put_get_self (H.f.lt (by rw [hz];decide))];exact ⟨A1,c1,rfl,f1⟩),(fun h=>by rw [put_ne' (by decide)];obtain ⟨A1',c1',e,f1'⟩:=x2 h;exact ⟨A1',c1',e,f1'.below bR leR⟩),(fun h=>((x3 h).bel bR (fun _ ⟨A1',c1',e,f1'⟩=>⟨A1',c1',e,f1'.below bR leR⟩)).put (by decide) _)⟩)
 ·intro Lk ak ww H _ _ hN
  obtain ⟨x0,x1,x2,x3⟩:=H.x
  obtain ⟨A1,c1,ee3,f1⟩:=x1 (H.r 3 rfl)
  exact wp_extract rfl (ev ee3) rfl (hN _ _ H.k trivial ⟨(fun h=>by rw [put_ne' (by decide)];obtain ⟨A1',c1',e,f1'⟩:=x0 h;exact ⟨A1',c1',e,f1'.below bR leR⟩),(fun h=>by rw [put_ne' (by decide)];obtain ⟨A1',c1',e,f1'⟩:=x1 h;exact ⟨A1',c1',e,f1'.below bR leR⟩),(fun _=>by rw [put_get_self (H.f.lt (by rw [hz];decide))];exact ⟨A1,c1,rfl,f1⟩),(fun h=>((x3 h).bel bR (fun _ ⟨A1',c1',e,f1'⟩=>⟨A1',c1',e,f1'.below bR leR⟩)).put (by decide) _)⟩)
 ·intro Lk ak ww H _ _ hN
  obtain ⟨x0,x1,x2,x3⟩:=H.x
  obtain ⟨A1,c1,ee3,f1⟩:=x1 (H.r 3 rfl)
  exact wp_extract rfl (ev ee3) rfl (hN _ _ H.k rfl (hXb.q rfl H.x))
 ·intro Lk ak ww H _ _ hN
  obtain ⟨x0,x1,x2,x3⟩:=H.x
  simp [go_sem]
  exact hN _ _ (H.k.alloc _) trivial ⟨(fun h=>by rw [put_ne' (by decide)];obtain ⟨A1',c1',e,f1'⟩:=x0 h;exact ⟨A1',c1',e,f1'.below (below_al bR _) leR⟩),(fun h=>by rw [put_ne' (by decide)];obtain ⟨A1',c1',e,f1'⟩:=x1 h;exact ⟨A1',c1',e,f1'.below (below_al bR _) leR⟩),(fun h=>by rw [put_ne' (by decide)];obtain ⟨A1',c1',e,f1'⟩:=x2 h;exact ⟨A1',c1',e,f1'.below (below_al bR _) leR⟩),(fun _=>by rw [show upd Lk 6 7=false from H.t 7 rfl];exact BoxX.new (s:=6) (H.f.lt (by rw [hz];decide)) H.k.size [.slice none 0 0])⟩
 ·intro Lk ak ww H _ _ hN
  obtain ⟨x0,x1,x2,x3⟩:=H.x
  obtain ⟨A1,c1,ee4,f1⟩:=x2 (H.r 4 rfl)
  obtain ⟨g,eg,hg,y,_⟩:=x3 (H.r 6 rfl)
  have HT:=y H.n
  simp [go_sem,ee4,eg,HT.cell,HT.frz]
  have f1:=f1.otherC (f1.typ HT (by decide)) [.slice A1 ((preE r p).length) c1] 0
  exact hN undef _ (H.k.store (.inl hg) [.slice A1 ((preE r p).length) c1] 0) trivial ⟨(fun h=>by obtain ⟨A1',c1',e,f1'⟩:=x0 h;exact ⟨A1',c1',e,f1'.otherC (f1'.typ HT (by decide)) [.slice A1 ((preE r p).length) c1] 0⟩),(fun h=>by obtain ⟨A1',c1',e,f1'⟩:=x1 h;exact ⟨A1',c1',e,f1'.otherC (f1'.typ HT (by decide)) [.slice A1 ((preE r p).length) c1] 0⟩),(fun h=>by obtain ⟨A1',c1',e,f1'⟩:=x2 h;exact ⟨A1',c1',e,f1'.otherC (f1'.typ HT (by decide)) [.slice A1 ((preE r p).length) c1] 0⟩),(fun _=>BoxX.set eg hg HT (us:=[.slice A1 ((preE r p).length) c1]) rfl ⟨A1,c1,rfl,f1⟩)⟩
 ·exact fun Lk ak ww H _ _ hN=>wp_assign rfl (ev (H.d 5 rfl rfl)) (hN _ _ H.k rfl (hXb.q rfl H.x))
 intro L a6 w7 hL hF hK hV hX
 obtain ⟨x0,x1,x2,x3⟩:=hX
 replace hz:=hF.Z hz;replace hdf:=hF.E hdf;replace s2:=hF.G s2;replace s4:=hF.G s4;have s7:=gS a6 7 (hV 8 _ rfl);replace b3:=b3.k0 hK;replace b5:=b5.k0 hK
 obtain ⟨g8,s6,lg8,-,b8⟩:=x3 (hL 6 (by decide))
 obtain ⟨_,b8,A1,c1,rfl,N1⟩:=b8 (hL 7 (by decide))
 have i1:∀ p,A1=some p→p.block<w7.heap.size:=fun p hp=>(N1.blk p hp).2
 have ug8:=b8.lt
 have zw7:=hK.size;replace hZ:=Nat.le_refl w7.heap.size;replace hB:=hK.below0 hB;clear hF hK hV hL x0 x1 x2 x3 hXb s3 b4;refine th_n ?_;refine wp_seq ?_;refine wp_seq ?_
 refine wp_regJ (by kernel_rfl) [16,17] [some (.bool (movOk (eroH r.noise) p)),some (.bool (!(movOk (eroH r.noise) p)))] (dlR 2) [16,17] [0,1] [] (fun _ _ _=>True) (by kernel_rfl) (by rw [hz];decide) ?_ (en rfl ?_ (en rfl ?_ .nil)) ?_
 ·exact fun _ _=>trivial
 ·exact fun Lk ak ww H _ _ hN=>wp_move rfl (ev (H.f.g rfl s7)) (hN _ _ H.k rfl trivial)
 ·exact fun Lk ak ww H _ _ hN=>wp_not rfl (ev (H.d 0 rfl rfl)) (hN _ _ H.k rfl trivial)
 intro L a9 w10 hL hF hK hV hX;replace hz:=hF.Z hz;replace hdf:=hF.E hdf;replace s2:=hF.G s2;replace s4:=hF.G s4;replace s6:=hF.G s6;have s17:=gS a9 17 (hV 1 _ rfl);replace b3:=b3.k0 hK;replace b5:=b5.k0 hK;replace b8:=b8.k0 hK;replace N1:=N1.below hK.toBelow leR;replace hZ:=Nat.le_trans hZ hK.size;replace hB:=hK.below0 hB;clear hF hK hV hL hX s7;refine th_n ?_
 rcases Bool.eq_false_or_eq_true (!(movOk (eroH r.noise) p)) with q11|q11
 ·skip
  refine wp_cond_true (ev (vb s17 q11)) ?_
  refine wp_seq ?_
  have hXb:StaysX [] (fun L aa ww=>PreX ww (w.heap.size+2) 37 [.slice none 0 0] (L 1) (fun _ vs=>vs=[.slice none 0 0])):=by
   intro L aa ww w' kk vv hkk hb hX
   have x0:=hX
   exact (x0.bel hb (fun _ h=>h))
  refine wp_regK hXb (by kernel_rfl) [18,0,5] [some (.agg #[.slice none 0 0]),none,some (.bool false)] (dlR 3) [18,5] [0,1,2] [(w.heap.size+2)] (by kernel_rfl) (by rw [hz];decide) ?_ (en rfl ?_ (en rfl ?_ (en rfl ?_ .nil))) ?_
  ·exact fun _ h=>(⟨fun _=>b5.kp h (by simp),(fun h=>by cases h)⟩)
  ·intro Lk ak ww H _ _ hN
   simp [go_sem]
   exact (hN _ _ H.k rfl H.x)
  ·intro Lk ak ww H _ _ hN
   have x0:=H.x
   have HT:=x0.1 H.n
   simp [go_sem,(gS ak 18 (H.d 0 rfl rfl)),H.f.g rfl s4,HT.cell,HT.frz]
   exact hN undef _ (H.k.store (.inr (by simp)) [.slice none 0 0] 0) trivial (PreX.set HT (us:=[.slice none 0 0]) rfl rfl)
  ·exact fun Lk ak ww H _ _ hN=>wp_assign rfl rfl (hN _ _ H.k rfl H.x)
  intro L a12 w13 hL hF hK hV hX;have x0:=hX;replace hz:=hF.Z hz;replace hdf:=hF.E hdf;replace s4:=hF.G s4;have s5:=gS a12 5 (hV 2 _ rfl);clear b5
  obtain ⟨_,b5,rfl⟩:=x0.2 (hL 1 (by decide))
  replace hZ:=Nat.le_trans hZ hK.size
  replace hB:=hK.below hB hB.size (by simp<;>omega)
  clear hF hK hV hL x0 hXb s2 s6 s17 b3 b8 N1 i1;refine th_n ?_
  refine wp_ret ?_
  refine th_r ?_
  refine bodyPost_ret (v:=.tuple #[.agg #[.slice none 0 0],.bool false]) (by simp [results,Tryz.results117,go_sem,s4,b5.cell,s5]) hdf ?_
  have h0:=preS_no1 (r:=r) (p:=p) (not_t q11)
  exact ⟨_,by rw [h0.1],by rw [h0.2];exact New.nilN _ _ _ _ _,hB⟩
 ·skip
  refine wp_cond_false (ev (vb s17 q11)) ?_
  refine wp_skip ?_;refine th_n ?_;refine wp_seq ?_
  have hXb:StaysX [8,19,29,30] (fun L aa ww=>(L 9=true→(fun ww v=>∃ A2 c2,v=.tuple #[.agg #[.slice A2 ((gaR r.bx r.by_ r.low r.high (preE r p)).length) c2],.bool (gaOk r.bx r.by_ r.low r.high (preE r p))]∧New 111 3 halfC ww w10.heap.size (.slice A2 (gaR r.bx r.by_ r.low r.high (preE r p)).length c2) (gaR r.bx r.by_ r.low r.high (preE r p))) ww (aa.tmps[29]?.getD undef))∧(L 10=true→(fun ww v=>∃ A2 c2,v=.tuple #[.agg #[.slice A2 ((gaR r.bx r.by_ r.low r.high (preE r p)).length) c2],.bool (gaOk r.bx r.by_ r.low r.high (preE r p))]∧New 111 3 halfC ww w10.heap.size (.slice A2 (gaR r.bx r.by_ r.low r.high (preE r p)).length c2) (gaR r.bx r.by_ r.low r.high (preE r p))) ww (aa.tmps[19]?.getD undef))∧(L 11=true→(fun ww v=>∃ A2 c2,v=.agg #[.slice A2 ((gaR r.bx r.by_ r.low r.high (preE r p)).length) c2]∧New 111 3 halfC ww w10.heap.size (.slice A2 (gaR r.bx r.by_ r.low r.high (preE r p)).length c2) (gaR r.bx r.by_ r.low r.high (preE r p))) ww (aa.tmps[30]?.getD undef))∧(L 13=true→BoxX w10 aa ww 8 37 [.slice none 0 0] (L 14) (fun ww vs=>∃ A2 c2,vs=[.slice A2 ((gaR r.bx r.by_ r.low r.high (preE r p)).length) c2]∧New 111 3 halfC ww w10.heap.size (.slice A2 (gaR r.bx r.by_ r.low r.high (preE r p)).length c2) (gaR r.bx r.by_ r.low r.high (preE r p))))):=by
   intro L aa ww w' kk vv hkk hb hX
   obtain ⟨x0,x1,x2,x3⟩:=hX
   exact ⟨(fun h=>by rw [put_ne' (hkk 29 (by simp))];obtain ⟨A2',c2',e,f2'⟩:=x0 h;exact ⟨A2',c2',e,f2'.below hb leR⟩),(fun h=>by rw [put_ne' (hkk 19 (by simp))];obtain ⟨A2',c2',e,f2'⟩:=x1 h;exact ⟨A2',c2',e,f2'.below hb leR⟩),(fun h=>by rw [put_ne' (hkk 30 (by simp))];obtain ⟨A2',c2',e,f2'⟩:=x2 h;exact ⟨A2',c2',e,f2'.below hb leR⟩),(fun h=>((x3 h).bel hb (fun _ ⟨A2',c2',e,f2'⟩=>⟨A2',c2',e,f2'.below hb leR⟩)).put (hkk 8 (by simp)) _)⟩
  refine wp_regK hXb (by kernel_rfl) [20,21,22,23,24,25,26,27,28,29,19,30,31,8,0,9] [some (.agg #[.slice A1 ((preE r p).length) c1]),some (.pointer (some ⟨w.heap.size,2,none⟩)),some (.int .i64 r.bx),some (.pointer (some ⟨w.heap.size,3,none⟩)),some (.int .i64 r.by_),some (.pointer (some ⟨w.heap.size,4,none⟩)),some (.int .i64 r.low),some (.pointer (some ⟨w.heap.size,5,none⟩)),some (.int .i64 r.high),none,none,none,some (.bool (gaOk r.bx r.by_ r.low r.high (preE r p))),none,none,some (.bool (gaOk r.bx r.by_ r.low r.high (preE r p)))] (dlR 16) [20,21,22,23,24,25,26,27,28,29,19,30,31,8,9] [0,1,2,3,4,5,6,7,8,9,10,11,12,13,14,15] [] (by kernel_rfl) (by rw [hz];decide) ?_ (en rfl ?_ (en rfl ?_ (en rfl ?_ (en rfl ?_ (en rfl ?_ (en rfl ?_ (en rfl ?_ (en rfl ?_ (en rfl ?_ (en rfl ?_ (en rfl ?_ (en rfl ?_ (en rfl ?_ (en rfl ?_ (en rfl ?_ (en rfl ?_ .nil)))))))))))))))) ?_
  ·exact fun _ h=>⟨(fun h=>by cases h),(fun h=>by cases h),(fun h=>by cases h),(fun h=>by cases h)⟩
  ·intro Lk ak ww H _ _ hN
   simp [go_sem,H.f.g rfl s6,(b8.k0 H.k).cell]
   exact (hN _ _ H.k rfl (hXb.q rfl H.x))
  ·intro Lk ak ww H _ _ hN
   simp [go_sem,H.f.g rfl s2]
   exact (hN _ _ H.k rfl (hXb.q rfl H.x))
  ·intro Lk ak ww H _ _ hN
   simp [go_sem,(gS ak 21 (H.d 1 rfl rfl)),(b3.k0 H.k).cell]
   exact (hN _ _ H.k rfl (hXb.q rfl H.x))
  ·intro Lk ak ww H _ _ hN
   simp [go_sem,H.f.g rfl s2]
   exact (hN _ _ H.k rfl (hXb.q rfl H.x))
  ·intro Lk ak ww H _ _ hN
   simp [go_sem,(gS ak 23 (H.d 3 rfl rfl)),(b3.k0 H.k).cell]
   exact (hN _ _ H.k rfl (hXb.q rfl H.x))
  ·intro Lk ak ww H _ _ hN
   simp [go_sem,H.f.g rfl s2]
   exact (hN _ _ H.k rfl (hXb.q rfl H.x))
  ·intro Lk ak ww H _ _ hN
   simp [go_sem,(gS ak 25 (H.d 5 rfl rfl)),(b3.k0 H.k).cell]
   exact (hN _ _ H.k rfl (hXb.q rfl H.x))
  ·intro Lk ak ww H _ _ hN
   simp [go_sem,H.f.g rfl s2]
   exact (hN _ _ H.k rfl (hXb.q rfl H.x))
  ·intro Lk ak ww H _ _ hN
   simp [go_sem,(gS ak 27 (H.d 7 rfl rfl)),(b3.k0 H.k).cell]
   exact (hN _ _ H.k rfl (hXb.q rfl H.x))
  ·intro Lk ak ww H _ _ hN
   obtain ⟨x0,x1,x2,x3⟩:=H.x
   simp [go_sem,(gS ak 20 (H.d 0 rfl rfl)),(gS ak 22 (H.d 2 rfl rfl)),(gS ak 24 (H.d 4 rfl rfl)),(gS ak 26 (H.d 6 rfl rfl)),(gS ak 28 (H.d 8 rfl rfl))]
   refine (sAlong_c (preE r p) r.bx r.by_ r.low r.high ⟨A1,c1⟩ ww (preE_ok r p) (drvIn hr) ((N1.below H.k.toBelow leR).out halfC_len) N1.nilcap).mono ?_
   rintro x wx ⟨_,rfl,⟨A2,c2,rfl,f0⟩,hb⟩
   have f2:=New.mono (show New 111 3 halfC wx ww.heap.size (.slice A2 (gaR r.bx r.by_ r.low r.high (preE r p)).length c2) (gaR r.bx r.by_ r.low r.high (preE r p)) from ⟨_,_,rfl,f0⟩) H.k.size
   exact (hN _ _ (H.k.call hb) trivial ⟨(fun _=>by rw [put_get_self (H.f.lt (by rw [hz];decide))];exact ⟨A2,c2,rfl,f2⟩),(fun h=>by rw [put_ne' (by decide)];obtain ⟨A2',c2',e,f2'⟩:=x1 h;exact ⟨A2',c2',e,f2'.below hb leR⟩),(fun h=>by rw [put_ne' (by decide)];obtain ⟨A2',c2',e,f2'⟩:=x2 h;exact ⟨A2',c2',e,f2'.below hb leR⟩),(fun h=>((x3 h).bel hb (fun _ ⟨A2',c2',e,f2'⟩=>⟨A2',c2',e,f2'.below hb leR⟩)).put (by decide) _)⟩)
  ·intro Lk ak ww H _ _ hN
   obtain ⟨x0,x1,x2,x3⟩:=H.x
   obtain ⟨A2,c2,ee9,f2⟩:=x0 (H.r 9 rfl)
   exact wp_move rfl (ev ee9) (hN _ _ H.k trivial ⟨(fun h=>by rw [put_ne' (by decide)];obtain ⟨A2',c2',e,f2'⟩:=x0 h;exact ⟨A2',c2',e,f2'.below bR leR⟩),(fun _=>by rw [put_get_self (H.f.lt (by rw [hz];decide))];exact ⟨A2,c2,rfl,f2⟩),(fun h=>by rw [put_ne' (by decide)];obtain ⟨A2',c2',e,f2'⟩:=x2 h;exact ⟨A2',c2',e,f2'.below bR leR⟩),(fun h=>((x3 h).bel bR (fun _ ⟨A2',c2',e,f2'⟩=>⟨A2',c2',e,f2'.below bR leR⟩)).put (by decide) _)⟩)
  ·intro Lk ak ww H _ _ hN
   obtain ⟨x0,x1,x2,x3⟩:=H.x
   obtain ⟨A2,c2,ee10,f2⟩:=x1 (H.r 10 rfl)
   exact wp_extract rfl (ev ee10) rfl (hN _ _ H.k trivial ⟨(fun h=>by rw [put_ne' (by decide)];obtain ⟨A2',c2',e,f2'⟩:=x0 h;exact ⟨A2',c2',e,f2'.below bR leR⟩),(fun h=>by rw [put_ne' (by decide)];obtain ⟨A2',c2',e,f2'⟩:=x1 h;exact ⟨A2',c2',e,f2'.below bR leR⟩),(fun _=>by rw [put_get_self (H.f.lt (by rw [hz];decide))];exact ⟨A2,c2,rfl,f2⟩),(fun h=>((x3 h).bel bR (fun _ ⟨A2',c2',e,f2'⟩=>⟨A2',c2',e,f2'.below bR leR⟩)).put (by decide) _)⟩)
  ·intro Lk ak ww H _ _ hN
   obtain ⟨x0,x1,x2,x3⟩:=H.x
   obtain ⟨A2,c2,ee10,f2⟩:=x1 (H.r 10 rfl)
   exact wp_extract rfl (ev ee10) rfl (hN _ _ H.k rfl (hXb.q rfl H.x))
  ·intro Lk ak ww H _ _ hN
   obtain ⟨x0,x1,x2,x3⟩:=H.x
   simp [go_sem]
   exact hN _ _ (H.k.alloc _) trivial ⟨(fun h=>by rw [put_ne' (by decide)];obtain ⟨A2',c2',e,f2'⟩:=x0 h;exact ⟨A2',c2',e,f2'.below (below_al bR _) leR⟩),(fun h=>by rw [put_ne' (by decide)];obtain ⟨A2',c2',e,f2'⟩:=x1 h;exact ⟨A2',c2',e,f2'.below (below_al bR _) leR⟩),(fun h=>by rw [put_ne' (by decide)];obtain ⟨A2',c2',e,f2'⟩:=x2 h;exact ⟨A2',c2',e,f2'.below (below_al bR _) leR⟩),(fun _=>by rw [show upd Lk 13 14=false from H.t 14 rfl];exact BoxX.new (s:=8) (H.f.lt (by rw [hz];decide)) H.k.size [.slice none 0 0])⟩
  ·intro Lk ak ww H _ _ hN
   obtain ⟨x0,x1,x2,x3⟩:=H.x
   obtain ⟨A2,c2,ee11,f2⟩:=x2 (H.r 11 rfl)
   obtain ⟨g,eg,hg,y,_⟩:=x3 (H.r 13 rfl)
   have HT:=y H.n
   simp [go_sem,ee11,eg,HT.cell,HT.frz]
   have f2:=f2.otherC (f2.typ HT (by decide)) [.slice A2 ((gaR r.bx r.by_ r.low r.high (preE r p)).length) c2] 0
   exact hN undef _ (H.k.store (.inl hg) [.slice A2 ((gaR r.bx r.by_ r.low r.high (preE r p)).length) c2] 0) trivial ⟨(fun h=>by obtain ⟨A2',c2',e,f2'⟩:=x0 h;exact ⟨A2',c2',e,f2'.otherC (f2'.typ HT (by decide)) [.slice A2 ((gaR r.bx r.by_ r.low r.high (preE r p)).length) c2] 0⟩),(fun h=>by obtain ⟨A2',c2',e,f2'⟩:=x1 h;exact ⟨A2',c2',e,f2'.otherC (f2'.typ HT (by decide)) [.slice A2 ((gaR r.bx r.by_ r.low r.high (preE r p)).length) c2] 0⟩),(fun h=>by obtain ⟨A2',c2',e,f2'⟩:=x2 h;exact ⟨A2',c2',e,f2'.otherC (f2'.typ HT (by decide)) [.slice A2 ((gaR r.bx r.by_ r.low r.high (preE r p)).length) c2] 0⟩),(fun _=>BoxX.set eg hg HT (us:=[.slice A2 ((gaR r.bx r.by_ r.low r.high (preE r p)).length) c2]) rfl ⟨A2,c2,rfl,f2⟩)⟩
  ·exact fun Lk ak ww H _ _ hN=>wp_assign rfl (ev (H.d 12 rfl rfl)) (hN _ _ H.k rfl (hXb.q rfl H.x))
  intro L a14 w15 hL hF hK hV hX
  obtain ⟨x0,x1,x2,x3⟩:=hX
  replace hz:=hF.Z hz;replace hdf:=hF.E hdf;replace s2:=hF.G s2;replace s4:=hF.G s4;have s9:=gS a14 9 (hV 15 _ rfl);replace b3:=b3.k0 hK;replace b5:=b5.k0 hK
  obtain ⟨g16,s8,lg16,-,b16⟩:=x3 (hL 13 (by decide))
  obtain ⟨_,b16,A2,c2,rfl,N2⟩:=b16 (hL 14 (by decide))
  have i2:∀ p,A2=some p→p.block<w15.heap.size:=fun p hp=>(N2.blk p hp).2
  have ug16:=b16.lt
  have zw10:=hZ;have zw15:=hK.size;replace hZ:=Nat.le_refl w15.heap.size;replace hB:=hK.below0 hB;clear hF hK hV hL x0 x1 x2 x3 hXb s6 s17 b8 N1 i1;refine th_n ?_;refine wp_seq ?_;refine wp_seq ?_
  refine wp_regJ (by kernel_rfl) [32,33] [some (.bool (gaOk r.bx r.by_ r.low r.high (preE r p))),some (.bool (!(gaOk r.bx r.by_ r.low r.high (preE r p))))] (dlR 2) [32,33] [0,1] [] (fun _ _ _=>True) (by kernel_rfl) (by rw [hz];decide) ?_ (en rfl ?_ (en rfl ?_ .nil)) ?_
  ·exact fun _ _=>trivial
  ·exact fun Lk ak ww H _ _ hN=>wp_move rfl (ev (H.f.g rfl s9)) (hN _ _ H.k rfl trivial)
  ·exact fun Lk ak ww H _ _ hN=>wp_not rfl (ev (H.d 0 rfl rfl)) (hN _ _ H.k rfl trivial)
  intro L a17 w18 hL hF hK hV hX;replace hz:=hF.Z hz;replace hdf:=hF.E hdf;replace s2:=hF.G s2;replace s4:=hF.G s4;replace s8:=hF.G s8;have s33:=gS a17 33 (hV 1 _ rfl);replace b3:=b3.k0 hK;replace b5:=b5.k0 hK;replace b16:=b16.k0 hK;replace N2:=N2.below hK.toBelow leR;replace hZ:=Nat.le_trans hZ hK.size;replace hB:=hK.below0 hB;clear hF hK hV hL hX s9;refine th_n ?_
  rcases Bool.eq_false_or_eq_true (!(gaOk r.bx r.by_ r.low r.high (preE r p))) with q19|q19
  ·skip
   refine wp_cond_true (ev (vb s33 q19)) ?_
   refine wp_seq ?_
   have hXb:StaysX [] (fun L aa ww=>PreX ww (w.heap.size+2) 37 [.slice none 0 0] (L 1) (fun _ vs=>vs=[.slice none 0 0])):=by
    intro L aa ww w' kk vv hkk hb hX
    have x0:=hX
    exact (x0.bel hb (fun _ h=>h))
   refine wp_regK hXb (by kernel_rfl) [34,0,5] [some (.agg #[.slice none 0 0]),none,some (.bool false)] (dlR 3) [34,5] [0,1,2] [(w.heap.size+2)] (by kernel_rfl) (by rw [hz];decide) ?_ (en rfl ?_ (en rfl ?_ (en rfl ?_ .nil))) ?_
   ·exact fun _ h=>(⟨fun _=>b5.kp h (by simp),(fun h=>by cases h)⟩)
   ·intro Lk ak ww H _ _ hN
    simp [go_sem]
    exact (hN _ _ H.k rfl H.x)
   ·intro Lk ak ww H _ _ hN
    have x0:=H.x
    have HT:=x0.1 H.n
    simp [go_sem,(gS ak 34 (H.d 0 rfl rfl)),H.f.g rfl s4,HT.cell,HT.frz]
    exact hN undef _ (H.k.store (.inr (by simp)) [.slice none 0 0] 0) trivial (PreX.set HT (us:=[.slice none 0 0]) rfl rfl)
   ·exact fun Lk ak ww H _ _ hN=>wp_assign rfl rfl (hN _ _ H.k rfl H.x)
   intro L a20 w21 hL hF hK hV hX;have x0:=hX;replace hz:=hF.Z hz;replace hdf:=hF.E hdf;replace s4:=hF.G s4;have s5:=gS a20 5 (hV 2 _ rfl);clear b5
   obtain ⟨_,b5,rfl⟩:=x0.2 (hL 1 (by decide))
   replace hZ:=Nat.le_trans hZ hK.size
   replace hB:=hK.below hB hB.size (by simp<;>omega)
   clear hF hK hV hL x0 hXb s2 s8 s33 b3 b16 N2 i2;refine th_n ?_
   refine wp_ret ?_
   refine th_r ?_
   refine bodyPost_ret (v:=.tuple #[.agg #[.slice none 0 0],.bool false]) (by simp [results,Tryz.results117,go_sem,s4,b5.cell,s5]) hdf ?_
   have h0:=preS_no2 (r:=r) (p:=p) (not_t q19)
   exact ⟨_,by rw [h0.1],by rw [h0.2];exact New.nilN _ _ _ _ _,hB⟩
  ·skip
   refine wp_cond_false (ev (vb s33 q19)) ?_
   refine wp_skip ?_;refine th_n ?_;refine wp_seq ?_
   have hXb:StaysX [40,41] (fun L aa ww=>(L 5=true→(fun ww v=>∃ A3 c3,v=.tuple #[.agg #[.slice A3 ((movR (pulH r.map r.div) (gaR r.bx r.by_ r.low r.high (preE r p))).length) c3],.bool (movOk (pulH r.map r.div) (gaR r.bx r.by_ r.low r.high (preE r p)))]∧New 111 3 halfC ww w18.heap.size (.slice A3 (movR (pulH r.map r.div) (gaR r.bx r.by_ r.low r.high (preE r p))).length c3) (movR (pulH r.map r.div) (gaR r.bx r.by_ r.low r.high (preE r p)))) ww (aa.tmps[40]?.getD undef))∧(L 6=true→(fun ww v=>∃ A3 c3,v=.agg #[.slice A3 ((movR (pulH r.map r.div) (gaR r.bx r.by_ r.low r.high (preE r p))).length) c3]∧New 111 3 halfC ww w18.heap.size (.slice A3 (movR (pulH r.map r.div) (gaR r.bx r.by_ r.low r.high (preE r p))).length c3) (movR (pulH r.map r.div) (gaR r.bx r.by_ r.low r.high (preE r p)))) ww (aa.tmps[41]?.getD undef))∧PreX ww (w.heap.size+2) 37 [.slice none 0 0] (L 8) (fun ww vs=>∃ A3 c3,vs=[.slice A3 ((movR (pulH r.map r.div) (gaR r.bx r.by_ r.low r.high (preE r p))).length) c3]∧New 111 3 halfC ww w18.heap.size (.slice A3 (movR (pulH r.map r.div) (gaR r.bx r.by_ r.low r.high (preE r p))).length c3) (movR (pulH r.map r.div) (gaR r.bx r.by_ r.low r.high (preE r p))))):=by
    intro L aa ww w' kk vv hkk hb hX
    obtain ⟨x0,x1,x2⟩:=hX
    exact ⟨(fun h=>by rw [put_ne' (hkk 40 (by simp))];obtain ⟨A3',c3',e,f3'⟩:=x0 h;exact ⟨A3',c3',e,f3'.below hb leR⟩),(fun h=>by rw [put_ne' (hkk 41 (by simp))];obtain ⟨A3',c3',e,f3'⟩:=x1 h;exact ⟨A3',c3',e,f3'.below hb leR⟩),(x2.bel hb (fun _ ⟨A3',c3',e,f3'⟩=>⟨A3',c3',e,f3'.below hb leR⟩))⟩
   refine wp_regK hXb (by kernel_rfl) [35,36,37,38,39,40,41,42,0,5] [some (.agg #[.slice A2 ((gaR r.bx r.by_ r.low r.high (preE r p)).length) c2]),some (.pointer (some ⟨w.heap.size,0,none⟩)),some (.slice ra.map.A r.map.length ra.map.c),some (.pointer (some ⟨w.heap.size,1,none⟩)),some (.int .i64 r.div),none,none,some (.bool (movOk (pulH r.map r.div) (gaR r.bx r.by_ r.low r.high (preE r p)))),none,some (.bool (movOk (pulH r.map r.div) (gaR r.bx r.by_ r.low r.high (preE r p))))] (dlR 10) [35,36,37,38,39,40,41,42,5] [0,1,2,3,4,5,6,7,8,9] [(w.heap.size+2)] (by kernel_rfl) (by rw [hz];decide) ?_ (en rfl ?_ (en rfl ?_ (en rfl ?_ (en rfl ?_ (en rfl ?_ (en rfl ?_ (en rfl ?_ (en rfl ?_ (en rfl ?_ (en rfl ?_ .nil)))))))))) ?_
   ·exact fun _ h=>⟨(fun h=>by cases h),(fun h=>by cases h),(⟨fun _=>b5.kp h (by simp),(fun h=>by cases h)⟩)⟩
   ·intro Lk ak ww H _ _ hN
    simp [go_sem,H.f.g rfl s8,(b16.kp H.k (by simp<;>omega)).cell]
    exact (hN _ _ H.k rfl (hXb.q rfl H.x))
   ·intro Lk ak ww H _ _ hN
    simp [go_sem,H.f.g rfl s2]
    exact (hN _ _ H.k rfl (hXb.q rfl H.x))
   ·intro Lk ak ww H _ _ hN
    simp [go_sem,(gS ak 36 (H.d 1 rfl rfl)),(b3.kp H.k (by simp<;>omega)).cell]
    exact (hN _ _ H.k rfl (hXb.q rfl H.x))
   ·intro Lk ak ww H _ _ hN
    simp [go_sem,H.f.g rfl s2]
    exact (hN _ _ H.k rfl (hXb.q rfl H.x))
   ·intro Lk ak ww H _ _ hN
    simp [go_sem,(gS ak 38 (H.d 3 rfl rfl)),(b3.kp H.k (by simp<;>omega)).cell]
    exact (hN _ _ H.k rfl (hXb.q rfl H.x))
   ·intro Lk ak ww H _ _ hN
    obtain ⟨x0,x1,x2⟩:=H.x
    simp [go_sem,(gS ak 35 (H.d 0 rfl rfl)),(gS ak 37 (H.d 2 rfl rfl)),(gS ak 39 (H.d 4 rfl rfl))]
    have hBi:=H.k.below hB hB.size (by simp<;>omega)
    refine (sPull_c (gaR r.bx r.by_ r.low r.high (preE r p)) r.map r.div ⟨A2,c2⟩ ra.map.A ra.map.c ww (gaR_ok (preE_ok r p)) (mapIn hr) hmap hdet ((N2.kp H.k i2 (by omega) (by simp<;>omega)).out halfC_len) (hs.below hBi).map N2.nilcap).mono ?_
    rintro x wx ⟨_,rfl,⟨A3,c3,rfl,f0⟩,hb⟩
    have f3:=New.mono (show New 111 3 halfC wx ww.heap.size (.slice A3 (movR (pulH r.map r.div) (gaR r.bx r.by_ r.low r.high (preE r p))).length c3) (movR (pulH r.map r.div) (gaR r.bx r.by_ r.low r.high (preE r p))) from ⟨_,_,rfl,f0⟩) H.k.size
    exact (hN _ _ (H.k.call hb) trivial ⟨(fun _=>by rw [put_get_self (H.f.lt (by rw [hz];decide))];exact ⟨A3,c3,rfl,f3⟩),(fun h=>by rw [put_ne' (by decide)];obtain ⟨A3',c3',e,f3'⟩:=x1 h;exact ⟨A3',c3',e,f3'.below hb leR⟩),(x2.bel hb (fun _ ⟨A3',c3',e,f3'⟩=>⟨A3',c3',e,f3'.below hb leR⟩))⟩)
   ·intro Lk ak ww H _ _ hN
    obtain ⟨x0,x1,x2⟩:=H.x
    obtain ⟨A3,c3,ee5,f3⟩:=x0 (H.r 5 rfl)
    exact wp_extract rfl (ev ee5) rfl (hN _ _ H.k trivial ⟨(fun h=>by rw [put_ne' (by decide)];obtain ⟨A3',c3',e,f3'⟩:=x0 h;exact ⟨A3',c3',e,f3'.below bR leR⟩),(fun _=>by rw [put_get_self (H.f.lt (by rw [hz];decide))];exact ⟨A3,c3,rfl,f3⟩),(x2.bel bR (fun _ ⟨A3',c3',e,f3'⟩=>⟨A3',c3',e,f3'.below bR leR⟩))⟩)
   ·intro Lk ak ww H _ _ hN
    obtain ⟨x0,x1,x2⟩:=H.x
    obtain ⟨A3,c3,ee5,f3⟩:=x0 (H.r 5 rfl)
    exact wp_extract rfl (ev ee5) rfl (hN _ _ H.k rfl (hXb.q rfl H.x))
   ·intro Lk ak ww H _ _ hN
    obtain ⟨x0,x1,x2⟩:=H.x
    obtain ⟨A3,c3,ee6,f3⟩:=x1 (H.r 6 rfl)
    have HT:=x2.1 H.n
    simp [go_sem,ee6,H.f.g rfl s4,HT.cell,HT.frz]
    have f3:=f3.otherC (f3.typ HT (by decide)) [.slice A3 ((movR (pulH r.map r.div) (gaR r.bx r.by_ r.low r.high (preE r p))).length) c3] 0
    exact hN undef _ (H.k.store (.inr (by simp)) [.slice A3 ((movR (pulH r.map r.div) (gaR r.bx r.by_ r.low r.high (preE r p))).length) c3] 0) trivial ⟨(fun h=>by obtain ⟨A3',c3',e,f3'⟩:=x0 h;exact ⟨A3',c3',e,f3'.otherC (f3'.typ HT (by decide)) [.slice A3 ((movR (pulH r.map r.div) (gaR r.bx r.by_ r.low r.high (preE r p))).length) c3] 0⟩),(fun h=>by obtain ⟨A3',c3',e,f3'⟩:=x1 h;exact ⟨A3',c3',e,f3'.otherC (f3'.typ HT (by decide)) [.slice A3 ((movR (pulH r.map r.div) (gaR r.bx r.by_ r.low r.high (preE r p))).length) c3] 0⟩),(PreX.set HT (us:=[.slice A3 ((movR (pulH r.map r.div) (gaR r.bx r.by_ r.low r.high (preE r p))).length) c3]) rfl ⟨A3,c3,rfl,f3⟩)⟩
   ·exact fun Lk ak ww H _ _ hN=>wp_assign rfl (ev (H.d 7 rfl rfl)) (hN _ _ H.k rfl (hXb.q rfl H.x))
   intro L a22 w23 hL hF hK hV hX
   obtain ⟨x0,x1,x2⟩:=hX
   replace hz:=hF.Z hz;replace hdf:=hF.E hdf;replace s4:=hF.G s4;have s5:=gS a22 5 (hV 9 _ rfl);clear b5
   obtain ⟨_,b5,A3,c3,rfl,N3⟩:=x2.2 (hL 8 (by decide))
   have i3:∀ p,A3=some p→p.block<w23.heap.size:=fun p hp=>(N3.blk p hp).2;have zw18:=hZ;have zw23:=hK.size;replace hZ:=Nat.le_refl w23.heap.size
   replace hB:=hK.below hB hB.size (by simp<;>omega)
   clear hF hK hV hL x0 x1 x2 hXb s2 s8 s33 b3 b16 N2 i2;refine th_n ?_
   refine wp_ret ?_
   refine bodyPost_ret (v:=.tuple #[.agg #[.slice A3 ((movR (pulH r.map r.div) (gaR r.bx r.by_ r.low r.high (preE r p))).length) c3],.bool (movOk (pulH r.map r.div) (gaR r.bx r.by_ r.low r.high (preE r p)))]) (by simp [results,Tryz.results117,go_sem,s4,b5.cell,s5]) hdf ?_
   have h9:=ga_eq (not_f q19)
   have h0:=preS_yes (not_f q11) (not_f q19)
   exact ⟨_,by rw [h9,h0.1],by rw [h0.2,← h9];exact N3.mono (by omega),hB⟩
end Go.Proofs.YtdncnhcffbgjhaaGreat
