/-
 The states that a plant keeps in one step, in every mode: of the program and of the reference.
 Conditions: the slices hold at most 2^20 elements.
-/
import Derived.Test.YtdncnhcffbgjhaaGreatMeetR
import Derived.Test.YtdncnhcffbgjhaaGreatWatS
import Derived.Test.YtdncnhcffbgjhaaGreatGrXe
namespace Go.Proofs.YtdncnhcffbgjhaaGreat
open Go.RowKit
theorem New.kpT {α:Type} {T sz base n c g:Nat} {enc:α→List Value} {w w':World} {A:Option Addr} {xs:List α} (h:New T sz enc w base (.slice A n c) xs) (k:Kp [g] w w') (hA:∀ p,A=some p→p.block≠g):New T sz enc w' base (.slice A n c) xs:=by
 obtain ⟨A',cap,e,h1,h2⟩:=h
 refine ⟨A',cap,e,h1, ?_⟩
 rcases h2 with h2|⟨q,cap',cur,hv,hg,hh,r⟩
 ·exact .inl h2
 ·have hA2:A=some ⟨q,0,none⟩:=by injection hv
  exact .inr ⟨q,cap',cur,hv,hg,(k.block q (lt_of_heap hh) (by simp only [List.mem_singleton];exact hA _ hA2)).trans hh,r⟩
def mode0:Mode:=⟨0,0⟩
def inM (r:Room) (m:Mode):Room:=setR r m.low m.high
def pkF (r:Room) (p:List Half) (o:Option (List Half)) (m:Mode):Option (List Half):=o.bind fun q=>if (preOk (inM r m) p&&mrOk q (preR (inM r m) p))=true then some (mrR q (preR (inM r m) p)) else none
def pkA (r:Room) (p:List Half) (l:List Mode):Option (List Half):=l.foldl (pkF r p) (some p)
theorem pkA_next {r:Room} {p:List Half} {l:List Mode} {k:Nat} (h:k<l.length):pkA r p (l.take (k+1))=pkF r p (pkA r p (l.take k)) (l.getD k mode0):=by
 unfold pkA
 rw [List.take_add_one,List.getElem?_eq_getElem h,List.foldl_append,getD_el h];rfl
theorem pkF_none (r:Room) (p:List Half) (l:List Mode):l.foldl (pkF r p) none=none:=by
 induction l with
 | nil=>rfl
 | cons m l ih=>exact ih
theorem pkA_stop {r:Room} {p:List Half} {l:List Mode} {k:Nat} (h:k<l.length) (hn:pkF r p (pkA r p (l.take k)) (l.getD k mode0)=none):pkA r p l=none:=by
 have e:=pkA_next (r:=r) (p:=p) h
 rw [hn] at e
 unfold pkA at e ⊢
 rw [← List.take_append_drop (k+1) l,List.foldl_append,e]
 exact pkF_none r p _
theorem pkF_no {r:Room} {p q:List Half} {m:Mode} (h:preOk (inM r m) p=false∨mrOk q (preR (inM r m) p)=false):pkF r p (some q) m=none:=by
 unfold pkF
 rw [Option.bind_some,if_neg]
 rcases h with h|h<;>rw [h]<;>simp
theorem pkF_yes {r:Room} {p q:List Half} {m:Mode} (h1:preOk (inM r m) p=true) (h2:mrOk q (preR (inM r m) p)=true):pkF r p (some q) m=some (mrR q (preR (inM r m) p)):=by
 unfold pkF
 rw [Option.bind_some,h1,h2];rfl
theorem inM_ok {r:Room} {l:List Mode} (h:modesOk r l=true):∀ m∈l,roomOk (inM r m)=true:=by
 intro m hm
 simp only [modesOk,Bool.and_eq_true] at h
 have h3:=modeIn_iff.1 (List.all_eq_true.1 h.1.2 m hm)
 have h4:=h.2
 have B:=roomB h4
 have b1:=B.low
 have b2:=B.high
 simp only [roomOk,turnOk,Bool.and_eq_true] at h4 ⊢
 obtain ⟨⟨⟨⟨⟨⟨⟨g1,g2⟩,g3⟩,_⟩,g5⟩,g6⟩,g7⟩,g8⟩:=h4
 refine ⟨⟨⟨⟨⟨⟨⟨g1,g2⟩,g3⟩, ?_, ?_⟩,g5⟩,g6⟩,g7⟩,g8⟩
 ·exact inR_iff.2 ⟨by show -1000≤m.low;omega,by show m.low≤1000;omega⟩
 ·exact inR_iff.2 ⟨h3.2.1,by show m.high≤1000;omega⟩
theorem modes_room {r:Room} {l:List Mode} (h:modesOk r l=true):roomOk r=true∧1≤l.length∧l.length≤4:=by
 simp only [modesOk,Bool.and_eq_true] at h
 have:=inR_iff.1 h.1.1
 exact ⟨h.2,by omega,by omega⟩
theorem inM_in {r:Room} {m:Mode} (h:RoomIn r) (hm:m.In):RoomIn (inM r m):=⟨h.map,h.div,h.bx,h.by_,hm.1,hm.2,h.noise,h.limits⟩
def pkOk (r:Room) (l:List Mode) (p:List Half):Bool:=modesOk r l&&regionOk p&&(pkA r p l).isSome
def pkR (r:Room) (l:List Mode) (p:List Half):List Half:=if (modesOk r l&&regionOk p)=true then (pkA r p l).getD [] else []
theorem pk_no {r:Room} {l:List Mode} {p:List Half} (h:(!(modesOk r l) || !(regionOk p))=true):pkOk r l p=false∧pkR r l p=[]:=by
 have:(modesOk r l&&regionOk p)=false:=by
  cases h1:modesOk r l<;>cases h2:regionOk p<;>simp_all
 unfold pkOk pkR
 rw [this,if_neg (by simp)];exact ⟨rfl,rfl⟩
theorem pk_yes {r:Room} {l:List Mode} {p:List Half} (h:(!(modesOk r l) || !(regionOk p))=false):pkOk r l p=(pkA r p l).isSome∧pkR r l p=(pkA r p l).getD []∧modesOk r l=true∧regionOk p=true:=by
 have h1:=not_f (or_f1 h)
 have h2:=not_f (or_f2 h)
 unfold pkOk pkR
 rw [h1,h2];exact ⟨by simp,if_pos rfl,rfl,rfl⟩
theorem pk_none {r:Room} {l:List Mode} {p:List Half} (h:(!(modesOk r l) || !(regionOk p))=false) (hn:pkA r p l=none):pkOk r l p=false∧pkR r l p=[]:=by
 have h9:=pk_yes h
 rw [h9.1,h9.2.1,hn];exact ⟨rfl,rfl⟩
theorem pk_some {r:Room} {l:List Mode} {p q:List Half} (h:(!(modesOk r l) || !(regionOk p))=false) (hn:pkA r p l=some q):pkOk r l p=true∧pkR r l p=q:=by
 have h9:=pk_yes h
 rw [h9.1,h9.2.1,hn];exact ⟨rfl,rfl⟩
theorem pkR_fold {r:Room} {p:List Half}:∀ (l:List Mode) (o:Option (List Half)),(∀ q,o=some q→regionOk q=true)→∀ q,l.foldl (pkF r p) o=some q→regionOk q=true:=by
 intro l
 induction l with
 | nil=>exact fun _ h q e=>h q e
 | cons m l ih =>
  intro o h q e
  refine ih (pkF r p o m) (fun q2 e2=>?_) q e
  cases o with
  | none=>cases e2
  | some q3 =>
   unfold pkF at e2
   rw [Option.bind_some] at e2
   split at e2
   ·injection e2 with e2
    rw [← e2];exact mrR_ok (h _ rfl) (preR_ok _ _)
   ·cases e2
theorem pkR_le (r:Room) (l:List Mode) (p:List Half):(pkR r l p).length≤1048576:=by
 unfold pkR
 split
 ·rename_i h
  cases e:pkA r p l with
  | none=>exact Nat.zero_le _
  | some q=>exact Nat.le_trans (reg_len (pkR_fold l (some p) (fun q2 e2=>by injection e2 with e2;rw [← e2];exact and_t2 h) q e)) (by decide)
 ·exact Nat.zero_le _
set_option maxRecDepth 100000 in
set_option maxHeartbeats 3000000 in
theorem iPlantK_c (r:Room) (l:List Mode) (p:List Half) (ra:RoomA) (e:SlA) (b:SlA) (w:World) (hn:roomLen r≤1048576) (hs:RoomSl w r ra) (hll:l.length≤1048576) (hsl:Sl 2 modeC w e.A l) (hsp:Sl 3 halfC w b.A p) (hm:modesOk r l=true) (hp:regionOk p=true) :
 Calls Tryz.prog 122 #[roomV r ra,.slice e.A l.length e.c,.agg #[.slice b.A p.length b.c]] w fun x w'=>∃ v,x=.returned (.tuple #[.agg #[v],.bool (pkA r p l).isSome])∧New 111 3 halfC w' w.heap.size v ((pkA r p l).getD [])∧Below w.heap.size w w':=by
 have hrm:=inM_ok hm
 have hl4:=(modes_room hm).2.2
 obtain ⟨i0h,hi0h,hz0h,hz1h,hz2h⟩:=info_parts (show (Tryz.prog.info? 111).map (fun i=>(i.zero,i.size,i.bytes))=some (some (.agg #[.int .i64 0,.int .i64 0,.int .i64 0]),3,24) by kernel_rfl)
 refine calls_v Tryz.func122 rfl (n:=43) Tryz.ntmps122 (by simp) ?_
 intro a0 hz hdf ha
 have s0:a0.tmps[0]?.getD undef=roomV r ra:=ha 0 _ rfl;have s1:a0.tmps[1]?.getD undef=.slice e.A l.length e.c:=ha 1 _ rfl;have s2:a0.tmps[2]?.getD undef=.agg #[.slice b.A p.length b.c]:=ha 2 _ rfl;clear ha
 have hB:=Below.refl w.heap.size w
 have hZ:=Nat.le_refl w.heap.size
 refine wp_seq ?_
 refine wp_entry [3,5,6,7] [.pointer (some ⟨w.heap.size,0,none⟩),.pointer (some ⟨(w.heap.size+1),0,none⟩),.pointer (some ⟨(w.heap.size+2),0,none⟩),.bool false] [some (.cells (roomC r ra).toArray 39),some (.cells [.slice b.A p.length b.c].toArray 37),some (.cells [.slice none 0 0].toArray 37),none] [0,1,2,3] [3,5,6,7] [0,1,2,3] (by kernel_rfl) (by rw [hz];decide) (ec ?_ (ec ?_ (ec ?_ (ec ?_ .nil)))) ?_
 ·intro a w' hF hs N Q hN;simp [go_sem,hF.g rfl s0];rw [hs];exact hN
 ·intro a w' hF hs N Q hN;simp [go_sem,hF.g rfl s2];rw [hs];exact hN
 ·intro a w' hF hs N Q hN;simp [go_sem];rw [hs];exact hN
 ·intro a w' hF hs N Q hN;simp [go_sem];exact hN
 intro a1 w2 hF hV hb hO
 replace hz:=hF.size.trans hz;replace hdf:=hF.defers.trans hdf;replace s1:=hF.g rfl s1
 have s3:a1.tmps[3]?.getD undef=.pointer (some ⟨w.heap.size,0,none⟩):=hV 0 (by decide)
 have s5:a1.tmps[5]?.getD undef=.pointer (some ⟨(w.heap.size+1),0,none⟩):=hV 1 (by decide)
 have s6:a1.tmps[6]?.getD undef=.pointer (some ⟨(w.heap.size+2),0,none⟩):=hV 2 (by decide)
 have b3:HasT w2 w.heap.size 39 (roomC r ra):=hO 0 _ rfl
 have b4:HasT w2 (w.heap.size+1) 37 [.slice b.A p.length b.c]:=hO 1 _ rfl
 have b5:HasT w2 (w.heap.size+2) 37 [.slice none 0 0]:=hO 2 _ rfl
 have hG:=b5.lt
 replace hB:=below_tr hB hb;have zw2:=Nat.le_trans hZ hb.size;replace hZ:=Nat.le_refl w2.heap.size;clear hF hV hb hO s0 s2;refine th_n ?_;refine wp_seq ?_
 refine wp_regJ (by kernel_rfl) [13,14,8,0] [some (.agg #[.slice b.A p.length b.c]),none,none,none] (dlR 4) [13,14,8] [0,1,2,3] [] (fun L aa ww=>(L 1=true→(fun ww v=>∃ m1,v=.agg #[.slice m1.A p.length m1.c]∧RegionNew ww w2.heap.size p m1) ww (aa.tmps[14]?.getD undef))∧(L 2=true→BoxX w2 aa ww 8 37 [.slice none 0 0] (L 3) (fun ww vs=>∃ m1,vs=[.slice m1.A p.length m1.c]∧RegionNew ww w2.heap.size p m1))) (by kernel_rfl) (by rw [hz];decide) ?_ (en rfl ?_ (en rfl ?_ (en rfl ?_ (en rfl ?_ .nil)))) ?_
 ·exact fun _ h=>⟨(fun h=>by cases h),(fun h=>by cases h)⟩
 ·intro Lk ak ww H _ _ hN
  simp [go_sem,H.f.g rfl s5,(b4.k0 H.k).cell]
  exact (hN _ _ H.k rfl ⟨(fun h=>by rw [put_ne' (by decide)];obtain ⟨m1',e,f1'⟩:=H.x.1 h;exact ⟨m1',e,f1'.below bR leR⟩),(fun h=>((H.x.2 h).bel bR (fun _ ⟨m1',e,f1'⟩=>⟨m1',e,f1'.below bR leR⟩)).put (by decide) _)⟩)
 ·intro Lk ak ww H _ _ hN
  obtain ⟨x0,x1⟩:=H.x
  simp [go_sem,(gS ak 13 (H.d 0 rfl rfl))]
  have hBi:=H.k.below0 hB
  refine (iCopyRegion_c p b ww (by have:=reg_len hp;omega) (hsp.below hBi)).mono ?_
  rintro x wx ⟨m1,rfl,f0,hb⟩
  have f1:=f0.mono H.k.size
  exact (hN _ _ (H.k.call hb) trivial ⟨(fun _=>by rw [put_get_self (H.f.lt (by rw [hz];decide))];exact ⟨m1,rfl,f1⟩),(fun h=>((x1 h).bel hb (fun _ ⟨m1',e,f1'⟩=>⟨m1',e,f1'.below hb leR⟩)).put (by decide) _)⟩)
 ·intro Lk ak ww H _ _ hN
  obtain ⟨x0,x1⟩:=H.x
  simp [go_sem]
  exact hN _ _ (H.k.alloc _) trivial ⟨(fun h=>by rw [put_ne' (by decide)];obtain ⟨m1',e,f1'⟩:=x0 h;exact ⟨m1',e,f1'.below (below_al bR _) leR⟩),(fun _=>by rw [show upd Lk 2 3=false from H.t 3 rfl];exact BoxX.new (s:=8) (H.f.lt (by rw [hz];decide)) H.k.size [.slice none 0 0])⟩
 ·intro Lk ak ww H _ _ hN
  obtain ⟨x0,x1⟩:=H.x
  obtain ⟨m1,ee1,f1⟩:=x0 (H.r 1 rfl)
  obtain ⟨g,eg,hg,y,_⟩:=x1 (H.r 2 rfl)
  have HT:=y H.n
  simp [go_sem,ee1,eg,HT.cell,HT.frz]
  have f1:=f1.otherT HT (by decide) [.slice m1.A p.length m1.c] 0
  exact hN undef _ (H.k.store (.inl hg) [.slice m1.A p.length m1.c] 0) trivial ⟨(fun h=>by obtain ⟨m1',e,f1'⟩:=x0 h;exact ⟨m1',e,f1'.otherT HT (by decide) [.slice m1.A p.length m1.c] 0⟩),(fun _=>BoxX.set eg hg HT (us:=[.slice m1.A p.length m1.c]) rfl ⟨m1,rfl,f1⟩)⟩
 intro L a6 w7 hL hF hK hV hX
 obtain ⟨x0,x1⟩:=hX
 replace hz:=hF.Z hz;replace hdf:=hF.E hdf;replace s1:=hF.G s1;replace s3:=hF.G s3;replace s5:=hF.G s5;replace s6:=hF.G s6;replace b3:=b3.k0 hK;replace b4:=b4.k0 hK;replace b5:=b5.k0 hK
 obtain ⟨g8,s8,lg8,-,b8⟩:=x1 (hL 2 (by decide))
 obtain ⟨_,b8,m1,rfl,N1⟩:=b8 (hL 3 (by decide))
 have ug8:=b8.lt
 have zw7:=hK.size;replace hZ:=Nat.le_refl w7.heap.size;replace hB:=hK.below0 hB;clear hF hK hV hL x0 x1;refine th_n ?_;refine wp_seq ?_;refine wp_seq ?_
 refine wp_regJ (by kernel_rfl) [15,16,17] [some (.slice e.A l.length e.c),some (.int .i64 (l.length:Int)),some (.int .i64 0)] (dlR 3) [15,16,17] [0,1,2] [] (fun _ _ _=>True) (by kernel_rfl) (by rw [hz];decide) ?_ (en rfl ?_ (en rfl ?_ (en rfl ?_ .nil))) ?_
 ·exact fun _ _=>trivial
 ·exact fun Lk ak ww H _ _ hN=>wp_move rfl (ev (H.f.g rfl s1)) (hN _ _ H.k rfl trivial)
 ·intro Lk ak ww H _ _ hN
  simp [go_sem,(gS ak 15 (H.d 0 rfl rfl))]
  exact (hN _ _ H.k rfl trivial)
 ·exact fun Lk ak ww H _ _ hN=>wp_move rfl rfl (hN _ _ H.k rfl trivial)
 intro L a9 w10 hL hF hK hV hX;replace hz:=hF.Z hz;replace hdf:=hF.E hdf;replace s3:=hF.G s3;replace s5:=hF.G s5;replace s6:=hF.G s6;replace s8:=hF.G s8;have s15:=gS a9 15 (hV 0 _ rfl);have s16:=gS a9 16 (hV 1 _ rfl);have s17:=gS a9 17 (hV 2 _ rfl);replace b3:=b3.k0 hK;replace b4:=b4.k0 hK;replace b5:=b5.k0 hK;replace b8:=b8.k0 hK;replace N1:=N1.below hK.toBelow leR;replace hZ:=Nat.le_trans hZ hK.size;replace hB:=hK.below0 hB;clear hF hK hV hL hX s1;refine th_n ?_;refine wp_block ?_
 refine wp_loop (fun al wl=>al.tmps.size=43∧al.defers=[]∧∃ (k:Nat) (out:List Half) (A2:Option Addr) (c2:Nat),(k≤l.length)∧(pkA r p (l.take k)=some out)∧(regionOk out=true)∧al.tmps[3]?.getD undef=.pointer (some ⟨w.heap.size,0,none⟩)∧al.tmps[5]?.getD undef=.pointer (some ⟨(w.heap.size+1),0,none⟩)∧al.tmps[6]?.getD undef=.pointer (some ⟨(w.heap.size+2),0,none⟩)∧al.tmps[8]?.getD undef=.pointer (some ⟨g8,0,none⟩)∧al.tmps[15]?.getD undef=.slice e.A l.length e.c∧al.tmps[16]?.getD undef=.int .i64 (l.length:Int)∧al.tmps[17]?.getD undef=.int .i64 (k:Int)∧HasT wl w.heap.size 39 (roomC r ra)∧HasT wl (w.heap.size+1) 37 [.slice b.A p.length b.c]∧HasT wl (w.heap.size+2) 37 [.slice none 0 0]∧HasT wl g8 37 [.slice A2 out.length c2]∧New 111 3 halfC wl w2.heap.size (.slice A2 out.length c2) out∧Below w.heap.size w wl∧w7.heap.size≤wl.heap.size) (fun al _=>(l.length-(intOf (al.tmps[17]?.getD undef)).toNat)) ?_ ?_
 ·exact ⟨hz,hdf,(0),(p),(m1.A),(m1.c),(Nat.zero_le _),(rfl),(hp),s3,s5,s6,s8,s15,s16,s17,b3,b4,b5,b8,(N1.halves),hB,(by omega)⟩
 clear hz hdf hB hZ s3 s5 s6 s8 s15 s16 s17 b3 b4 b5 b8 N1
 rintro a11 w12 ⟨hz,hdf,k,out,A2,c2,hk,hpk,hout,s3,s5,s6,s8,s15,s16,s17,b3,b4,b5,b8,N2,hB,hZ⟩
 have zw12:=hZ;replace hZ:=Nat.le_refl w12.heap.size;have i2:∀ p,A2=some p→p.block<w12.heap.size:=fun p hp=>(N2.blk p hp).2
 have hmu:(l.length-(intOf (a11.tmps[17]?.getD undef)).toNat)=(l.length-(intOf ((.int .i64 (k:Int)))).toNat):=by rw [s17]
 refine wp_seq ?_
 refine wp_regJ (by kernel_rfl) [18] [some (.bool (decide ((k:Int)<(l.length:Int))))] (dlR 1) [18] [0] [] (fun _ _ _=>True) (by kernel_rfl) (by rw [hz];decide) ?_ (en rfl ?_ .nil) ?_
 ·exact fun _ _=>trivial
 ·exact fun Lk ak ww H _ _ hN=>wp_bin rfl (ev (H.f.g rfl s17)) (ev (H.f.g rfl s16)) rfl rfl (hN _ _ H.k rfl trivial)
 intro L a13 w14 hL hF hK hV hX;replace hz:=hF.Z hz;replace hdf:=hF.E hdf;replace s3:=hF.G s3;replace s5:=hF.G s5;replace s6:=hF.G s6;replace s8:=hF.G s8;replace s15:=hF.G s15;replace s16:=hF.G s16;replace s17:=hF.G s17;have s18:=gS a13 18 (hV 0 _ rfl);replace b3:=b3.k0 hK;replace b4:=b4.k0 hK;replace b5:=b5.k0 hK;replace b8:=b8.k0 hK;replace N2:=N2.below hK.toBelow leR;replace hZ:=Nat.le_trans hZ hK.size;replace hB:=hK.below0 hB;clear hF hK hV hL hX;refine th_n ?_;refine wp_seq ?_
 rcases Bool.eq_false_or_eq_true (decide ((k:Int)<(l.length:Int))) with q15|q15
 ·skip
  have hkl:k<l.length:=by have:=dec_t q15;omega
  obtain ⟨bl,ol,el,fe⟩:=ElS.open_ (hsl.below hB) (by omega)
  refine wp_cond_true (ev (vb s18 q15)) ?_
  refine wp_skip ?_;refine th_n ?_;refine wp_seq ?_;refine wp_block ?_;refine wp_seq ?_
  have hXb:StaysX [10] (fun L aa ww=>(L 2=true→BoxX w14 aa ww 10 153 [.int .i64 0,.int .i64 0] (L 3) (fun _ vs=>vs=[.int .i64 ((l.getD k mode0).low),.int .i64 ((l.getD k mode0).high)]))):=by
   intro L aa ww w' kk vv hkk hb hX
   have x0:=hX
   exact (fun h=>((x0 h).bel hb (fun _ h=>h)).put (hkk 10 (by simp)) _)
  refine wp_regK hXb (by kernel_rfl) [19,20,10,0] [some (.pointer (some ⟨bl,ol+k*2,none⟩)),some (.agg #[.int .i64 ((l.getD k mode0).low),.int .i64 ((l.getD k mode0).high)]),none,none] (dlR 4) [19,20,10] [0,1,2,3] [] (by kernel_rfl) (by rw [hz];decide) ?_ (en rfl ?_ (en rfl ?_ (en rfl ?_ (en rfl ?_ .nil)))) ?_
  ·exact fun _ h=>(fun h=>by cases h)
  ·intro Lk ak ww H _ _ hN
   simp [go_sem,H.f.g rfl s15,H.f.g rfl s17,hkl,el]
   exact (hN _ _ H.k rfl (hXb.q rfl H.x))
  ·intro Lk ak ww H _ _ hN
   have hE:=fe.kp H.k (by simp)
   simp [go_sem,(gS ak 19 (H.d 0 rfl rfl)),(hE.at_ mode0 (i:=k) (by omega) 0 (p:=ol+k*2) (by omega) rfl),(hE.at_ mode0 (i:=k) (by omega) 1 (p:=ol+k*2+1) (by omega) rfl)]
   exact (hN _ _ H.k rfl (hXb.q rfl H.x))
  ·intro Lk ak ww H _ _ hN
   have x0:=H.x
   simp [go_sem]
   exact hN _ _ (H.k.alloc _) trivial (fun _=>by rw [show upd Lk 2 3=false from H.t 3 rfl];exact BoxX.new (s:=10) (H.f.lt (by rw [hz];decide)) H.k.size [.int .i64 0,.int .i64 0])
  ·intro Lk ak ww H _ _ hN
   have x0:=H.x
   obtain ⟨g,eg,hg,y,_⟩:=x0 (H.r 2 rfl)
   have HT:=y H.n
   simp [go_sem,(gS ak 20 (H.d 1 rfl rfl)),eg,HT.cell,HT.frz]
   exact hN undef _ (H.k.store (.inl hg) [.int .i64 ((l.getD k mode0).low),.int .i64 ((l.getD k mode0).high)] 0) trivial (fun _=>BoxX.set eg hg HT (us:=[.int .i64 ((l.getD k mode0).low),.int .i64 ((l.getD k mode0).high)]) rfl rfl)
  intro L a16 w17 hL hF hK hV hX;have x0:=hX;replace hz:=hF.Z hz;replace hdf:=hF.E hdf;replace s3:=hF.G s3;replace s5:=hF.G s5;replace s6:=hF.G s6;replace s8:=hF.G s8;replace s15:=hF.G s15;replace s16:=hF.G s16;replace s17:=hF.G s17;replace b3:=b3.k0 hK;replace b4:=b4.k0 hK;replace b5:=b5.k0 hK;replace b8:=b8.k0 hK
  obtain ⟨g18,s10,lg18,-,b18⟩:=x0 (hL 2 (by decide))
  obtain ⟨_,b18,rfl⟩:=b18 (hL 3 (by decide))
  have ug18:=b18.lt
  replace N2:=N2.below hK.toBelow leR;have zw14:=hZ;have zw17:=hK.size;replace hZ:=Nat.le_refl w17.heap.size;replace hB:=hK.below0 hB;clear hF hK hV hL x0 hXb s18 fe;refine th_n ?_;refine wp_seq ?_
  have hXb:StaysX [11,21,24,26,27] (fun L aa ww=>(L 2=true→(fun ww v=>∃ m3,v=roomV (inM r (l.getD k mode0)) m3∧RoomNew ww w17.heap.size (inM r (l.getD k mode0)) m3) ww (aa.tmps[24]?.getD undef))∧(L 4=true→(fun ww v=>∃ A4 c4,v=.tuple #[.agg #[.slice A4 ((preR (inM r (l.getD k mode0)) p).length) c4],.bool (preOk (inM r (l.getD k mode0)) p)]∧New 111 3 halfC ww w17.heap.size (.slice A4 (preR (inM r (l.getD k mode0)) p).length c4) (preR (inM r (l.getD k mode0)) p)) ww (aa.tmps[26]?.getD undef))∧(L 5=true→(fun ww v=>∃ A4 c4,v=.tuple #[.agg #[.slice A4 ((preR (inM r (l.getD k mode0)) p).length) c4],.bool (preOk (inM r (l.getD k mode0)) p)]∧New 111 3 halfC ww w17.heap.size (.slice A4 (preR (inM r (l.getD k mode0)) p).length c4) (preR (inM r (l.getD k mode0)) p)) ww (aa.tmps[21]?.getD undef))∧(L 6=true→(fun ww v=>∃ A4 c4,v=.agg #[.slice A4 ((preR (inM r (l.getD k mode0)) p).length) c4]∧New 111 3 halfC ww w17.heap.size (.slice A4 (preR (inM r (l.getD k mode0)) p).length c4) (preR (inM r (l.getD k mode0)) p)) ww (aa.tmps[27]?.getD undef))∧(L 8=true→BoxX w17 aa ww 11 37 [.slice none 0 0] (L 9) (fun ww vs=>∃ A4 c4,vs=[.slice A4 ((preR (inM r (l.getD k mode0)) p).length) c4]∧New 111 3 halfC ww w17.heap.size (.slice A4 (preR (inM r (l.getD k mode0)) p).length c4) (preR (inM r (l.getD k mode0)) p)))):=by
   intro L aa ww w' kk vv hkk hb hX
   obtain ⟨x0,x1,x2,x3,x4⟩:=hX
   exact ⟨(fun h=>by rw [put_ne' (hkk 24 (by simp))];obtain ⟨m3',e,f3'⟩:=x0 h;exact ⟨m3',e,f3'.below hb leR⟩),(fun h=>by rw [put_ne' (hkk 26 (by simp))];obtain ⟨A4',c4',e,f4'⟩:=x1 h;exact ⟨A4',c4',e,f4'.below hb leR⟩),(fun h=>by rw [put_ne' (hkk 21 (by simp))];obtain ⟨A4',c4',e,f4'⟩:=x2 h;exact ⟨A4',c4',e,f4'.below hb leR⟩),(fun h=>by rw [put_ne' (hkk 27 (by simp))];obtain ⟨A4',c4',e,f4'⟩:=x3 h;exact ⟨A4',c4',e,f4'.below hb leR⟩),(fun h=>((x4 h).bel hb (fun _ ⟨A4',c4',e,f4'⟩=>⟨A4',c4',e,f4'.below hb leR⟩)).put (hkk 11 (by simp)) _)⟩
  refine wp_regK hXb (by kernel_rfl) [22,23,24,25,26,21,27,28,11,0,12] [some (roomV r ra),some (.agg #[.int .i64 ((l.getD k mode0).low),.int .i64 ((l.getD k mode0).high)]),none,some (.agg #[.slice b.A p.length b.c]),none,none,none,some (.bool (preOk (inM r (l.getD k mode0)) p)),none,none,some (.bool (preOk (inM r (l.getD k mode0)) p))] ([[],[],[0,1],[],[0,1,2,3],[0,1,2,3,4],[0,1,2,3,4,5],[0,1,2,3,4,5],[],[0,1,2,3,4,5,6,8],[0,1,2,3,4,5,6,7,8,9]]) [22,23,24,25,26,21,27,28,11,12] [0,1,2,3,4,5,6,7,8,9,10] [] (by kernel_rfl) (by rw [hz];decide) ?_ (en rfl ?_ (en rfl ?_ (en rfl ?_ (en rfl ?_ (en rfl ?_ (en rfl ?_ (en rfl ?_ (en rfl ?_ (en rfl ?_ (en rfl ?_ (en rfl ?_ .nil))))))))))) ?_
  ·exact fun _ h=>⟨(fun h=>by cases h),(fun h=>by cases h),(fun h=>by cases h),(fun h=>by cases h),(fun h=>by cases h)⟩
  ·intro Lk ak ww H _ _ hN
   simp [go_sem,H.f.g rfl s3,(b3.k0 H.k).cell]
   exact (hN _ _ H.k rfl (hXb.q rfl H.x))
  ·intro Lk ak ww H _ _ hN
   simp [go_sem,H.f.g rfl s10,(b18.k0 H.k).cell]
   exact (hN _ _ H.k rfl (hXb.q rfl H.x))
  ·intro Lk ak ww H _ _ hN
   obtain ⟨x0,x1,x2,x3,x4⟩:=H.x
   simp [go_sem,(gS ak 22 (H.d 0 rfl rfl)),(gS ak 23 (H.d 1 rfl rfl))]
   have hBi:=H.k.below0 hB
   refine (iInMode_c r ra (l.getD k mode0) ww hn (hs.below hBi)).mono ?_
   rintro x wx ⟨m3,rfl,f0,hb⟩
   have f3:=f0.mono H.k.size
   exact (hN _ _ (H.k.call hb) trivial ⟨(fun _=>by rw [put_get_self (H.f.lt (by rw [hz];decide))];exact ⟨m3,rfl,f3⟩),(fun h=>by rw [put_ne' (by decide)];obtain ⟨A4',c4',e,f4'⟩:=x1 h;exact ⟨A4',c4',e,f4'.below hb leR⟩),(fun h=>by rw [put_ne' (by decide)];obtain ⟨A4',c4',e,f4'⟩:=x2 h;exact ⟨A4',c4',e,f4'.below hb leR⟩),(fun h=>by rw [put_ne' (by decide)];obtain ⟨A4',c4',e,f4'⟩:=x3 h;exact ⟨A4',c4',e,f4'.below hb leR⟩),(fun h=>((x4 h).bel hb (fun _ ⟨A4',c4',e,f4'⟩=>⟨A4',c4',e,f4'.below hb leR⟩)).put (by decide) _)⟩)
  ·intro Lk ak ww H _ _ hN
   simp [go_sem,H.f.g rfl s5,(b4.k0 H.k).cell]
   exact (hN _ _ H.k rfl (hXb.q rfl H.x))
  ·intro Lk ak ww H _ _ hN
   obtain ⟨x0,x1,x2,x3,x4⟩:=H.x
   obtain ⟨m3,ee2,f3⟩:=x0 (H.r 2 rfl)
   simp [go_sem,ee2,(gS ak 25 (H.d 3 rfl rfl))]
   have hBi:=H.k.below0 hB
   refine (iPre_c (inM r (l.getD k mode0)) p m3 b ww (hrm _ (getD_mem hkl mode0)) hp (roomR (hrm _ (getD_mem hkl mode0))).noise (roomR (hrm _ (getD_mem hkl mode0))).nne f3.sl (hsp.below hBi)).mono ?_
   rintro x wx ⟨_,rfl,⟨A4,c4,rfl,f0⟩,hb⟩
   have f4:=New.mono (show New 111 3 halfC wx ww.heap.size (.slice A4 (preR (inM r (l.getD k mode0)) p).length c4) (preR (inM r (l.getD k mode0)) p) from ⟨_,_,rfl,f0⟩) H.k.size
   exact (hN _ _ (H.k.call hb) trivial ⟨(fun h=>by rw [put_ne' (by decide)];obtain ⟨m3',e,f3'⟩:=x0 h;exact ⟨m3',e,f3'.below hb leR⟩),(fun _=>by rw [put_get_self (H.f.lt (by rw [hz];decide))];exact ⟨A4,c4,rfl,f4⟩),(fun h=>by rw [put_ne' (by decide)];obtain ⟨A4',c4',e,f4'⟩:=x2 h;exact ⟨A4',c4',e,f4'.below hb leR⟩),(fun h=>by rw [put_ne' (by decide)];obtain ⟨A4',c4',e,f4'⟩:=x3 h;exact ⟨A4',c4',e,f4'.below hb leR⟩),(fun h=>((x4 h).bel hb (fun _ ⟨A4',c4',e,f4'⟩=>⟨A4',c4',e,f4'.below hb leR⟩)).put (by decide) _)⟩)
  ·intro Lk ak ww H _ _ hN
   obtain ⟨x0,x1,x2,x3,x4⟩:=H.x
   obtain ⟨A4,c4,ee4,f4⟩:=x1 (H.r 4 rfl)
   exact wp_move rfl (ev ee4) (hN _ _ H.k trivial ⟨(fun h=>by rw [put_ne' (by decide)];obtain ⟨m3',e,f3'⟩:=x0 h;exact ⟨m3',e,f3'.below bR leR⟩),(fun h=>by rw [put_ne' (by decide)];obtain ⟨A4',c4',e,f4'⟩:=x1 h;exact ⟨A4',c4',e,f4'.below bR leR⟩),(fun _=>by rw [put_get_self (H.f.lt (by rw [hz];decide))];exact ⟨A4,c4,rfl,f4⟩),(fun h=>by rw [put_ne' (by decide)];obtain ⟨A4',c4',e,f4'⟩:=x3 h;exact ⟨A4',c4',e,f4'.below bR leR⟩),(fun h=>((x4 h).bel bR (fun _ ⟨A4',c4',e,f4'⟩=>⟨A4',c4',e,f4'.below bR leR⟩)).put (by decide) _)⟩)
  ·intro Lk ak ww H _ _ hN
   obtain ⟨x0,x1,x2,x3,x4⟩:=H.x
   obtain ⟨A4,c4,ee5,f4⟩:=x2 (H.r 5 rfl)
   exact wp_extract rfl (ev ee5) rfl (hN _ _ H.k trivial ⟨(fun h=>by rw [put_ne' (by decide)];obtain ⟨m3',e,f3'⟩:=x0 h;exact ⟨m3',e,f3'.below bR leR⟩),(fun h=>by rw [put_ne' (by decide)];obtain ⟨A4',c4',e,f4'⟩:=x1 h;exact ⟨A4',c4',e,f4'.below bR leR⟩),(fun h=>by rw [put_ne' (by decide)];obtain ⟨A4',c4',e,f4'⟩:=x2 h;exact ⟨A4',c4',e,f4'.below bR leR⟩),(fun _=>by rw [put_get_self (H.f.lt (by rw [hz];decide))];exact ⟨A4,c4,rfl,f4⟩),(fun h=>((x4 h).bel bR (fun _ ⟨A4',c4',e,f4'⟩=>⟨A4',c4',e,f4'.below bR leR⟩)).put (by decide) _)⟩)
  ·intro Lk ak ww H _ _ hN
   obtain ⟨x0,x1,x2,x3,x4⟩:=H.x
   obtain ⟨A4,c4,ee5,f4⟩:=x2 (H.r 5 rfl)
   exact wp_extract rfl (ev ee5) rfl (hN _ _ H.k rfl (hXb.q rfl H.x))
  ·intro Lk ak ww H _ _ hN
   obtain ⟨x0,x1,x2,x3,x4⟩:=H.x
   simp [go_sem]
   exact hN _ _ (H.k.alloc _) trivial ⟨(fun h=>by rw [put_ne' (by decide)];obtain ⟨m3',e,f3'⟩:=x0 h;exact ⟨m3',e,f3'.below (below_al bR _) leR⟩),(fun h=>by rw [put_ne' (by decide)];obtain ⟨A4',c4',e,f4'⟩:=x1 h;exact ⟨A4',c4',e,f4'.below (below_al bR _) leR⟩),(fun h=>by rw [put_ne' (by decide)];obtain ⟨A4',c4',e,f4'⟩:=x2 h;exact ⟨A4',c4',e,f4'.below (below_al bR _) leR⟩),(fun h=>by rw [put_ne' (by decide)];obtain ⟨A4',c4',e,f4'⟩:=x3 h;exact ⟨A4',c4',e,f4'.below (below_al bR _) leR⟩),(fun _=>by rw [show upd Lk 8 9=false from H.t 9 rfl];exact BoxX.new (s:=11) (H.f.lt (by rw [hz];decide)) H.k.size [.slice none 0 0])⟩
  ·intro Lk ak ww H _ _ hN
   obtain ⟨x0,x1,x2,x3,x4⟩:=H.x
   obtain ⟨A4,c4,ee6,f4⟩:=x3 (H.r 6 rfl)
   obtain ⟨g,eg,hg,y,_⟩:=x4 (H.r 8 rfl)
   have HT:=y H.n
   simp [go_sem,ee6,eg,HT.cell,HT.frz]
   have f4:=f4.otherC (f4.typ HT (by decide)) [.slice A4 ((preR (inM r (l.getD k mode0)) p).length) c4] 0
   exact hN undef _ (H.k.store (.inl hg) [.slice A4 ((preR (inM r (l.getD k mode0)) p).length) c4] 0) trivial ⟨(fun h=>by obtain ⟨m3',e,f3'⟩:=x0 h;exact ⟨m3',e,f3'.otherT HT (by decide) (by decide) [.slice A4 ((preR (inM r (l.getD k mode0)) p).length) c4] 0⟩),(fun h=>by obtain ⟨A4',c4',e,f4'⟩:=x1 h;exact ⟨A4',c4',e,f4'.otherC (f4'.typ HT (by decide)) [.slice A4 ((preR (inM r (l.getD k mode0)) p).length) c4] 0⟩),(fun h=>by obtain ⟨A4',c4',e,f4'⟩:=x2 h;exact ⟨A4',c4',e,f4'.otherC (f4'.typ HT (by decide)) [.slice A4 ((preR (inM r (l.getD k mode0)) p).length) c4] 0⟩),(fun h=>by obtain ⟨A4',c4',e,f4'⟩:=x3 h;exact ⟨A4',c4',e,f4'.otherC (f4'.typ HT (by decide)) [.slice A4 ((preR (inM r (l.getD k mode0)) p).length) c4] 0⟩),(fun _=>BoxX.set eg hg HT (us:=[.slice A4 ((preR (inM r (l.getD k mode0)) p).length) c4]) rfl ⟨A4,c4,rfl,f4⟩)⟩
  ·exact fun Lk ak ww H _ _ hN=>wp_assign rfl (ev (H.d 7 rfl rfl)) (hN _ _ H.k rfl (hXb.q rfl H.x))
  intro L a19 w20 hL hF hK hV hX
  obtain ⟨x0,x1,x2,x3,x4⟩:=hX
  replace hz:=hF.Z hz;replace hdf:=hF.E hdf;replace s3:=hF.G s3;replace s5:=hF.G s5;replace s6:=hF.G s6;replace s8:=hF.G s8;replace s15:=hF.G s15;replace s16:=hF.G s16;replace s17:=hF.G s17;have s12:=gS a19 12 (hV 10 _ rfl);replace b3:=b3.k0 hK;replace b4:=b4.k0 hK;replace b5:=b5.k0 hK;replace b8:=b8.k0 hK
  obtain ⟨g21,s11,lg21,-,b21⟩:=x4 (hL 8 (by decide))
  obtain ⟨_,b21,A4,c4,rfl,N4⟩:=b21 (hL 9 (by decide))
  have i4:∀ p,A4=some p→p.block<w20.heap.size:=fun p hp=>(N4.blk p hp).2
  have ug21:=b21.lt
  replace N2:=N2.below hK.toBelow leR;have zw20:=hK.size;replace hZ:=Nat.le_refl w20.heap.size;replace hB:=hK.below0 hB;clear hF hK hV hL x0 x1 x2 x3 x4 hXb s10 b18;refine th_n ?_;refine wp_seq ?_;refine wp_seq ?_
  refine wp_regJ (by kernel_rfl) [29,30] [some (.bool (preOk (inM r (l.getD k mode0)) p)),some (.bool (!(preOk (inM r (l.getD k mode0)) p)))] (dlR 2) [29,30] [0,1] [] (fun _ _ _=>True) (by kernel_rfl) (by rw [hz];decide) ?_ (en rfl ?_ (en rfl ?_ .nil)) ?_
  ·exact fun _ _=>trivial
  ·exact fun Lk ak ww H _ _ hN=>wp_move rfl (ev (H.f.g rfl s12)) (hN _ _ H.k rfl trivial)
  ·exact fun Lk ak ww H _ _ hN=>wp_not rfl (ev (H.d 0 rfl rfl)) (hN _ _ H.k rfl trivial)
  intro L a22 w23 hL hF hK hV hX;replace hz:=hF.Z hz;replace hdf:=hF.E hdf;replace s3:=hF.G s3;replace s5:=hF.G s5;replace s6:=hF.G s6;replace s8:=hF.G s8;replace s15:=hF.G s15;replace s16:=hF.G s16;replace s17:=hF.G s17;replace s11:=hF.G s11;have s30:=gS a22 30 (hV 1 _ rfl);replace b3:=b3.k0 hK;replace b4:=b4.k0 hK;replace b5:=b5.k0 hK;replace b8:=b8.k0 hK;replace b21:=b21.k0 hK;replace N2:=N2.below hK.toBelow leR;replace N4:=N4.below hK.toBelow leR;replace hZ:=Nat.le_trans hZ hK.size;replace hB:=hK.below0 hB;clear hF hK hV hL hX s12;refine th_n ?_
  rcases Bool.eq_false_or_eq_true (!(preOk (inM r (l.getD k mode0)) p)) with q24|q24
  ·skip
   refine wp_cond_true (ev (vb s30 q24)) ?_
   refine wp_seq ?_
   have hXb:StaysX [] (fun L aa ww=>PreX ww (w.heap.size+2) 37 [.slice none 0 0] (L 1) (fun _ vs=>vs=[.slice none 0 0])):=by
    intro L aa ww w' kk vv hkk hb hX
    have x0:=hX
    exact (x0.bel hb (fun _ h=>h))
   refine wp_regK hXb (by kernel_rfl) [31,0,7] [some (.agg #[.slice none 0 0]),none,some (.bool false)] (dlR 3) [31,7] [0,1,2] [(w.heap.size+2)] (by kernel_rfl) (by rw [hz];decide) ?_ (en rfl ?_ (en rfl ?_ (en rfl ?_ .nil))) ?_
   ·exact fun _ h=>(⟨fun _=>b5.kp h (by simp),(fun h=>by cases h)⟩)
   ·intro Lk ak ww H _ _ hN
    simp [go_sem]
    exact (hN _ _ H.k rfl H.x)
   ·intro Lk ak ww H _ _ hN
    have x0:=H.x
    have HT:=x0.1 H.n
    simp [go_sem,(gS ak 31 (H.d 0 rfl rfl)),H.f.g rfl s6,HT.cell,HT.frz]
    exact hN undef _ (H.k.store (.inr (by simp)) [.slice none 0 0] 0) trivial (PreX.set HT (us:=[.slice none 0 0]) rfl rfl)
   ·exact fun Lk ak ww H _ _ hN=>wp_assign rfl rfl (hN _ _ H.k rfl H.x)
   intro L a25 w26 hL hF hK hV hX;have x0:=hX;replace hz:=hF.Z hz;replace hdf:=hF.E hdf;replace s6:=hF.G s6;have s7:=gS a25 7 (hV 2 _ rfl);clear b5
   obtain ⟨_,b5,rfl⟩:=x0.2 (hL 1 (by decide))
   replace hZ:=Nat.le_trans hZ hK.size
   replace hB:=hK.below hB hB.size (by simp<;>omega)
   clear hF hK hV hL x0 hXb s3 s5 s8 s15 s16 s17 s11 s30 b3 b4 b8 b21 N2 i2 N4 i4;refine th_n ?_
   refine wp_ret ?_
   refine th_r (ib_r (th_r (th_r (ib_r (th_r ?_)))))
   refine bodyPost_ret (v:=.tuple #[.agg #[.slice none 0 0],.bool false]) (by simp [results,Tryz.results122,go_sem,s6,b5.cell,s7]) hdf ?_
   have hst:=pkA_stop hkl (by rw [hpk];exact pkF_no (.inl (not_t q24)))
   exact ⟨_,by rw [hst];rfl,by rw [hst];exact New.nilN _ _ _ _ _,hB⟩
  ·skip
   refine wp_cond_false (ev (vb s30 q24)) ?_
   refine wp_skip ?_;refine th_n ?_;refine wp_seq ?_
   have hXb:StaysX [32,35,36] (fun L aa ww=>(L 2=true→(fun ww v=>∃ A5 c5,v=.tuple #[.agg #[.slice A5 ((mrR out (preR (inM r (l.getD k mode0)) p)).length) c5],.bool (mrOk out (preR (inM r (l.getD k mode0)) p))]∧New 111 3 halfC ww w23.heap.size (.slice A5 (mrR out (preR (inM r (l.getD k mode0)) p)).length c5) (mrR out (preR (inM r (l.getD k mode0)) p))) ww (aa.tmps[35]?.getD undef))∧(L 3=true→(fun ww v=>∃ A5 c5,v=.tuple #[.agg #[.slice A5 ((mrR out (preR (inM r (l.getD k mode0)) p)).length) c5],.bool (mrOk out (preR (inM r (l.getD k mode0)) p))]∧New 111 3 halfC ww w23.heap.size (.slice A5 (mrR out (preR (inM r (l.getD k mode0)) p)).length c5) (mrR out (preR (inM r (l.getD k mode0)) p))) ww (aa.tmps[32]?.getD undef))∧(L 4=true→(fun ww v=>∃ A5 c5,v=.agg #[.slice A5 ((mrR out (preR (inM r (l.getD k mode0)) p)).length) c5]∧New 111 3 halfC ww w23.heap.size (.slice A5 (mrR out (preR (inM r (l.getD k mode0)) p)).length c5) (mrR out (preR (inM r (l.getD k mode0)) p))) ww (aa.tmps[36]?.getD undef))∧PreX ww g8 37 [.slice A2 out.length c2] (L 6) (fun ww vs=>∃ A5 c5,vs=[.slice A5 ((mrR out (preR (inM r (l.getD k mode0)) p)).length) c5]∧New 111 3 halfC ww w23.heap.size (.slice A5 (mrR out (preR (inM r (l.getD k mode0)) p)).length c5) (mrR out (preR (inM r (l.getD k mode0)) p)))):=by
    intro L aa ww w' kk vv hkk hb hX
    obtain ⟨x0,x1,x2,x3⟩:=hX
    exact ⟨(fun h=>by rw [put_ne' (hkk 35 (by simp))];obtain ⟨A5',c5',e,f5'⟩:=x0 h;exact ⟨A5',c5',e,f5'.below hb leR⟩),(fun h=>by rw [put_ne' (hkk 32 (by simp))];obtain ⟨A5',c5',e,f5'⟩:=x1 h;exact ⟨A5',c5',e,f5'.below hb leR⟩),(fun h=>by rw [put_ne' (hkk 36 (by simp))];obtain ⟨A5',c5',e,f5'⟩:=x2 h;exact ⟨A5',c5',e,f5'.below hb leR⟩),(x3.bel hb (fun _ ⟨A5',c5',e,f5'⟩=>⟨A5',c5',e,f5'.below hb leR⟩))⟩
   refine wp_regK hXb (by kernel_rfl) [33,34,35,32,36,37,0,12] [some (.agg #[.slice A2 out.length c2]),some (.agg #[.slice A4 ((preR (inM r (l.getD k mode0)) p).length) c4]),none,none,none,some (.bool (mrOk out (preR (inM r (l.getD k mode0)) p))),none,some (.bool (mrOk out (preR (inM r (l.getD k mode0)) p)))] (dlR 8) [33,34,35,32,36,37,12] [0,1,2,3,4,5,6,7] [g8] (by kernel_rfl) (by rw [hz];decide) ?_ (en rfl ?_ (en rfl ?_ (en rfl ?_ (en rfl ?_ (en rfl ?_ (en rfl ?_ (en rfl ?_ (en rfl ?_ .nil)))))))) ?_
   ·exact fun _ h=>⟨(fun h=>by cases h),(fun h=>by cases h),(fun h=>by cases h),(⟨fun _=>b8.kp h (by simp),(fun h=>by cases h)⟩)⟩
   ·intro Lk ak ww H _ _ hN
    obtain ⟨x0,x1,x2,x3⟩:=H.x
    have hb0:=x3.1 (H.t 6 rfl)
    simp [go_sem,H.f.g rfl s8,hb0.cell]
    exact (hN _ _ H.k rfl (hXb.q rfl H.x))
   ·intro Lk ak ww H _ _ hN
    simp [go_sem,H.f.g rfl s11,(b21.kp H.k (by simp<;>omega)).cell]
    exact (hN _ _ H.k rfl (hXb.q rfl H.x))
   ·intro Lk ak ww H _ _ hN
    obtain ⟨x0,x1,x2,x3⟩:=H.x
    simp [go_sem,(gS ak 33 (H.d 0 rfl rfl)),(gS ak 34 (H.d 1 rfl rfl))]
    refine (iMeetR_c out (preR (inM r (l.getD k mode0)) p) ⟨A2,c2⟩ ⟨A4,c4⟩ ww hout (preR_ok _ _) ((N2.kpT H.k (N2.typ b8 (by decide))).out halfC_len) ((N4.kp H.k i4 (by omega) (by simp<;>omega)).out halfC_len) N2.nilcap N4.nilcap).mono ?_
    rintro x wx ⟨_,rfl,⟨A5,c5,rfl,f0⟩,hb⟩
    have f5:=New.mono (show New 111 3 halfC wx ww.heap.size (.slice A5 (mrR out (preR (inM r (l.getD k mode0)) p)).length c5) (mrR out (preR (inM r (l.getD k mode0)) p)) from ⟨_,_,rfl,f0⟩) H.k.size
    exact (hN _ _ (H.k.call hb) trivial ⟨(fun _=>by rw [put_get_self (H.f.lt (by rw [hz];decide))];exact ⟨A5,c5,rfl,f5⟩),(fun h=>by rw [put_ne' (by decide)];obtain ⟨A5',c5',e,f5'⟩:=x1 h;exact ⟨A5',c5',e,f5'.below hb leR⟩),(fun h=>by rw [put_ne' (by decide)];obtain ⟨A5',c5',e,f5'⟩:=x2 h;exact ⟨A5',c5',e,f5'.below hb leR⟩),(x3.bel hb (fun _ ⟨A5',c5',e,f5'⟩=>⟨A5',c5',e,f5'.below hb leR⟩))⟩)
   ·intro Lk ak ww H _ _ hN
    obtain ⟨x0,x1,x2,x3⟩:=H.x
    obtain ⟨A5,c5,ee2,f5⟩:=x0 (H.r 2 rfl)
    exact wp_move rfl (ev ee2) (hN _ _ H.k trivial ⟨(fun h=>by rw [put_ne' (by decide)];obtain ⟨A5',c5',e,f5'⟩:=x0 h;exact ⟨A5',c5',e,f5'.below bR leR⟩),(fun _=>by rw [put_get_self (H.f.lt (by rw [hz];decide))];exact ⟨A5,c5,rfl,f5⟩),(fun h=>by rw [put_ne' (by decide)];obtain ⟨A5',c5',e,f5'⟩:=x2 h;exact ⟨A5',c5',e,f5'.below bR leR⟩),(x3.bel bR (fun _ ⟨A5',c5',e,f5'⟩=>⟨A5',c5',e,f5'.below bR leR⟩))⟩)
   ·intro Lk ak ww H _ _ hN
    obtain ⟨x0,x1,x2,x3⟩:=H.x
    obtain ⟨A5,c5,ee3,f5⟩:=x1 (H.r 3 rfl)
    exact wp_extract rfl (ev ee3) rfl (hN _ _ H.k trivial ⟨(fun h=>by rw [put_ne' (by decide)];obtain ⟨A5',c5',e,f5'⟩:=x0 h;exact ⟨A5',c5',e,f5'.below bR leR⟩),(fun h=>by rw [put_ne' (by decide)];obtain ⟨A5',c5',e,f5'⟩:=x1 h;exact ⟨A5',c5',e,f5'.below bR leR⟩),(fun _=>by rw [put_get_self (H.f.lt (by rw [hz];decide))];exact ⟨A5,c5,rfl,f5⟩),(x3.bel bR (fun _ ⟨A5',c5',e,f5'⟩=>⟨A5',c5',e,f5'.below bR leR⟩))⟩)
   ·intro Lk ak ww H _ _ hN
    obtain ⟨x0,x1,x2,x3⟩:=H.x
    obtain ⟨A5,c5,ee3,f5⟩:=x1 (H.r 3 rfl)
    exact wp_extract rfl (ev ee3) rfl (hN _ _ H.k rfl (hXb.q rfl H.x))
   ·intro Lk ak ww H _ _ hN
    obtain ⟨x0,x1,x2,x3⟩:=H.x
    obtain ⟨A5,c5,ee4,f5⟩:=x2 (H.r 4 rfl)
    have HT:=x3.1 H.n
    simp [go_sem,ee4,H.f.g rfl s8,HT.cell,HT.frz]
    have f5:=f5.otherC (f5.typ HT (by decide)) [.slice A5 ((mrR out (preR (inM r (l.getD k mode0)) p)).length) c5] 0
    exact hN undef _ (H.k.store (.inr (by simp)) [.slice A5 ((mrR out (preR (inM r (l.getD k mode0)) p)).length) c5] 0) trivial ⟨(fun h=>by obtain ⟨A5',c5',e,f5'⟩:=x0 h;exact ⟨A5',c5',e,f5'.otherC (f5'.typ HT (by decide)) [.slice A5 ((mrR out (preR (inM r (l.getD k mode0)) p)).length) c5] 0⟩),(fun h=>by obtain ⟨A5',c5',e,f5'⟩:=x1 h;exact ⟨A5',c5',e,f5'.otherC (f5'.typ HT (by decide)) [.slice A5 ((mrR out (preR (inM r (l.getD k mode0)) p)).length) c5] 0⟩),(fun h=>by obtain ⟨A5',c5',e,f5'⟩:=x2 h;exact ⟨A5',c5',e,f5'.otherC (f5'.typ HT (by decide)) [.slice A5 ((mrR out (preR (inM r (l.getD k mode0)) p)).length) c5] 0⟩),(PreX.set HT (us:=[.slice A5 ((mrR out (preR (inM r (l.getD k mode0)) p)).length) c5]) rfl ⟨A5,c5,rfl,f5⟩)⟩
   ·exact fun Lk ak ww H _ _ hN=>wp_assign rfl (ev (H.d 5 rfl rfl)) (hN _ _ H.k rfl (hXb.q rfl H.x))
   intro L a27 w28 hL hF hK hV hX
   obtain ⟨x0,x1,x2,x3⟩:=hX
   replace hz:=hF.Z hz;replace hdf:=hF.E hdf;replace s3:=hF.G s3;replace s5:=hF.G s5;replace s6:=hF.G s6;replace s8:=hF.G s8;replace s15:=hF.G s15;replace s16:=hF.G s16;replace s17:=hF.G s17;have s12:=gS a27 12 (hV 7 _ rfl)
   replace b3:=b3.kp hK (by simp<;>omega)
   replace b4:=b4.kp hK (by simp<;>omega)
   replace b5:=b5.kp hK (by simp<;>omega)
   clear b8
   obtain ⟨_,b8,A5,c5,rfl,N5⟩:=x3.2 (hL 6 (by decide))
   have i5:∀ p,A5=some p→p.block<w28.heap.size:=fun p hp=>(N5.blk p hp).2;have zw23:=hZ;have zw28:=hK.size;replace hZ:=Nat.le_refl w28.heap.size
   replace hB:=hK.below hB hB.size (by simp<;>omega)
   clear hF hK hV hL x0 x1 x2 x3 hXb s11 s30 b21 N2 i2 N4 i4;refine th_n ?_;refine wp_seq ?_
   refine wp_regJ (by kernel_rfl) [38,39] [some (.bool (mrOk out (preR (inM r (l.getD k mode0)) p))),some (.bool (!(mrOk out (preR (inM r (l.getD k mode0)) p))))] (dlR 2) [38,39] [0,1] [] (fun _ _ _=>True) (by kernel_rfl) (by rw [hz];decide) ?_ (en rfl ?_ (en rfl ?_ .nil)) ?_
   ·exact fun _ _=>trivial
   ·exact fun Lk ak ww H _ _ hN=>wp_move rfl (ev (H.f.g rfl s12)) (hN _ _ H.k rfl trivial)
   ·exact fun Lk ak ww H _ _ hN=>wp_not rfl (ev (H.d 0 rfl rfl)) (hN _ _ H.k rfl trivial)
   intro L a29 w30 hL hF hK hV hX;replace hz:=hF.Z hz;replace hdf:=hF.E hdf;replace s3:=hF.G s3;replace s5:=hF.G s5;replace s6:=hF.G s6;replace s8:=hF.G s8;replace s15:=hF.G s15;replace s16:=hF.G s16;replace s17:=hF.G s17;have s39:=gS a29 39 (hV 1 _ rfl);replace b3:=b3.k0 hK;replace b4:=b4.k0 hK;replace b5:=b5.k0 hK;replace b8:=b8.k0 hK;replace N5:=N5.below hK.toBelow leR;replace hZ:=Nat.le_trans hZ hK.size;replace hB:=hK.below0 hB;clear hF hK hV hL hX s12;refine th_n ?_
   rcases Bool.eq_false_or_eq_true (!(mrOk out (preR (inM r (l.getD k mode0)) p))) with q31|q31
   ·skip
    refine wp_cond_true (ev (vb s39 q31)) ?_
    refine wp_seq ?_
    have hXb:StaysX [] (fun L aa ww=>PreX ww (w.heap.size+2) 37 [.slice none 0 0] (L 1) (fun _ vs=>vs=[.slice none 0 0])):=by
     intro L aa ww w' kk vv hkk hb hX
     have x0:=hX
     exact (x0.bel hb (fun _ h=>h))
    refine wp_regK hXb (by kernel_rfl) [40,0,7] [some (.agg #[.slice none 0 0]),none,some (.bool false)] (dlR 3) [40,7] [0,1,2] [(w.heap.size+2)] (by kernel_rfl) (by rw [hz];decide) ?_ (en rfl ?_ (en rfl ?_ (en rfl ?_ .nil))) ?_
    ·exact fun _ h=>(⟨fun _=>b5.kp h (by simp),(fun h=>by cases h)⟩)
    ·intro Lk ak ww H _ _ hN
     simp [go_sem]
     exact (hN _ _ H.k rfl H.x)
    ·intro Lk ak ww H _ _ hN
     have x0:=H.x
     have HT:=x0.1 H.n
     simp [go_sem,(gS ak 40 (H.d 0 rfl rfl)),H.f.g rfl s6,HT.cell,HT.frz]
     exact hN undef _ (H.k.store (.inr (by simp)) [.slice none 0 0] 0) trivial (PreX.set HT (us:=[.slice none 0 0]) rfl rfl)
    ·exact fun Lk ak ww H _ _ hN=>wp_assign rfl rfl (hN _ _ H.k rfl H.x)
    intro L a32 w33 hL hF hK hV hX;have x0:=hX;replace hz:=hF.Z hz;replace hdf:=hF.E hdf;replace s6:=hF.G s6;have s7:=gS a32 7 (hV 2 _ rfl);clear b5
    obtain ⟨_,b5,rfl⟩:=x0.2 (hL 1 (by decide))
    replace hZ:=Nat.le_trans hZ hK.size
    replace hB:=hK.below hB hB.size (by simp<;>omega)
    clear hF hK hV hL x0 hXb s3 s5 s8 s15 s16 s17 s39 b3 b4 b8 N5 i5;refine th_n ?_
    refine wp_ret ?_
    refine ib_r (th_r (th_r (ib_r (th_r ?_))))
    refine bodyPost_ret (v:=.tuple #[.agg #[.slice none 0 0],.bool false]) (by simp [results,Tryz.results122,go_sem,s6,b5.cell,s7]) hdf ?_
    have hst:=pkA_stop hkl (by rw [hpk];exact pkF_no (.inr (not_t q31)))
    exact ⟨_,by rw [hst];rfl,by rw [hst];exact New.nilN _ _ _ _ _,hB⟩
   ·skip
    refine wp_cond_false (ev (vb s39 q31)) ?_
    refine wp_skip ?_;refine ib_n (th_n ?_)
    refine wp_regJ (by kernel_rfl) [41,17] [some (.int .i64 ((k:Int)+1)),some (.int .i64 ((k:Int)+1))] (dlR 2) [41,17] [0,1] [] (fun L aa ww=>(L 1=false→aa.tmps[17]?.getD undef=.int .i64 (k:Int))) (by kernel_rfl) (by rw [hz];decide) ?_ (en rfl ?_ (en rfl ?_ .nil)) ?_
    ·exact fun _ h=>(fun _=>s17)
    ·intro Lk ak ww H _ _ hN
     have x0:=H.x
     exact wp_add rfl (ev (x0 (H.t 1 rfl))) rfl (by omega) (hN _ _ H.k rfl (fun h=>(put_ne' (by decide) _).trans (x0 h)))
    ·intro Lk ak ww H _ _ hN
     have x0:=H.x
     exact wp_move rfl (ev (H.d 0 rfl rfl)) (hN _ _ H.k rfl (fun h=>by simp [upd] at h))
    intro L a34 w35 hL hF hK hV hX;have x0:=hX;replace hz:=hF.Z hz;replace hdf:=hF.E hdf;replace s3:=hF.G s3;replace s5:=hF.G s5;replace s6:=hF.G s6;replace s8:=hF.G s8;replace s15:=hF.G s15;replace s16:=hF.G s16;have s17:=gS a34 17 (hV 1 _ rfl);replace b3:=b3.k0 hK;replace b4:=b4.k0 hK;replace b5:=b5.k0 hK;replace b8:=b8.k0 hK;replace N5:=N5.below hK.toBelow leR;replace hZ:=Nat.le_trans hZ hK.size;replace hB:=hK.below0 hB;clear hF hK hV hL x0 s39;refine th_n ?_
    refine ⟨?_, ?_⟩
    ·exact ⟨hz,hdf,(k+1),((mrR out (preR (inM r (l.getD k mode0)) p))),(A5),(c5),(by omega),(by rw [pkA_next hkl,hpk];exact pkF_yes (not_f q24) (not_f q31)),(mrR_ok hout (preR_ok _ _)),s3,s5,s6,s8,s15,s16,s17,b3,b4,b5,b8,(N5.mono (by omega)),hB,(by omega)⟩
    ·show (l.length-(intOf (a34.tmps[17]?.getD undef)).toNat)<_
     rw [s17,hmu];simp only [intOf];omega
 ·skip
  have ek:k=l.length:=by have:=dec_f q15;omega
  rw [ek,List.take_length] at hpk
  refine wp_cond_false (ev (vb s18 q15)) ?_
  refine wp_exit ?_
  refine th_e (th_e (ib_x (th_n ?_)));refine wp_seq ?_
  have hXb:StaysX [] (fun L aa ww=>PreX ww (w.heap.size+2) 37 [.slice none 0 0] (L 1) (fun _ vs=>vs=[.slice A2 out.length c2])):=by
   intro L aa ww w' kk vv hkk hb hX
   have x0:=hX
   exact (x0.bel hb (fun _ h=>h))
  refine wp_regK hXb (by kernel_rfl) [42,0,7] [some (.agg #[.slice A2 out.length c2]),none,some (.bool true)] (dlR 3) [42,7] [0,1,2] [(w.heap.size+2)] (by kernel_rfl) (by rw [hz];decide) ?_ (en rfl ?_ (en rfl ?_ (en rfl ?_ .nil))) ?_
  ·exact fun _ h=>(⟨fun _=>b5.kp h (by simp),(fun h=>by cases h)⟩)
  ·intro Lk ak ww H _ _ hN
   simp [go_sem,H.f.g rfl s8,(b8.kp H.k (by simp<;>omega)).cell]
   exact (hN _ _ H.k rfl H.x)
  ·intro Lk ak ww H _ _ hN
   have x0:=H.x
   have HT:=x0.1 H.n
   simp [go_sem,(gS ak 42 (H.d 0 rfl rfl)),H.f.g rfl s6,HT.cell,HT.frz]
   exact hN undef _ (H.k.store (.inr (by simp)) [.slice A2 out.length c2] 0) trivial (PreX.set HT (us:=[.slice A2 out.length c2]) rfl rfl)
  ·exact fun Lk ak ww H _ _ hN=>wp_assign rfl rfl (hN _ _ H.k rfl H.x)
  intro L a36 w37 hL hF hK hV hX;have x0:=hX;replace hz:=hF.Z hz;replace hdf:=hF.E hdf;replace s6:=hF.G s6;have s7:=gS a36 7 (hV 2 _ rfl);clear b5
  obtain ⟨_,b5,rfl⟩:=x0.2 (hL 1 (by decide))
  replace N2:=N2.kp hK i2 (by omega) (by simp<;>omega)
  replace hZ:=Nat.le_trans hZ hK.size
  replace hB:=hK.below hB hB.size (by simp<;>omega)
  clear hF hK hV hL x0 hXb s3 s5 s8 s15 s16 s17 s18 b3 b4 b8;refine th_n ?_
  refine wp_ret ?_
  refine bodyPost_ret (v:=.tuple #[.agg #[.slice A2 out.length c2],.bool true]) (by simp [results,Tryz.results122,go_sem,s6,b5.cell,s7]) hdf ?_
  exact ⟨_,by rw [hpk];rfl,by rw [hpk];exact N2.mono (by omega),hB⟩
set_option maxRecDepth 100000 in
set_option maxHeartbeats 3000000 in
theorem iPlant_c (r:Room) (l:List Mode) (p:List Half) (ra:RoomA) (e:SlA) (b:SlA) (w:World) (hn:roomLen r≤1048576) (hin:RoomIn r) (_hlin:∀ m∈l,m.In) (hs:RoomSl w r ra) (hnl:RoomNil ra) (hlp:p.length≤1048576) (hpi:∀ h∈p,h.In) (hll:l.length≤1048576) (hsl:Sl 2 modeC w e.A l) (hsp:Sl 3 halfC w b.A p) (hnb:b.A=none→b.c=0) :
 Calls Tryz.prog 55 #[roomV r ra,.slice e.A l.length e.c,.agg #[.slice b.A p.length b.c]] w fun x w'=>∃ v,x=.returned (.tuple #[.agg #[v],.bool (pkOk r l p)])∧New 111 3 halfC w' w.heap.size v (pkR r l p)∧Below w.heap.size w w':=by
 refine calls_v Tryz.func55 rfl (n:=24) Tryz.ntmps55 (by simp) ?_
 intro a0 hz hdf ha
 have s0:a0.tmps[0]?.getD undef=roomV r ra:=ha 0 _ rfl;have s1:a0.tmps[1]?.getD undef=.slice e.A l.length e.c:=ha 1 _ rfl;have s2:a0.tmps[2]?.getD undef=.agg #[.slice b.A p.length b.c]:=ha 2 _ rfl;clear ha
 have hB:=Below.refl w.heap.size w
 have hZ:=Nat.le_refl w.heap.size
 refine wp_seq ?_
 refine wp_entry [3,5,6,7] [.pointer (some ⟨w.heap.size,0,none⟩),.pointer (some ⟨(w.heap.size+1),0,none⟩),.pointer (some ⟨(w.heap.size+2),0,none⟩),.bool false] [some (.cells (roomC r ra).toArray 39),some (.cells [.slice b.A p.length b.c].toArray 37),some (.cells [.slice none 0 0].toArray 37),none] [0,1,2,3] [3,5,6,7] [0,1,2,3] (by kernel_rfl) (by rw [hz];decide) (ec ?_ (ec ?_ (ec ?_ (ec ?_ .nil)))) ?_
 ·intro a w' hF hs N Q hN;simp [go_sem,hF.g rfl s0];rw [hs];exact hN
 ·intro a w' hF hs N Q hN;simp [go_sem,hF.g rfl s2];rw [hs];exact hN
 ·intro a w' hF hs N Q hN;simp [go_sem];rw [hs];exact hN
 ·intro a w' hF hs N Q hN;simp [go_sem];exact hN
 intro a1 w2 hF hV hb hO
 replace hz:=hF.size.trans hz;replace hdf:=hF.defers.trans hdf;replace s1:=hF.g rfl s1
 have s3:a1.tmps[3]?.getD undef=.pointer (some ⟨w.heap.size,0,none⟩):=hV 0 (by decide)
 have s5:a1.tmps[5]?.getD undef=.pointer (some ⟨(w.heap.size+1),0,none⟩):=hV 1 (by decide)
 have s6:a1.tmps[6]?.getD undef=.pointer (some ⟨(w.heap.size+2),0,none⟩):=hV 2 (by decide)
 have b3:HasT w2 w.heap.size 39 (roomC r ra):=hO 0 _ rfl
 have b4:HasT w2 (w.heap.size+1) 37 [.slice b.A p.length b.c]:=hO 1 _ rfl
 have b5:HasT w2 (w.heap.size+2) 37 [.slice none 0 0]:=hO 2 _ rfl
 have hG:=b5.lt
 replace hB:=below_tr hB hb;have zw2:=Nat.le_trans hZ hb.size;replace hZ:=Nat.le_refl w2.heap.size;clear hF hV hb hO s0 s2;refine th_n ?_;refine wp_seq ?_;refine wp_seq ?_
 refine wp_regJ (by kernel_rfl) [8,9,10,11,12,13,14,15,16] [some (roomV r ra),some (.slice e.A l.length e.c),some (.bool (modesOk r l)),some (.bool (!(modesOk r l))),some (.bool (!(modesOk r l))),some ((bif !(modesOk r l) then undef else (.agg #[.slice b.A p.length b.c]:Value))),some ((bif !(modesOk r l) then undef else (.bool (regionOk p):Value))),some ((bif !(modesOk r l) then undef else (.bool (!(regionOk p)):Value))),some (.bool (!(modesOk r l) || !(regionOk p)))] (dlR 9) [8,9,10,11,12,13,14,15,16] [0,1,2,3,4,5,6,7,8] [] (fun _ _ _=>True) (by kernel_rfl) (by rw [hz];decide) ?_ (en rfl ?_ (en rfl ?_ (en rfl ?_ (en rfl ?_ (en rfl ?_ (eg ?_ (eg ?_ (eg ?_ (en rfl ?_ .nil))))))))) ?_
 ·exact fun _ _=>trivial
 ·intro Lk ak ww H _ _ hN
  simp [go_sem,H.f.g rfl s3,(b3.k0 H.k).cell]
  exact (hN _ _ H.k rfl trivial)
 ·exact fun Lk ak ww H _ _ hN=>wp_move rfl (ev (H.f.g rfl s1)) (hN _ _ H.k rfl trivial)
 ·intro Lk ak ww H _ _ hN
  simp [go_sem,(gS ak 8 (H.d 0 rfl rfl)),(gS ak 9 (H.d 1 rfl rfl))]
  have hBi:=H.k.below0 hB
  refine (iModesOk_c r ra e.A l e.c ww hn hin hll (hs.below hBi) hnl (hsl.below hBi)).mono ?_
  rintro x wx ⟨rfl,hb⟩
  exact (hN _ _ (H.k.call hb) rfl trivial)
 ·exact fun Lk ak ww H _ _ hN=>wp_not rfl (ev (H.d 2 rfl rfl)) (hN _ _ H.k rfl trivial)
 ·exact fun Lk ak ww H _ _ hN=>wp_move rfl (ev (H.d 3 rfl rfl)) (hN _ _ H.k rfl trivial)
 ·intro Lk ak ww H _ _ hN
  refine wgf rfl rfl rfl (H.d 4 rfl rfl) (fun qg=>hN _ _ H.k (bif_t qg).symm trivial) fun qg=>?_
  simp [go_sem,H.f.g rfl s5,(b4.k0 H.k).cell]
  exact (hN _ _ H.k (bif_f qg).symm trivial)
 ·intro Lk ak ww H _ _ hN
  refine wgf rfl rfl rfl (H.d 4 rfl rfl) (fun qg=>hN _ _ H.k (bif_t qg).symm trivial) fun qg=>?_
  simp [go_sem,(show ak.tmps[13]?.getD undef=_ from (H.d 5 rfl rfl).trans (bif_f qg))]
  have hBi:=H.k.below0 hB
  refine (iRegionOk_c p b ww hlp hpi (hsp.below hBi) hnb).mono ?_
  rintro x wx ⟨rfl,hb⟩
  exact (hN _ _ (H.k.call hb) (bif_f qg).symm trivial)
 ·intro Lk ak ww H _ _ hN
  refine wgf rfl rfl rfl (H.d 4 rfl rfl) (fun qg=>hN _ _ H.k (bif_t qg).symm trivial) fun qg=>?_
  exact wp_not rfl (ev ((H.d 6 rfl rfl).trans (bif_f qg))) (hN _ _ H.k (bif_f qg).symm trivial)
 ·exact fun Lk ak ww H _ _ hN=>wp_pick rfl (ev (H.d 4 rfl rfl)) (fun h=>vor_t h) (fun h=>(ev ((H.d 7 rfl rfl).trans (bif_f h))).trans (vor_f h)) (hN _ _ H.k rfl trivial)
 intro L a6 w7 hL hF hK hV hX;replace hz:=hF.Z hz;replace hdf:=hF.E hdf;replace s1:=hF.G s1;replace s3:=hF.G s3;replace s5:=hF.G s5;replace s6:=hF.G s6;have s16:=gS a6 16 (hV 8 _ rfl);replace b3:=b3.k0 hK;replace b4:=b4.k0 hK;replace b5:=b5.k0 hK;replace hZ:=Nat.le_trans hZ hK.size;replace hB:=hK.below0 hB;clear hF hK hV hL hX;refine th_n ?_
 rcases Bool.eq_false_or_eq_true (!(modesOk r l) || !(regionOk p)) with q8|q8
 ·skip
  refine wp_cond_true (ev (vb s16 q8)) ?_
  refine wp_seq ?_
  have hXb:StaysX [] (fun L aa ww=>PreX ww (w.heap.size+2) 37 [.slice none 0 0] (L 1) (fun _ vs=>vs=[.slice none 0 0])):=by
   intro L aa ww w' kk vv hkk hb hX
   have x0:=hX
   exact (x0.bel hb (fun _ h=>h))
  refine wp_regK hXb (by kernel_rfl) [17,0,7] [some (.agg #[.slice none 0 0]),none,some (.bool false)] (dlR 3) [17,7] [0,1,2] [(w.heap.size+2)] (by kernel_rfl) (by rw [hz];decide) ?_ (en rfl ?_ (en rfl ?_ (en rfl ?_ .nil))) ?_
  ·exact fun _ h=>(⟨fun _=>b5.kp h (by simp),(fun h=>by cases h)⟩)
  ·intro Lk ak ww H _ _ hN
   simp [go_sem]
   exact (hN _ _ H.k rfl H.x)
  ·intro Lk ak ww H _ _ hN
   have x0:=H.x
   have HT:=x0.1 H.n
   simp [go_sem,(gS ak 17 (H.d 0 rfl rfl)),H.f.g rfl s6,HT.cell,HT.frz]
   exact hN undef _ (H.k.store (.inr (by simp)) [.slice none 0 0] 0) trivial (PreX.set HT (us:=[.slice none 0 0]) rfl rfl)
  ·exact fun Lk ak ww H _ _ hN=>wp_assign rfl rfl (hN _ _ H.k rfl H.x)
  intro L a9 w10 hL hF hK hV hX;have x0:=hX;replace hz:=hF.Z hz;replace hdf:=hF.E hdf;replace s6:=hF.G s6;have s7:=gS a9 7 (hV 2 _ rfl);clear b5
  obtain ⟨_,b5,rfl⟩:=x0.2 (hL 1 (by decide))
  replace hZ:=Nat.le_trans hZ hK.size
  replace hB:=hK.below hB hB.size (by simp<;>omega)
  clear hF hK hV hL x0 hXb s1 s3 s5 s16 b3 b4;refine th_n ?_
  refine wp_ret ?_
  refine th_r ?_
  refine bodyPost_ret (v:=.tuple #[.agg #[.slice none 0 0],.bool false]) (by simp [results,Tryz.results55,go_sem,s6,b5.cell,s7]) hdf ?_
  have h0:=pk_no q8
  exact ⟨_,by rw [h0.1],by rw [h0.2];exact New.nilN _ _ _ _ _,hB⟩
 ·skip
  have hmm:=pk_yes q8
  refine wp_cond_false (ev (vb s16 q8)) ?_
  refine wp_skip ?_;refine th_n ?_;refine wp_seq ?_
  have hXb:StaysX [21,22] (fun L aa ww=>(L 3=true→(fun ww v=>∃ A1 c1,v=.tuple #[.agg #[.slice A1 (((pkA r p l).getD []).length) c1],.bool ((pkA r p l).isSome)]∧New 111 3 halfC ww w7.heap.size (.slice A1 ((pkA r p l).getD []).length c1) ((pkA r p l).getD [])) ww (aa.tmps[21]?.getD undef))∧(L 4=true→(fun ww v=>∃ A1 c1,v=.agg #[.slice A1 (((pkA r p l).getD []).length) c1]∧New 111 3 halfC ww w7.heap.size (.slice A1 ((pkA r p l).getD []).length c1) ((pkA r p l).getD [])) ww (aa.tmps[22]?.getD undef))∧PreX ww (w.heap.size+2) 37 [.slice none 0 0] (L 6) (fun ww vs=>∃ A1 c1,vs=[.slice A1 (((pkA r p l).getD []).length) c1]∧New 111 3 halfC ww w7.heap.size (.slice A1 ((pkA r p l).getD []).length c1) ((pkA r p l).getD []))):=by
   intro L aa ww w' kk vv hkk hb hX
   obtain ⟨x0,x1,x2⟩:=hX
   exact ⟨(fun h=>by rw [put_ne' (hkk 21 (by simp))];obtain ⟨A1',c1',e,f1'⟩:=x0 h;exact ⟨A1',c1',e,f1'.below hb leR⟩),(fun h=>by rw [put_ne' (hkk 22 (by simp))];obtain ⟨A1',c1',e,f1'⟩:=x1 h;exact ⟨A1',c1',e,f1'.below hb leR⟩),(x2.bel hb (fun _ ⟨A1',c1',e,f1'⟩=>⟨A1',c1',e,f1'.below hb leR⟩))⟩
  refine wp_regK hXb (by kernel_rfl) [18,19,20,21,22,23,0,7] [some (roomV r ra),some (.slice e.A l.length e.c),some (.agg #[.slice b.A p.length b.c]),none,none,some (.bool ((pkA r p l).isSome)),none,some (.bool ((pkA r p l).isSome))] (dlR 8) [18,19,20,21,22,23,7] [0,1,2,3,4,5,6,7] [(w.heap.size+2)] (by kernel_rfl) (by rw [hz];decide) ?_ (en rfl ?_ (en rfl ?_ (en rfl ?_ (en rfl ?_ (en rfl ?_ (en rfl ?_ (en rfl ?_ (en rfl ?_ .nil)))))))) ?_
  ·exact fun _ h=>⟨(fun h=>by cases h),(fun h=>by cases h),(⟨fun _=>b5.kp h (by simp),(fun h=>by cases h)⟩)⟩
  ·intro Lk ak ww H _ _ hN
   simp [go_sem,H.f.g rfl s3,(b3.kp H.k (by simp<;>omega)).cell]
   exact (hN _ _ H.k rfl (hXb.q rfl H.x))
  ·exact fun Lk ak ww H _ _ hN=>wp_move rfl (ev (H.f.g rfl s1)) (hN _ _ H.k rfl (hXb.q rfl H.x))
  ·intro Lk ak ww H _ _ hN
   simp [go_sem,H.f.g rfl s5,(b4.kp H.k (by simp<;>omega)).cell]
   exact (hN _ _ H.k rfl (hXb.q rfl H.x))
  ·intro Lk ak ww H _ _ hN
   obtain ⟨x0,x1,x2⟩:=H.x
   simp [go_sem,(gS ak 18 (H.d 0 rfl rfl)),(gS ak 19 (H.d 1 rfl rfl)),(gS ak 20 (H.d 2 rfl rfl))]
   have hBi:=H.k.below hB hB.size (by simp<;>omega)
   refine (iPlantK_c r l p ra e b ww hn (hs.below hBi) hll (hsl.below hBi) (hsp.below hBi) hmm.2.2.1 hmm.2.2.2).mono ?_
   rintro x wx ⟨_,rfl,⟨A1,c1,rfl,f0⟩,hb⟩
   have f1:=New.mono (show New 111 3 halfC wx ww.heap.size (.slice A1 ((pkA r p l).getD []).length c1) ((pkA r p l).getD []) from ⟨_,_,rfl,f0⟩) H.k.size
   exact (hN _ _ (H.k.call hb) trivial ⟨(fun _=>by rw [put_get_self (H.f.lt (by rw [hz];decide))];exact ⟨A1,c1,rfl,f1⟩),(fun h=>by rw [put_ne' (by decide)];obtain ⟨A1',c1',e,f1'⟩:=x1 h;exact ⟨A1',c1',e,f1'.below hb leR⟩),(x2.bel hb (fun _ ⟨A1',c1',e,f1'⟩=>⟨A1',c1',e,f1'.below hb leR⟩))⟩)
  ·intro Lk ak ww H _ _ hN
   obtain ⟨x0,x1,x2⟩:=H.x
   obtain ⟨A1,c1,ee3,f1⟩:=x0 (H.r 3 rfl)
   exact wp_extract rfl (ev ee3) rfl (hN _ _ H.k trivial ⟨(fun h=>by rw [put_ne' (by decide)];obtain ⟨A1',c1',e,f1'⟩:=x0 h;exact ⟨A1',c1',e,f1'.below bR leR⟩),(fun _=>by rw [put_get_self (H.f.lt (by rw [hz];decide))];exact ⟨A1,c1,rfl,f1⟩),(x2.bel bR (fun _ ⟨A1',c1',e,f1'⟩=>⟨A1',c1',e,f1'.below bR leR⟩))⟩)
  ·intro Lk ak ww H _ _ hN
   obtain ⟨x0,x1,x2⟩:=H.x
   obtain ⟨A1,c1,ee3,f1⟩:=x0 (H.r 3 rfl)
   exact wp_extract rfl (ev ee3) rfl (hN _ _ H.k rfl (hXb.q rfl H.x))
  ·intro Lk ak ww H _ _ hN
   obtain ⟨x0,x1,x2⟩:=H.x
   obtain ⟨A1,c1,ee4,f1⟩:=x1 (H.r 4 rfl)
   have HT:=x2.1 H.n
   simp [go_sem,ee4,H.f.g rfl s6,HT.cell,HT.frz]
   have f1:=f1.otherC (f1.typ HT (by decide)) [.slice A1 (((pkA r p l).getD []).length) c1] 0
   exact hN undef _ (H.k.store (.inr (by simp)) [.slice A1 (((pkA r p l).getD []).length) c1] 0) trivial ⟨(fun h=>by obtain ⟨A1',c1',e,f1'⟩:=x0 h;exact ⟨A1',c1',e,f1'.otherC (f1'.typ HT (by decide)) [.slice A1 (((pkA r p l).getD []).length) c1] 0⟩),(fun h=>by obtain ⟨A1',c1',e,f1'⟩:=x1 h;exact ⟨A1',c1',e,f1'.otherC (f1'.typ HT (by decide)) [.slice A1 (((pkA r p l).getD []).length) c1] 0⟩),(PreX.set HT (us:=[.slice A1 (((pkA r p l).getD []).length) c1]) rfl ⟨A1,c1,rfl,f1⟩)⟩
  ·exact fun Lk ak ww H _ _ hN=>wp_assign rfl (ev (H.d 5 rfl rfl)) (hN _ _ H.k rfl (hXb.q rfl H.x))
  intro L a11 w12 hL hF hK hV hX
  obtain ⟨x0,x1,x2⟩:=hX
  replace hz:=hF.Z hz;replace hdf:=hF.E hdf;replace s6:=hF.G s6;have s7:=gS a11 7 (hV 7 _ rfl);clear b5
  obtain ⟨_,b5,A1,c1,rfl,N1⟩:=x2.2 (hL 6 (by decide))
  have i1:∀ p,A1=some p→p.block<w12.heap.size:=fun p hp=>(N1.blk p hp).2;have zw7:=hZ;have zw12:=hK.size;replace hZ:=Nat.le_refl w12.heap.size
  replace hB:=hK.below hB hB.size (by simp<;>omega)
  clear hF hK hV hL x0 x1 x2 hXb s1 s3 s5 s16 b3 b4;refine th_n ?_
  refine wp_ret ?_
  refine bodyPost_ret (v:=.tuple #[.agg #[.slice A1 (((pkA r p l).getD []).length) c1],.bool ((pkA r p l).isSome)]) (by simp [results,Tryz.results55,go_sem,s6,b5.cell,s7]) hdf ?_
  exact ⟨_,by rw [hmm.1],by rw [hmm.2.1];exact N1.mono (by omega),hB⟩
set_option maxRecDepth 100000 in
set_option maxHeartbeats 3000000 in
theorem sPlant_c (r:Room) (l:List Mode) (p:List Half) (ra:RoomA) (e:SlA) (b:SlA) (w:World) (hn:roomLen r≤1048576) (hin:RoomIn r) (hlin:∀ m∈l,m.In) (hs:RoomSl w r ra) (hnl:RoomNil ra) (hlp:p.length≤1048576) (hpi:∀ h∈p,h.In) (hll:l.length≤1048576) (hsl:Sl 2 modeC w e.A l) (hsp:Sl 3 halfC w b.A p) (hnb:b.A=none→b.c=0) :
 Calls Tryz.prog 53 #[roomV r ra,.slice e.A l.length e.c,.agg #[.slice b.A p.length b.c]] w fun x w'=>∃ v,x=.returned (.tuple #[.agg #[v],.bool (pkOk r l p)])∧New 111 3 halfC w' w.heap.size v (pkR r l p)∧Below w.heap.size w w':=by
 obtain ⟨i0h,hi0h,hz0h,hz1h,hz2h⟩:=info_parts (show (Tryz.prog.info? 111).map (fun i=>(i.zero,i.size,i.bytes))=some (some (.agg #[.int .i64 0,.int .i64 0,.int .i64 0]),3,24) by kernel_rfl)
 refine calls_v Tryz.func53 rfl (n:=56) Tryz.ntmps53 (by simp) ?_
 intro a0 hz hdf ha
 have s0:a0.tmps[0]?.getD undef=roomV r ra:=ha 0 _ rfl;have s1:a0.tmps[1]?.getD undef=.slice e.A l.length e.c:=ha 1 _ rfl;have s2:a0.tmps[2]?.getD undef=.agg #[.slice b.A p.length b.c]:=ha 2 _ rfl;clear ha
 have hB:=Below.refl w.heap.size w
 have hZ:=Nat.le_refl w.heap.size
 refine wp_seq ?_
 refine wp_entry [3,5,6,7] [.pointer (some ⟨w.heap.size,0,none⟩),.pointer (some ⟨(w.heap.size+1),0,none⟩),.pointer (some ⟨(w.heap.size+2),0,none⟩),.bool false] [some (.cells (roomC r ra).toArray 39),some (.cells [.slice b.A p.length b.c].toArray 37),some (.cells [.slice none 0 0].toArray 37),none] [0,1,2,3] [3,5,6,7] [0,1,2,3] (by kernel_rfl) (by rw [hz];decide) (ec ?_ (ec ?_ (ec ?_ (ec ?_ .nil)))) ?_
 ·intro a w' hF hs N Q hN;simp [go_sem,hF.g rfl s0];rw [hs];exact hN
 ·intro a w' hF hs N Q hN;simp [go_sem,hF.g rfl s2];rw [hs];exact hN
 ·intro a w' hF hs N Q hN;simp [go_sem];rw [hs];exact hN
 ·intro a w' hF hs N Q hN;simp [go_sem];exact hN
 intro a1 w2 hF hV hb hO
 replace hz:=hF.size.trans hz;replace hdf:=hF.defers.trans hdf;replace s1:=hF.g rfl s1
 have s3:a1.tmps[3]?.getD undef=.pointer (some ⟨w.heap.size,0,none⟩):=hV 0 (by decide)
 have s5:a1.tmps[5]?.getD undef=.pointer (some ⟨(w.heap.size+1),0,none⟩):=hV 1 (by decide)
 have s6:a1.tmps[6]?.getD undef=.pointer (some ⟨(w.heap.size+2),0,none⟩):=hV 2 (by decide)
 have b3:HasT w2 w.heap.size 39 (roomC r ra):=hO 0 _ rfl
 have b4:HasT w2 (w.heap.size+1) 37 [.slice b.A p.length b.c]:=hO 1 _ rfl
 have b5:HasT w2 (w.heap.size+2) 37 [.slice none 0 0]:=hO 2 _ rfl
 have hG:=b5.lt
 replace hB:=below_tr hB hb;have zw2:=Nat.le_trans hZ hb.size;replace hZ:=Nat.le_refl w2.heap.size;clear hF hV hb hO s0 s2;refine th_n ?_;refine wp_seq ?_;refine wp_seq ?_
 refine wp_regJ (by kernel_rfl) [15,16,17,18,19,20,21,22,23] [some (roomV r ra),some (.slice e.A l.length e.c),some (.bool (modesOk r l)),some (.bool (!(modesOk r l))),some (.bool (!(modesOk r l))),some ((bif !(modesOk r l) then undef else (.agg #[.slice b.A p.length b.c]:Value))),some ((bif !(modesOk r l) then undef else (.bool (regionOk p):Value))),some ((bif !(modesOk r l) then undef else (.bool (!(regionOk p)):Value))),some (.bool (!(modesOk r l) || !(regionOk p)))] (dlR 9) [15,16,17,18,19,20,21,22,23] [0,1,2,3,4,5,6,7,8] [] (fun _ _ _=>True) (by kernel_rfl) (by rw [hz];decide) ?_ (en rfl ?_ (en rfl ?_ (en rfl ?_ (en rfl ?_ (en rfl ?_ (eg ?_ (eg ?_ (eg ?_ (en rfl ?_ .nil))))))))) ?_
 ·exact fun _ _=>trivial
 ·intro Lk ak ww H _ _ hN
  simp [go_sem,H.f.g rfl s3,(b3.k0 H.k).cell]
  exact (hN _ _ H.k rfl trivial)
 ·exact fun Lk ak ww H _ _ hN=>wp_move rfl (ev (H.f.g rfl s1)) (hN _ _ H.k rfl trivial)
 ·intro Lk ak ww H _ _ hN
  simp [go_sem,(gS ak 15 (H.d 0 rfl rfl)),(gS ak 16 (H.d 1 rfl rfl))]
  have hBi:=H.k.below0 hB
  refine (sModesOk_c r ra e.A l e.c ww hn hin hll (hs.below hBi) hnl (hsl.below hBi)).mono ?_
  rintro x wx ⟨rfl,hb⟩
  exact (hN _ _ (H.k.call hb) rfl trivial)
 ·exact fun Lk ak ww H _ _ hN=>wp_not rfl (ev (H.d 2 rfl rfl)) (hN _ _ H.k rfl trivial)
 ·exact fun Lk ak ww H _ _ hN=>wp_move rfl (ev (H.d 3 rfl rfl)) (hN _ _ H.k rfl trivial)
 ·intro Lk ak ww H _ _ hN
  refine wgf rfl rfl rfl (H.d 4 rfl rfl) (fun qg=>hN _ _ H.k (bif_t qg).symm trivial) fun qg=>?_
  simp [go_sem,H.f.g rfl s5,(b4.k0 H.k).cell]
  exact (hN _ _ H.k (bif_f qg).symm trivial)
 ·intro Lk ak ww H _ _ hN
  refine wgf rfl rfl rfl (H.d 4 rfl rfl) (fun qg=>hN _ _ H.k (bif_t qg).symm trivial) fun qg=>?_
  simp [go_sem,(show ak.tmps[20]?.getD undef=_ from (H.d 5 rfl rfl).trans (bif_f qg))]
  have hBi:=H.k.below0 hB
  refine (sRegionOk_c p b ww hlp hpi (hsp.below hBi) hnb).mono ?_
  rintro x wx ⟨rfl,hb⟩
  exact (hN _ _ (H.k.call hb) (bif_f qg).symm trivial)
 ·intro Lk ak ww H _ _ hN
  refine wgf rfl rfl rfl (H.d 4 rfl rfl) (fun qg=>hN _ _ H.k (bif_t qg).symm trivial) fun qg=>?_
  exact wp_not rfl (ev ((H.d 6 rfl rfl).trans (bif_f qg))) (hN _ _ H.k (bif_f qg).symm trivial)
 ·exact fun Lk ak ww H _ _ hN=>wp_pick rfl (ev (H.d 4 rfl rfl)) (fun h=>vor_t h) (fun h=>(ev ((H.d 7 rfl rfl).trans (bif_f h))).trans (vor_f h)) (hN _ _ H.k rfl trivial)
 intro L a6 w7 hL hF hK hV hX;replace hz:=hF.Z hz;replace hdf:=hF.E hdf;replace s1:=hF.G s1;replace s3:=hF.G s3;replace s5:=hF.G s5;replace s6:=hF.G s6;have s23:=gS a6 23 (hV 8 _ rfl);replace b3:=b3.k0 hK;replace b4:=b4.k0 hK;replace b5:=b5.k0 hK;replace hZ:=Nat.le_trans hZ hK.size;replace hB:=hK.below0 hB;clear hF hK hV hL hX;refine th_n ?_
 rcases Bool.eq_false_or_eq_true (!(modesOk r l) || !(regionOk p)) with q8|q8
 ·skip
  refine wp_cond_true (ev (vb s23 q8)) ?_
  refine wp_seq ?_
  have hXb:StaysX [] (fun L aa ww=>PreX ww (w.heap.size+2) 37 [.slice none 0 0] (L 1) (fun _ vs=>vs=[.slice none 0 0])):=by
   intro L aa ww w' kk vv hkk hb hX
   have x0:=hX
   exact (x0.bel hb (fun _ h=>h))
  refine wp_regK hXb (by kernel_rfl) [24,0,7] [some (.agg #[.slice none 0 0]),none,some (.bool false)] (dlR 3) [24,7] [0,1,2] [(w.heap.size+2)] (by kernel_rfl) (by rw [hz];decide) ?_ (en rfl ?_ (en rfl ?_ (en rfl ?_ .nil))) ?_
  ·exact fun _ h=>(⟨fun _=>b5.kp h (by simp),(fun h=>by cases h)⟩)
  ·intro Lk ak ww H _ _ hN
   simp [go_sem]
   exact (hN _ _ H.k rfl H.x)
  ·intro Lk ak ww H _ _ hN
   have x0:=H.x
   have HT:=x0.1 H.n
   simp [go_sem,(gS ak 24 (H.d 0 rfl rfl)),H.f.g rfl s6,HT.cell,HT.frz]
   exact hN undef _ (H.k.store (.inr (by simp)) [.slice none 0 0] 0) trivial (PreX.set HT (us:=[.slice none 0 0]) rfl rfl)
  ·exact fun Lk ak ww H _ _ hN=>wp_assign rfl rfl (hN _ _ H.k rfl H.x)
  intro L a9 w10 hL hF hK hV hX;have x0:=hX;replace hz:=hF.Z hz;replace hdf:=hF.E hdf;replace s6:=hF.G s6;have s7:=gS a9 7 (hV 2 _ rfl);clear b5
  obtain ⟨_,b5,rfl⟩:=x0.2 (hL 1 (by decide))
  replace hZ:=Nat.le_trans hZ hK.size
  replace hB:=hK.below hB hB.size (by simp<;>omega)
  clear hF hK hV hL x0 hXb s1 s3 s5 s23 b3 b4;refine th_n ?_
  refine wp_ret ?_
  refine th_r ?_
  refine bodyPost_ret (v:=.tuple #[.agg #[.slice none 0 0],.bool false]) (by simp [results,Tryz.results53,go_sem,s6,b5.cell,s7]) hdf ?_
  have h0:=pk_no q8
  exact ⟨_,by rw [h0.1],by rw [h0.2];exact New.nilN _ _ _ _ _,hB⟩
 ·skip
  have hmm:=pk_yes q8
  have hm:=hmm.2.2.1
  have hp:=hmm.2.2.2
  have hrm:=inM_ok hm
  have hl4:=(modes_room hm).2.2
  have hm4:=modes_map hm
  refine wp_cond_false (ev (vb s23 q8)) ?_
  refine wp_skip ?_;refine th_n ?_;refine wp_seq ?_
  refine wp_regJ (by kernel_rfl) [25,26,8,0] [some (.agg #[.slice b.A p.length b.c]),none,none,none] (dlR 4) [25,26,8] [0,1,2,3] [] (fun L aa ww=>(L 1=true→(fun ww v=>∃ m1,v=.agg #[.slice m1.A p.length m1.c]∧RegionNew ww w7.heap.size p m1) ww (aa.tmps[26]?.getD undef))∧(L 2=true→BoxX w7 aa ww 8 37 [.slice none 0 0] (L 3) (fun ww vs=>∃ m1,vs=[.slice m1.A p.length m1.c]∧RegionNew ww w7.heap.size p m1))) (by kernel_rfl) (by rw [hz];decide) ?_ (en rfl ?_ (en rfl ?_ (en rfl ?_ (en rfl ?_ .nil)))) ?_
  ·exact fun _ h=>⟨(fun h=>by cases h),(fun h=>by cases h)⟩
  ·intro Lk ak ww H _ _ hN
   simp [go_sem,H.f.g rfl s5,(b4.k0 H.k).cell]
   exact (hN _ _ H.k rfl ⟨(fun h=>by rw [put_ne' (by decide)];obtain ⟨m1',e,f1'⟩:=H.x.1 h;exact ⟨m1',e,f1'.below bR leR⟩),(fun h=>((H.x.2 h).bel bR (fun _ ⟨m1',e,f1'⟩=>⟨m1',e,f1'.below bR leR⟩)).put (by decide) _)⟩)
  ·intro Lk ak ww H _ _ hN
   obtain ⟨x0,x1⟩:=H.x
   simp [go_sem,(gS ak 25 (H.d 0 rfl rfl))]
   have hBi:=H.k.below0 hB
   refine (sCopyRegion_c p b ww (by have:=reg_len hp;omega) (hsp.below hBi) hnb).mono ?_
   rintro x wx ⟨m1,rfl,f0,hb⟩
   have f1:=f0.mono H.k.size
   exact (hN _ _ (H.k.call hb) trivial ⟨(fun _=>by rw [put_get_self (H.f.lt (by rw [hz];decide))];exact ⟨m1,rfl,f1⟩),(fun h=>((x1 h).bel hb (fun _ ⟨m1',e,f1'⟩=>⟨m1',e,f1'.below hb leR⟩)).put (by decide) _)⟩)
  ·intro Lk ak ww H _ _ hN
   obtain ⟨x0,x1⟩:=H.x
   simp [go_sem]
   exact hN _ _ (H.k.alloc _) trivial ⟨(fun h=>by rw [put_ne' (by decide)];obtain ⟨m1',e,f1'⟩:=x0 h;exact ⟨m1',e,f1'.below (below_al bR _) leR⟩),(fun _=>by rw [show upd Lk 2 3=false from H.t 3 rfl];exact BoxX.new (s:=8) (H.f.lt (by rw [hz];decide)) H.k.size [.slice none 0 0])⟩
  ·intro Lk ak ww H _ _ hN
   obtain ⟨x0,x1⟩:=H.x
   obtain ⟨m1,ee1,f1⟩:=x0 (H.r 1 rfl)
   obtain ⟨g,eg,hg,y,_⟩:=x1 (H.r 2 rfl)
   have HT:=y H.n
   simp [go_sem,ee1,eg,HT.cell,HT.frz]
   have f1:=f1.otherT HT (by decide) [.slice m1.A p.length m1.c] 0
   exact hN undef _ (H.k.store (.inl hg) [.slice m1.A p.length m1.c] 0) trivial ⟨(fun h=>by obtain ⟨m1',e,f1'⟩:=x0 h;exact ⟨m1',e,f1'.otherT HT (by decide) [.slice m1.A p.length m1.c] 0⟩),(fun _=>BoxX.set eg hg HT (us:=[.slice m1.A p.length m1.c]) rfl ⟨m1,rfl,f1⟩)⟩
  intro L a11 w12 hL hF hK hV hX
  obtain ⟨x0,x1⟩:=hX
  replace hz:=hF.Z hz;replace hdf:=hF.E hdf;replace s1:=hF.G s1;replace s3:=hF.G s3;replace s5:=hF.G s5;replace s6:=hF.G s6;replace b3:=b3.k0 hK;replace b4:=b4.k0 hK;replace b5:=b5.k0 hK
  obtain ⟨g13,s8,lg13,-,b13⟩:=x1 (hL 2 (by decide))
  obtain ⟨_,b13,m1,rfl,N1⟩:=b13 (hL 3 (by decide))
  have ug13:=b13.lt
  have zw7:=hZ;have zw12:=hK.size;replace hZ:=Nat.le_refl w12.heap.size;replace hB:=hK.below0 hB;clear hF hK hV hL x0 x1 s23;refine th_n ?_;refine wp_seq ?_;refine wp_seq ?_
  refine wp_regJ (by kernel_rfl) [27,28,29] [some (.slice e.A l.length e.c),some (.int .i64 (l.length:Int)),some (.int .i64 0)] (dlR 3) [27,28,29] [0,1,2] [] (fun _ _ _=>True) (by kernel_rfl) (by rw [hz];decide) ?_ (en rfl ?_ (en rfl ?_ (en rfl ?_ .nil))) ?_
  ·exact fun _ _=>trivial
  ·exact fun Lk ak ww H _ _ hN=>wp_move rfl (ev (H.f.g rfl s1)) (hN _ _ H.k rfl trivial)
  ·intro Lk ak ww H _ _ hN
   simp [go_sem,(gS ak 27 (H.d 0 rfl rfl))]
   exact (hN _ _ H.k rfl trivial)
  ·exact fun Lk ak ww H _ _ hN=>wp_move rfl rfl (hN _ _ H.k rfl trivial)
  intro L a14 w15 hL hF hK hV hX;replace hz:=hF.Z hz;replace hdf:=hF.E hdf;replace s3:=hF.G s3;replace s5:=hF.G s5;replace s6:=hF.G s6;replace s8:=hF.G s8;have s27:=gS a14 27 (hV 0 _ rfl);have s28:=gS a14 28 (hV 1 _ rfl);have s29:=gS a14 29 (hV 2 _ rfl);replace b3:=b3.k0 hK;replace b4:=b4.k0 hK;replace b5:=b5.k0 hK;replace b13:=b13.k0 hK;replace N1:=N1.below hK.toBelow leR;replace hZ:=Nat.le_trans hZ hK.size;replace hB:=hK.below0 hB;clear hF hK hV hL hX s1;refine th_n ?_;refine wp_block ?_
  refine wp_loop (fun al wl=>al.tmps.size=56∧al.defers=[]∧∃ (k:Nat) (out:List Half) (A2:Option Addr) (c2:Nat),(k≤l.length)∧(pkA r p (l.take k)=some out)∧(regionOk out=true)∧al.tmps[3]?.getD undef=.pointer (some ⟨w.heap.size,0,none⟩)∧al.tmps[5]?.getD undef=.pointer (some ⟨(w.heap.size+1),0,none⟩)∧al.tmps[6]?.getD undef=.pointer (some ⟨(w.heap.size+2),0,none⟩)∧al.tmps[8]?.getD undef=.pointer (some ⟨g13,0,none⟩)∧al.tmps[27]?.getD undef=.slice e.A l.length e.c∧al.tmps[28]?.getD undef=.int .i64 (l.length:Int)∧al.tmps[29]?.getD undef=.int .i64 (k:Int)∧HasT wl w.heap.size 39 (roomC r ra)∧HasT wl (w.heap.size+1) 37 [.slice b.A p.length b.c]∧HasT wl (w.heap.size+2) 37 [.slice none 0 0]∧HasT wl g13 37 [.slice A2 out.length c2]∧New 111 3 halfC wl w7.heap.size (.slice A2 out.length c2) out∧Below w.heap.size w wl∧w12.heap.size≤wl.heap.size) (fun al _=>(l.length-(intOf (al.tmps[29]?.getD undef)).toNat)) ?_ ?_
  ·exact ⟨hz,hdf,(0),(p),(m1.A),(m1.c),(Nat.zero_le _),(rfl),(hp),s3,s5,s6,s8,s27,s28,s29,b3,b4,b5,b13,(N1.halves),hB,(by omega)⟩
  clear hz hdf hB hZ s3 s5 s6 s8 s27 s28 s29 b3 b4 b5 b13 N1
  rintro a16 w17 ⟨hz,hdf,k,out,A2,c2,hk,hpk,hout,s3,s5,s6,s8,s27,s28,s29,b3,b4,b5,b13,N2,hB,hZ⟩
  have zw17:=hZ;replace hZ:=Nat.le_refl w17.heap.size;have i2:∀ p,A2=some p→p.block<w17.heap.size:=fun p hp=>(N2.blk p hp).2
  have hmu:(l.length-(intOf (a16.tmps[29]?.getD undef)).toNat)=(l.length-(intOf ((.int .i64 (k:Int)))).toNat):=by rw [s29]
  refine wp_seq ?_
  refine wp_regJ (by kernel_rfl) [30] [some (.bool (decide ((k:Int)<(l.length:Int))))] (dlR 1) [30] [0] [] (fun _ _ _=>True) (by kernel_rfl) (by rw [hz];decide) ?_ (en rfl ?_ .nil) ?_
  ·exact fun _ _=>trivial
  ·exact fun Lk ak ww H _ _ hN=>wp_bin rfl (ev (H.f.g rfl s29)) (ev (H.f.g rfl s28)) rfl rfl (hN _ _ H.k rfl trivial)
  intro L a18 w19 hL hF hK hV hX;replace hz:=hF.Z hz;replace hdf:=hF.E hdf;replace s3:=hF.G s3;replace s5:=hF.G s5;replace s6:=hF.G s6;replace s8:=hF.G s8;replace s27:=hF.G s27;replace s28:=hF.G s28;replace s29:=hF.G s29;have s30:=gS a18 30 (hV 0 _ rfl);replace b3:=b3.k0 hK;replace b4:=b4.k0 hK;replace b5:=b5.k0 hK;replace b13:=b13.k0 hK;replace N2:=N2.below hK.toBelow leR;replace hZ:=Nat.le_trans hZ hK.size;replace hB:=hK.below0 hB;clear hF hK hV hL hX;refine th_n ?_;refine wp_seq ?_
  rcases Bool.eq_false_or_eq_true (decide ((k:Int)<(l.length:Int))) with q20|q20
  ·skip
   have hkl:k<l.length:=by have:=dec_t q20;omega
   obtain ⟨bl,ol,el,fe⟩:=ElS.open_ (hsl.below hB) (by omega)
   refine wp_cond_true (ev (vb s30 q20)) ?_
   refine wp_skip ?_;refine th_n ?_;refine wp_seq ?_;refine wp_block ?_;refine wp_seq ?_
   have hXb:StaysX [10] (fun L aa ww=>(L 2=true→BoxX w19 aa ww 10 153 [.int .i64 0,.int .i64 0] (L 3) (fun _ vs=>vs=[.int .i64 ((l.getD k mode0).low),.int .i64 ((l.getD k mode0).high)]))):=by
    intro L aa ww w' kk vv hkk hb hX
    have x0:=hX
    exact (fun h=>((x0 h).bel hb (fun _ h=>h)).put (hkk 10 (by simp)) _)
   refine wp_regK hXb (by kernel_rfl) [31,32,10,0] [some (.pointer (some ⟨bl,ol+k*2,none⟩)),some (.agg #[.int .i64 ((l.getD k mode0).low),.int .i64 ((l.getD k mode0).high)]),none,none] (dlR 4) [31,32,10] [0,1,2,3] [] (by kernel_rfl) (by rw [hz];decide) ?_ (en rfl ?_ (en rfl ?_ (en rfl ?_ (en rfl ?_ .nil)))) ?_
   ·exact fun _ h=>(fun h=>by cases h)
   ·intro Lk ak ww H _ _ hN
    simp [go_sem,H.f.g rfl s27,H.f.g rfl s29,hkl,el]
    exact (hN _ _ H.k rfl (hXb.q rfl H.x))
   ·intro Lk ak ww H _ _ hN
    have hE:=fe.kp H.k (by simp)
    simp [go_sem,(gS ak 31 (H.d 0 rfl rfl)),(hE.at_ mode0 (i:=k) (by omega) 0 (p:=ol+k*2) (by omega) rfl),(hE.at_ mode0 (i:=k) (by omega) 1 (p:=ol+k*2+1) (by omega) rfl)]
    exact (hN _ _ H.k rfl (hXb.q rfl H.x))
   ·intro Lk ak ww H _ _ hN
    have x0:=H.x
    simp [go_sem]
    exact hN _ _ (H.k.alloc _) trivial (fun _=>by rw [show upd Lk 2 3=false from H.t 3 rfl];exact BoxX.new (s:=10) (H.f.lt (by rw [hz];decide)) H.k.size [.int .i64 0,.int .i64 0])
   ·intro Lk ak ww H _ _ hN
    have x0:=H.x
    obtain ⟨g,eg,hg,y,_⟩:=x0 (H.r 2 rfl)
    have HT:=y H.n
    simp [go_sem,(gS ak 32 (H.d 1 rfl rfl)),eg,HT.cell,HT.frz]
    exact hN undef _ (H.k.store (.inl hg) [.int .i64 ((l.getD k mode0).low),.int .i64 ((l.getD k mode0).high)] 0) trivial (fun _=>BoxX.set eg hg HT (us:=[.int .i64 ((l.getD k mode0).low),.int .i64 ((l.getD k mode0).high)]) rfl rfl)
   intro L a21 w22 hL hF hK hV hX;have x0:=hX;replace hz:=hF.Z hz;replace hdf:=hF.E hdf;replace s3:=hF.G s3;replace s5:=hF.G s5;replace s6:=hF.G s6;replace s8:=hF.G s8;replace s27:=hF.G s27;replace s28:=hF.G s28;replace s29:=hF.G s29;replace b3:=b3.k0 hK;replace b4:=b4.k0 hK;replace b5:=b5.k0 hK;replace b13:=b13.k0 hK
   obtain ⟨g23,s10,lg23,-,b23⟩:=x0 (hL 2 (by decide))
   obtain ⟨_,b23,rfl⟩:=b23 (hL 3 (by decide))
   have ug23:=b23.lt
   replace N2:=N2.below hK.toBelow leR;have zw19:=hZ;have zw22:=hK.size;replace hZ:=Nat.le_refl w22.heap.size;replace hB:=hK.below0 hB;clear hF hK hV hL x0 hXb s30 fe;refine th_n ?_;refine wp_seq ?_
   have hXb:StaysX [11,33,36,38,39] (fun L aa ww=>(L 2=true→(fun ww v=>∃ m3,v=roomV (inM r (l.getD k mode0)) m3∧RoomNew ww w22.heap.size (inM r (l.getD k mode0)) m3) ww (aa.tmps[36]?.getD undef))∧(L 4=true→(fun ww v=>∃ A4 c4,v=.tuple #[.agg #[.slice A4 ((preR (inM r (l.getD k mode0)) p).length) c4],.bool (preOk (inM r (l.getD k mode0)) p)]∧New 111 3 halfC ww w22.heap.size (.slice A4 (preR (inM r (l.getD k mode0)) p).length c4) (preR (inM r (l.getD k mode0)) p)) ww (aa.tmps[38]?.getD undef))∧(L 5=true→(fun ww v=>∃ A4 c4,v=.tuple #[.agg #[.slice A4 ((preR (inM r (l.getD k mode0)) p).length) c4],.bool (preOk (inM r (l.getD k mode0)) p)]∧New 111 3 halfC ww w22.heap.size (.slice A4 (preR (inM r (l.getD k mode0)) p).length c4) (preR (inM r (l.getD k mode0)) p)) ww (aa.tmps[33]?.getD undef))∧(L 6=true→(fun ww v=>∃ A4 c4,v=.agg #[.slice A4 ((preR (inM r (l.getD k mode0)) p).length) c4]∧New 111 3 halfC ww w22.heap.size (.slice A4 (preR (inM r (l.getD k mode0)) p).length c4) (preR (inM r (l.getD k mode0)) p)) ww (aa.tmps[39]?.getD undef))∧(L 8=true→BoxX w22 aa ww 11 37 [.slice none 0 0] (L 9) (fun ww vs=>∃ A4 c4,vs=[.slice A4 ((preR (inM r (l.getD k mode0)) p).length) c4]∧New 111 3 halfC ww w22.heap.size (.slice A4 (preR (inM r (l.getD k mode0)) p).length c4) (preR (inM r (l.getD k mode0)) p)))):=by
    intro L aa ww w' kk vv hkk hb hX
    obtain ⟨x0,x1,x2,x3,x4⟩:=hX
    exact ⟨(fun h=>by rw [put_ne' (hkk 36 (by simp))];obtain ⟨m3',e,f3'⟩:=x0 h;exact ⟨m3',e,f3'.below hb leR⟩),(fun h=>by rw [put_ne' (hkk 38 (by simp))];obtain ⟨A4',c4',e,f4'⟩:=x1 h;exact ⟨A4',c4',e,f4'.below hb leR⟩),(fun h=>by rw [put_ne' (hkk 33 (by simp))];obtain ⟨A4',c4',e,f4'⟩:=x2 h;exact ⟨A4',c4',e,f4'.below hb leR⟩),(fun h=>by rw [put_ne' (hkk 39 (by simp))];obtain ⟨A4',c4',e,f4'⟩:=x3 h;exact ⟨A4',c4',e,f4'.below hb leR⟩),(fun h=>((x4 h).bel hb (fun _ ⟨A4',c4',e,f4'⟩=>⟨A4',c4',e,f4'.below hb leR⟩)).put (hkk 11 (by simp)) _)⟩
   refine wp_regK hXb (by kernel_rfl) [34,35,36,37,38,33,39,40,11,0,12] [some (roomV r ra),some (.agg #[.int .i64 ((l.getD k mode0).low),.int .i64 ((l.getD k mode0).high)]),none,some (.agg #[.slice b.A p.length b.c]),none,none,none,some (.bool (preOk (inM r (l.getD k mode0)) p)),none,none,some (.bool (preOk (inM r (l.getD k mode0)) p))] ([[],[],[0,1],[],[0,1,2,3],[0,1,2,3,4],[0,1,2,3,4,5],[0,1,2,3,4,5],[],[0,1,2,3,4,5,6,8],[0,1,2,3,4,5,6,7,8,9]]) [34,35,36,37,38,33,39,40,11,12] [0,1,2,3,4,5,6,7,8,9,10] [] (by kernel_rfl) (by rw [hz];decide) ?_ (en rfl ?_ (en rfl ?_ (en rfl ?_ (en rfl ?_ (en rfl ?_ (en rfl ?_ (en rfl ?_ (en rfl ?_ (en rfl ?_ (en rfl ?_ (en rfl ?_ .nil))))))))))) ?_
   ·exact fun _ h=>⟨(fun h=>by cases h),(fun h=>by cases h),(fun h=>by cases h),(fun h=>by cases h),(fun h=>by cases h)⟩
   ·intro Lk ak ww H _ _ hN
    simp [go_sem,H.f.g rfl s3,(b3.k0 H.k).cell]
    exact (hN _ _ H.k rfl (hXb.q rfl H.x))
   ·intro Lk ak ww H _ _ hN
    simp [go_sem,H.f.g rfl s10,(b23.k0 H.k).cell]
    exact (hN _ _ H.k rfl (hXb.q rfl H.x))
   ·intro Lk ak ww H _ _ hN
    obtain ⟨x0,x1,x2,x3,x4⟩:=H.x
    simp [go_sem,(gS ak 34 (H.d 0 rfl rfl)),(gS ak 35 (H.d 1 rfl rfl))]
    have hBi:=H.k.below0 hB
    refine (sInMode_c r ra (l.getD k mode0) ww hn (hs.below hBi) hnl ((hs.below hBi).map.some_ (by rw [hm4];decide))).mono ?_
    rintro x wx ⟨m3,rfl,f0,hb⟩
    have f3:=f0.mono H.k.size
    exact (hN _ _ (H.k.call hb) trivial ⟨(fun _=>by rw [put_get_self (H.f.lt (by rw [hz];decide))];exact ⟨m3,rfl,f3⟩),(fun h=>by rw [put_ne' (by decide)];obtain ⟨A4',c4',e,f4'⟩:=x1 h;exact ⟨A4',c4',e,f4'.below hb leR⟩),(fun h=>by rw [put_ne' (by decide)];obtain ⟨A4',c4',e,f4'⟩:=x2 h;exact ⟨A4',c4',e,f4'.below hb leR⟩),(fun h=>by rw [put_ne' (by decide)];obtain ⟨A4',c4',e,f4'⟩:=x3 h;exact ⟨A4',c4',e,f4'.below hb leR⟩),(fun h=>((x4 h).bel hb (fun _ ⟨A4',c4',e,f4'⟩=>⟨A4',c4',e,f4'.below hb leR⟩)).put (by decide) _)⟩)
   ·intro Lk ak ww H _ _ hN
    simp [go_sem,H.f.g rfl s5,(b4.k0 H.k).cell]
    exact (hN _ _ H.k rfl (hXb.q rfl H.x))
   ·intro Lk ak ww H _ _ hN
    obtain ⟨x0,x1,x2,x3,x4⟩:=H.x
    obtain ⟨m3,ee2,f3⟩:=x0 (H.r 2 rfl)
    simp [go_sem,ee2,(gS ak 37 (H.d 3 rfl rfl))]
    have hBi:=H.k.below0 hB
    refine (sPre_c (inM r (l.getD k mode0)) p m3 b ww hn (inM_in hin (hlin _ (getD_mem hkl mode0))) f3.sl f3.nil hlp hpi (hsp.below hBi) hnb (hrm _ (getD_mem hkl mode0)) hp).mono ?_
    rintro x wx ⟨_,rfl,⟨A4,c4,rfl,f0⟩,hb⟩
    have f4:=New.mono (show New 111 3 halfC wx ww.heap.size (.slice A4 (preR (inM r (l.getD k mode0)) p).length c4) (preR (inM r (l.getD k mode0)) p) from ⟨_,_,rfl,f0⟩) H.k.size
    exact (hN _ _ (H.k.call hb) trivial ⟨(fun h=>by rw [put_ne' (by decide)];obtain ⟨m3',e,f3'⟩:=x0 h;exact ⟨m3',e,f3'.below hb leR⟩),(fun _=>by rw [put_get_self (H.f.lt (by rw [hz];decide))];exact ⟨A4,c4,rfl,f4⟩),(fun h=>by rw [put_ne' (by decide)];obtain ⟨A4',c4',e,f4'⟩:=x2 h;exact ⟨A4',c4',e,f4'.below hb leR⟩),(fun h=>by rw [put_ne' (by decide)];obtain ⟨A4',c4',e,f4'⟩:=x3 h;exact ⟨A4',c4',e,f4'.below hb leR⟩),(fun h=>((x4 h).bel hb (fun _ ⟨A4',c4',e,f4'⟩=>⟨A4',c4',e,f4'.below hb leR⟩)).put (by decide) _)⟩)
   ·intro Lk ak ww H _ _ hN
    obtain ⟨x0,x1,x2,x3,x4⟩:=H.x
    obtain ⟨A4,c4,ee4,f4⟩:=x1 (H.r 4 rfl)
    exact wp_move rfl (ev ee4) (hN _ _ H.k trivial ⟨(fun h=>by rw [put_ne' (by decide)];obtain ⟨m3',e,f3'⟩:=x0 h;exact ⟨m3',e,f3'.below bR leR⟩),(fun h=>by rw [put_ne' (by decide)];obtain ⟨A4',c4',e,f4'⟩:=x1 h;exact ⟨A4',c4',e,f4'.below bR leR⟩),(fun _=>by rw [put_get_self (H.f.lt (by rw [hz];decide))];exact ⟨A4,c4,rfl,f4⟩),(fun h=>by rw [put_ne' (by decide)];obtain ⟨A4',c4',e,f4'⟩:=x3 h;exact ⟨A4',c4',e,f4'.below bR leR⟩),(fun h=>((x4 h).bel bR (fun _ ⟨A4',c4',e,f4'⟩=>⟨A4',c4',e,f4'.below bR leR⟩)).put (by decide) _)⟩)
   ·intro Lk ak ww H _ _ hN
    obtain ⟨x0,x1,x2,x3,x4⟩:=H.x
    obtain ⟨A4,c4,ee5,f4⟩:=x2 (H.r 5 rfl)
    exact wp_extract rfl (ev ee5) rfl (hN _ _ H.k trivial ⟨(fun h=>by rw [put_ne' (by decide)];obtain ⟨m3',e,f3'⟩:=x0 h;exact ⟨m3',e,f3'.below bR leR⟩),(fun h=>by rw [put_ne' (by decide)];obtain ⟨A4',c4',e,f4'⟩:=x1 h;exact ⟨A4',c4',e,f4'.below bR leR⟩),(fun h=>by rw [put_ne' (by decide)];obtain ⟨A4',c4',e,f4'⟩:=x2 h;exact ⟨A4',c4',e,f4'.below bR leR⟩),(fun _=>by rw [put_get_self (H.f.lt (by rw [hz];decide))];exact ⟨A4,c4,rfl,f4⟩),(fun h=>((x4 h).bel bR (fun _ ⟨A4',c4',e,f4'⟩=>⟨A4',c4',e,f4'.below bR leR⟩)).put (by decide) _)⟩)
   ·intro Lk ak ww H _ _ hN
    obtain ⟨x0,x1,x2,x3,x4⟩:=H.x
    obtain ⟨A4,c4,ee5,f4⟩:=x2 (H.r 5 rfl)
    exact wp_extract rfl (ev ee5) rfl (hN _ _ H.k rfl (hXb.q rfl H.x))
   ·intro Lk ak ww H _ _ hN
    obtain ⟨x0,x1,x2,x3,x4⟩:=H.x
    simp [go_sem]
    exact hN _ _ (H.k.alloc _) trivial ⟨(fun h=>by rw [put_ne' (by decide)];obtain ⟨m3',e,f3'⟩:=x0 h;exact ⟨m3',e,f3'.below (below_al bR _) leR⟩),(fun h=>by rw [put_ne' (by decide)];obtain ⟨A4',c4',e,f4'⟩:=x1 h;exact ⟨A4',c4',e,f4'.below (below_al bR _) leR⟩),(fun h=>by rw [put_ne' (by decide)];obtain ⟨A4',c4',e,f4'⟩:=x2 h;exact ⟨A4',c4',e,f4'.below (below_al bR _) leR⟩),(fun h=>by rw [put_ne' (by decide)];obtain ⟨A4',c4',e,f4'⟩:=x3 h;exact ⟨A4',c4',e,f4'.below (below_al bR _) leR⟩),(fun _=>by rw [show upd Lk 8 9=false from H.t 9 rfl];exact BoxX.new (s:=11) (H.f.lt (by rw [hz];decide)) H.k.size [.slice none 0 0])⟩
   ·intro Lk ak ww H _ _ hN
    obtain ⟨x0,x1,x2,x3,x4⟩:=H.x
    obtain ⟨A4,c4,ee6,f4⟩:=x3 (H.r 6 rfl)
    obtain ⟨g,eg,hg,y,_⟩:=x4 (H.r 8 rfl)
    have HT:=y H.n
    simp [go_sem,ee6,eg,HT.cell,HT.frz]
    have f4:=f4.otherC (f4.typ HT (by decide)) [.slice A4 ((preR (inM r (l.getD k mode0)) p).length) c4] 0
    exact hN undef _ (H.k.store (.inl hg) [.slice A4 ((preR (inM r (l.getD k mode0)) p).length) c4] 0) trivial ⟨(fun h=>by obtain ⟨m3',e,f3'⟩:=x0 h;exact ⟨m3',e,f3'.otherT HT (by decide) (by decide) [.slice A4 ((preR (inM r (l.getD k mode0)) p).length) c4] 0⟩),(fun h=>by obtain ⟨A4',c4',e,f4'⟩:=x1 h;exact ⟨A4',c4',e,f4'.otherC (f4'.typ HT (by decide)) [.slice A4 ((preR (inM r (l.getD k mode0)) p).length) c4] 0⟩),(fun h=>by obtain ⟨A4',c4',e,f4'⟩:=x2 h;exact ⟨A4',c4',e,f4'.otherC (f4'.typ HT (by decide)) [.slice A4 ((preR (inM r (l.getD k mode0)) p).length) c4] 0⟩),(fun h=>by obtain ⟨A4',c4',e,f4'⟩:=x3 h;exact ⟨A4',c4',e,f4'.otherC (f4'.typ HT (by decide)) [.slice A4 ((preR (inM r (l.getD k mode0)) p).length) c4] 0⟩),(fun _=>BoxX.set eg hg HT (us:=[.slice A4 ((preR (inM r (l.getD k mode0)) p).length) c4]) rfl ⟨A4,c4,rfl,f4⟩)⟩
   ·exact fun Lk ak ww H _ _ hN=>wp_assign rfl (ev (H.d 7 rfl rfl)) (hN _ _ H.k rfl (hXb.q rfl H.x))
   intro L a24 w25 hL hF hK hV hX
   obtain ⟨x0,x1,x2,x3,x4⟩:=hX
   replace hz:=hF.Z hz;replace hdf:=hF.E hdf;replace s3:=hF.G s3;replace s5:=hF.G s5;replace s6:=hF.G s6;replace s8:=hF.G s8;replace s27:=hF.G s27;replace s28:=hF.G s28;replace s29:=hF.G s29;have s12:=gS a24 12 (hV 10 _ rfl);replace b3:=b3.k0 hK;replace b4:=b4.k0 hK;replace b5:=b5.k0 hK;replace b13:=b13.k0 hK
   obtain ⟨g26,s11,lg26,-,b26⟩:=x4 (hL 8 (by decide))
   obtain ⟨_,b26,A4,c4,rfl,N4⟩:=b26 (hL 9 (by decide))
   have i4:∀ p,A4=some p→p.block<w25.heap.size:=fun p hp=>(N4.blk p hp).2
   have ug26:=b26.lt
   replace N2:=N2.below hK.toBelow leR;have zw25:=hK.size;replace hZ:=Nat.le_refl w25.heap.size;replace hB:=hK.below0 hB;clear hF hK hV hL x0 x1 x2 x3 x4 hXb s10 b23;refine th_n ?_;refine wp_seq ?_;refine wp_seq ?_
   refine wp_regJ (by kernel_rfl) [41,42] [some (.bool (preOk (inM r (l.getD k mode0)) p)),some (.bool (!(preOk (inM r (l.getD k mode0)) p)))] (dlR 2) [41,42] [0,1] [] (fun _ _ _=>True) (by kernel_rfl) (by rw [hz];decide) ?_ (en rfl ?_ (en rfl ?_ .nil)) ?_
   ·exact fun _ _=>trivial
   ·exact fun Lk ak ww H _ _ hN=>wp_move rfl (ev (H.f.g rfl s12)) (hN _ _ H.k rfl trivial)
   ·exact fun Lk ak ww H _ _ hN=>wp_not rfl (ev (H.d 0 rfl rfl)) (hN _ _ H.k rfl trivial)
   intro L a27 w28 hL hF hK hV hX;replace hz:=hF.Z hz;replace hdf:=hF.E hdf;replace s3:=hF.G s3;replace s5:=hF.G s5;replace s6:=hF.G s6;replace s8:=hF.G s8;replace s27:=hF.G s27;replace s28:=hF.G s28;replace s29:=hF.G s29;replace s11:=hF.G s11;have s42:=gS a27 42 (hV 1 _ rfl);replace b3:=b3.k0 hK;replace b4:=b4.k0 hK;replace b5:=b5.k0 hK;replace b13:=b13.k0 hK;replace b26:=b26.k0 hK;replace N2:=N2.below hK.toBelow leR;replace N4:=N4.below hK.toBelow leR;replace hZ:=Nat.le_trans hZ hK.size;replace hB:=hK.below0 hB;clear hF hK hV hL hX s12;refine th_n ?_
   rcases Bool.eq_false_or_eq_true (!(preOk (inM r (l.getD k mode0)) p)) with q29|q29
   ·skip
    refine wp_cond_true (ev (vb s42 q29)) ?_
    refine wp_seq ?_
    have hXb:StaysX [] (fun L aa ww=>PreX ww (w.heap.size+2) 37 [.slice none 0 0] (L 1) (fun _ vs=>vs=[.slice none 0 0])):=by
     intro L aa ww w' kk vv hkk hb hX
     have x0:=hX
     exact (x0.bel hb (fun _ h=>h))
    refine wp_regK hXb (by kernel_rfl) [43,0,7] [some (.agg #[.slice none 0 0]),none,some (.bool false)] (dlR 3) [43,7] [0,1,2] [(w.heap.size+2)] (by kernel_rfl) (by rw [hz];decide) ?_ (en rfl ?_ (en rfl ?_ (en rfl ?_ .nil))) ?_
    ·exact fun _ h=>(⟨fun _=>b5.kp h (by simp),(fun h=>by cases h)⟩)
    ·intro Lk ak ww H _ _ hN
     simp [go_sem]
     exact (hN _ _ H.k rfl H.x)
    ·intro Lk ak ww H _ _ hN
     have x0:=H.x
     have HT:=x0.1 H.n
     simp [go_sem,(gS ak 43 (H.d 0 rfl rfl)),H.f.g rfl s6,HT.cell,HT.frz]
     exact hN undef _ (H.k.store (.inr (by simp)) [.slice none 0 0] 0) trivial (PreX.set HT (us:=[.slice none 0 0]) rfl rfl)
    ·exact fun Lk ak ww H _ _ hN=>wp_assign rfl rfl (hN _ _ H.k rfl H.x)
    intro L a30 w31 hL hF hK hV hX;have x0:=hX;replace hz:=hF.Z hz;replace hdf:=hF.E hdf;replace s6:=hF.G s6;have s7:=gS a30 7 (hV 2 _ rfl);clear b5
    obtain ⟨_,b5,rfl⟩:=x0.2 (hL 1 (by decide))
    replace hZ:=Nat.le_trans hZ hK.size
    replace hB:=hK.below hB hB.size (by simp<;>omega)
    clear hF hK hV hL x0 hXb s3 s5 s8 s27 s28 s29 s11 s42 b3 b4 b13 b26 N2 i2 N4 i4;refine th_n ?_
    refine wp_ret ?_
    refine th_r (ib_r (th_r (th_r (ib_r (th_r ?_)))))
    refine bodyPost_ret (v:=.tuple #[.agg #[.slice none 0 0],.bool false]) (by simp [results,Tryz.results53,go_sem,s6,b5.cell,s7]) hdf ?_
    have hst:=pkA_stop hkl (by rw [hpk];exact pkF_no (.inl (not_t q29)))
    have h0:=pk_none q8 hst
    exact ⟨_,by rw [h0.1],by rw [h0.2];exact New.nilN _ _ _ _ _,hB⟩
   ·skip
    refine wp_cond_false (ev (vb s42 q29)) ?_
    refine wp_skip ?_;refine th_n ?_;refine wp_seq ?_
    have hXb:StaysX [13,44,47,48] (fun L aa ww=>(L 2=true→(fun ww v=>∃ A5 c5,v=.tuple #[.agg #[.slice A5 ((mrR out (preR (inM r (l.getD k mode0)) p)).length) c5],.bool (mrOk out (preR (inM r (l.getD k mode0)) p))]∧New 111 3 halfC ww w28.heap.size (.slice A5 (mrR out (preR (inM r (l.getD k mode0)) p)).length c5) (mrR out (preR (inM r (l.getD k mode0)) p))) ww (aa.tmps[47]?.getD undef))∧(L 3=true→(fun ww v=>∃ A5 c5,v=.tuple #[.agg #[.slice A5 ((mrR out (preR (inM r (l.getD k mode0)) p)).length) c5],.bool (mrOk out (preR (inM r (l.getD k mode0)) p))]∧New 111 3 halfC ww w28.heap.size (.slice A5 (mrR out (preR (inM r (l.getD k mode0)) p)).length c5) (mrR out (preR (inM r (l.getD k mode0)) p))) ww (aa.tmps[44]?.getD undef))∧(L 4=true→(fun ww v=>∃ A5 c5,v=.agg #[.slice A5 ((mrR out (preR (inM r (l.getD k mode0)) p)).length) c5]∧New 111 3 halfC ww w28.heap.size (.slice A5 (mrR out (preR (inM r (l.getD k mode0)) p)).length c5) (mrR out (preR (inM r (l.getD k mode0)) p))) ww (aa.tmps[48]?.getD undef))∧(L 6=true→BoxX w28 aa ww 13 37 [.slice none 0 0] (L 7) (fun ww vs=>∃ A5 c5,vs=[.slice A5 ((mrR out (preR (inM r (l.getD k mode0)) p)).length) c5]∧New 111 3 halfC ww w28.heap.size (.slice A5 (mrR out (preR (inM r (l.getD k mode0)) p)).length c5) (mrR out (preR (inM r (l.getD k mode0)) p))))):=by
     intro L aa ww w' kk vv hkk hb hX
     obtain ⟨x0,x1,x2,x3⟩:=hX
     exact ⟨(fun h=>by rw [put_ne' (hkk 47 (by simp))];obtain ⟨A5',c5',e,f5'⟩:=x0 h;exact ⟨A5',c5',e,f5'.below hb leR⟩),(fun h=>by rw [put_ne' (hkk 44 (by simp))];obtain ⟨A5',c5',e,f5'⟩:=x1 h;exact ⟨A5',c5',e,f5'.below hb leR⟩),(fun h=>by rw [put_ne' (hkk 48 (by simp))];obtain ⟨A5',c5',e,f5'⟩:=x2 h;exact ⟨A5',c5',e,f5'.below hb leR⟩),(fun h=>((x3 h).bel hb (fun _ ⟨A5',c5',e,f5'⟩=>⟨A5',c5',e,f5'.below hb leR⟩)).put (hkk 13 (by simp)) _)⟩
    refine wp_regK hXb (by kernel_rfl) [45,46,47,44,48,49,13,0,14] [some (.agg #[.slice A2 out.length c2]),some (.agg #[.slice A4 ((preR (inM r (l.getD k mode0)) p).length) c4]),none,none,none,some (.bool (mrOk out (preR (inM r (l.getD k mode0)) p))),none,none,some (.bool (mrOk out (preR (inM r (l.getD k mode0)) p)))] (dlR 9) [45,46,47,44,48,49,13,14] [0,1,2,3,4,5,6,7,8] [] (by kernel_rfl) (by rw [hz];decide) ?_ (en rfl ?_ (en rfl ?_ (en rfl ?_ (en rfl ?_ (en rfl ?_ (en rfl ?_ (en rfl ?_ (en rfl ?_ (en rfl ?_ .nil))))))))) ?_
    ·exact fun _ h=>⟨(fun h=>by cases h),(fun h=>by cases h),(fun h=>by cases h),(fun h=>by cases h)⟩
    ·intro Lk ak ww H _ _ hN
     simp [go_sem,H.f.g rfl s8,(b13.k0 H.k).cell]
     exact (hN _ _ H.k rfl (hXb.q rfl H.x))
    ·intro Lk ak ww H _ _ hN
     simp [go_sem,H.f.g rfl s11,(b26.k0 H.k).cell]
     exact (hN _ _ H.k rfl (hXb.q rfl H.x))
    ·intro Lk ak ww H _ _ hN
     obtain ⟨x0,x1,x2,x3⟩:=H.x
     simp [go_sem,(gS ak 45 (H.d 0 rfl rfl)),(gS ak 46 (H.d 1 rfl rfl))]
     refine (sMeetR_c out (preR (inM r (l.getD k mode0)) p) ⟨A2,c2⟩ ⟨A4,c4⟩ ww hout (preR_ok _ _) ((N2.below H.k.toBelow leR).out halfC_len) ((N4.below H.k.toBelow leR).out halfC_len) N2.nilcap N4.nilcap).mono ?_
     rintro x wx ⟨_,rfl,⟨A5,c5,rfl,f0⟩,hb⟩
     have f5:=New.mono (show New 111 3 halfC wx ww.heap.size (.slice A5 (mrR out (preR (inM r (l.getD k mode0)) p)).length c5) (mrR out (preR (inM r (l.getD k mode0)) p)) from ⟨_,_,rfl,f0⟩) H.k.size
     exact (hN _ _ (H.k.call hb) trivial ⟨(fun _=>by rw [put_get_self (H.f.lt (by rw [hz];decide))];exact ⟨A5,c5,rfl,f5⟩),(fun h=>by rw [put_ne' (by decide)];obtain ⟨A5',c5',e,f5'⟩:=x1 h;exact ⟨A5',c5',e,f5'.below hb leR⟩),(fun h=>by rw [put_ne' (by decide)];obtain ⟨A5',c5',e,f5'⟩:=x2 h;exact ⟨A5',c5',e,f5'.below hb leR⟩),(fun h=>((x3 h).bel hb (fun _ ⟨A5',c5',e,f5'⟩=>⟨A5',c5',e,f5'.below hb leR⟩)).put (by decide) _)⟩)
    ·intro Lk ak ww H _ _ hN
     obtain ⟨x0,x1,x2,x3⟩:=H.x
     obtain ⟨A5,c5,ee2,f5⟩:=x0 (H.r 2 rfl)
     exact wp_move rfl (ev ee2) (hN _ _ H.k trivial ⟨(fun h=>by rw [put_ne' (by decide)];obtain ⟨A5',c5',e,f5'⟩:=x0 h;exact ⟨A5',c5',e,f5'.below bR leR⟩),(fun _=>by rw [put_get_self (H.f.lt (by rw [hz];decide))];exact ⟨A5,c5,rfl,f5⟩),(fun h=>by rw [put_ne' (by decide)];obtain ⟨A5',c5',e,f5'⟩:=x2 h;exact ⟨A5',c5',e,f5'.below bR leR⟩),(fun h=>((x3 h).bel bR (fun _ ⟨A5',c5',e,f5'⟩=>⟨A5',c5',e,f5'.below bR leR⟩)).put (by decide) _)⟩)
    ·intro Lk ak ww H _ _ hN
     obtain ⟨x0,x1,x2,x3⟩:=H.x
     obtain ⟨A5,c5,ee3,f5⟩:=x1 (H.r 3 rfl)
     exact wp_extract rfl (ev ee3) rfl (hN _ _ H.k trivial ⟨(fun h=>by rw [put_ne' (by decide)];obtain ⟨A5',c5',e,f5'⟩:=x0 h;exact ⟨A5',c5',e,f5'.below bR leR⟩),(fun h=>by rw [put_ne' (by decide)];obtain ⟨A5',c5',e,f5'⟩:=x1 h;exact ⟨A5',c5',e,f5'.below bR leR⟩),(fun _=>by rw [put_get_self (H.f.lt (by rw [hz];decide))];exact ⟨A5,c5,rfl,f5⟩),(fun h=>((x3 h).bel bR (fun _ ⟨A5',c5',e,f5'⟩=>⟨A5',c5',e,f5'.below bR leR⟩)).put (by decide) _)⟩)
    ·intro Lk ak ww H _ _ hN
     obtain ⟨x0,x1,x2,x3⟩:=H.x
     obtain ⟨A5,c5,ee3,f5⟩:=x1 (H.r 3 rfl)
     exact wp_extract rfl (ev ee3) rfl (hN _ _ H.k rfl (hXb.q rfl H.x))
    ·intro Lk ak ww H _ _ hN
     obtain ⟨x0,x1,x2,x3⟩:=H.x
     simp [go_sem]
     exact hN _ _ (H.k.alloc _) trivial ⟨(fun h=>by rw [put_ne' (by decide)];obtain ⟨A5',c5',e,f5'⟩:=x0 h;exact ⟨A5',c5',e,f5'.below (below_al bR _) leR⟩),(fun h=>by rw [put_ne' (by decide)];obtain ⟨A5',c5',e,f5'⟩:=x1 h;exact ⟨A5',c5',e,f5'.below (below_al bR _) leR⟩),(fun h=>by rw [put_ne' (by decide)];obtain ⟨A5',c5',e,f5'⟩:=x2 h;exact ⟨A5',c5',e,f5'.below (below_al bR _) leR⟩),(fun _=>by rw [show upd Lk 6 7=false from H.t 7 rfl];exact BoxX.new (s:=13) (H.f.lt (by rw [hz];decide)) H.k.size [.slice none 0 0])⟩
    ·intro Lk ak ww H _ _ hN
     obtain ⟨x0,x1,x2,x3⟩:=H.x
     obtain ⟨A5,c5,ee4,f5⟩:=x2 (H.r 4 rfl)
     obtain ⟨g,eg,hg,y,_⟩:=x3 (H.r 6 rfl)
     have HT:=y H.n
     simp [go_sem,ee4,eg,HT.cell,HT.frz]
     have f5:=f5.otherC (f5.typ HT (by decide)) [.slice A5 ((mrR out (preR (inM r (l.getD k mode0)) p)).length) c5] 0
     exact hN undef _ (H.k.store (.inl hg) [.slice A5 ((mrR out (preR (inM r (l.getD k mode0)) p)).length) c5] 0) trivial ⟨(fun h=>by obtain ⟨A5',c5',e,f5'⟩:=x0 h;exact ⟨A5',c5',e,f5'.otherC (f5'.typ HT (by decide)) [.slice A5 ((mrR out (preR (inM r (l.getD k mode0)) p)).length) c5] 0⟩),(fun h=>by obtain ⟨A5',c5',e,f5'⟩:=x1 h;exact ⟨A5',c5',e,f5'.otherC (f5'.typ HT (by decide)) [.slice A5 ((mrR out (preR (inM r (l.getD k mode0)) p)).length) c5] 0⟩),(fun h=>by obtain ⟨A5',c5',e,f5'⟩:=x2 h;exact ⟨A5',c5',e,f5'.otherC (f5'.typ HT (by decide)) [.slice A5 ((mrR out (preR (inM r (l.getD k mode0)) p)).length) c5] 0⟩),(fun _=>BoxX.set eg hg HT (us:=[.slice A5 ((mrR out (preR (inM r (l.getD k mode0)) p)).length) c5]) rfl ⟨A5,c5,rfl,f5⟩)⟩
    ·exact fun Lk ak ww H _ _ hN=>wp_assign rfl (ev (H.d 5 rfl rfl)) (hN _ _ H.k rfl (hXb.q rfl H.x))
    intro L a32 w33 hL hF hK hV hX
    obtain ⟨x0,x1,x2,x3⟩:=hX
    replace hz:=hF.Z hz;replace hdf:=hF.E hdf;replace s3:=hF.G s3;replace s5:=hF.G s5;replace s6:=hF.G s6;replace s8:=hF.G s8;replace s27:=hF.G s27;replace s28:=hF.G s28;replace s29:=hF.G s29;have s14:=gS a32 14 (hV 8 _ rfl);replace b3:=b3.k0 hK;replace b4:=b4.k0 hK;replace b5:=b5.k0 hK;replace b13:=b13.k0 hK
    obtain ⟨g34,s13,lg34,-,b34⟩:=x3 (hL 6 (by decide))
    obtain ⟨_,b34,A5,c5,rfl,N5⟩:=b34 (hL 7 (by decide))
    have i5:∀ p,A5=some p→p.block<w33.heap.size:=fun p hp=>(N5.blk p hp).2
    have ug34:=b34.lt
    replace N2:=N2.below hK.toBelow leR;have zw28:=hZ;have zw33:=hK.size;replace hZ:=Nat.le_refl w33.heap.size;replace hB:=hK.below0 hB;clear hF hK hV hL x0 x1 x2 x3 hXb s11 s42 b26 N4 i4;refine th_n ?_;refine wp_seq ?_;refine wp_seq ?_
    refine wp_regJ (by kernel_rfl) [50,51] [some (.bool (mrOk out (preR (inM r (l.getD k mode0)) p))),some (.bool (!(mrOk out (preR (inM r (l.getD k mode0)) p))))] (dlR 2) [50,51] [0,1] [] (fun _ _ _=>True) (by kernel_rfl) (by rw [hz];decide) ?_ (en rfl ?_ (en rfl ?_ .nil)) ?_
    ·exact fun _ _=>trivial
    ·exact fun Lk ak ww H _ _ hN=>wp_move rfl (ev (H.f.g rfl s14)) (hN _ _ H.k rfl trivial)
    ·exact fun Lk ak ww H _ _ hN=>wp_not rfl (ev (H.d 0 rfl rfl)) (hN _ _ H.k rfl trivial)
    intro L a35 w36 hL hF hK hV hX;replace hz:=hF.Z hz;replace hdf:=hF.E hdf;replace s3:=hF.G s3;replace s5:=hF.G s5;replace s6:=hF.G s6;replace s8:=hF.G s8;replace s27:=hF.G s27;replace s28:=hF.G s28;replace s29:=hF.G s29;replace s13:=hF.G s13;have s51:=gS a35 51 (hV 1 _ rfl);replace b3:=b3.k0 hK;replace b4:=b4.k0 hK;replace b5:=b5.k0 hK;replace b13:=b13.k0 hK;replace b34:=b34.k0 hK;replace N2:=N2.below hK.toBelow leR;replace N5:=N5.below hK.toBelow leR;replace hZ:=Nat.le_trans hZ hK.size;replace hB:=hK.below0 hB;clear hF hK hV hL hX s14;refine th_n ?_
    rcases Bool.eq_false_or_eq_true (!(mrOk out (preR (inM r (l.getD k mode0)) p))) with q37|q37
    ·skip
     refine wp_cond_true (ev (vb s51 q37)) ?_
     refine wp_seq ?_
     have hXb:StaysX [] (fun L aa ww=>PreX ww (w.heap.size+2) 37 [.slice none 0 0] (L 1) (fun _ vs=>vs=[.slice none 0 0])):=by
      intro L aa ww w' kk vv hkk hb hX
      have x0:=hX
      exact (x0.bel hb (fun _ h=>h))
     refine wp_regK hXb (by kernel_rfl) [52,0,7] [some (.agg #[.slice none 0 0]),none,some (.bool false)] (dlR 3) [52,7] [0,1,2] [(w.heap.size+2)] (by kernel_rfl) (by rw [hz];decide) ?_ (en rfl ?_ (en rfl ?_ (en rfl ?_ .nil))) ?_
     ·exact fun _ h=>(⟨fun _=>b5.kp h (by simp),(fun h=>by cases h)⟩)
     ·intro Lk ak ww H _ _ hN
      simp [go_sem]
      exact (hN _ _ H.k rfl H.x)
     ·intro Lk ak ww H _ _ hN
      have x0:=H.x
      have HT:=x0.1 H.n
      simp [go_sem,(gS ak 52 (H.d 0 rfl rfl)),H.f.g rfl s6,HT.cell,HT.frz]
      exact hN undef _ (H.k.store (.inr (by simp)) [.slice none 0 0] 0) trivial (PreX.set HT (us:=[.slice none 0 0]) rfl rfl)
     ·exact fun Lk ak ww H _ _ hN=>wp_assign rfl rfl (hN _ _ H.k rfl H.x)
     intro L a38 w39 hL hF hK hV hX;have x0:=hX;replace hz:=hF.Z hz;replace hdf:=hF.E hdf;replace s6:=hF.G s6;have s7:=gS a38 7 (hV 2 _ rfl);clear b5
     obtain ⟨_,b5,rfl⟩:=x0.2 (hL 1 (by decide))
     replace hZ:=Nat.le_trans hZ hK.size
     replace hB:=hK.below hB hB.size (by simp<;>omega)
     clear hF hK hV hL x0 hXb s3 s5 s8 s27 s28 s29 s13 s51 b3 b4 b13 b34 N2 i2 N5 i5;refine th_n ?_
     refine wp_ret ?_
     refine th_r (ib_r (th_r (th_r (ib_r (th_r ?_)))))
     refine bodyPost_ret (v:=.tuple #[.agg #[.slice none 0 0],.bool false]) (by simp [results,Tryz.results53,go_sem,s6,b5.cell,s7]) hdf ?_
     have hst:=pkA_stop hkl (by rw [hpk];exact pkF_no (.inr (not_t q37)))
     have h0:=pk_none q8 hst
     exact ⟨_,by rw [h0.1],by rw [h0.2];exact New.nilN _ _ _ _ _,hB⟩
    ·skip
     refine wp_cond_false (ev (vb s51 q37)) ?_
     refine wp_skip ?_;refine th_n ?_
     refine wp_regJ (by kernel_rfl) [53,0] [some (.agg #[.slice A5 ((mrR out (preR (inM r (l.getD k mode0)) p)).length) c5]),none] (dlR 2) [53] [0,1] [g13] (fun L aa ww=>PreX ww g13 37 [.slice A2 out.length c2] (L 1) (fun _ vs=>vs=[.slice A5 ((mrR out (preR (inM r (l.getD k mode0)) p)).length) c5])) (by kernel_rfl) (by rw [hz];decide) ?_ (en rfl ?_ (en rfl ?_ .nil)) ?_
     ·exact fun _ h=>(⟨fun _=>b13.kp h (by simp),(fun h=>by cases h)⟩)
     ·intro Lk ak ww H _ _ hN
      simp [go_sem,H.f.g rfl s13,(b34.kp H.k (by simp<;>omega)).cell]
      exact (hN _ _ H.k rfl (H.x.bel bR (fun _ h=>h)))
     ·intro Lk ak ww H _ _ hN
      have x0:=H.x
      have HT:=x0.1 H.n
      simp [go_sem,(gS ak 53 (H.d 0 rfl rfl)),H.f.g rfl s8,HT.cell,HT.frz]
      exact hN undef _ (H.k.store (.inr (by simp)) [.slice A5 ((mrR out (preR (inM r (l.getD k mode0)) p)).length) c5] 0) trivial (PreX.set HT (us:=[.slice A5 ((mrR out (preR (inM r (l.getD k mode0)) p)).length) c5]) rfl rfl)
     intro L a40 w41 hL hF hK hV hX;have x0:=hX;replace hz:=hF.Z hz;replace hdf:=hF.E hdf;replace s3:=hF.G s3;replace s5:=hF.G s5;replace s6:=hF.G s6;replace s8:=hF.G s8;replace s27:=hF.G s27;replace s28:=hF.G s28;replace s29:=hF.G s29
     replace b3:=b3.kp hK (by simp<;>omega)
     replace b4:=b4.kp hK (by simp<;>omega)
     replace b5:=b5.kp hK (by simp<;>omega)
     clear b13
     obtain ⟨_,b13,rfl⟩:=x0.2 (hL 1 (by decide))
     replace N5:=N5.kp hK i5 (by omega) (by simp<;>omega)
     replace hZ:=Nat.le_trans hZ hK.size
     replace hB:=hK.below hB hB.size (by simp<;>omega)
     clear hF hK hV hL x0 s13 s51 b34 N2 i2;refine ib_n (th_n ?_)
     refine wp_regJ (by kernel_rfl) [54,29] [some (.int .i64 ((k:Int)+1)),some (.int .i64 ((k:Int)+1))] (dlR 2) [54,29] [0,1] [] (fun L aa ww=>(L 1=false→aa.tmps[29]?.getD undef=.int .i64 (k:Int))) (by kernel_rfl) (by rw [hz];decide) ?_ (en rfl ?_ (en rfl ?_ .nil)) ?_
     ·exact fun _ h=>(fun _=>s29)
     ·intro Lk ak ww H _ _ hN
      have x0:=H.x
      exact wp_add rfl (ev (x0 (H.t 1 rfl))) rfl (by omega) (hN _ _ H.k rfl (fun h=>(put_ne' (by decide) _).trans (x0 h)))
     ·intro Lk ak ww H _ _ hN
      have x0:=H.x
      exact wp_move rfl (ev (H.d 0 rfl rfl)) (hN _ _ H.k rfl (fun h=>by simp [upd] at h))
     intro L a42 w43 hL hF hK hV hX;have x0:=hX;replace hz:=hF.Z hz;replace hdf:=hF.E hdf;replace s3:=hF.G s3;replace s5:=hF.G s5;replace s6:=hF.G s6;replace s8:=hF.G s8;replace s27:=hF.G s27;replace s28:=hF.G s28;have s29:=gS a42 29 (hV 1 _ rfl);replace b3:=b3.k0 hK;replace b4:=b4.k0 hK;replace b5:=b5.k0 hK;replace b13:=b13.k0 hK;replace N5:=N5.below hK.toBelow leR;replace hZ:=Nat.le_trans hZ hK.size;replace hB:=hK.below0 hB;clear hF hK hV hL x0;refine th_n ?_
     refine ⟨?_, ?_⟩
     ·exact ⟨hz,hdf,(k+1),((mrR out (preR (inM r (l.getD k mode0)) p))),(A5),(c5),(by omega),(by rw [pkA_next hkl,hpk];exact pkF_yes (not_f q29) (not_f q37)),(mrR_ok hout (preR_ok _ _)),s3,s5,s6,s8,s27,s28,s29,b3,b4,b5,b13,(N5.mono (by omega)),hB,(by omega)⟩
     ·show (l.length-(intOf (a42.tmps[29]?.getD undef)).toNat)<_
      rw [s29,hmu];simp only [intOf];omega
  ·skip
   have ek:k=l.length:=by have:=dec_f q20;omega
   rw [ek,List.take_length] at hpk
   refine wp_cond_false (ev (vb s30 q20)) ?_
   refine wp_exit ?_
   refine th_e (th_e (ib_x (th_n ?_)));refine wp_seq ?_
   have hXb:StaysX [] (fun L aa ww=>PreX ww (w.heap.size+2) 37 [.slice none 0 0] (L 1) (fun _ vs=>vs=[.slice A2 out.length c2])):=by
    intro L aa ww w' kk vv hkk hb hX
    have x0:=hX
    exact (x0.bel hb (fun _ h=>h))
   refine wp_regK hXb (by kernel_rfl) [55,0,7] [some (.agg #[.slice A2 out.length c2]),none,some (.bool true)] (dlR 3) [55,7] [0,1,2] [(w.heap.size+2)] (by kernel_rfl) (by rw [hz];decide) ?_ (en rfl ?_ (en rfl ?_ (en rfl ?_ .nil))) ?_
   ·exact fun _ h=>(⟨fun _=>b5.kp h (by simp),(fun h=>by cases h)⟩)
   ·intro Lk ak ww H _ _ hN
    simp [go_sem,H.f.g rfl s8,(b13.kp H.k (by simp<;>omega)).cell]
    exact (hN _ _ H.k rfl H.x)
   ·intro Lk ak ww H _ _ hN
    have x0:=H.x
    have HT:=x0.1 H.n
    simp [go_sem,(gS ak 55 (H.d 0 rfl rfl)),H.f.g rfl s6,HT.cell,HT.frz]
    exact hN undef _ (H.k.store (.inr (by simp)) [.slice A2 out.length c2] 0) trivial (PreX.set HT (us:=[.slice A2 out.length c2]) rfl rfl)
   ·exact fun Lk ak ww H _ _ hN=>wp_assign rfl rfl (hN _ _ H.k rfl H.x)
   intro L a44 w45 hL hF hK hV hX;have x0:=hX;replace hz:=hF.Z hz;replace hdf:=hF.E hdf;replace s6:=hF.G s6;have s7:=gS a44 7 (hV 2 _ rfl);clear b5
   obtain ⟨_,b5,rfl⟩:=x0.2 (hL 1 (by decide))
   replace N2:=N2.kp hK i2 (by omega) (by simp<;>omega)
   replace hZ:=Nat.le_trans hZ hK.size
   replace hB:=hK.below hB hB.size (by simp<;>omega)
   clear hF hK hV hL x0 hXb s3 s5 s8 s27 s28 s29 s30 b3 b4 b13;refine th_n ?_
   refine wp_ret ?_
   refine bodyPost_ret (v:=.tuple #[.agg #[.slice A2 out.length c2],.bool true]) (by simp [results,Tryz.results53,go_sem,s6,b5.cell,s7]) hdf ?_
   have h0:=pk_some q8 hpk
   exact ⟨_,by rw [h0.1],by rw [h0.2];exact N2.mono (by omega),hB⟩
end Go.Proofs.YtdncnhcffbgjhaaGreat
