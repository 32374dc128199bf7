/-
 Growing along a direction: of the reference.
 Conditions: valid regions; directions of a room.
-/
import Derived.Test.YtdncnhcffbgjhaaGreatGrow
import Derived.Test.YtdncnhcffbgjhaaGreatGeo9
import Derived.Test.YtdncnhcffbgjhaaGreatFar
import Derived.Test.YtdncnhcffbgjhaaGreatGrXa
namespace Go.Proofs.YtdncnhcffbgjhaaGreat
open Go.RowKit
structure DirH (d:Half):Prop where
 a : -100≤d.a∧d.a≤100
 b : -100≤d.b∧d.b≤100
 nz:¬ (d.a=0∧d.b=0)
def drL (bx by_:Int):List Half:=[⟨-(by_.tdiv (gcdOf bx by_)),bx.tdiv (gcdOf bx by_),0⟩,⟨by_.tdiv (gcdOf bx by_),-(bx.tdiv (gcdOf bx by_)),0⟩]
def sdF (p:List Half) (d:Half):Option Half:=sdH p d.a d.b
theorem gcdOf_dir {bx by_:Int} (D:DirIn bx by_):gcdOf bx by_=((gcdAll [bx,by_]:Nat):Int):=by
 have hx:=D.x
 have hy:=D.y
 rw [gcdOf_eq,if_neg]
 simp [isMin];omega
theorem drL_eq {bx by_:Int} (D:DirIn bx by_):drL bx by_=[⟨dirA bx by_,dirB bx by_,0⟩,⟨-dirA bx by_,-dirB bx by_,0⟩]:=by
 unfold drL dirA dirB
 rw [gcdOf_dir D,Int.neg_tdiv,Int.neg_neg]
theorem drL_dir {bx by_:Int} (D:DirIn bx by_):∀ d∈drL bx by_,DirH d:=by
 have O:=dirOk D
 have ha:=O.a
 have hb:=O.b
 have hn:=O.nz
 intro d hd
 rw [drL_eq D] at hd
 simp only [List.mem_cons,List.not_mem_nil,or_false] at hd
 rcases hd with rfl|rfl
 ·exact ⟨ha,hb,hn⟩
 ·exact ⟨by simp only;omega,by simp only;omega,by simp only;omega⟩
theorem drL_all {bx by_:Int} {p:List Half} (D:DirIn bx by_):movAll (sdF p) (drL bx by_)=sdO p (dirA bx by_) (dirB bx by_):=by
 rw [drL_eq D]
 simp [movAll,sdF,sdO]
theorem drL_mov {bx by_:Int} {p:List Half} (D:DirIn bx by_):movL (sdF p) (drL bx by_)=sdL p (dirA bx by_) (dirB bx by_):=by
 rw [drL_eq D]
 simp [movL,sdF,sdL]
def gwB (bx by_ lo hi:Int) (p:List Half):Bool:=movAll (growH bx by_ lo hi) p&&sdO p (dirA bx by_) (dirB bx by_)
def gwL (bx by_ lo hi:Int) (p:List Half):List Half:=if gwB bx by_ lo hi p=true then movL (growH bx by_ lo hi) p++movL (sdF p) (drL bx by_) else []
theorem gw_no1 {bx by_ lo hi:Int} {p:List Half} (h:movAll (growH bx by_ lo hi) p=false):gwB bx by_ lo hi p=false∧gwL bx by_ lo hi p=[]:=by
 unfold gwL gwB
 rw [h,Bool.false_and,if_neg (by simp)];exact ⟨rfl,rfl⟩
theorem gw_no2 {bx by_ lo hi:Int} {p:List Half} (D:DirIn bx by_) (h:movAll (sdF p) (drL bx by_)=false):gwB bx by_ lo hi p=false∧gwL bx by_ lo hi p=[]:=by
 rw [drL_all D] at h
 unfold gwL gwB
 rw [h,Bool.and_false,if_neg (by simp)];exact ⟨rfl,rfl⟩
theorem gw_yes {bx by_ lo hi:Int} {p:List Half} (D:DirIn bx by_) (h1:movAll (growH bx by_ lo hi) p=true) (h2:movAll (sdF p) (drL bx by_)=true):gwB bx by_ lo hi p=true∧gwL bx by_ lo hi p=movL (growH bx by_ lo hi) p++movL (sdF p) (drL bx by_):=by
 rw [drL_all D] at h2
 unfold gwL gwB
 rw [h1,h2];exact ⟨rfl,if_pos rfl⟩
theorem gwL_ok {bx by_ lo hi:Int} {p:List Half} (D:DirIn bx by_):∀ g∈gwL bx by_ lo hi p,halfOk g=true:=by
 unfold gwL
 split
 ·rename_i h
  intro g hg
  rcases List.mem_append.1 hg with h1|h1
  ·exact movL_ok (fun _ _ _ e=>growH_ok e) (and_t1 h) g h1
  ·rw [drL_mov D] at h1
   exact sdL_ok (and_t2 h) g h1
 ·intro g hg;cases hg
theorem gwL_len {bx by_ lo hi:Int} {p:List Half} (h:p.length≤40):(gwL bx by_ lo hi p).length≤42:=by
 unfold gwL
 split
 ·rw [List.length_append,movL_len,movL_len]
  show p.length+2≤42
  omega
 ·exact Nat.zero_le _
theorem grwL_ok {bx by_ lo hi:Int} {p:List Half} (h:gwB bx by_ lo hi p=true):∀ g∈grwL bx by_ lo hi p,halfOk g=true:=by
 intro g hg
 rcases List.mem_append.1 hg with h1|h1
 ·exact sdL_ok (and_t2 h) g h1
 ·exact movL_ok (fun _ _ _ e=>growH_ok e) (and_t1 h) g h1
theorem gw_meet {bx by_ lo hi:Int} {p:List Half} (D:DirIn bx by_) (h:gwB bx by_ lo hi p=true):meetL (gwL bx by_ lo hi p)=meetL (grwL bx by_ lo hi p):=by
 refine meetL_ext (gwL_ok D) (grwL_ok h) (fun x=>?_)
 unfold gwL grwL
 rw [if_pos h,drL_mov D,List.mem_append,List.mem_append]
 exact Or.comm
def gaOk (bx by_ lo hi:Int) (p:List Half):Bool:=decide (p.length≤38)&&grwOk bx by_ lo hi p
def gaR (bx by_ lo hi:Int) (p:List Half):List Half:=if p.length≤38 then grwR bx by_ lo hi p else []
theorem ga_no {bx by_ lo hi:Int} {p:List Half} (h:¬ p.length≤38):gaOk bx by_ lo hi p=false∧gaR bx by_ lo hi p=[]:=by
 unfold gaOk gaR
 rw [decide_eq_false h,if_neg h];exact ⟨rfl,rfl⟩
theorem ga_yes {bx by_ lo hi:Int} {p:List Half} (h:p.length≤38):gaOk bx by_ lo hi p=grwOk bx by_ lo hi p∧gaR bx by_ lo hi p=grwR bx by_ lo hi p:=by
 unfold gaOk gaR
 rw [decide_eq_true h,if_pos h];exact ⟨rfl,rfl⟩
theorem ga_bad {bx by_ lo hi:Int} {p:List Half} (h:growT p bx by_=false) (hg:gwB bx by_ lo hi p=false):grwOk bx by_ lo hi p=false∧grwR bx by_ lo hi p=[]:=by
 unfold gwB at hg
 rcases Bool.eq_false_or_eq_true (movAll (growH bx by_ lo hi) p) with h1|h1
 ·rw [h1,Bool.true_and] at hg;exact grow_side h hg
 ·exact grow_stop h h1
theorem ga_fit {bx by_ lo hi:Int} {p:List Half} (D:DirIn bx by_) (h:growT p bx by_=false) (hg:gwB bx by_ lo hi p=true):grwOk bx by_ lo hi p=meetOk (meetL (gwL bx by_ lo hi p))∧grwR bx by_ lo hi p=meetR (meetL (gwL bx by_ lo hi p)):=by
 rw [gw_meet D hg]
 exact grow_all h (and_t2 hg) (and_t1 hg)
theorem litEl {α:Type} {T sz g:Nat} {enc:α→List Value} {w:World} {xs:List α} (hsz:∀ x,(enc x).length=sz) (h:HasT w g T (xs.flatMap enc)) (hn:0<xs.length) (hm:xs.length≤1000000):ElS w g 0 sz enc xs:=by
 obtain ⟨b,o,e,f⟩:=ElS.open_ ((New.lit hsz h (Nat.zero_le _) hm).out hsz) hn
 cases e;exact f
theorem sTopD_c {p:List Half} (d:Half) (w:World) (hp:regionOk p=true) (hne:p≠[]) (D:DirH d) :
 Calls Tryz.prog 194 #[.int .i64 d.a,.int .i64 d.b,ratioV (sup p d.a d.b)] w fun e w'=>e=.returned (optHalfV (sdF p d))∧Below w.heap.size w w':=by
 have ha:=D.a
 have hb:=D.b
 unfold sdF
 rw [← topH_sd hp hne ha hb D.nz]
 exact sTop_c _ _ _ w ⟨by omega,by omega⟩ ⟨by omega,by omega⟩ (supR hp hne ⟨by omega,by omega⟩ ⟨by omega,by omega⟩).ok
set_option maxRecDepth 100000 in
set_option maxHeartbeats 4000000 in
theorem sGrown_c (p:List Half) (bx by_ lo hi:Int) (a:SlA) (w:World) (hp:regionOk p=true) (hne:p≠[]) (D:DrvIn bx by_ lo hi) (hnz:¬ (bx=0∧by_=0)) (hsp:Sl 3 halfC w a.A p) :
 Calls Tryz.prog 216 #[.agg #[.slice a.A p.length a.c],.int .i64 bx,.int .i64 by_,.int .i64 lo,.int .i64 hi] w fun x w'=>∃ A c,x=.returned (.tuple #[.slice A (gwL bx by_ lo hi p).length c,.bool (gwB bx by_ lo hi p)])∧New 111 3 halfC w' w.heap.size (.slice A (gwL bx by_ lo hi p).length c) (gwL bx by_ lo hi p)∧Below w.heap.size w w':=by
 have hlp:=reg_len hp
 have hDlo:=D.lw
 have hDhi:=D.hw
 have hD:DirIn bx by_:=⟨D.x,D.y,hnz⟩
 have hO:=dirOk hD
 have hDx:=D.x
 have hDy:=D.y
 obtain ⟨i0h,hi0h,hz0h,hz1h,hz2h⟩:=info_parts (show (Tryz.prog.info? 111).map (fun i=>(i.zero,i.size,i.bytes))=some (some (.agg #[.int .i64 0,.int .i64 0,.int .i64 0]),3,24) by kernel_rfl)
 refine calls_v Tryz.func216 rfl (n:=120) Tryz.ntmps216 (by simp) ?_
 intro a0 hz hdf ha
 have s0:a0.tmps[0]?.getD undef=.agg #[.slice a.A p.length a.c]:=ha 0 _ rfl;have s1:a0.tmps[1]?.getD undef=.int .i64 bx:=ha 1 _ rfl;have s2:a0.tmps[2]?.getD undef=.int .i64 by_:=ha 2 _ rfl;have s3:a0.tmps[3]?.getD undef=.int .i64 lo:=ha 3 _ rfl;have s4:a0.tmps[4]?.getD undef=.int .i64 hi:=ha 4 _ rfl;clear ha
 have hB:=Below.refl w.heap.size w
 have hZ:=Nat.le_refl w.heap.size
 refine wp_seq ?_
 refine wp_entry [5,10,11] [.pointer (some ⟨w.heap.size,0,none⟩),.slice none 0 0,.bool false] [some (.cells [.slice a.A p.length a.c].toArray 37),none,none] [0,1,1] [5,10,11] [0,1,2] (by kernel_rfl) (by rw [hz];decide) (ec ?_ (ec ?_ (ec ?_ .nil))) ?_
 ·intro a w' hF hs N Q hN;simp [go_sem,hF.g rfl s0];rw [hs];exact hN
 ·intro a w' hF hs N Q hN;simp [go_sem];exact hN
 ·intro a w' hF hs N Q hN;simp [go_sem];exact hN
 intro a1 w2 hF hV hb hO
 replace hz:=hF.size.trans hz;replace hdf:=hF.defers.trans hdf;replace s1:=hF.g rfl s1;replace s2:=hF.g rfl s2;replace s3:=hF.g rfl s3;replace s4:=hF.g rfl s4
 have s5:a1.tmps[5]?.getD undef=.pointer (some ⟨w.heap.size,0,none⟩):=hV 0 (by decide)
 have b3:HasT w2 w.heap.size 37 [.slice a.A p.length a.c]:=hO 0 _ rfl
 have hG:=b3.lt
 replace hB:=below_tr hB hb;have zw2:=Nat.le_trans hZ hb.size;replace hZ:=Nat.le_refl w2.heap.size;clear hF hV hb hO s0;refine th_n ?_;refine wp_seq ?_
 refine wp_regJ (by kernel_rfl) [25,12] [none,none] (dlR 2) [25,12] [0,1] [] (fun L aa ww=>(L 0=true→(fun ww v=>∃ A1 c1,v=.slice A1 0 c1∧New 111 3 halfC ww w2.heap.size (.slice A1 0 c1) []) ww (aa.tmps[25]?.getD undef))∧(L 1=true→(fun ww v=>∃ A1 c1,v=.slice A1 0 c1∧New 111 3 halfC ww w2.heap.size (.slice A1 0 c1) []) ww (aa.tmps[12]?.getD undef))) (by kernel_rfl) (by rw [hz];decide) ?_ (en rfl ?_ (en rfl ?_ .nil)) ?_
 ·exact fun _ h=>⟨(fun h=>by cases h),(fun h=>by cases h)⟩
 ·intro Lk ak ww H _ _ hN
  obtain ⟨x0,x1⟩:=H.x
  simp [go_sem]
  have f1:New 111 3 halfC (ww.alloc (.cells #[] 111)) w2.heap.size (.slice (some ⟨ww.heap.size,0,none⟩) 0 0) []:=(New.mk0 ww).mono H.k.size
  exact hN _ _ (H.k.alloc _) trivial ⟨(fun _=>by rw [put_get_self (H.f.lt (by rw [hz];decide))];exact ⟨_,_,rfl,f1⟩),(fun h=>by rw [put_ne' (by decide)];obtain ⟨A1',c1',e,f1'⟩:=x1 h;exact ⟨A1',c1',e,f1'.below (below_al bR _) leR⟩)⟩
 ·intro Lk ak ww H _ _ hN
  obtain ⟨x0,x1⟩:=H.x
  obtain ⟨A1,c1,ee0,f1⟩:=x0 (H.r 0 rfl)
  exact wp_assign rfl (ev ee0) (hN _ _ H.k trivial ⟨(fun h=>by rw [put_ne' (by decide)];obtain ⟨A1',c1',e,f1'⟩:=x0 h;exact ⟨A1',c1',e,f1'.below bR leR⟩),(fun _=>by rw [put_get_self (H.f.lt (by rw [hz];decide))];exact ⟨A1,c1,rfl,f1⟩)⟩)
 intro L a4 w5 hL hF hK hV hX
 obtain ⟨x0,x1⟩:=hX
 replace hz:=hF.Z hz;replace hdf:=hF.E hdf;replace s1:=hF.G s1;replace s2:=hF.G s2;replace s3:=hF.G s3;replace s4:=hF.G s4;replace s5:=hF.G s5;replace b3:=b3.k0 hK
 obtain ⟨A1,c1,s12,N1⟩:=x1 (hL 1 (by decide))
 have i1:∀ p,A1=some p→p.block<w5.heap.size:=fun p hp=>(N1.blk p hp).2;have zw5:=hK.size;replace hZ:=Nat.le_refl w5.heap.size;replace hB:=hK.below0 hB;clear hF hK hV hL x0 x1;refine th_n ?_;refine wp_seq ?_;refine wp_seq ?_
 refine wp_regJ (by kernel_rfl) [26,27,28,29] [some (.pointer (some ⟨w.heap.size,0,none⟩)),some (.slice a.A p.length a.c),some (.int .i64 (p.length:Int)),some (.int .i64 0)] (dlR 4) [26,27,28,29] [0,1,2,3] [] (fun _ _ _=>True) (by kernel_rfl) (by rw [hz];decide) ?_ (en rfl ?_ (en rfl ?_ (en rfl ?_ (en rfl ?_ .nil)))) ?_
 ·exact fun _ _=>trivial
 ·intro Lk ak ww H _ _ hN
  simp [go_sem,H.f.g rfl s5]
  exact (hN _ _ H.k rfl trivial)
 ·intro Lk ak ww H _ _ hN
  simp [go_sem,(gS ak 26 (H.d 0 rfl rfl)),(b3.k0 H.k).cell]
  exact (hN _ _ H.k rfl trivial)
 ·intro Lk ak ww H _ _ hN
  simp [go_sem,(gS ak 27 (H.d 1 rfl rfl))]
  exact (hN _ _ H.k rfl trivial)
 ·exact fun Lk ak ww H _ _ hN=>wp_move rfl rfl (hN _ _ H.k rfl trivial)
 intro L a6 w7 hL hF hK hV hX;replace hz:=hF.Z hz;replace hdf:=hF.E hdf;replace s1:=hF.G s1;replace s2:=hF.G s2;replace s3:=hF.G s3;replace s4:=hF.G s4;replace s5:=hF.G s5;replace s12:=hF.G s12;have s27:=gS a6 27 (hV 1 _ rfl);have s28:=gS a6 28 (hV 2 _ rfl);have s29:=gS a6 29 (hV 3 _ rfl);replace b3:=b3.k0 hK;replace N1:=N1.below hK.toBelow leR;replace hZ:=Nat.le_trans hZ hK.size;replace hB:=hK.below0 hB;clear hF hK hV hL hX;refine th_n ?_;refine wp_block ?_
 refine wp_loop (fun al wl=>al.tmps.size=120∧al.defers=[]∧∃ (k:Nat) (A2:Option Addr) (c2:Nat),(k≤p.length)∧(movAll (growH bx by_ lo hi) (p.take k)=true)∧al.tmps[1]?.getD undef=.int .i64 bx∧al.tmps[2]?.getD undef=.int .i64 by_∧al.tmps[3]?.getD undef=.int .i64 lo∧al.tmps[4]?.getD undef=.int .i64 hi∧al.tmps[5]?.getD undef=.pointer (some ⟨w.heap.size,0,none⟩)∧al.tmps[12]?.getD undef=.slice A2 ((movL (growH bx by_ lo hi) (p.take k)).length) c2∧al.tmps[27]?.getD undef=.slice a.A p.length a.c∧al.tmps[28]?.getD undef=.int .i64 (p.length:Int)∧al.tmps[29]?.getD undef=.int .i64 (k:Int)∧HasT wl w.heap.size 37 [.slice a.A p.length a.c]∧New 111 3 halfC wl w2.heap.size (.slice A2 (movL (growH bx by_ lo hi) (p.take k)).length c2) (movL (growH bx by_ lo hi) (p.take k))∧Below w.heap.size w wl∧w5.heap.size≤wl.heap.size) (fun al _=>(p.length-(intOf (al.tmps[29]?.getD undef)).toNat)) ?_ ?_
 ·exact ⟨hz,hdf,(0),(A1),(c1),(Nat.zero_le _),(rfl),s1,s2,s3,s4,s5,s12,s27,s28,s29,b3,(N1),hB,(by omega)⟩
 clear hz hdf hB hZ s1 s2 s3 s4 s5 s12 s27 s28 s29 b3 N1
 rintro a8 w9 ⟨hz,hdf,k,A2,c2,hk,hall,s1,s2,s3,s4,s5,s12,s27,s28,s29,b3,N2,hB,hZ⟩
 have zw9:=hZ;replace hZ:=Nat.le_refl w9.heap.size;have i2:∀ p,A2=some p→p.block<w9.heap.size:=fun p hp=>(N2.blk p hp).2
 have hmu:(p.length-(intOf (a8.tmps[29]?.getD undef)).toNat)=(p.length-(intOf ((.int .i64 (k:Int)))).toNat):=by rw [s29]
 refine wp_seq ?_
 refine wp_regJ (by kernel_rfl) [30] [some (.bool (decide ((k:Int)<(p.length:Int))))] (dlR 1) [30] [0] [] (fun _ _ _=>True) (by kernel_rfl) (by rw [hz];decide) ?_ (en rfl ?_ .nil) ?_
 ·exact fun _ _=>trivial
 ·exact fun Lk ak ww H _ _ hN=>wp_bin rfl (ev (H.f.g rfl s29)) (ev (H.f.g rfl s28)) rfl rfl (hN _ _ H.k rfl trivial)
 intro L a10 w11 hL hF hK hV hX;replace hz:=hF.Z hz;replace hdf:=hF.E hdf;replace s1:=hF.G s1;replace s2:=hF.G s2;replace s3:=hF.G s3;replace s4:=hF.G s4;replace s5:=hF.G s5;replace s12:=hF.G s12;replace s27:=hF.G s27;replace s28:=hF.G s28;replace s29:=hF.G s29;have s30:=gS a10 30 (hV 0 _ rfl);replace b3:=b3.k0 hK;replace N2:=N2.below hK.toBelow leR;replace hZ:=Nat.le_trans hZ hK.size;replace hB:=hK.below0 hB;clear hF hK hV hL hX;refine th_n ?_;refine wp_seq ?_
 rcases Bool.eq_false_or_eq_true (decide ((k:Int)<(p.length:Int))) with q12|q12
 ·skip
  have hkl:k<p.length:=by have:=dec_t q12;omega
  obtain ⟨bp,op,ep,fp⟩:=ElS.open_ (hsp.below hB) (by omega)
  have hh:=getD_halfOk hkl hp
  obtain ⟨⟨k1,k2⟩,⟨k3,k4⟩,⟨k5,k6⟩,⟨k7,k8⟩⟩:=growB D hh
  obtain ⟨⟨h1,h2⟩,⟨h3,h4⟩,⟨h5,h6⟩,_⟩:=halfOk_iff.1 hh
  refine wp_cond_true (ev (vb s30 q12)) ?_
  refine wp_skip ?_;refine th_n ?_;refine wp_seq ?_;refine wp_block ?_;refine wp_seq ?_
  have hXb:StaysX [14] (fun L aa ww=>(L 2=true→BoxX w11 aa ww 14 111 [.int .i64 0,.int .i64 0,.int .i64 0] (L 3) (fun _ vs=>vs=[.int .i64 ((p.getD k half0).a),.int .i64 ((p.getD k half0).b),.int .i64 ((p.getD k half0).c)]))):=by
   intro L aa ww w' kk vv hkk hb hX
   have x0:=hX
   exact (fun h=>((x0 h).bel hb (fun _ h=>h)).put (hkk 14 (by simp)) _)
  refine wp_regK hXb (by kernel_rfl) [31,32,14,0] [some (.pointer (some ⟨bp,op+k*3,none⟩)),some (halfV (p.getD k half0)),none,none] (dlR 4) [31,32,14] [0,1,2,3] [] (by kernel_rfl) (by rw [hz];decide) ?_ (en rfl ?_ (en rfl ?_ (en rfl ?_ (en rfl ?_ .nil)))) ?_
  ·exact fun _ h=>(fun h=>by cases h)
  ·intro Lk ak ww H _ _ hN
   simp [go_sem,H.f.g rfl s27,H.f.g rfl s29,hkl,ep]
   exact (hN _ _ H.k rfl (hXb.q rfl H.x))
  ·intro Lk ak ww H _ _ hN
   have hE:=fp.kp H.k (by simp)
   simp [go_sem,(gS ak 31 (H.d 0 rfl rfl)),(hE.at_ half0 (i:=k) (by omega) 0 (p:=op+k*3) (by omega) rfl),(hE.at_ half0 (i:=k) (by omega) 1 (p:=op+k*3+1) (by omega) rfl),(hE.at_ half0 (i:=k) (by omega) 2 (p:=op+k*3+2) (by omega) rfl)]
   exact (hN _ _ H.k rfl (hXb.q rfl H.x))
  ·intro Lk ak ww H _ _ hN
   have x0:=H.x
   simp [go_sem]
   exact hN _ _ (H.k.alloc _) trivial (fun _=>by rw [show upd Lk 2 3=false from H.t 3 rfl];exact BoxX.new (s:=14) (H.f.lt (by rw [hz];decide)) H.k.size [.int .i64 0,.int .i64 0,.int .i64 0])
  ·intro Lk ak ww H _ _ hN
   have x0:=H.x
   obtain ⟨g,eg,hg,y,_⟩:=x0 (H.r 2 rfl)
   have HT:=y H.n
   simp [go_sem,(gS ak 32 (H.d 1 rfl rfl)),eg,HT.cell,HT.frz]
   exact hN undef _ (H.k.store (.inl hg) [.int .i64 ((p.getD k half0).a),.int .i64 ((p.getD k half0).b),.int .i64 ((p.getD k half0).c)] 0) trivial (fun _=>BoxX.set eg hg HT (us:=[.int .i64 ((p.getD k half0).a),.int .i64 ((p.getD k half0).b),.int .i64 ((p.getD k half0).c)]) rfl rfl)
  intro L a13 w14 hL hF hK hV hX;have x0:=hX;replace hz:=hF.Z hz;replace hdf:=hF.E hdf;replace s1:=hF.G s1;replace s2:=hF.G s2;replace s3:=hF.G s3;replace s4:=hF.G s4;replace s5:=hF.G s5;replace s12:=hF.G s12;replace s27:=hF.G s27;replace s28:=hF.G s28;replace s29:=hF.G s29;replace b3:=b3.k0 hK
  obtain ⟨g15,s14,lg15,-,b15⟩:=x0 (hL 2 (by decide))
  obtain ⟨_,b15,rfl⟩:=b15 (hL 3 (by decide))
  have ug15:=b15.lt
  replace N2:=N2.below hK.toBelow leR;have zw11:=hZ;have zw14:=hK.size;replace hZ:=Nat.le_refl w14.heap.size;replace hB:=hK.below0 hB;clear hF hK hV hL x0 hXb s30 fp;refine th_n ?_;refine wp_seq ?_
  refine wp_regJ (by kernel_rfl) [33,34,35,36,37,38,39,40,41,15] [some (.pointer (some ⟨g15,0,none⟩)),some (.int .i64 ((p.getD k half0).a)),some (.int .i64 bx),some (.int .i64 (((p.getD k half0).a)*bx)),some (.pointer (some ⟨g15,1,none⟩)),some (.int .i64 ((p.getD k half0).b)),some (.int .i64 by_),some (.int .i64 (((p.getD k half0).b)*by_)),some (.int .i64 ((((p.getD k half0).a)*bx)+(((p.getD k half0).b)*by_))),some (.int .i64 ((((p.getD k half0).a)*bx)+(((p.getD k half0).b)*by_)))] (dlR 10) [33,34,35,36,37,38,39,40,41,15] [0,1,2,3,4,5,6,7,8,9] [] (fun _ _ _=>True) (by kernel_rfl) (by rw [hz];decide) ?_ (en rfl ?_ (en rfl ?_ (en rfl ?_ (en rfl ?_ (en rfl ?_ (en rfl ?_ (en rfl ?_ (en rfl ?_ (en rfl ?_ (en rfl ?_ .nil)))))))))) ?_
  ·exact fun _ _=>trivial
  ·intro Lk ak ww H _ _ hN
   simp [go_sem,H.f.g rfl s14]
   exact (hN _ _ H.k rfl trivial)
  ·intro Lk ak ww H _ _ hN
   simp [go_sem,(gS ak 33 (H.d 0 rfl rfl)),(b15.k0 H.k).cell]
   exact (hN _ _ H.k rfl trivial)
  ·exact fun Lk ak ww H _ _ hN=>wp_move rfl (ev (H.f.g rfl s1)) (hN _ _ H.k rfl trivial)
  ·exact fun Lk ak ww H _ _ hN=>wp_mul rfl (ev (H.d 1 rfl rfl)) (ev (H.d 2 rfl rfl)) (by omega) (hN _ _ H.k rfl trivial)
  ·intro Lk ak ww H _ _ hN
   simp [go_sem,H.f.g rfl s14]
   exact (hN _ _ H.k rfl trivial)
  ·intro Lk ak ww H _ _ hN
   simp [go_sem,(gS ak 37 (H.d 4 rfl rfl)),(b15.k0 H.k).cell]
   exact (hN _ _ H.k rfl trivial)
  ·exact fun Lk ak ww H _ _ hN=>wp_move rfl (ev (H.f.g rfl s2)) (hN _ _ H.k rfl trivial)
  ·exact fun Lk ak ww H _ _ hN=>wp_mul rfl (ev (H.d 5 rfl rfl)) (ev (H.d 6 rfl rfl)) (by omega) (hN _ _ H.k rfl trivial)
  ·exact fun Lk ak ww H _ _ hN=>wp_add rfl (ev (H.d 3 rfl rfl)) (ev (H.d 7 rfl rfl)) (by omega) (hN _ _ H.k rfl trivial)
  ·exact fun Lk ak ww H _ _ hN=>wp_assign rfl (ev (H.d 8 rfl rfl)) (hN _ _ H.k rfl trivial)
  intro L a16 w17 hL hF hK hV hX;replace hz:=hF.Z hz;replace hdf:=hF.E hdf;replace s1:=hF.G s1;replace s2:=hF.G s2;replace s3:=hF.G s3;replace s4:=hF.G s4;replace s5:=hF.G s5;replace s12:=hF.G s12;replace s27:=hF.G s27;replace s28:=hF.G s28;replace s29:=hF.G s29;replace s14:=hF.G s14;have s15:=gS a16 15 (hV 9 _ rfl);replace b3:=b3.k0 hK;replace b15:=b15.k0 hK;replace N2:=N2.below hK.toBelow leR;replace hZ:=Nat.le_trans hZ hK.size;replace hB:=hK.below0 hB;clear hF hK hV hL hX;refine th_n ?_;refine wp_seq ?_
  have hXb:StaysX [16] (fun L aa ww=>(L 20=true→BoxX w17 aa ww 16 111 [.int .i64 0,.int .i64 0,.int .i64 0] (L 21) (fun _ vs=>vs=[.int .i64 (((growH bx by_ lo hi (p.getD k half0)).getD half0).a),.int .i64 (((growH bx by_ lo hi (p.getD k half0)).getD half0).b),.int .i64 (((growH bx by_ lo hi (p.getD k half0)).getD half0).c)]))):=by
   intro L aa ww w' kk vv hkk hb hX
   have x0:=hX
   exact (fun h=>((x0 h).bel hb (fun _ h=>h)).put (hkk 16 (by simp)) _)
  refine wp_regK hXb (by kernel_rfl) [43,44,45,46,47,48,49,50,51,52,53,54,55,56,57,58,59,42,60,61,16,0,17] [some (.pointer (some ⟨g15,0,none⟩)),some (.int .i64 ((p.getD k half0).a)),some (.pointer (some ⟨g15,1,none⟩)),some (.int .i64 ((p.getD k half0).b)),some (.pointer (some ⟨g15,2,none⟩)),some (.int .i64 ((p.getD k half0).c)),some (.int .i64 lo),some (.int .i64 (-lo)),some (.int .i64 ((((p.getD k half0).a)*bx)+(((p.getD k half0).b)*by_))),some (.int .i64 ((-lo)*((((p.getD k half0).a)*bx)+(((p.getD k half0).b)*by_)))),some (.int .i64 hi),some (.int .i64 (-hi)),some (.int .i64 ((((p.getD k half0).a)*bx)+(((p.getD k half0).b)*by_))),some (.int .i64 ((-hi)*((((p.getD k half0).a)*bx)+(((p.getD k half0).b)*by_)))),some (.int .i64 (max ((-lo)*((((p.getD k half0).a)*bx)+(((p.getD k half0).b)*by_))) ((-hi)*((((p.getD k half0).a)*bx)+(((p.getD k half0).b)*by_))))),some (.int .i64 (((p.getD k half0).c)+(max ((-lo)*((((p.getD k half0).a)*bx)+(((p.getD k half0).b)*by_))) ((-hi)*((((p.getD k half0).a)*bx)+(((p.getD k half0).b)*by_)))))),some (.tuple #[halfV ((growH bx by_ lo hi (p.getD k half0)).getD half0),.bool ((growH bx by_ lo hi (p.getD k half0)).isSome)]),some (.tuple #[halfV ((growH bx by_ lo hi (p.getD k half0)).getD half0),.bool ((growH bx by_ lo hi (p.getD k half0)).isSome)]),some (halfV ((growH bx by_ lo hi (p.getD k half0)).getD half0)),some (.bool ((growH bx by_ lo hi (p.getD k half0)).isSome)),none,none,some (.bool ((growH bx by_ lo hi (p.getD k half0)).isSome))] (dlR 23) [43,44,45,46,47,48,49,50,51,52,53,54,55,56,57,58,59,42,60,61,16,17] [0,1,2,3,4,5,6,7,8,9,10,11,12,13,14,15,16,17,18,19,20,21,22] [] (by kernel_rfl) (by rw [hz];decide) ?_ (en rfl ?_ (en rfl ?_ (en rfl ?_ (en rfl ?_ (en rfl ?_ (en rfl ?_ (en rfl ?_ (en rfl ?_ (en rfl ?_ (en rfl ?_ (en rfl ?_ (en rfl ?_ (en rfl ?_ (en rfl ?_ (en rfl ?_ (en rfl ?_ (en rfl ?_ (en rfl ?_ (en rfl ?_ (en rfl ?_ (en rfl ?_ (en rfl ?_ (en rfl ?_ .nil))))))))))))))))))))))) ?_
  ·exact fun _ h=>(fun h=>by cases h)
  ·intro Lk ak ww H _ _ hN
   simp [go_sem,H.f.g rfl s14]
   exact (hN _ _ H.k rfl (hXb.q rfl H.x))
  ·intro Lk ak ww H _ _ hN
   simp [go_sem,(gS ak 43 (H.d 0 rfl rfl)),(b15.k0 H.k).cell]
   exact (hN _ _ H.k rfl (hXb.q rfl H.x))
  ·intro Lk ak ww H _ _ hN
   simp [go_sem,H.f.g rfl s14]
   exact (hN _ _ H.k rfl (hXb.q rfl H.x))
  ·intro Lk ak ww H _ _ hN
   simp [go_sem,(gS ak 45 (H.d 2 rfl rfl)),(b15.k0 H.k).cell]
   exact (hN _ _ H.k rfl (hXb.q rfl H.x))
  ·intro Lk ak ww H _ _ hN
   simp [go_sem,H.f.g rfl s14]
   exact (hN _ _ H.k rfl (hXb.q rfl H.x))
  ·intro Lk ak ww H _ _ hN
   simp [go_sem,(gS ak 47 (H.d 4 rfl rfl)),(b15.k0 H.k).cell]
   exact (hN _ _ H.k rfl (hXb.q rfl H.x))
  ·exact fun Lk ak ww H _ _ hN=>wp_move rfl (ev (H.f.g rfl s3)) (hN _ _ H.k rfl (hXb.q rfl H.x))
  ·exact fun Lk ak ww H _ _ hN=>wp_neg rfl (ev (H.d 6 rfl rfl)) (by omega) (hN _ _ H.k rfl (hXb.q rfl H.x))
  ·exact fun Lk ak ww H _ _ hN=>wp_move rfl (ev (H.f.g rfl s15)) (hN _ _ H.k rfl (hXb.q rfl H.x))
  ·exact fun Lk ak ww H _ _ hN=>wp_mul rfl (ev (H.d 7 rfl rfl)) (ev (H.d 8 rfl rfl)) (by omega) (hN _ _ H.k rfl (hXb.q rfl H.x))
  ·exact fun Lk ak ww H _ _ hN=>wp_move rfl (ev (H.f.g rfl s4)) (hN _ _ H.k rfl (hXb.q rfl H.x))
  ·exact fun Lk ak ww H _ _ hN=>wp_neg rfl (ev (H.d 10 rfl rfl)) (by omega) (hN _ _ H.k rfl (hXb.q rfl H.x))
  ·exact fun Lk ak ww H _ _ hN=>wp_move rfl (ev (H.f.g rfl s15)) (hN _ _ H.k rfl (hXb.q rfl H.x))
  ·exact fun Lk ak ww H _ _ hN=>wp_mul rfl (ev (H.d 11 rfl rfl)) (ev (H.d 12 rfl rfl)) (by omega) (hN _ _ H.k rfl (hXb.q rfl H.x))
  ·intro Lk ak ww H _ _ hN
   simp [go_sem,(gS ak 52 (H.d 9 rfl rfl)),(gS ak 56 (H.d 13 rfl rfl))]
   exact (hN _ _ H.k rfl (hXb.q rfl H.x))
  ·exact fun Lk ak ww H _ _ hN=>wp_add rfl (ev (H.d 5 rfl rfl)) (ev (H.d 14 rfl rfl)) (by omega) (hN _ _ H.k rfl (hXb.q rfl H.x))
  ·intro Lk ak ww H _ _ hN
   simp [go_sem,(gS ak 44 (H.d 1 rfl rfl)),(gS ak 46 (H.d 3 rfl rfl)),(gS ak 58 (H.d 15 rfl rfl))]
   refine (show Calls Tryz.prog 128 #[.int .i64 (p.getD k half0).a,.int .i64 (p.getD k half0).b,.int .i64 ((p.getD k half0).c+max (-lo*((p.getD k half0).a*bx+(p.getD k half0).b*by_)) (-hi*((p.getD k half0).a*bx+(p.getD k half0).b*by_)))] ww (fun e w'=>e=.returned (optHalfV (growH bx by_ lo hi (p.getD k half0)))∧Below ww.heap.size ww w') from sHalfOf_c _ _ _ ww ⟨by omega,by omega⟩ ⟨by omega,by omega⟩ ⟨by omega,by omega⟩).mono ?_
   rintro x wx ⟨rfl,hb⟩
   exact (hN _ _ (H.k.call hb) (optHalf_eq _) (hXb.b rfl hb H.x))
  ·exact fun Lk ak ww H _ _ hN=>wp_move rfl (ev (H.d 16 rfl rfl)) (hN _ _ H.k rfl (hXb.q rfl H.x))
  ·exact fun Lk ak ww H _ _ hN=>wp_extract rfl (ev (H.d 17 rfl rfl)) rfl (hN _ _ H.k rfl (hXb.q rfl H.x))
  ·exact fun Lk ak ww H _ _ hN=>wp_extract rfl (ev (H.d 17 rfl rfl)) rfl (hN _ _ H.k rfl (hXb.q rfl H.x))
  ·intro Lk ak ww H _ _ hN
   have x0:=H.x
   simp [go_sem]
   exact hN _ _ (H.k.alloc _) trivial (fun _=>by rw [show upd Lk 20 21=false from H.t 21 rfl];exact BoxX.new (s:=16) (H.f.lt (by rw [hz];decide)) H.k.size [.int .i64 0,.int .i64 0,.int .i64 0])
  ·intro Lk ak ww H _ _ hN
   have x0:=H.x
   obtain ⟨g,eg,hg,y,_⟩:=x0 (H.r 20 rfl)
   have HT:=y H.n
   simp [go_sem,(gS ak 60 (H.d 18 rfl rfl)),eg,HT.cell,HT.frz]
   exact hN undef _ (H.k.store (.inl hg) [.int .i64 (((growH bx by_ lo hi (p.getD k half0)).getD half0).a),.int .i64 (((growH bx by_ lo hi (p.getD k half0)).getD half0).b),.int .i64 (((growH bx by_ lo hi (p.getD k half0)).getD half0).c)] 0) trivial (fun _=>BoxX.set eg hg HT (us:=[.int .i64 (((growH bx by_ lo hi (p.getD k half0)).getD half0).a),.int .i64 (((growH bx by_ lo hi (p.getD k half0)).getD half0).b),.int .i64 (((growH bx by_ lo hi (p.getD k half0)).getD half0).c)]) rfl rfl)
  ·exact fun Lk ak ww H _ _ hN=>wp_assign rfl (ev (H.d 19 rfl rfl)) (hN _ _ H.k rfl (hXb.q rfl H.x))
  intro L a18 w19 hL hF hK hV hX;have x0:=hX;replace hz:=hF.Z hz;replace hdf:=hF.E hdf;replace s1:=hF.G s1;replace s2:=hF.G s2;replace s3:=hF.G s3;replace s4:=hF.G s4;replace s5:=hF.G s5;replace s12:=hF.G s12;replace s27:=hF.G s27;replace s28:=hF.G s28;replace s29:=hF.G s29;have s17:=gS a18 17 (hV 22 _ rfl);replace b3:=b3.k0 hK
  obtain ⟨g20,s16,lg20,-,b20⟩:=x0 (hL 20 (by decide))
  obtain ⟨_,b20,rfl⟩:=b20 (hL 21 (by decide))
  have ug20:=b20.lt
  replace N2:=N2.below hK.toBelow leR;have zw17:=hZ;have zw19:=hK.size;replace hZ:=Nat.le_refl w19.heap.size;replace hB:=hK.below0 hB;clear hF hK hV hL x0 hXb s14 s15 b15;refine th_n ?_;refine wp_seq ?_;refine wp_seq ?_
  refine wp_regJ (by kernel_rfl) [62,63] [some (.bool ((growH bx by_ lo hi (p.getD k half0)).isSome)),some (.bool (!((growH bx by_ lo hi (p.getD k half0)).isSome)))] (dlR 2) [62,63] [0,1] [] (fun _ _ _=>True) (by kernel_rfl) (by rw [hz];decide) ?_ (en rfl ?_ (en rfl ?_ .nil)) ?_
  ·exact fun _ _=>trivial
  ·exact fun Lk ak ww H _ _ hN=>wp_move rfl (ev (H.f.g rfl s17)) (hN _ _ H.k rfl trivial)
  ·exact fun Lk ak ww H _ _ hN=>wp_not rfl (ev (H.d 0 rfl rfl)) (hN _ _ H.k rfl trivial)
  intro L a21 w22 hL hF hK hV hX;replace hz:=hF.Z hz;replace hdf:=hF.E hdf;replace s1:=hF.G s1;replace s2:=hF.G s2;replace s3:=hF.G s3;replace s4:=hF.G s4;replace s5:=hF.G s5;replace s12:=hF.G s12;replace s27:=hF.G s27;replace s28:=hF.G s28;replace s29:=hF.G s29;replace s16:=hF.G s16;have s63:=gS a21 63 (hV 1 _ rfl);replace b3:=b3.k0 hK;replace b20:=b20.k0 hK;replace N2:=N2.below hK.toBelow leR;replace hZ:=Nat.le_trans hZ hK.size;replace hB:=hK.below0 hB;clear hF hK hV hL hX s17;refine th_n ?_
  rcases Bool.eq_false_or_eq_true (!((growH bx by_ lo hi (p.getD k half0)).isSome)) with q23|q23
  ·skip
   refine wp_cond_true (ev (vb s63 q23)) ?_
   refine wp_seq ?_
   refine wp_regJ (by kernel_rfl) [10,11] [some (.slice none 0 0),some (.bool false)] (dlR 2) [10,11] [0,1] [] (fun _ _ _=>True) (by kernel_rfl) (by rw [hz];decide) ?_ (en rfl ?_ (en rfl ?_ .nil)) ?_
   ·exact fun _ _=>trivial
   ·exact fun Lk ak ww H _ _ hN=>wp_assign rfl rfl (hN _ _ H.k rfl trivial)
   ·exact fun Lk ak ww H _ _ hN=>wp_assign rfl rfl (hN _ _ H.k rfl trivial)
   intro L a24 w25 hL hF hK hV hX;replace hz:=hF.Z hz;replace hdf:=hF.E hdf;have s10:=gS a24 10 (hV 0 _ rfl);have s11:=gS a24 11 (hV 1 _ rfl);replace hZ:=Nat.le_trans hZ hK.size;replace hB:=hK.below0 hB;clear hF hK hV hL hX s1 s2 s3 s4 s5 s12 s27 s28 s29 s16 s63 b3 b20 N2 i2;refine th_n ?_
   refine wp_ret ?_
   refine th_r (ib_r (th_r (th_r (ib_r (th_r ?_)))))
   refine bodyPost_ret (v:=.tuple #[.slice none 0 0,.bool false]) (by simp [results,Tryz.results216,go_sem,s10,s11]) hdf ?_
   have h0:=gw_no1 (movAll_stop hkl (not_t q23))
   exact ⟨none,0,by rw [h0.1,h0.2];rfl,by rw [h0.2];exact New.nilN _ _ _ _ _,hB⟩
  ·skip
   refine wp_cond_false (ev (vb s63 q23)) ?_
   refine wp_skip ?_;refine th_n ?_
   have hXb:StaysX [12,66,67] (fun L aa ww=>(L 2=true→(fun ww v=>∃ g3,v=.slice (some ⟨g3,0,none⟩) 1 1∧HasT ww g3 111 [.int .i64 (((growH bx by_ lo hi (p.getD k half0)).getD half0).a),.int .i64 (((growH bx by_ lo hi (p.getD k half0)).getD half0).b),.int .i64 (((growH bx by_ lo hi (p.getD k half0)).getD half0).c)]∧w22.heap.size≤g3) ww (aa.tmps[66]?.getD undef))∧(L 3=true→(fun ww v=>∃ A4 c4,v=.slice A4 (((movL (growH bx by_ lo hi) (p.take k))++[((growH bx by_ lo hi (p.getD k half0)).getD half0)]).length) c4∧New 111 3 halfC ww w2.heap.size (.slice A4 ((movL (growH bx by_ lo hi) (p.take k))++[((growH bx by_ lo hi (p.getD k half0)).getD half0)]).length c4) ((movL (growH bx by_ lo hi) (p.take k))++[((growH bx by_ lo hi (p.getD k half0)).getD half0)])) ww (aa.tmps[67]?.getD undef))∧(L 4=true→(fun ww v=>∃ A4 c4,v=.slice A4 (((movL (growH bx by_ lo hi) (p.take k))++[((growH bx by_ lo hi (p.getD k half0)).getD half0)]).length) c4∧New 111 3 halfC ww w2.heap.size (.slice A4 ((movL (growH bx by_ lo hi) (p.take k))++[((growH bx by_ lo hi (p.getD k half0)).getD half0)]).length c4) ((movL (growH bx by_ lo hi) (p.take k))++[((growH bx by_ lo hi (p.getD k half0)).getD half0)])) ww (aa.tmps[12]?.getD undef))∧(L 3=false→New 111 3 halfC ww w2.heap.size (.slice A2 (movL (growH bx by_ lo hi) (p.take k)).length c2) (movL (growH bx by_ lo hi) (p.take k)))∧(L 4=false→aa.tmps[12]?.getD undef=.slice A2 ((movL (growH bx by_ lo hi) (p.take k)).length) c2)):=by
    intro L aa ww w' kk vv hkk hb hX
    obtain ⟨x0,x1,x2,x3,x4⟩:=hX
    exact ⟨(fun h=>by rw [put_ne' (hkk 66 (by simp))];obtain ⟨g3',e,f3'⟩:=x0 h;exact ⟨g3',e,⟨f3'.1.bel hb,f3'.2⟩⟩),(fun h=>by rw [put_ne' (hkk 67 (by simp))];obtain ⟨A4',c4',e,f4'⟩:=x1 h;exact ⟨A4',c4',e,f4'.below hb leR⟩),(fun h=>by rw [put_ne' (hkk 12 (by simp))];obtain ⟨A4',c4',e,f4'⟩:=x2 h;exact ⟨A4',c4',e,f4'.below hb leR⟩),(fun h=>(x3 h).below hb leR),(fun h=>(put_ne' (hkk 12 (by simp)) vv).trans (x4 h))⟩
   refine wp_regK hXb (by kernel_rfl) [64,65,66,67,12] [some (.slice A2 ((movL (growH bx by_ lo hi) (p.take k)).length) c2),some (halfV ((growH bx by_ lo hi (p.getD k half0)).getD half0)),none,none,none] (dlR 5) [64,65,66,67,12] [0,1,2,3,4] (blkL A2) (by kernel_rfl) (by rw [hz];decide) ?_ (en rfl ?_ (en rfl ?_ (en rfl ?_ (en rfl ?_ (en rfl ?_ .nil))))) ?_
   ·exact fun _ h=>⟨(fun h=>by cases h),(fun h=>by cases h),(fun h=>by cases h),(fun _=>N2.below h.toBelow leR),(fun _=>s12)⟩
   ·intro Lk ak ww H _ _ hN
    obtain ⟨x0,x1,x2,x3,x4⟩:=H.x
    exact wp_move rfl (ev (x4 (H.t 4 rfl))) (hN _ _ H.k rfl (hXb.q rfl H.x))
   ·intro Lk ak ww H _ _ hN
    simp [go_sem,H.f.g rfl s16,(b20.kp H.k (blkL_nin (fun p hp=>by have q1:=N2.blk p hp;have q2:=i2 p hp;omega))).cell]
    exact (hN _ _ H.k rfl (hXb.q rfl H.x))
   ·intro Lk ak ww H _ _ hN
    obtain ⟨x0,x1,x2,x3,x4⟩:=H.x
    simp [go_sem,(gS ak 65 (H.d 1 rfl rfl))]
    have f3:HasT (ww.alloc (.cells #[.int .i64 (((growH bx by_ lo hi (p.getD k half0)).getD half0).a),.int .i64 (((growH bx by_ lo hi (p.getD k half0)).getD half0).b),.int .i64 (((growH bx by_ lo hi (p.getD k half0)).getD half0).c)] 111)) ww.heap.size 111 [.int .i64 (((growH bx by_ lo hi (p.getD k half0)).getD half0).a),.int .i64 (((growH bx by_ lo hi (p.getD k half0)).getD half0).b),.int .i64 (((growH bx by_ lo hi (p.getD k half0)).getD half0).c)]∧w22.heap.size≤ww.heap.size:=⟨HasT.new _ _ _,H.k.size⟩
    exact hN _ _ (H.k.alloc _) trivial ⟨(fun _=>by rw [put_get_self (H.f.lt (by rw [hz];decide))];exact ⟨_,rfl,f3⟩),(fun h=>by rw [put_ne' (by decide)];obtain ⟨A4',c4',e,f4'⟩:=x1 h;exact ⟨A4',c4',e,f4'.below (below_al bR _) leR⟩),(fun h=>by rw [put_ne' (by decide)];obtain ⟨A4',c4',e,f4'⟩:=x2 h;exact ⟨A4',c4',e,f4'.below (below_al bR _) leR⟩),(fun h=>(x3 h).below (below_al bR _) leR),(fun h=>(put_ne' (by decide) _).trans (x4 h))⟩
   ·intro Lk ak ww H _ _ hN
    obtain ⟨x0,x1,x2,x3,x4⟩:=H.x
    obtain ⟨g3,ee2,f3⟩:=x0 (H.r 2 rfl)
    refine wp_app1 halfC_len rfl w2.heap.size i0h _ 24 Tryz.underlying35 hi0h hz0h hz1h hz2h rfl (by decide) (ev (H.d 0 rfl rfl)) (x3 H.n) (ev ee2) (y:=((growH bx by_ lo hi (p.getD k half0)).getD half0)) f3.1 halfC_one (by have:=H.k.size;omega) (by first|(rw [List.length_append,movL_len,movL_len,List.length_take];show p.length+min k 2≤_;omega)|(rw [movL_len,List.length_take];omega)) (by decide) ?_
    intro A4 c4 wx f4 hG
    exact hN _ _ (H.k.trans2 hG (fun m h=>.inl h)) trivial ⟨(fun h=>by rw [put_ne' (by decide)];obtain ⟨g',e,f'⟩:=x0 h;exact ⟨g',e,f'.1.kp hG (blkL_nin (fun p hp=>by have q1:=N2.blk p hp;have q2:=f'.2;omega)),f'.2⟩),(fun _=>by rw [put_get_self (H.f.lt (by rw [hz];decide))];exact ⟨A4,c4,rfl,f4⟩),(fun h=>absurd (H.t 4 rfl) (by rw [show Lk 4=true by simpa [upd] using h];decide)),(fun h=>by simp [upd] at h),(fun h=>(put_ne' (by decide) _).trans (x4 h))⟩
   ·intro Lk ak ww H _ _ hN
    obtain ⟨x0,x1,x2,x3,x4⟩:=H.x
    obtain ⟨A4,c4,ee3,f4⟩:=x1 (H.r 3 rfl)
    exact wp_assign rfl (ev ee3) (hN _ _ H.k trivial ⟨(fun h=>by rw [put_ne' (by decide)];obtain ⟨g3',e,f3'⟩:=x0 h;exact ⟨g3',e,⟨f3'.1.bel bR,f3'.2⟩⟩),(fun h=>by rw [put_ne' (by decide)];obtain ⟨A4',c4',e,f4'⟩:=x1 h;exact ⟨A4',c4',e,f4'.below bR leR⟩),(fun _=>by rw [put_get_self (H.f.lt (by rw [hz];decide))];exact ⟨A4,c4,rfl,f4⟩),(fun h=>(x3 h).below bR leR),(fun h=>by simp [upd] at h)⟩)
   intro L a26 w27 hL hF hK hV hX
   obtain ⟨x0,x1,x2,x3,x4⟩:=hX
   replace hz:=hF.Z hz;replace hdf:=hF.E hdf
   have hB9:=hK.below hB hB.size (fun m hm=>by obtain ⟨p,hp,rfl⟩:=blkL_in hm;have q1:=N2.blk p hp;have q2:=i2 p hp;omega)
   replace s1:=hF.G s1;replace s2:=hF.G s2;replace s3:=hF.G s3;replace s4:=hF.G s4;replace s5:=hF.G s5;replace s27:=hF.G s27;replace s28:=hF.G s28;replace s29:=hF.G s29
   replace b3:=b3.kp hK (blkL_nin (fun p hp=>by have q1:=N2.blk p hp;have q2:=i2 p hp;omega))
   obtain ⟨A4,c4,s12,N4⟩:=x2 (hL 4 (by decide))
   have i4:∀ p,A4=some p→p.block<w27.heap.size:=fun p hp=>(N4.blk p hp).2;have zw22:=hZ;have zw27:=hK.size;replace hZ:=Nat.le_refl w27.heap.size;replace hB:=hB9;clear hF hK hV hL x0 x1 x2 x3 x4 hXb s16 s63 b20 N2 i2;refine ib_n (th_n ?_)
   refine wp_regJ (by kernel_rfl) [68,29] [some (.int .i64 ((k:Int)+1)),some (.int .i64 ((k:Int)+1))] (dlR 2) [68,29] [0,1] [] (fun L aa ww=>(L 1=false→aa.tmps[29]?.getD undef=.int .i64 (k:Int))) (by kernel_rfl) (by rw [hz];decide) ?_ (en rfl ?_ (en rfl ?_ .nil)) ?_
   ·exact fun _ h=>(fun _=>s29)
   ·intro Lk ak ww H _ _ hN
    have x0:=H.x
    exact wp_add rfl (ev (x0 (H.t 1 rfl))) rfl (by omega) (hN _ _ H.k rfl (fun h=>(put_ne' (by decide) _).trans (x0 h)))
   ·intro Lk ak ww H _ _ hN
    have x0:=H.x
    exact wp_move rfl (ev (H.d 0 rfl rfl)) (hN _ _ H.k rfl (fun h=>by simp [upd] at h))
   intro L a28 w29 hL hF hK hV hX;have x0:=hX;replace hz:=hF.Z hz;replace hdf:=hF.E hdf;replace s1:=hF.G s1;replace s2:=hF.G s2;replace s3:=hF.G s3;replace s4:=hF.G s4;replace s5:=hF.G s5;replace s27:=hF.G s27;replace s28:=hF.G s28;replace s12:=hF.G s12;have s29:=gS a28 29 (hV 1 _ rfl);replace b3:=b3.k0 hK;replace N4:=N4.below hK.toBelow leR;replace hZ:=Nat.le_trans hZ hK.size;replace hB:=hK.below0 hB;clear hF hK hV hL x0;refine th_n ?_
   refine ⟨?_, ?_⟩
   ·exact ⟨hz,hdf,(k+1),(A4),(c4),(by omega),(movAll_next hkl hall (not_f q23)),s1,s2,s3,s4,s5,(by rw [movL_next hkl (not_f q23)];exact s12),s27,s28,s29,b3,(by rw [movL_next hkl (not_f q23)];exact N4),hB,(by omega)⟩
   ·show (p.length-(intOf (a28.tmps[29]?.getD undef)).toNat)<_
    rw [s29,hmu];simp only [intOf];omega
 ·skip
  have ek:k=p.length:=by have:=dec_f q12;omega
  have hta9:p.take k=p:=by rw [ek];exact List.take_length
  have hX0:movL (growH bx by_ lo hi) (p.take k)=movL (growH bx by_ lo hi) p++movL (sdF p) ((drL bx by_).take 0):=by rw [hta9];exact (List.append_nil _).symm
  rw [hta9] at hall
  rw [hX0] at N2 s12
  refine wp_cond_false (ev (vb s30 q12)) ?_
  refine wp_exit ?_
  refine th_e (th_e (ib_x (th_n ?_)));refine wp_seq ?_
  refine wp_regJ (by kernel_rfl) [69,70,71,18] [some (.int .i64 bx),some (.int .i64 by_),some (.int .i64 (gcdOf bx by_)),some (.int .i64 (gcdOf bx by_))] (dlR 4) [69,70,71,18] [0,1,2,3] [] (fun _ _ _=>True) (by kernel_rfl) (by rw [hz];decide) ?_ (en rfl ?_ (en rfl ?_ (en rfl ?_ (en rfl ?_ .nil)))) ?_
  ·exact fun _ _=>trivial
  ·exact fun Lk ak ww H _ _ hN=>wp_move rfl (ev (H.f.g rfl s1)) (hN _ _ H.k rfl trivial)
  ·exact fun Lk ak ww H _ _ hN=>wp_move rfl (ev (H.f.g rfl s2)) (hN _ _ H.k rfl trivial)
  ·intro Lk ak ww H _ _ hN
   simp [go_sem,(gS ak 69 (H.d 0 rfl rfl)),(gS ak 70 (H.d 1 rfl rfl))]
   refine (sGcdOf_q bx by_ ww (⟨by omega,by omega⟩) (⟨by omega,by omega⟩)).mono ?_
   rintro x wx ⟨rfl,n,rfl⟩
   have hb:Below ww.heap.size ww (ww.drewN n):=below_drewN bR n
   exact (hN _ _ (H.k.call hb) rfl trivial)
  ·exact fun Lk ak ww H _ _ hN=>wp_assign rfl (ev (H.d 2 rfl rfl)) (hN _ _ H.k rfl trivial)
  intro L a30 w31 hL hF hK hV hX;replace hz:=hF.Z hz;replace hdf:=hF.E hdf;replace s1:=hF.G s1;replace s2:=hF.G s2;replace s5:=hF.G s5;replace s12:=hF.G s12;have s18:=gS a30 18 (hV 3 _ rfl);replace b3:=b3.k0 hK;replace N2:=N2.below hK.toBelow leR;replace hZ:=Nat.le_trans hZ hK.size;replace hB:=hK.below0 hB;clear hF hK hV hL hX s3 s4 s27 s28 s29 s30
  obtain ⟨gg,egg⟩:∃ z:Int,z=gcdOf bx by_:=⟨_,rfl⟩
  rw [← egg] at s18
  have hgg:1≤gg∧gg≤100:=by rw [egg,gcdOf_dir hD];exact hO.g
  have hta:(-by_).tdiv gg=dirA bx by_:=by rw [egg,gcdOf_dir hD];rfl
  have htb:bx.tdiv gg=dirB bx by_:=by rw [egg,gcdOf_dir hD];rfl
  have htc:by_.tdiv gg = -dirA bx by_:=by rw [← hta,Int.neg_tdiv,Int.neg_neg]
  have htd:(-bx).tdiv gg = -dirB bx by_:=by rw [← htb,Int.neg_tdiv]
  have hA:=hO.a
  have hBb:=hO.b
  have tb1 : -100≤(-by_).tdiv gg∧(-by_).tdiv gg≤100:=by rw [hta];exact hA
  have tb2 : -100≤bx.tdiv gg∧bx.tdiv gg≤100:=by rw [htb];exact hBb
  have tb3 : -100≤by_.tdiv gg∧by_.tdiv gg≤100:=by rw [htc];omega
  have tb4 : -100≤(-bx).tdiv gg∧(-bx).tdiv gg≤100:=by rw [htd];omega
  refine th_n ?_;refine wp_seq ?_;refine wp_seq ?_
  have hXb:StaysX [88] (fun L aa ww=>(L 16=true→(fun ww v=>∃ g5,v=.slice (some ⟨g5,0,none⟩) 2 2∧HasT ww g5 111 [.int .i64 (-(by_.tdiv gg)),.int .i64 (bx.tdiv gg),.int .i64 0,.int .i64 (by_.tdiv gg),.int .i64 (-(bx.tdiv gg)),.int .i64 0]∧w31.heap.size≤g5) ww (aa.tmps[88]?.getD undef))):=by
   intro L aa ww w' kk vv hkk hb hX
   have x0:=hX
   exact (fun h=>by rw [put_ne' (hkk 88 (by simp))];obtain ⟨g5',e,f5'⟩:=x0 h;exact ⟨g5',e,⟨f5'.1.bel hb,f5'.2⟩⟩)
  refine wp_regK hXb (by kernel_rfl) [72,73,74,75,76,77,78,79,80,81,82,83,84,85,86,87,88,89,90] [some (.int .i64 by_),some (.int .i64 (-by_)),some (.int .i64 gg),some (.int .i64 (-(by_.tdiv gg))),some (.int .i64 bx),some (.int .i64 gg),some (.int .i64 (bx.tdiv gg)),some (.agg #[.int .i64 (-(by_.tdiv gg)),.int .i64 (bx.tdiv gg),.int .i64 0]),some (.int .i64 by_),some (.int .i64 gg),some (.int .i64 (by_.tdiv gg)),some (.int .i64 bx),some (.int .i64 (-bx)),some (.int .i64 gg),some (.int .i64 (-(bx.tdiv gg))),some (.agg #[.int .i64 (by_.tdiv gg),.int .i64 (-(bx.tdiv gg)),.int .i64 0]),none,some (.int .i64 2),some (.int .i64 0)] ([[],[0],[],[0,1,2],[],[],[4,5],[0,1,2,3,4,5,6],[],[],[8,9],[],[11],[],[11,12,13],[8,9,10,11,12,13,14],[0,1,2,3,4,5,6,7,8,9,10,11,12,13,14,15],[0,1,2,3,4,5,6,7,8,9,10,11,12,13,14,15,16],[]]) [72,73,74,75,76,77,78,79,80,81,82,83,84,85,86,87,88,89,90] [0,1,2,3,4,5,6,7,8,9,10,11,12,13,14,15,16,17,18] [] (by kernel_rfl) (by rw [hz];decide) ?_ (en rfl ?_ (en rfl ?_ (en rfl ?_ (en rfl ?_ (en rfl ?_ (en rfl ?_ (en rfl ?_ (en rfl ?_ (en rfl ?_ (en rfl ?_ (en rfl ?_ (en rfl ?_ (en rfl ?_ (en rfl ?_ (en rfl ?_ (en rfl ?_ (en rfl ?_ (en rfl ?_ (en rfl ?_ .nil))))))))))))))))))) ?_
  ·exact fun _ h=>(fun h=>by cases h)
  ·exact fun Lk ak ww H _ _ hN=>wp_move rfl (ev (H.f.g rfl s2)) (hN _ _ H.k rfl (hXb.q rfl H.x))
  ·exact fun Lk ak ww H _ _ hN=>wp_neg rfl (ev (H.d 0 rfl rfl)) (by omega) (hN _ _ H.k rfl (hXb.q rfl H.x))
  ·exact fun Lk ak ww H _ _ hN=>wp_move rfl (ev (H.f.g rfl s18)) (hN _ _ H.k rfl (hXb.q rfl H.x))
  ·exact fun Lk ak ww H _ _ hN=>wp_quo rfl (ev (H.d 1 rfl rfl)) (ev (H.d 2 rfl rfl)) (by omega) (by omega) (hN _ _ H.k (congrArg (Value.int .i64) (Int.neg_tdiv _ _)) (hXb.q rfl H.x))
  ·exact fun Lk ak ww H _ _ hN=>wp_move rfl (ev (H.f.g rfl s1)) (hN _ _ H.k rfl (hXb.q rfl H.x))
  ·exact fun Lk ak ww H _ _ hN=>wp_move rfl (ev (H.f.g rfl s18)) (hN _ _ H.k rfl (hXb.q rfl H.x))
  ·exact fun Lk ak ww H _ _ hN=>wp_quo rfl (ev (H.d 4 rfl rfl)) (ev (H.d 5 rfl rfl)) (by omega) (by omega) (hN _ _ H.k rfl (hXb.q rfl H.x))
  ·intro Lk ak ww H _ _ hN
   simp [go_sem,(gS ak 75 (H.d 3 rfl rfl)),(gS ak 78 (H.d 6 rfl rfl))]
   exact (hN _ _ H.k rfl (hXb.q rfl H.x))
  ·exact fun Lk ak ww H _ _ hN=>wp_move rfl (ev (H.f.g rfl s2)) (hN _ _ H.k rfl (hXb.q rfl H.x))
  ·exact fun Lk ak ww H _ _ hN=>wp_move rfl (ev (H.f.g rfl s18)) (hN _ _ H.k rfl (hXb.q rfl H.x))
  ·exact fun Lk ak ww H _ _ hN=>wp_quo rfl (ev (H.d 8 rfl rfl)) (ev (H.d 9 rfl rfl)) (by omega) (by omega) (hN _ _ H.k rfl (hXb.q rfl H.x))
  ·exact fun Lk ak ww H _ _ hN=>wp_move rfl (ev (H.f.g rfl s1)) (hN _ _ H.k rfl (hXb.q rfl H.x))
  ·exact fun Lk ak ww H _ _ hN=>wp_neg rfl (ev (H.d 11 rfl rfl)) (by omega) (hN _ _ H.k rfl (hXb.q rfl H.x))
  ·exact fun Lk ak ww H _ _ hN=>wp_move rfl (ev (H.f.g rfl s18)) (hN _ _ H.k rfl (hXb.q rfl H.x))
  ·exact fun Lk ak ww H _ _ hN=>wp_quo rfl (ev (H.d 12 rfl rfl)) (ev (H.d 13 rfl rfl)) (by omega) (by omega) (hN _ _ H.k (congrArg (Value.int .i64) (Int.neg_tdiv _ _)) (hXb.q rfl H.x))
  ·intro Lk ak ww H _ _ hN
   simp [go_sem,(gS ak 82 (H.d 10 rfl rfl)),(gS ak 86 (H.d 14 rfl rfl))]
   exact (hN _ _ H.k rfl (hXb.q rfl H.x))
  ·intro Lk ak ww H _ _ hN
   have x0:=H.x
   simp [go_sem,(gS ak 79 (H.d 7 rfl rfl)),(gS ak 87 (H.d 15 rfl rfl))]
   have f5:HasT (ww.alloc (.cells #[.int .i64 (-(by_.tdiv gg)),.int .i64 (bx.tdiv gg),.int .i64 0,.int .i64 (by_.tdiv gg),.int .i64 (-(bx.tdiv gg)),.int .i64 0] 111)) ww.heap.size 111 [.int .i64 (-(by_.tdiv gg)),.int .i64 (bx.tdiv gg),.int .i64 0,.int .i64 (by_.tdiv gg),.int .i64 (-(bx.tdiv gg)),.int .i64 0]∧w31.heap.size≤ww.heap.size:=⟨HasT.new _ _ _,H.k.size⟩
   exact hN _ _ (H.k.alloc _) trivial (fun _=>by rw [put_get_self (H.f.lt (by rw [hz];decide))];exact ⟨_,rfl,f5⟩)
  ·intro Lk ak ww H _ _ hN
   have x0:=H.x
   obtain ⟨g5,ee16,f5⟩:=x0 (H.r 16 rfl)
   simp [go_sem,ee16]
   exact (hN _ _ H.k rfl (hXb.q rfl H.x))
  ·exact fun Lk ak ww H _ _ hN=>wp_move rfl rfl (hN _ _ H.k rfl (hXb.q rfl H.x))
  intro L a32 w33 hL hF hK hV hX;have x0:=hX;replace hz:=hF.Z hz;replace hdf:=hF.E hdf;replace s5:=hF.G s5;replace s12:=hF.G s12;have s89:=gS a32 89 (hV 17 _ rfl);have s90:=gS a32 90 (hV 18 _ rfl);replace b3:=b3.k0 hK
  obtain ⟨g5,s88,N5⟩:=x0 (hL 16 (by decide))
  replace N2:=N2.below hK.toBelow leR;have zw31:=hZ;have zw33:=hK.size;replace hZ:=Nat.le_refl w33.heap.size;replace hB:=hK.below0 hB;clear hF hK hV hL x0 hXb s1 s2 s18
  have lg:w.heap.size≤g5:=by have:=N5.2;omega
  have hA0:∀ p,A2=some p→p.block≠g5:=fun p hp=>by have:=i2 p hp;have:=N5.2;omega
  have fd:ElS w33 g5 0 3 halfC (drL bx by_):=litEl halfC_len (T:=111) (by rw [egg] at N5;exact N5.1) (Nat.lt_of_lt_of_le Nat.zero_lt_two (Nat.le_refl 2)) (by show 2≤1000000;decide)
  clear N5;refine th_n ?_;refine wp_block ?_
  refine wp_loop (fun al wl=>al.tmps.size=120∧al.defers=[]∧∃ (k:Nat) (A6:Option Addr) (c6:Nat),(k≤2)∧(movAll (sdF p) ((drL bx by_).take k)=true)∧(k<2→ElS wl g5 0 3 halfC (drL bx by_))∧(k=0→∀ p,A6=some p→p.block≠g5)∧al.tmps[5]?.getD undef=.pointer (some ⟨w.heap.size,0,none⟩)∧al.tmps[12]?.getD undef=.slice A6 ((movL (growH bx by_ lo hi) p++movL (sdF p) ((drL bx by_).take k)).length) c6∧al.tmps[89]?.getD undef=.int .i64 2∧al.tmps[90]?.getD undef=.int .i64 (k:Int)∧al.tmps[88]?.getD undef=.slice (some ⟨g5,0,none⟩) 2 2∧HasT wl w.heap.size 37 [.slice a.A p.length a.c]∧New 111 3 halfC wl w2.heap.size (.slice A6 (movL (growH bx by_ lo hi) p++movL (sdF p) ((drL bx by_).take k)).length c6) (movL (growH bx by_ lo hi) p++movL (sdF p) ((drL bx by_).take k))∧Below w.heap.size w wl∧w33.heap.size≤wl.heap.size) (fun al _=>(2-(intOf (al.tmps[90]?.getD undef)).toNat)) ?_ ?_
  ·exact ⟨hz,hdf,(0),(A2),(c2),(Nat.zero_le _),(rfl),(fun _=>fd),(fun _=>hA0),s5,s12,s89,s90,s88,b3,(N2),hB,(by omega)⟩
  clear hz hdf hB hZ s5 s12 s89 s90 s88 b3 N2
  rintro a34 w35 ⟨hz,hdf,k,A6,c6,hk2,hall2,hE,hA9,s5,s12,s89,s90,s88,b3,N6,hB,hZ⟩
  have zw35:=hZ;replace hZ:=Nat.le_refl w35.heap.size;have i6:∀ p,A6=some p→p.block<w35.heap.size:=fun p hp=>(N6.blk p hp).2
  have hmu:(2-(intOf (a34.tmps[90]?.getD undef)).toNat)=(2-(intOf ((.int .i64 (k:Int)))).toNat):=by rw [s90]
  refine wp_seq ?_
  refine wp_regJ (by kernel_rfl) [91] [some (.bool (decide ((k:Int)<2)))] (dlR 1) [91] [0] [] (fun _ _ _=>True) (by kernel_rfl) (by rw [hz];decide) ?_ (en rfl ?_ .nil) ?_
  ·exact fun _ _=>trivial
  ·exact fun Lk ak ww H _ _ hN=>wp_bin rfl (ev (H.f.g rfl s90)) (ev (H.f.g rfl s89)) rfl rfl (hN _ _ H.k rfl trivial)
  intro L a36 w37 hL hF hK hV hX;replace hz:=hF.Z hz;replace hdf:=hF.E hdf;replace s5:=hF.G s5;replace s12:=hF.G s12;replace s89:=hF.G s89;replace s90:=hF.G s90;replace s88:=hF.G s88;have s91:=gS a36 91 (hV 0 _ rfl);replace b3:=b3.k0 hK
  replace hE:=fun h0:k<2=>(hE h0).kp hK (by simp)
  replace N6:=N6.below hK.toBelow leR;replace hZ:=Nat.le_trans hZ hK.size;replace hB:=hK.below0 hB;clear hF hK hV hL hX;refine th_n ?_;refine wp_seq ?_
  rcases Bool.eq_false_or_eq_true (decide ((k:Int)<2)) with q38|q38
  ·skip
   have hkl:k<(drL bx by_).length:=by have:=dec_t q38;show k<2;omega
   have hk3:k<2:=hkl
   have hk4:(k:Int)<2:=by omega
   have hDk:=drL_dir hD _ (getD_mem hkl half0)
   have hDa:=hDk.a
   have hDb:=hDk.b
   have fd:=hE hk3
   have lgd:=fd.lt
   refine wp_cond_true (ev (vb s91 q38)) ?_
   refine wp_skip ?_;refine th_n ?_;refine wp_seq ?_;refine wp_block ?_;refine wp_seq ?_
   have hXb:StaysX [20] (fun L aa ww=>(L 2=true→BoxX w37 aa ww 20 111 [.int .i64 0,.int .i64 0,.int .i64 0] (L 3) (fun _ vs=>vs=[.int .i64 (((drL bx by_).getD k half0).a),.int .i64 (((drL bx by_).getD k half0).b),.int .i64 (((drL bx by_).getD k half0).c)]))):=by
    intro L aa ww w' kk vv hkk hb hX
    have x0:=hX
    exact (fun h=>((x0 h).bel hb (fun _ h=>h)).put (hkk 20 (by simp)) _)
   refine wp_regK hXb (by kernel_rfl) [92,93,20,0] [some (.pointer (some ⟨g5,k*3,none⟩)),some (halfV ((drL bx by_).getD k half0)),none,none] (dlR 4) [92,93,20] [0,1,2,3] [] (by kernel_rfl) (by rw [hz];decide) ?_ (en rfl ?_ (en rfl ?_ (en rfl ?_ (en rfl ?_ .nil)))) ?_
   ·exact fun _ h=>(fun h=>by cases h)
   ·intro Lk ak ww H _ _ hN
    simp [go_sem,H.f.g rfl s88,H.f.g rfl s90,hk4]
    exact (hN _ _ H.k rfl (hXb.q rfl H.x))
   ·intro Lk ak ww H _ _ hN
    have hE:=fd.kp H.k (by simp)
    simp [go_sem,(gS ak 92 (H.d 0 rfl rfl)),(hE.at_ half0 (i:=k) (by omega) 0 (p:=k*3) (by omega) rfl),(hE.at_ half0 (i:=k) (by omega) 1 (p:=k*3+1) (by omega) rfl),(hE.at_ half0 (i:=k) (by omega) 2 (p:=k*3+2) (by omega) rfl)]
    exact (hN _ _ H.k rfl (hXb.q rfl H.x))
   ·intro Lk ak ww H _ _ hN
    have x0:=H.x
    simp [go_sem]
    exact hN _ _ (H.k.alloc _) trivial (fun _=>by rw [show upd Lk 2 3=false from H.t 3 rfl];exact BoxX.new (s:=20) (H.f.lt (by rw [hz];decide)) H.k.size [.int .i64 0,.int .i64 0,.int .i64 0])
   ·intro Lk ak ww H _ _ hN
    have x0:=H.x
    obtain ⟨g,eg,hg,y,_⟩:=x0 (H.r 2 rfl)
    have HT:=y H.n
    simp [go_sem,(gS ak 93 (H.d 1 rfl rfl)),eg,HT.cell,HT.frz]
    exact hN undef _ (H.k.store (.inl hg) [.int .i64 (((drL bx by_).getD k half0).a),.int .i64 (((drL bx by_).getD k half0).b),.int .i64 (((drL bx by_).getD k half0).c)] 0) trivial (fun _=>BoxX.set eg hg HT (us:=[.int .i64 (((drL bx by_).getD k half0).a),.int .i64 (((drL bx by_).getD k half0).b),.int .i64 (((drL bx by_).getD k half0).c)]) rfl rfl)
   intro L a39 w40 hL hF hK hV hX;have x0:=hX;replace hz:=hF.Z hz;replace hdf:=hF.E hdf;replace s5:=hF.G s5;replace s12:=hF.G s12;replace s89:=hF.G s89;replace s90:=hF.G s90;replace s88:=hF.G s88;replace b3:=b3.k0 hK
   obtain ⟨g41,s20,lg41,-,b41⟩:=x0 (hL 2 (by decide))
   obtain ⟨_,b41,rfl⟩:=b41 (hL 3 (by decide))
   have ug41:=b41.lt
   replace fd:=fd.kp hK (by simp)
   replace N6:=N6.below hK.toBelow leR;have zw37:=hZ;have zw40:=hK.size;replace hZ:=Nat.le_refl w40.heap.size;replace hB:=hK.below0 hB;clear hF hK hV hL x0 hXb s91;refine th_n ?_;refine wp_seq ?_
   have hXb:StaysX [22] (fun L aa ww=>(L 9=true→BoxX w40 aa ww 22 52 [.int .i64 0,.int .i64 0] (L 11) (fun _ vs=>vs=[.int .i64 ((sup p ((drL bx by_).getD k half0).a ((drL bx by_).getD k half0).b).n),.int .i64 ((sup p ((drL bx by_).getD k half0).a ((drL bx by_).getD k half0).b).d)]))):=by
    intro L aa ww w' kk vv hkk hb hX
    have x0:=hX
    exact (fun h=>((x0 h).bel hb (fun _ h=>h)).put (hkk 22 (by simp)) _)
   refine wp_regK hXb (by kernel_rfl) [95,96,97,98,99,100,94,101,102,22,21,0] [some (.agg #[.slice a.A p.length a.c]),some (.pointer (some ⟨g41,0,none⟩)),some (.int .i64 (((drL bx by_).getD k half0).a)),some (.pointer (some ⟨g41,1,none⟩)),some (.int .i64 (((drL bx by_).getD k half0).b)),some (.tuple #[.int .i64 ((supF p ((drL bx by_).getD k half0).a ((drL bx by_).getD k half0).b).1),ratioV (sup p ((drL bx by_).getD k half0).a ((drL bx by_).getD k half0).b)]),some (.tuple #[.int .i64 ((supF p ((drL bx by_).getD k half0).a ((drL bx by_).getD k half0).b).1),ratioV (sup p ((drL bx by_).getD k half0).a ((drL bx by_).getD k half0).b)]),some (.int .i64 ((supF p ((drL bx by_).getD k half0).a ((drL bx by_).getD k half0).b).1)),some (ratioV (sup p ((drL bx by_).getD k half0).a ((drL bx by_).getD k half0).b)),none,some (.int .i64 ((supF p ((drL bx by_).getD k half0).a ((drL bx by_).getD k half0).b).1)),none] (dlR 12) [95,96,97,98,99,100,94,101,102,22,21] [0,1,2,3,4,5,6,7,8,9,10,11] [] (by kernel_rfl) (by rw [hz];decide) ?_ (en rfl ?_ (en rfl ?_ (en rfl ?_ (en rfl ?_ (en rfl ?_ (en rfl ?_ (en rfl ?_ (en rfl ?_ (en rfl ?_ (en rfl ?_ (en rfl ?_ (en rfl ?_ .nil)))))))))))) ?_
   ·exact fun _ h=>(fun h=>by cases h)
   ·intro Lk ak ww H _ _ hN
    simp [go_sem,H.f.g rfl s5,(b3.k0 H.k).cell]
    exact (hN _ _ H.k rfl (hXb.q rfl H.x))
   ·intro Lk ak ww H _ _ hN
    simp [go_sem,H.f.g rfl s20]
    exact (hN _ _ H.k rfl (hXb.q rfl H.x))
   ·intro Lk ak ww H _ _ hN
    simp [go_sem,(gS ak 96 (H.d 1 rfl rfl)),(b41.k0 H.k).cell]
    exact (hN _ _ H.k rfl (hXb.q rfl H.x))
   ·intro Lk ak ww H _ _ hN
    simp [go_sem,H.f.g rfl s20]
    exact (hN _ _ H.k rfl (hXb.q rfl H.x))
   ·intro Lk ak ww H _ _ hN
    simp [go_sem,(gS ak 98 (H.d 3 rfl rfl)),(b41.k0 H.k).cell]
    exact (hN _ _ H.k rfl (hXb.q rfl H.x))
   ·intro Lk ak ww H _ _ hN
    simp [go_sem,(gS ak 95 (H.d 0 rfl rfl)),(gS ak 97 (H.d 2 rfl rfl)),(gS ak 99 (H.d 4 rfl rfl))]
    have hBi:=H.k.below0 hB
    refine (sFarL_c p a ((drL bx by_).getD k half0).a ((drL bx by_).getD k half0).b ww hp hne ⟨by omega,by omega⟩ ⟨by omega,by omega⟩ (hsp.below hBi)).mono ?_
    rintro x wx ⟨rfl,hb⟩
    exact (hN _ _ (H.k.call hb) rfl (hXb.b rfl hb H.x))
   ·exact fun Lk ak ww H _ _ hN=>wp_move rfl (ev (H.d 5 rfl rfl)) (hN _ _ H.k rfl (hXb.q rfl H.x))
   ·exact fun Lk ak ww H _ _ hN=>wp_extract rfl (ev (H.d 6 rfl rfl)) rfl (hN _ _ H.k rfl (hXb.q rfl H.x))
   ·exact fun Lk ak ww H _ _ hN=>wp_extract rfl (ev (H.d 6 rfl rfl)) rfl (hN _ _ H.k rfl (hXb.q rfl H.x))
   ·intro Lk ak ww H _ _ hN
    have x0:=H.x
    simp [go_sem]
    exact hN _ _ (H.k.alloc _) trivial (fun _=>by rw [show upd Lk 9 11=false from H.t 11 rfl];exact BoxX.new (s:=22) (H.f.lt (by rw [hz];decide)) H.k.size [.int .i64 0,.int .i64 0])
   ·exact fun Lk ak ww H _ _ hN=>wp_assign rfl (ev (H.d 7 rfl rfl)) (hN _ _ H.k rfl (hXb.q rfl H.x))
   ·intro Lk ak ww H _ _ hN
    have x0:=H.x
    obtain ⟨g,eg,hg,y,_⟩:=x0 (H.r 9 rfl)
    have HT:=y H.n
    simp [go_sem,(gS ak 102 (H.d 8 rfl rfl)),eg,HT.cell,HT.frz]
    exact hN undef _ (H.k.store (.inl hg) [.int .i64 ((sup p ((drL bx by_).getD k half0).a ((drL bx by_).getD k half0).b).n),.int .i64 ((sup p ((drL bx by_).getD k half0).a ((drL bx by_).getD k half0).b).d)] 0) trivial (fun _=>BoxX.set eg hg HT (us:=[.int .i64 ((sup p ((drL bx by_).getD k half0).a ((drL bx by_).getD k half0).b).n),.int .i64 ((sup p ((drL bx by_).getD k half0).a ((drL bx by_).getD k half0).b).d)]) rfl rfl)
   intro L a42 w43 hL hF hK hV hX;have x0:=hX;replace hz:=hF.Z hz;replace hdf:=hF.E hdf;replace s5:=hF.G s5;replace s12:=hF.G s12;replace s89:=hF.G s89;replace s90:=hF.G s90;replace s88:=hF.G s88;replace s20:=hF.G s20;replace b3:=b3.k0 hK;replace b41:=b41.k0 hK
   obtain ⟨g44,s22,lg44,-,b44⟩:=x0 (hL 9 (by decide))
   obtain ⟨_,b44,rfl⟩:=b44 (hL 11 (by decide))
   have ug44:=b44.lt
   replace fd:=fd.kp hK (by simp)
   replace N6:=N6.below hK.toBelow leR;have zw43:=hK.size;replace hZ:=Nat.le_refl w43.heap.size;replace hB:=hK.below0 hB;clear hF hK hV hL x0 hXb;refine th_n ?_;refine wp_seq ?_
   have hXb:StaysX [23] (fun L aa ww=>(L 9=true→BoxX w43 aa ww 23 111 [.int .i64 0,.int .i64 0,.int .i64 0] (L 10) (fun _ vs=>vs=[.int .i64 (((sdF p ((drL bx by_).getD k half0)).getD half0).a),.int .i64 (((sdF p ((drL bx by_).getD k half0)).getD half0).b),.int .i64 (((sdF p ((drL bx by_).getD k half0)).getD half0).c)]))):=by
    intro L aa ww w' kk vv hkk hb hX
    have x0:=hX
    exact (fun h=>((x0 h).bel hb (fun _ h=>h)).put (hkk 23 (by simp)) _)
   refine wp_regK hXb (by kernel_rfl) [104,105,106,107,108,109,103,110,111,23,0,24] [some (.pointer (some ⟨g41,0,none⟩)),some (.int .i64 (((drL bx by_).getD k half0).a)),some (.pointer (some ⟨g41,1,none⟩)),some (.int .i64 (((drL bx by_).getD k half0).b)),some (ratioV (sup p ((drL bx by_).getD k half0).a ((drL bx by_).getD k half0).b)),some (.tuple #[halfV ((sdF p ((drL bx by_).getD k half0)).getD half0),.bool ((sdF p ((drL bx by_).getD k half0)).isSome)]),some (.tuple #[halfV ((sdF p ((drL bx by_).getD k half0)).getD half0),.bool ((sdF p ((drL bx by_).getD k half0)).isSome)]),some (halfV ((sdF p ((drL bx by_).getD k half0)).getD half0)),some (.bool ((sdF p ((drL bx by_).getD k half0)).isSome)),none,none,some (.bool ((sdF p ((drL bx by_).getD k half0)).isSome))] (dlR 12) [104,105,106,107,108,109,103,110,111,23,24] [0,1,2,3,4,5,6,7,8,9,10,11] [] (by kernel_rfl) (by rw [hz];decide) ?_ (en rfl ?_ (en rfl ?_ (en rfl ?_ (en rfl ?_ (en rfl ?_ (en rfl ?_ (en rfl ?_ (en rfl ?_ (en rfl ?_ (en rfl ?_ (en rfl ?_ (en rfl ?_ .nil)))))))))))) ?_
   ·exact fun _ h=>(fun h=>by cases h)
   ·intro Lk ak ww H _ _ hN
    simp [go_sem,H.f.g rfl s20]
    exact (hN _ _ H.k rfl (hXb.q rfl H.x))
   ·intro Lk ak ww H _ _ hN
    simp [go_sem,(gS ak 104 (H.d 0 rfl rfl)),(b41.k0 H.k).cell]
    exact (hN _ _ H.k rfl (hXb.q rfl H.x))
   ·intro Lk ak ww H _ _ hN
    simp [go_sem,H.f.g rfl s20]
    exact (hN _ _ H.k rfl (hXb.q rfl H.x))
   ·intro Lk ak ww H _ _ hN
    simp [go_sem,(gS ak 106 (H.d 2 rfl rfl)),(b41.k0 H.k).cell]
    exact (hN _ _ H.k rfl (hXb.q rfl H.x))
   ·intro Lk ak ww H _ _ hN
    simp [go_sem,H.f.g rfl s22,(b44.k0 H.k).cell]
    exact (hN _ _ H.k rfl (hXb.q rfl H.x))
   ·intro Lk ak ww H _ _ hN
    simp [go_sem,(gS ak 105 (H.d 1 rfl rfl)),(gS ak 107 (H.d 3 rfl rfl)),(gS ak 108 (H.d 4 rfl rfl))]
    refine (sTopD_c ((drL bx by_).getD k half0) ww hp hne hDk).mono ?_
    rintro x wx ⟨rfl,hb⟩
    exact (hN _ _ (H.k.call hb) (optHalf_eq _) (hXb.b rfl hb H.x))
   ·exact fun Lk ak ww H _ _ hN=>wp_move rfl (ev (H.d 5 rfl rfl)) (hN _ _ H.k rfl (hXb.q rfl H.x))
   ·exact fun Lk ak ww H _ _ hN=>wp_extract rfl (ev (H.d 6 rfl rfl)) rfl (hN _ _ H.k rfl (hXb.q rfl H.x))
   ·exact fun Lk ak ww H _ _ hN=>wp_extract rfl (ev (H.d 6 rfl rfl)) rfl (hN _ _ H.k rfl (hXb.q rfl H.x))
   ·intro Lk ak ww H _ _ hN
    have x0:=H.x
    simp [go_sem]
    exact hN _ _ (H.k.alloc _) trivial (fun _=>by rw [show upd Lk 9 10=false from H.t 10 rfl];exact BoxX.new (s:=23) (H.f.lt (by rw [hz];decide)) H.k.size [.int .i64 0,.int .i64 0,.int .i64 0])
   ·intro Lk ak ww H _ _ hN
    have x0:=H.x
    obtain ⟨g,eg,hg,y,_⟩:=x0 (H.r 9 rfl)
    have HT:=y H.n
    simp [go_sem,(gS ak 110 (H.d 7 rfl rfl)),eg,HT.cell,HT.frz]
    exact hN undef _ (H.k.store (.inl hg) [.int .i64 (((sdF p ((drL bx by_).getD k half0)).getD half0).a),.int .i64 (((sdF p ((drL bx by_).getD k half0)).getD half0).b),.int .i64 (((sdF p ((drL bx by_).getD k half0)).getD half0).c)] 0) trivial (fun _=>BoxX.set eg hg HT (us:=[.int .i64 (((sdF p ((drL bx by_).getD k half0)).getD half0).a),.int .i64 (((sdF p ((drL bx by_).getD k half0)).getD half0).b),.int .i64 (((sdF p ((drL bx by_).getD k half0)).getD half0).c)]) rfl rfl)
   ·exact fun Lk ak ww H _ _ hN=>wp_assign rfl (ev (H.d 8 rfl rfl)) (hN _ _ H.k rfl (hXb.q rfl H.x))
   intro L a45 w46 hL hF hK hV hX;have x0:=hX;replace hz:=hF.Z hz;replace hdf:=hF.E hdf;replace s5:=hF.G s5;replace s12:=hF.G s12;replace s89:=hF.G s89;replace s90:=hF.G s90;replace s88:=hF.G s88;have s24:=gS a45 24 (hV 11 _ rfl);replace b3:=b3.k0 hK
   obtain ⟨g47,s23,lg47,-,b47⟩:=x0 (hL 9 (by decide))
   obtain ⟨_,b47,rfl⟩:=b47 (hL 10 (by decide))
   have ug47:=b47.lt
   replace fd:=fd.kp hK (by simp)
   replace N6:=N6.below hK.toBelow leR;have zw46:=hK.size;replace hZ:=Nat.le_refl w46.heap.size;replace hB:=hK.below0 hB;clear hF hK hV hL x0 hXb s20 s22 b41 b44;refine th_n ?_;refine wp_seq ?_;refine wp_seq ?_
   refine wp_regJ (by kernel_rfl) [112,113] [some (.bool ((sdF p ((drL bx by_).getD k half0)).isSome)),some (.bool (!((sdF p ((drL bx by_).getD k half0)).isSome)))] (dlR 2) [112,113] [0,1] [] (fun _ _ _=>True) (by kernel_rfl) (by rw [hz];decide) ?_ (en rfl ?_ (en rfl ?_ .nil)) ?_
   ·exact fun _ _=>trivial
   ·exact fun Lk ak ww H _ _ hN=>wp_move rfl (ev (H.f.g rfl s24)) (hN _ _ H.k rfl trivial)
   ·exact fun Lk ak ww H _ _ hN=>wp_not rfl (ev (H.d 0 rfl rfl)) (hN _ _ H.k rfl trivial)
   intro L a48 w49 hL hF hK hV hX;replace hz:=hF.Z hz;replace hdf:=hF.E hdf;replace s5:=hF.G s5;replace s12:=hF.G s12;replace s89:=hF.G s89;replace s90:=hF.G s90;replace s88:=hF.G s88;replace s23:=hF.G s23;have s113:=gS a48 113 (hV 1 _ rfl);replace b3:=b3.k0 hK;replace b47:=b47.k0 hK
   replace fd:=fd.kp hK (by simp)
   replace N6:=N6.below hK.toBelow leR;replace hZ:=Nat.le_trans hZ hK.size;replace hB:=hK.below0 hB;clear hF hK hV hL hX s24;refine th_n ?_
   rcases Bool.eq_false_or_eq_true (!((sdF p ((drL bx by_).getD k half0)).isSome)) with q50|q50
   ·skip
    refine wp_cond_true (ev (vb s113 q50)) ?_
    refine wp_seq ?_
    refine wp_regJ (by kernel_rfl) [10,11] [some (.slice none 0 0),some (.bool false)] (dlR 2) [10,11] [0,1] [] (fun _ _ _=>True) (by kernel_rfl) (by rw [hz];decide) ?_ (en rfl ?_ (en rfl ?_ .nil)) ?_
    ·exact fun _ _=>trivial
    ·exact fun Lk ak ww H _ _ hN=>wp_assign rfl rfl (hN _ _ H.k rfl trivial)
    ·exact fun Lk ak ww H _ _ hN=>wp_assign rfl rfl (hN _ _ H.k rfl trivial)
    intro L a51 w52 hL hF hK hV hX;replace hz:=hF.Z hz;replace hdf:=hF.E hdf;have s10:=gS a51 10 (hV 0 _ rfl);have s11:=gS a51 11 (hV 1 _ rfl)
    replace fd:=fd.kp hK (by simp)
    replace hZ:=Nat.le_trans hZ hK.size;replace hB:=hK.below0 hB;clear hF hK hV hL hX s5 s12 s89 s90 s88 s23 s113 b3 b47 N6 i6;refine th_n ?_
    refine wp_ret ?_
    refine th_r (ib_r (th_r (th_r (ib_r (th_r ?_)))))
    refine bodyPost_ret (v:=.tuple #[.slice none 0 0,.bool false]) (by simp [results,Tryz.results216,go_sem,s10,s11]) hdf ?_
    have h0:=gw_no2 (lo:=lo) (hi:=hi) (by exact hD) (movAll_stop hkl (not_t q50))
    exact ⟨none,0,by rw [h0.1,h0.2];rfl,by rw [h0.2];exact New.nilN _ _ _ _ _,hB⟩
   ·skip
    refine wp_cond_false (ev (vb s113 q50)) ?_
    refine wp_skip ?_;refine th_n ?_
    have hXb:StaysX [12,116,117] (fun L aa ww=>(L 2=true→(fun ww v=>∃ g7,v=.slice (some ⟨g7,0,none⟩) 1 1∧HasT ww g7 111 [.int .i64 (((sdF p ((drL bx by_).getD k half0)).getD half0).a),.int .i64 (((sdF p ((drL bx by_).getD k half0)).getD half0).b),.int .i64 (((sdF p ((drL bx by_).getD k half0)).getD half0).c)]∧w49.heap.size≤g7) ww (aa.tmps[116]?.getD undef))∧(L 3=true→(fun ww v=>∃ A8 c8,v=.slice A8 (((movL (growH bx by_ lo hi) p++movL (sdF p) ((drL bx by_).take k))++[((sdF p ((drL bx by_).getD k half0)).getD half0)]).length) c8∧New 111 3 halfC ww w2.heap.size (.slice A8 ((movL (growH bx by_ lo hi) p++movL (sdF p) ((drL bx by_).take k))++[((sdF p ((drL bx by_).getD k half0)).getD half0)]).length c8) ((movL (growH bx by_ lo hi) p++movL (sdF p) ((drL bx by_).take k))++[((sdF p ((drL bx by_).getD k half0)).getD half0)])) ww (aa.tmps[117]?.getD undef))∧(L 4=true→(fun ww v=>∃ A8 c8,v=.slice A8 (((movL (growH bx by_ lo hi) p++movL (sdF p) ((drL bx by_).take k))++[((sdF p ((drL bx by_).getD k half0)).getD half0)]).length) c8∧New 111 3 halfC ww w2.heap.size (.slice A8 ((movL (growH bx by_ lo hi) p++movL (sdF p) ((drL bx by_).take k))++[((sdF p ((drL bx by_).getD k half0)).getD half0)]).length c8) ((movL (growH bx by_ lo hi) p++movL (sdF p) ((drL bx by_).take k))++[((sdF p ((drL bx by_).getD k half0)).getD half0)])) ww (aa.tmps[12]?.getD undef))∧(L 3=false→New 111 3 halfC ww w2.heap.size (.slice A6 (movL (growH bx by_ lo hi) p++movL (sdF p) ((drL bx by_).take k)).length c6) (movL (growH bx by_ lo hi) p++movL (sdF p) ((drL bx by_).take k)))∧(L 4=false→aa.tmps[12]?.getD undef=.slice A6 ((movL (growH bx by_ lo hi) p++movL (sdF p) ((drL bx by_).take k)).length) c6)):=by
     intro L aa ww w' kk vv hkk hb hX
     obtain ⟨x0,x1,x2,x3,x4⟩:=hX
     exact ⟨(fun h=>by rw [put_ne' (hkk 116 (by simp))];obtain ⟨g7',e,f7'⟩:=x0 h;exact ⟨g7',e,⟨f7'.1.bel hb,f7'.2⟩⟩),(fun h=>by rw [put_ne' (hkk 117 (by simp))];obtain ⟨A8',c8',e,f8'⟩:=x1 h;exact ⟨A8',c8',e,f8'.below hb leR⟩),(fun h=>by rw [put_ne' (hkk 12 (by simp))];obtain ⟨A8',c8',e,f8'⟩:=x2 h;exact ⟨A8',c8',e,f8'.below hb leR⟩),(fun h=>(x3 h).below hb leR),(fun h=>(put_ne' (hkk 12 (by simp)) vv).trans (x4 h))⟩
    refine wp_regK hXb (by kernel_rfl) [114,115,116,117,12] [some (.slice A6 ((movL (growH bx by_ lo hi) p++movL (sdF p) ((drL bx by_).take k)).length) c6),some (halfV ((sdF p ((drL bx by_).getD k half0)).getD half0)),none,none,none] (dlR 5) [114,115,116,117,12] [0,1,2,3,4] (blkL A6) (by kernel_rfl) (by rw [hz];decide) ?_ (en rfl ?_ (en rfl ?_ (en rfl ?_ (en rfl ?_ (en rfl ?_ .nil))))) ?_
    ·exact fun _ h=>⟨(fun h=>by cases h),(fun h=>by cases h),(fun h=>by cases h),(fun _=>N6.below h.toBelow leR),(fun _=>s12)⟩
    ·intro Lk ak ww H _ _ hN
     obtain ⟨x0,x1,x2,x3,x4⟩:=H.x
     exact wp_move rfl (ev (x4 (H.t 4 rfl))) (hN _ _ H.k rfl (hXb.q rfl H.x))
    ·intro Lk ak ww H _ _ hN
     simp [go_sem,H.f.g rfl s23,(b47.kp H.k (blkL_nin (fun p hp=>by have q1:=N6.blk p hp;have q2:=i6 p hp;omega))).cell]
     exact (hN _ _ H.k rfl (hXb.q rfl H.x))
    ·intro Lk ak ww H _ _ hN
     obtain ⟨x0,x1,x2,x3,x4⟩:=H.x
     simp [go_sem,(gS ak 115 (H.d 1 rfl rfl))]
     have f7:HasT (ww.alloc (.cells #[.int .i64 (((sdF p ((drL bx by_).getD k half0)).getD half0).a),.int .i64 (((sdF p ((drL bx by_).getD k half0)).getD half0).b),.int .i64 (((sdF p ((drL bx by_).getD k half0)).getD half0).c)] 111)) ww.heap.size 111 [.int .i64 (((sdF p ((drL bx by_).getD k half0)).getD half0).a),.int .i64 (((sdF p ((drL bx by_).getD k half0)).getD half0).b),.int .i64 (((sdF p ((drL bx by_).getD k half0)).getD half0).c)]∧w49.heap.size≤ww.heap.size:=⟨HasT.new _ _ _,H.k.size⟩
     exact hN _ _ (H.k.alloc _) trivial ⟨(fun _=>by rw [put_get_self (H.f.lt (by rw [hz];decide))];exact ⟨_,rfl,f7⟩),(fun h=>by rw [put_ne' (by decide)];obtain ⟨A8',c8',e,f8'⟩:=x1 h;exact ⟨A8',c8',e,f8'.below (below_al bR _) leR⟩),(fun h=>by rw [put_ne' (by decide)];obtain ⟨A8',c8',e,f8'⟩:=x2 h;exact ⟨A8',c8',e,f8'.below (below_al bR _) leR⟩),(fun h=>(x3 h).below (below_al bR _) leR),(fun h=>(put_ne' (by decide) _).trans (x4 h))⟩
    ·intro Lk ak ww H _ _ hN
     obtain ⟨x0,x1,x2,x3,x4⟩:=H.x
     obtain ⟨g7,ee2,f7⟩:=x0 (H.r 2 rfl)
     refine wp_app1 halfC_len rfl w2.heap.size i0h _ 24 Tryz.underlying35 hi0h hz0h hz1h hz2h rfl (by decide) (ev (H.d 0 rfl rfl)) (x3 H.n) (ev ee2) (y:=((sdF p ((drL bx by_).getD k half0)).getD half0)) f7.1 halfC_one (by have:=H.k.size;omega) (by first|(rw [List.length_append,movL_len,movL_len,List.length_take];show p.length+min k 2≤_;omega)|(rw [movL_len,List.length_take];omega)) (by decide) ?_
     intro A8 c8 wx f8 hG
     exact hN _ _ (H.k.trans2 hG (fun m h=>.inl h)) trivial ⟨(fun h=>by rw [put_ne' (by decide)];obtain ⟨g',e,f'⟩:=x0 h;exact ⟨g',e,f'.1.kp hG (blkL_nin (fun p hp=>by have q1:=N6.blk p hp;have q2:=f'.2;omega)),f'.2⟩),(fun _=>by rw [put_get_self (H.f.lt (by rw [hz];decide))];exact ⟨A8,c8,rfl,f8⟩),(fun h=>absurd (H.t 4 rfl) (by rw [show Lk 4=true by simpa [upd] using h];decide)),(fun h=>by simp [upd] at h),(fun h=>(put_ne' (by decide) _).trans (x4 h))⟩
    ·intro Lk ak ww H _ _ hN
     obtain ⟨x0,x1,x2,x3,x4⟩:=H.x
     obtain ⟨A8,c8,ee3,f8⟩:=x1 (H.r 3 rfl)
     exact wp_assign rfl (ev ee3) (hN _ _ H.k trivial ⟨(fun h=>by rw [put_ne' (by decide)];obtain ⟨g7',e,f7'⟩:=x0 h;exact ⟨g7',e,⟨f7'.1.bel bR,f7'.2⟩⟩),(fun h=>by rw [put_ne' (by decide)];obtain ⟨A8',c8',e,f8'⟩:=x1 h;exact ⟨A8',c8',e,f8'.below bR leR⟩),(fun _=>by rw [put_get_self (H.f.lt (by rw [hz];decide))];exact ⟨A8,c8,rfl,f8⟩),(fun h=>(x3 h).below bR leR),(fun h=>by simp [upd] at h)⟩)
    intro L a53 w54 hL hF hK hV hX
    obtain ⟨x0,x1,x2,x3,x4⟩:=hX
    replace hz:=hF.Z hz;replace hdf:=hF.E hdf
    have hB9:=hK.below hB hB.size (fun m hm=>by obtain ⟨p,hp,rfl⟩:=blkL_in hm;have q1:=N6.blk p hp;have q2:=i6 p hp;omega)
    replace s5:=hF.G s5;replace s89:=hF.G s89;replace s90:=hF.G s90;replace s88:=hF.G s88
    replace b3:=b3.kp hK (blkL_nin (fun p hp=>by have q1:=N6.blk p hp;have q2:=i6 p hp;omega))
    obtain ⟨A8,c8,s12,N8⟩:=x2 (hL 4 (by decide))
    have i8:∀ p,A8=some p→p.block<w54.heap.size:=fun p hp=>(N8.blk p hp).2
    have hE2:=fun h0:k=0=>fd.kp hK (blkL_nin (fun p hp=>hA9 h0 p hp))
    have zw49:=hZ;have zw54:=hK.size;replace hZ:=Nat.le_refl w54.heap.size;replace hB:=hB9;clear hF hK hV hL x0 x1 x2 x3 x4 hXb s23 s113 b47 N6 i6;refine ib_n (th_n ?_)
    refine wp_regJ (by kernel_rfl) [118,90] [some (.int .i64 ((k:Int)+1)),some (.int .i64 ((k:Int)+1))] (dlR 2) [118,90] [0,1] [] (fun L aa ww=>(L 1=false→aa.tmps[90]?.getD undef=.int .i64 (k:Int))) (by kernel_rfl) (by rw [hz];decide) ?_ (en rfl ?_ (en rfl ?_ .nil)) ?_
    ·exact fun _ h=>(fun _=>s90)
    ·intro Lk ak ww H _ _ hN
     have x0:=H.x
     exact wp_add rfl (ev (x0 (H.t 1 rfl))) rfl (by omega) (hN _ _ H.k rfl (fun h=>(put_ne' (by decide) _).trans (x0 h)))
    ·intro Lk ak ww H _ _ hN
     have x0:=H.x
     exact wp_move rfl (ev (H.d 0 rfl rfl)) (hN _ _ H.k rfl (fun h=>by simp [upd] at h))
    intro L a55 w56 hL hF hK hV hX;have x0:=hX;replace hz:=hF.Z hz;replace hdf:=hF.E hdf;replace s5:=hF.G s5;replace s89:=hF.G s89;replace s88:=hF.G s88;replace s12:=hF.G s12;have s90:=gS a55 90 (hV 1 _ rfl);replace b3:=b3.k0 hK
    replace hE2:=fun h0:k=0=>(hE2 h0).kp hK (by simp)
    replace N8:=N8.below hK.toBelow leR;replace hZ:=Nat.le_trans hZ hK.size;replace hB:=hK.below0 hB;clear hF hK hV hL x0;refine th_n ?_
    refine ⟨?_, ?_⟩
    ·exact ⟨hz,hdf,(k+1),(A8),(c8),(by show k+1≤2;omega),(movAll_next hkl hall2 (not_f q50)),(fun h2=>hE2 (by omega)),(fun h2=>absurd h2 (by omega)),s5,(by rw [app_next hkl (not_f q50)];exact s12),s89,s90,s88,b3,(by rw [app_next hkl (not_f q50)];exact N8),hB,(by omega)⟩
    ·show (2-(intOf (a55.tmps[90]?.getD undef)).toNat)<_
     rw [s90,hmu];simp only [intOf];omega
  ·skip
   have ek2:k=2:=by have:=dec_f q38;omega
   have ht2:(drL bx by_).take k=(drL bx by_):=by rw [ek2];rfl
   rw [ht2] at hall2
   have hgw:=gw_yes hD hall hall2
   rw [ht2,← hgw.2] at N6 s12
   refine wp_cond_false (ev (vb s91 q38)) ?_
   refine wp_exit ?_
   refine th_e (th_e (ib_x (th_n ?_)));refine wp_seq ?_
   refine wp_regJ (by kernel_rfl) [119,10,11] [some (.slice A6 ((gwL bx by_ lo hi p).length) c6),some (.slice A6 ((gwL bx by_ lo hi p).length) c6),some (.bool true)] (dlR 3) [119,10,11] [0,1,2] [] (fun _ _ _=>True) (by kernel_rfl) (by rw [hz];decide) ?_ (en rfl ?_ (en rfl ?_ (en rfl ?_ .nil))) ?_
   ·exact fun _ _=>trivial
   ·exact fun Lk ak ww H _ _ hN=>wp_move rfl (ev (H.f.g rfl s12)) (hN _ _ H.k rfl trivial)
   ·exact fun Lk ak ww H _ _ hN=>wp_assign rfl (ev (H.d 0 rfl rfl)) (hN _ _ H.k rfl trivial)
   ·exact fun Lk ak ww H _ _ hN=>wp_assign rfl rfl (hN _ _ H.k rfl trivial)
   intro L a57 w58 hL hF hK hV hX;replace hz:=hF.Z hz;replace hdf:=hF.E hdf;have s10:=gS a57 10 (hV 1 _ rfl);have s11:=gS a57 11 (hV 2 _ rfl);replace N6:=N6.below hK.toBelow leR;replace hZ:=Nat.le_trans hZ hK.size;replace hB:=hK.below0 hB;clear hF hK hV hL hX s5 s12 s89 s90 s88 s91 b3;refine th_n ?_
   refine wp_ret ?_
   refine bodyPost_ret (v:=.tuple #[.slice A6 ((gwL bx by_ lo hi p).length) c6,.bool true]) (by simp [results,Tryz.results216,go_sem,s10,s11]) hdf ?_
   exact ⟨A6,c6,by rw [hgw.1],N6.mono (by omega),hB⟩
set_option maxRecDepth 100000 in
set_option maxHeartbeats 3000000 in
theorem sAlong_c (p:List Half) (bx by_ lo hi:Int) (a:SlA) (w:World) (hp:regionOk p=true) (D:DrvIn bx by_ lo hi) (hsp:Sl 3 halfC w a.A p) (hnil:a.A=none→a.c=0) :
 Calls Tryz.prog 185 #[.agg #[.slice a.A p.length a.c],.int .i64 bx,.int .i64 by_,.int .i64 lo,.int .i64 hi] w fun x w'=>∃ v,x=.returned (.tuple #[.agg #[v],.bool (gaOk bx by_ lo hi p)])∧New 111 3 halfC w' w.heap.size v (gaR bx by_ lo hi p)∧Below w.heap.size w w':=by
 have hl:=reg_len hp
 have hin:=fun h hh=>hIn (hOk (reg_ok hp h hh))
 have hDlo:=D.lw
 have hDhi:=D.hw
 have hDx:=D.x
 have hDy:=D.y
 obtain ⟨i0h,hi0h,hz0h,hz1h,hz2h⟩:=info_parts (show (Tryz.prog.info? 111).map (fun i=>(i.zero,i.size,i.bytes))=some (some (.agg #[.int .i64 0,.int .i64 0,.int .i64 0]),3,24) by kernel_rfl)
 refine calls_v Tryz.func185 rfl (n:=76) Tryz.ntmps185 (by simp) ?_
 intro a0 hz hdf ha
 have s0:a0.tmps[0]?.getD undef=.agg #[.slice a.A p.length a.c]:=ha 0 _ rfl;have s1:a0.tmps[1]?.getD undef=.int .i64 bx:=ha 1 _ rfl;have s2:a0.tmps[2]?.getD undef=.int .i64 by_:=ha 2 _ rfl;have s3:a0.tmps[3]?.getD undef=.int .i64 lo:=ha 3 _ rfl;have s4:a0.tmps[4]?.getD undef=.int .i64 hi:=ha 4 _ rfl;clear ha
 have hB:=Below.refl w.heap.size w
 have hZ:=Nat.le_refl w.heap.size
 refine wp_seq ?_
 refine wp_entry [5,10,11] [.pointer (some ⟨w.heap.size,0,none⟩),.pointer (some ⟨(w.heap.size+1),0,none⟩),.bool false] [some (.cells [.slice a.A p.length a.c].toArray 37),some (.cells [.slice none 0 0].toArray 37),none] [0,1,2] [5,10,11] [0,1,2] (by kernel_rfl) (by rw [hz];decide) (ec ?_ (ec ?_ (ec ?_ .nil))) ?_
 ·intro a w' hF hs N Q hN;simp [go_sem,hF.g rfl s0];rw [hs];exact hN
 ·intro a w' hF hs N Q hN;simp [go_sem];rw [hs];exact hN
 ·intro a w' hF hs N Q hN;simp [go_sem];exact hN
 intro a1 w2 hF hV hb hO
 replace hz:=hF.size.trans hz;replace hdf:=hF.defers.trans hdf;replace s1:=hF.g rfl s1;replace s2:=hF.g rfl s2;replace s3:=hF.g rfl s3;replace s4:=hF.g rfl s4
 have s5:a1.tmps[5]?.getD undef=.pointer (some ⟨w.heap.size,0,none⟩):=hV 0 (by decide)
 have s10:a1.tmps[10]?.getD undef=.pointer (some ⟨(w.heap.size+1),0,none⟩):=hV 1 (by decide)
 have b3:HasT w2 w.heap.size 37 [.slice a.A p.length a.c]:=hO 0 _ rfl
 have b4:HasT w2 (w.heap.size+1) 37 [.slice none 0 0]:=hO 1 _ rfl
 have hG:=b4.lt
 replace hB:=below_tr hB hb;have zw2:=Nat.le_trans hZ hb.size;replace hZ:=Nat.le_refl w2.heap.size;clear hF hV hb hO s0;refine th_n ?_;refine wp_seq ?_;refine wp_seq ?_
 refine wp_regJ (by kernel_rfl) [14,15,16,17,18,19,20,21,22,23,24,25,26,27,28,29,30,31,32,33,34,35,36,37,38,39,40,41,42,43] [some (.agg #[.slice a.A p.length a.c]),some (.bool true),some (.bool false),some (.bool false),some (.pointer (some ⟨w.heap.size,0,none⟩)),some (.slice a.A p.length a.c),some (.int .i64 (p.length:Int)),some (.bool (decide ((p.length:Int) > 38))),some (.bool (decide ((p.length:Int) > 38))),some (.bool (decide ((p.length:Int) > 38))),some ((bif decide ((p.length:Int) > 38) then undef else (.int .i64 bx:Value))),some ((bif decide ((p.length:Int) > 38) then undef else (.bool true:Value))),some ((bif decide ((p.length:Int) > 38) then undef else (.bool false:Value))),some (.bool (decide ((p.length:Int) > 38)||false)),some (.bool (decide ((p.length:Int) > 38)||false)),some ((bif (decide ((p.length:Int) > 38)||false) then undef else (.int .i64 by_:Value))),some ((bif (decide ((p.length:Int) > 38)||false) then undef else (.bool true:Value))),some ((bif (decide ((p.length:Int) > 38)||false) then undef else (.bool false:Value))),some (.bool ((decide ((p.length:Int) > 38)||false)||false)),some (.bool ((decide ((p.length:Int) > 38)||false)||false)),some ((bif ((decide ((p.length:Int) > 38)||false)||false) then undef else (.int .i64 lo:Value))),some ((bif ((decide ((p.length:Int) > 38)||false)||false) then undef else (.bool true:Value))),some ((bif ((decide ((p.length:Int) > 38)||false)||false) then undef else (.bool false:Value))),some (.bool (((decide ((p.length:Int) > 38)||false)||false)||false)),some (.bool (((decide ((p.length:Int) > 38)||false)||false)||false)),some ((bif (((decide ((p.length:Int) > 38)||false)||false)||false) then undef else (.int .i64 hi:Value))),some ((bif (((decide ((p.length:Int) > 38)||false)||false)||false) then undef else (.int .i64 lo:Value))),some ((bif (((decide ((p.length:Int) > 38)||false)||false)||false) then undef else (.bool true:Value))),some ((bif (((decide ((p.length:Int) > 38)||false)||false)||false) then undef else (.bool false:Value))),some (.bool ((((decide ((p.length:Int) > 38)||false)||false)||false)||false))] (dlR 30) [14,15,16,17,18,19,20,21,22,23,24,25,26,27,28,29,30,31,32,33,34,35,36,37,38,39,40,41,42,43] [0,1,2,3,4,5,6,7,8,9,10,11,12,13,14,15,16,17,18,19,20,21,22,23,24,25,26,27,28,29] [] (fun _ _ _=>True) (by kernel_rfl) (by rw [hz];decide) ?_ (en rfl ?_ (en rfl ?_ (en rfl ?_ (en rfl ?_ (eg ?_ (eg ?_ (eg ?_ (eg ?_ (en rfl ?_ (en rfl ?_ (eg ?_ (eg ?_ (eg ?_ (en rfl ?_ (en rfl ?_ (eg ?_ (eg ?_ (eg ?_ (en rfl ?_ (en rfl ?_ (eg ?_ (eg ?_ (eg ?_ (en rfl ?_ (en rfl ?_ (eg ?_ (eg ?_ (eg ?_ (eg ?_ (en rfl ?_ .nil)))))))))))))))))))))))))))))) ?_
 ·exact fun _ _=>trivial
 ·intro Lk ak ww H _ _ hN
  simp [go_sem,H.f.g rfl s5,(b3.k0 H.k).cell]
  exact (hN _ _ H.k rfl trivial)
 ·intro Lk ak ww H _ _ hN
  simp [go_sem,(gS ak 14 (H.d 0 rfl rfl))]
  have hBi:=H.k.below0 hB
  refine (sRegionOk_c p a ww (by omega) hin (hsp.below hBi) hnil).mono ?_
  rintro x wx ⟨rfl,hb⟩
  exact (hN _ _ (H.k.call hb) (congrArg Value.bool hp) trivial)
 ·exact fun Lk ak ww H _ _ hN=>wp_not rfl (ev (H.d 1 rfl rfl)) (hN _ _ H.k rfl trivial)
 ·exact fun Lk ak ww H _ _ hN=>wp_move rfl (ev (H.d 2 rfl rfl)) (hN _ _ H.k rfl trivial)
 ·intro Lk ak ww H _ _ hN
  refine wnt_y rfl rfl rfl (H.d 3 rfl rfl) ?_
  simp [go_sem,H.f.g rfl s5]
  exact (hN _ _ H.k rfl trivial)
 ·intro Lk ak ww H _ _ hN
  refine wnt_y rfl rfl rfl (H.d 3 rfl rfl) ?_
  simp [go_sem,(gS ak 18 (H.d 4 rfl rfl)),(b3.k0 H.k).cell]
  exact (hN _ _ H.k rfl trivial)
 ·intro Lk ak ww H _ _ hN
  refine wnt_y rfl rfl rfl (H.d 3 rfl rfl) ?_
  simp [go_sem,(gS ak 19 (H.d 5 rfl rfl))]
  exact (hN _ _ H.k rfl trivial)
 ·intro Lk ak ww H _ _ hN
  refine wnt_y rfl rfl rfl (H.d 3 rfl rfl) ?_
  exact wp_bin rfl (ev (H.d 6 rfl rfl)) rfl rfl rfl (hN _ _ H.k rfl trivial)
 ·exact fun Lk ak ww H _ _ hN=>wp_pick rfl (ev (H.d 3 rfl rfl)) (fun h=>by cases h) (fun _=>(ev (H.d 7 rfl rfl))) (hN _ _ H.k rfl trivial)
 ·exact fun Lk ak ww H _ _ hN=>wp_move rfl (ev (H.d 8 rfl rfl)) (hN _ _ H.k rfl trivial)
 ·intro Lk ak ww H _ _ hN
  refine wgf rfl rfl rfl (H.d 9 rfl rfl) (fun qg=>hN _ _ H.k (bif_t qg).symm trivial) fun qg=>?_
  exact wp_move rfl (ev (H.f.g rfl s1)) (hN _ _ H.k (bif_f qg).symm trivial)
 ·intro Lk ak ww H _ _ hN
  refine wgf rfl rfl rfl (H.d 9 rfl rfl) (fun qg=>hN _ _ H.k (bif_t qg).symm trivial) fun qg=>?_
  simp [go_sem,(show ak.tmps[24]?.getD undef=_ from (H.d 10 rfl rfl).trans (bif_f qg))]
  refine (l01In_c bx (-100) 100 ww).mono ?_
  rintro x wx ⟨rfl,rfl⟩
  exact (hN _ _ H.k (((congrArg Value.bool (inR_iff.2 ⟨by omega,by omega⟩))).trans (bif_f qg).symm) trivial)
 ·intro Lk ak ww H _ _ hN
  refine wgf rfl rfl rfl (H.d 9 rfl rfl) (fun qg=>hN _ _ H.k (bif_t qg).symm trivial) fun qg=>?_
  exact wp_not rfl (ev ((H.d 11 rfl rfl).trans (bif_f qg))) (hN _ _ H.k (bif_f qg).symm trivial)
 ·exact fun Lk ak ww H _ _ hN=>wp_pick rfl (ev (H.d 9 rfl rfl)) (fun h=>vor_t h) (fun h=>(ev ((H.d 12 rfl rfl).trans (bif_f h))).trans (vor_f h)) (hN _ _ H.k rfl trivial)
 ·exact fun Lk ak ww H _ _ hN=>wp_move rfl (ev (H.d 13 rfl rfl)) (hN _ _ H.k rfl trivial)
 ·intro Lk ak ww H _ _ hN
  refine wgf rfl rfl rfl (H.d 14 rfl rfl) (fun qg=>hN _ _ H.k (bif_t qg).symm trivial) fun qg=>?_
  exact wp_move rfl (ev (H.f.g rfl s2)) (hN _ _ H.k (bif_f qg).symm trivial)
 ·intro Lk ak ww H _ _ hN
  refine wgf rfl rfl rfl (H.d 14 rfl rfl) (fun qg=>hN _ _ H.k (bif_t qg).symm trivial) fun qg=>?_
  simp [go_sem,(show ak.tmps[29]?.getD undef=_ from (H.d 15 rfl rfl).trans (bif_f qg))]
  refine (l01In_c by_ (-100) 100 ww).mono ?_
  rintro x wx ⟨rfl,rfl⟩
  exact (hN _ _ H.k (((congrArg Value.bool (inR_iff.2 ⟨by omega,by omega⟩))).trans (bif_f qg).symm) trivial)
 ·intro Lk ak ww H _ _ hN
  refine wgf rfl rfl rfl (H.d 14 rfl rfl) (fun qg=>hN _ _ H.k (bif_t qg).symm trivial) fun qg=>?_
  exact wp_not rfl (ev ((H.d 16 rfl rfl).trans (bif_f qg))) (hN _ _ H.k (bif_f qg).symm trivial)
 ·exact fun Lk ak ww H _ _ hN=>wp_pick rfl (ev (H.d 14 rfl rfl)) (fun h=>vor_t h) (fun h=>(ev ((H.d 17 rfl rfl).trans (bif_f h))).trans (vor_f h)) (hN _ _ H.k rfl trivial)
 ·exact fun Lk ak ww H _ _ hN=>wp_move rfl (ev (H.d 18 rfl rfl)) (hN _ _ H.k rfl trivial)
 ·intro Lk ak ww H _ _ hN
  refine wgf rfl rfl rfl (H.d 19 rfl rfl) (fun qg=>hN _ _ H.k (bif_t qg).symm trivial) fun qg=>?_
  exact wp_move rfl (ev (H.f.g rfl s3)) (hN _ _ H.k (bif_f qg).symm trivial)
 ·intro Lk ak ww H _ _ hN
  refine wgf rfl rfl rfl (H.d 19 rfl rfl) (fun qg=>hN _ _ H.k (bif_t qg).symm trivial) fun qg=>?_
  simp [go_sem,(show ak.tmps[34]?.getD undef=_ from (H.d 20 rfl rfl).trans (bif_f qg))]
  refine (l01In_c lo (-1000) 1000 ww).mono ?_
  rintro x wx ⟨rfl,rfl⟩
  exact (hN _ _ H.k (((congrArg Value.bool (inR_iff.2 ⟨by omega,by omega⟩))).trans (bif_f qg).symm) trivial)
 ·intro Lk ak ww H _ _ hN
  refine wgf rfl rfl rfl (H.d 19 rfl rfl) (fun qg=>hN _ _ H.k (bif_t qg).symm trivial) fun qg=>?_
  exact wp_not rfl (ev ((H.d 21 rfl rfl).trans (bif_f qg))) (hN _ _ H.k (bif_f qg).symm trivial)
 ·exact fun Lk ak ww H _ _ hN=>wp_pick rfl (ev (H.d 19 rfl rfl)) (fun h=>vor_t h) (fun h=>(ev ((H.d 22 rfl rfl).trans (bif_f h))).trans (vor_f h)) (hN _ _ H.k rfl trivial)
 ·exact fun Lk ak ww H _ _ hN=>wp_move rfl (ev (H.d 23 rfl rfl)) (hN _ _ H.k rfl trivial)
 ·intro Lk ak ww H _ _ hN
  refine wgf rfl rfl rfl (H.d 24 rfl rfl) (fun qg=>hN _ _ H.k (bif_t qg).symm trivial) fun qg=>?_
  exact wp_move rfl (ev (H.f.g rfl s4)) (hN _ _ H.k (bif_f qg).symm trivial)
 ·intro Lk ak ww H _ _ hN
  refine wgf rfl rfl rfl (H.d 24 rfl rfl) (fun qg=>hN _ _ H.k (bif_t qg).symm trivial) fun qg=>?_
  exact wp_move rfl (ev (H.f.g rfl s3)) (hN _ _ H.k (bif_f qg).symm trivial)
 ·intro Lk ak ww H _ _ hN
  refine wgf rfl rfl rfl (H.d 24 rfl rfl) (fun qg=>hN _ _ H.k (bif_t qg).symm trivial) fun qg=>?_
  simp [go_sem,(show ak.tmps[39]?.getD undef=_ from (H.d 25 rfl rfl).trans (bif_f qg)),(show ak.tmps[40]?.getD undef=_ from (H.d 26 rfl rfl).trans (bif_f qg))]
  refine (l01In_c hi lo 1000 ww).mono ?_
  rintro x wx ⟨rfl,rfl⟩
  exact (hN _ _ H.k (((congrArg Value.bool (inR_iff.2 ⟨by omega,by omega⟩))).trans (bif_f qg).symm) trivial)
 ·intro Lk ak ww H _ _ hN
  refine wgf rfl rfl rfl (H.d 24 rfl rfl) (fun qg=>hN _ _ H.k (bif_t qg).symm trivial) fun qg=>?_
  exact wp_not rfl (ev ((H.d 27 rfl rfl).trans (bif_f qg))) (hN _ _ H.k (bif_f qg).symm trivial)
 ·exact fun Lk ak ww H _ _ hN=>wp_pick rfl (ev (H.d 24 rfl rfl)) (fun h=>vor_t h) (fun h=>(ev ((H.d 28 rfl rfl).trans (bif_f h))).trans (vor_f h)) (hN _ _ H.k rfl trivial)
 intro L a5 w6 hL hF hK hV hX;replace hz:=hF.Z hz;replace hdf:=hF.E hdf;replace s1:=hF.G s1;replace s2:=hF.G s2;replace s3:=hF.G s3;replace s4:=hF.G s4;replace s5:=hF.G s5;replace s10:=hF.G s10;have s43:=gS a5 43 (hV 29 _ rfl);replace b3:=b3.k0 hK;replace b4:=b4.k0 hK;replace hZ:=Nat.le_trans hZ hK.size;replace hB:=hK.below0 hB;clear hF hK hV hL hX;refine th_n ?_
 rcases Bool.eq_false_or_eq_true ((((decide ((p.length:Int) > 38)||false)||false)||false)||false) with q7|q7
 ·skip
  refine wp_cond_true (ev (vb s43 q7)) ?_
  refine wp_seq ?_
  have hXb:StaysX [] (fun L aa ww=>PreX ww (w.heap.size+1) 37 [.slice none 0 0] (L 1) (fun _ vs=>vs=[.slice none 0 0])):=by
   intro L aa ww w' kk vv hkk hb hX
   have x0:=hX
   exact (x0.bel hb (fun _ h=>h))
  refine wp_regK hXb (by kernel_rfl) [44,0,11] [some (.agg #[.slice none 0 0]),none,some (.bool false)] (dlR 3) [44,11] [0,1,2] [(w.heap.size+1)] (by kernel_rfl) (by rw [hz];decide) ?_ (en rfl ?_ (en rfl ?_ (en rfl ?_ .nil))) ?_
  ·exact fun _ h=>(⟨fun _=>b4.kp h (by simp),(fun h=>by cases h)⟩)
  ·intro Lk ak ww H _ _ hN
   simp [go_sem]
   exact (hN _ _ H.k rfl H.x)
  ·intro Lk ak ww H _ _ hN
   have x0:=H.x
   have HT:=x0.1 H.n
   simp [go_sem,(gS ak 44 (H.d 0 rfl rfl)),H.f.g rfl s10,HT.cell,HT.frz]
   exact hN undef _ (H.k.store (.inr (by simp)) [.slice none 0 0] 0) trivial (PreX.set HT (us:=[.slice none 0 0]) rfl rfl)
  ·exact fun Lk ak ww H _ _ hN=>wp_assign rfl rfl (hN _ _ H.k rfl H.x)
  intro L a8 w9 hL hF hK hV hX;have x0:=hX;replace hz:=hF.Z hz;replace hdf:=hF.E hdf;replace s10:=hF.G s10;have s11:=gS a8 11 (hV 2 _ rfl);clear b4
  obtain ⟨_,b4,rfl⟩:=x0.2 (hL 1 (by decide))
  replace hZ:=Nat.le_trans hZ hK.size
  replace hB:=hK.below hB hB.size (by simp<;>omega)
  clear hF hK hV hL x0 hXb s1 s2 s3 s4 s5 s43 b3;refine th_n ?_
  refine wp_ret ?_
  refine th_r ?_
  refine bodyPost_ret (v:=.tuple #[.agg #[.slice none 0 0],.bool false]) (by simp [results,Tryz.results185,go_sem,s10,b4.cell,s11]) hdf ?_
  have h0:=ga_no (bx:=bx) (by_:=by_) (lo:=lo) (hi:=hi) (p:=p) (by have:=of_decide_eq_true (show decide ((p.length:Int) > 38)=true by simpa using q7);omega)
  exact ⟨_,by rw [h0.1],by rw [h0.2];exact New.nilN _ _ _ _ _,hB⟩
 ·skip
  refine wp_cond_false (ev (vb s43 q7)) ?_
  refine wp_skip ?_;refine th_n ?_;refine wp_seq ?_;refine wp_seq ?_
  rcases Bool.eq_false_or_eq_true (decide (p.length=0)) with q10|q10
  ·skip
   refine wp_regJ (by kernel_rfl) [45,46,47,48,49,50,51,52,53,54] [some (.agg #[.slice a.A p.length a.c]),some (.bool true),some (.bool true),some (undef),some (undef),some (undef),some (undef),some (undef),some (undef),some (.bool true)] (dlR 10) [45,46,47,48,49,50,51,52,53,54] [0,1,2,3,4,5,6,7,8,9] [] (fun _ _ _=>True) (by kernel_rfl) (by rw [hz];decide) ?_ (en rfl ?_ (en rfl ?_ (en rfl ?_ (eg ?_ (eg ?_ (eg ?_ (eg ?_ (eg ?_ (eg ?_ (en rfl ?_ .nil)))))))))) ?_
   ·exact fun _ _=>trivial
   ·intro Lk ak ww H _ _ hN
    simp [go_sem,H.f.g rfl s5,(b3.k0 H.k).cell]
    exact (hN _ _ H.k rfl trivial)
   ·intro Lk ak ww H _ _ hN
    simp [go_sem,(gS ak 45 (H.d 0 rfl rfl))]
    refine (sIsVoid_c p a ww).mono ?_
    rintro x wx ⟨rfl,hb⟩
    exact (hN _ _ (H.k.call hb) (by show _=_;simp only [q10]) trivial)
   ·exact fun Lk ak ww H _ _ hN=>wp_move rfl (ev (H.d 1 rfl rfl)) (hN _ _ H.k rfl trivial)
   ·intro Lk ak ww H _ _ hN
    refine wnt_n rfl rfl rfl (H.d 2 rfl rfl) (by decide) ?_
    exact hN _ _ H.k rfl trivial
   ·intro Lk ak ww H _ _ hN
    refine wnt_n rfl rfl rfl (H.d 2 rfl rfl) (by decide) ?_
    exact hN _ _ H.k rfl trivial
   ·intro Lk ak ww H _ _ hN
    refine wnt_n rfl rfl rfl (H.d 2 rfl rfl) (by decide) ?_
    exact hN _ _ H.k rfl trivial
   ·intro Lk ak ww H _ _ hN
    refine wnt_u rfl rfl rfl (H.d 5 rfl rfl) ?_
    exact hN _ _ H.k rfl trivial
   ·intro Lk ak ww H _ _ hN
    refine wnt_u rfl rfl rfl (H.d 5 rfl rfl) ?_
    exact hN _ _ H.k rfl trivial
   ·intro Lk ak ww H _ _ hN
    refine wnt_n rfl rfl rfl (H.d 2 rfl rfl) (by decide) ?_
    exact hN _ _ H.k rfl trivial
   ·exact fun Lk ak ww H _ _ hN=>wp_pick rfl (ev (H.d 2 rfl rfl)) (fun _=>rfl) (fun h=>by cases h) (hN _ _ H.k rfl trivial)
   intro L a11 w12 hL hF hK hV hX;replace hz:=hF.Z hz;replace hdf:=hF.E hdf;replace s1:=hF.G s1;replace s2:=hF.G s2;replace s3:=hF.G s3;replace s4:=hF.G s4;replace s5:=hF.G s5;replace s10:=hF.G s10;have s54:=gS a11 54 (hV 9 _ rfl);replace b3:=b3.k0 hK;replace b4:=b4.k0 hK;replace hZ:=Nat.le_trans hZ hK.size;replace hB:=hK.below0 hB;clear hF hK hV hL hX s43;refine th_n ?_
   refine wp_cond_true (ev s54) ?_
   refine wp_seq ?_
   have hXb:StaysX [55,58,59] (fun L aa ww=>(L 0=true→L 3=false→(fun ww v=>∃ e1,v=.slice (some ⟨e1,0,none⟩) 0 0∧New 111 3 halfC ww w12.heap.size (.slice (some ⟨e1,0,none⟩) 0 0) []) ww (aa.tmps[55]?.getD undef))∧(L 3=true→(fun ww v=>∃ A2 c2,v=.slice A2 p.length c2∧New 111 3 halfC ww w12.heap.size (.slice A2 p.length c2) p) ww (aa.tmps[58]?.getD undef))∧(L 4=true→(fun ww v=>∃ A2 c2,v=.agg #[.slice A2 p.length c2]∧New 111 3 halfC ww w12.heap.size (.slice A2 p.length c2) p) ww (aa.tmps[59]?.getD undef))∧PreX ww (w.heap.size+1) 37 [.slice none 0 0] (L 5) (fun ww vs=>∃ A2 c2,vs=[.slice A2 p.length c2]∧New 111 3 halfC ww w12.heap.size (.slice A2 p.length c2) p)):=by
    intro L aa ww w' kk vv hkk hb hX
    obtain ⟨x0,x1,x2,x3⟩:=hX
    exact ⟨(fun h h2=>by rw [put_ne' (hkk 55 (by simp))];obtain ⟨e1',e,f1'⟩:=x0 h h2;exact ⟨e1',e,f1'.below hb leR⟩),(fun h=>by rw [put_ne' (hkk 58 (by simp))];obtain ⟨A2',c2',e,f2'⟩:=x1 h;exact ⟨A2',c2',e,f2'.below hb leR⟩),(fun h=>by rw [put_ne' (hkk 59 (by simp))];obtain ⟨A2',c2',e,f2'⟩:=x2 h;exact ⟨A2',c2',e,f2'.below hb leR⟩),(x3.bel hb (fun _ ⟨A2',c2',e,f2'⟩=>⟨A2',c2',e,f2'.below hb leR⟩))⟩
   refine wp_regK hXb (by kernel_rfl) [55,56,57,58,59,0,11] [none,some (.pointer (some ⟨w.heap.size,0,none⟩)),some (.slice a.A p.length a.c),none,none,none,some (.bool true)] (dlR 7) [55,56,57,58,59,11] [0,1,2,3,4,5,6] [(w.heap.size+1)] (by kernel_rfl) (by rw [hz];decide) ?_ (en rfl ?_ (en rfl ?_ (en rfl ?_ (en rfl ?_ (en rfl ?_ (en rfl ?_ (en rfl ?_ .nil))))))) ?_
   ·exact fun _ h=>⟨(fun h=>by cases h),(fun h=>by cases h),(fun h=>by cases h),(⟨fun _=>b4.kp h (by simp),(fun h=>by cases h)⟩)⟩
   ·intro Lk ak ww H _ _ hN
    obtain ⟨x0,x1,x2,x3⟩:=H.x
    simp [go_sem]
    have f1:New 111 3 halfC (ww.alloc (.cells #[] 111)) w12.heap.size (.slice (some ⟨ww.heap.size,0,none⟩) 0 0) []:=(New.mk0 ww).mono H.k.size
    exact hN _ _ (H.k.alloc _) trivial ⟨(fun _ _=>by rw [put_get_self (H.f.lt (by rw [hz];decide))];exact ⟨_,rfl,f1⟩),(fun h=>by rw [put_ne' (by decide)];obtain ⟨A2',c2',e,f2'⟩:=x1 h;exact ⟨A2',c2',e,f2'.below (below_al bR _) leR⟩),(fun h=>by rw [put_ne' (by decide)];obtain ⟨A2',c2',e,f2'⟩:=x2 h;exact ⟨A2',c2',e,f2'.below (below_al bR _) leR⟩),(x3.bel (below_al bR _) (fun _ ⟨A2',c2',e,f2'⟩=>⟨A2',c2',e,f2'.below (below_al bR _) leR⟩))⟩
   ·intro Lk ak ww H _ _ hN
    simp [go_sem,H.f.g rfl s5]
    exact (hN _ _ H.k rfl (hXb.q rfl H.x))
   ·intro Lk ak ww H _ _ hN
    simp [go_sem,(gS ak 56 (H.d 1 rfl rfl)),(b3.kp H.k (by simp<;>omega)).cell]
    exact (hN _ _ H.k rfl (hXb.q rfl H.x))
   ·intro Lk ak ww H _ _ hN
    obtain ⟨x0,x1,x2,x3⟩:=H.x
    obtain ⟨e1,ee0,f1⟩:=x0 (H.r 0 rfl) H.n
    have hBi:=H.k.below hB hB.size (by simp<;>omega)
    refine step_app0 halfC_len _ _ _ rfl w12.heap.size i0h _ 24 Tryz.underlying35 hi0h hz0h hz1h hz2h rfl (by decide) (ev ee0) f1 a.A a.c (ev (H.d 2 rfl rfl)) (hsp.below hBi) hnil H.k.size (by have:=hl;omega) (by decide) ?_
    rintro _ wx ⟨A2,c2,rfl,f2⟩ hb
    replace f2:New 111 3 halfC wx w12.heap.size (.slice A2 p.length c2) p:=⟨_,_,rfl,f2⟩
    exact hN _ _ (H.k.call hb) trivial ⟨(fun h h2=>by simp [upd] at h2),(fun _=>by rw [put_get_self (H.f.lt (by rw [hz];decide))];exact ⟨A2,c2,rfl,f2⟩),(fun h=>by rw [put_ne' (by decide)];obtain ⟨A2',c2',e,f2'⟩:=x2 h;exact ⟨A2',c2',e,f2'.below hb leR⟩),(x3.bel hb (fun _ ⟨A2',c2',e,f2'⟩=>⟨A2',c2',e,f2'.below hb leR⟩))⟩
   ·intro Lk ak ww H _ _ hN
    obtain ⟨x0,x1,x2,x3⟩:=H.x
    obtain ⟨A2,c2,ee3,f2⟩:=x1 (H.r 3 rfl)
    simp [go_sem,ee3]
    exact (hN _ _ H.k trivial ⟨(fun h h2=>by rw [put_ne' (by decide)];obtain ⟨e1',e,f1'⟩:=x0 h h2;exact ⟨e1',e,f1'.below bR leR⟩),(fun h=>by rw [put_ne' (by decide)];obtain ⟨A2',c2',e,f2'⟩:=x1 h;exact ⟨A2',c2',e,f2'.below bR leR⟩),(fun _=>by rw [put_get_self (H.f.lt (by rw [hz];decide))];exact ⟨A2,c2,rfl,f2⟩),(x3.bel bR (fun _ ⟨A2',c2',e,f2'⟩=>⟨A2',c2',e,f2'.below bR leR⟩))⟩)
   ·intro Lk ak ww H _ _ hN
    obtain ⟨x0,x1,x2,x3⟩:=H.x
    obtain ⟨A2,c2,ee4,f2⟩:=x2 (H.r 4 rfl)
    have HT:=x3.1 H.n
    simp [go_sem,ee4,H.f.g rfl s10,HT.cell,HT.frz]
    have f2:=f2.otherC (f2.typ HT (by decide)) [.slice A2 p.length c2] 0
    exact hN undef _ (H.k.store (.inr (by simp)) [.slice A2 p.length c2] 0) trivial ⟨(fun h h2=>by obtain ⟨e1',e,f1'⟩:=x0 h h2;exact ⟨e1',e,f1'.otherC (f1'.typ HT (by decide)) [.slice A2 p.length c2] 0⟩),(fun h=>by obtain ⟨A2',c2',e,f2'⟩:=x1 h;exact ⟨A2',c2',e,f2'.otherC (f2'.typ HT (by decide)) [.slice A2 p.length c2] 0⟩),(fun h=>by obtain ⟨A2',c2',e,f2'⟩:=x2 h;exact ⟨A2',c2',e,f2'.otherC (f2'.typ HT (by decide)) [.slice A2 p.length c2] 0⟩),(PreX.set HT (us:=[.slice A2 p.length c2]) rfl ⟨A2,c2,rfl,f2⟩)⟩
   ·exact fun Lk ak ww H _ _ hN=>wp_assign rfl rfl (hN _ _ H.k rfl (hXb.q rfl H.x))
   intro L a13 w14 hL hF hK hV hX
   obtain ⟨x0,x1,x2,x3⟩:=hX
   replace hz:=hF.Z hz;replace hdf:=hF.E hdf;replace s10:=hF.G s10;have s11:=gS a13 11 (hV 6 _ rfl);clear b4
   obtain ⟨_,b4,A2,c2,rfl,N2⟩:=x3.2 (hL 5 (by decide))
   have i2:∀ p,A2=some p→p.block<w14.heap.size:=fun p hp=>(N2.blk p hp).2;have zw12:=hZ;have zw14:=hK.size;replace hZ:=Nat.le_refl w14.heap.size
   replace hB:=hK.below hB hB.size (by simp<;>omega)
   clear hF hK hV hL x0 x1 x2 x3 hXb s1 s2 s3 s4 s5 s54 b3;refine th_n ?_
   refine wp_ret ?_
   refine th_r ?_
   refine bodyPost_ret (v:=.tuple #[.agg #[.slice A2 p.length c2],.bool true]) (by simp [results,Tryz.results185,go_sem,s10,b4.cell,s11]) hdf ?_
   have h9:=ga_yes (bx:=bx) (by_:=by_) (lo:=lo) (hi:=hi) (p:=p) (by have:=of_decide_eq_false (show decide ((p.length:Int) > 38)=false by simpa using q7);omega)
   have hT:growT p bx by_=true:=by unfold growT;rw [q10];rfl
   have h0:=grow_triv (lo:=lo) (hi:=hi) hT
   exact ⟨_,by rw [h9.1,h0.1],by rw [h9.2,h0.2];exact N2.mono (by omega),hB⟩
  ·skip
   refine wp_regJ (by kernel_rfl) [45,46,47,48,49,50,51,52,53,54] [some (.agg #[.slice a.A p.length a.c]),some (.bool false),some (.bool false),some (.int .i64 bx),some (.bool (bx == 0)),some (.bool (bx == 0)),some ((bif bx == 0 then (.int .i64 by_:Value) else undef)),some ((bif bx == 0 then (.bool (by_ == 0):Value) else undef)),some (.bool (bx == 0&&by_ == 0)),some (.bool (bx == 0&&by_ == 0))] (dlR 10) [45,46,47,48,49,50,51,52,53,54] [0,1,2,3,4,5,6,7,8,9] [] (fun _ _ _=>True) (by kernel_rfl) (by rw [hz];decide) ?_ (en rfl ?_ (en rfl ?_ (en rfl ?_ (eg ?_ (eg ?_ (eg ?_ (eg ?_ (eg ?_ (eg ?_ (en rfl ?_ .nil)))))))))) ?_
   ·exact fun _ _=>trivial
   ·intro Lk ak ww H _ _ hN
    simp [go_sem,H.f.g rfl s5,(b3.k0 H.k).cell]
    exact (hN _ _ H.k rfl trivial)
   ·intro Lk ak ww H _ _ hN
    simp [go_sem,(gS ak 45 (H.d 0 rfl rfl))]
    refine (sIsVoid_c p a ww).mono ?_
    rintro x wx ⟨rfl,hb⟩
    exact (hN _ _ (H.k.call hb) (by show _=_;simp only [q10]) trivial)
   ·exact fun Lk ak ww H _ _ hN=>wp_move rfl (ev (H.d 1 rfl rfl)) (hN _ _ H.k rfl trivial)
   ·intro Lk ak ww H _ _ hN
    refine wnt_y rfl rfl rfl (H.d 2 rfl rfl) ?_
    exact wp_move rfl (ev (H.f.g rfl s1)) (hN _ _ H.k rfl trivial)
   ·intro Lk ak ww H _ _ hN
    refine wnt_y rfl rfl rfl (H.d 2 rfl rfl) ?_
    exact wp_bin rfl (ev (H.d 3 rfl rfl)) rfl rfl rfl (hN _ _ H.k rfl trivial)
   ·intro Lk ak ww H _ _ hN
    refine wnt_y rfl rfl rfl (H.d 2 rfl rfl) ?_
    exact wp_move rfl (ev (H.d 4 rfl rfl)) (hN _ _ H.k rfl trivial)
   ·intro Lk ak ww H _ _ hN
    refine wgt rfl rfl rfl (H.d 5 rfl rfl) (fun qg=>hN _ _ H.k (bif_f qg).symm trivial) fun qg=>?_
    exact wp_move rfl (ev (H.f.g rfl s2)) (hN _ _ H.k (bif_t qg).symm trivial)
   ·intro Lk ak ww H _ _ hN
    refine wgt rfl rfl rfl (H.d 5 rfl rfl) (fun qg=>hN _ _ H.k (bif_f qg).symm trivial) fun qg=>?_
    exact wp_bin rfl (ev ((H.d 6 rfl rfl).trans (bif_t qg))) rfl rfl rfl (hN _ _ H.k (bif_t qg).symm trivial)
   ·intro Lk ak ww H _ _ hN
    refine wnt_y rfl rfl rfl (H.d 2 rfl rfl) ?_
    exact wp_pick rfl (ev (H.d 5 rfl rfl)) (fun h=>(ev ((H.d 7 rfl rfl).trans (bif_t h))).trans (vand_t h)) (fun h=>vand_f h) (hN _ _ H.k rfl trivial)
   ·exact fun Lk ak ww H _ _ hN=>wp_pick rfl (ev (H.d 2 rfl rfl)) (fun h=>by cases h) (fun _=>(ev (H.d 8 rfl rfl))) (hN _ _ H.k rfl trivial)
   intro L a15 w16 hL hF hK hV hX;replace hz:=hF.Z hz;replace hdf:=hF.E hdf;replace s1:=hF.G s1;replace s2:=hF.G s2;replace s3:=hF.G s3;replace s4:=hF.G s4;replace s5:=hF.G s5;replace s10:=hF.G s10;have s54:=gS a15 54 (hV 9 _ rfl);replace b3:=b3.k0 hK;replace b4:=b4.k0 hK;replace hZ:=Nat.le_trans hZ hK.size;replace hB:=hK.below0 hB;clear hF hK hV hL hX s43;refine th_n ?_
   rcases Bool.eq_false_or_eq_true (bx == 0&&by_ == 0) with q17|q17
   ·skip
    refine wp_cond_true (ev (vb s54 q17)) ?_
    refine wp_seq ?_
    have hXb:StaysX [55,58,59] (fun L aa ww=>(L 0=true→L 3=false→(fun ww v=>∃ e3,v=.slice (some ⟨e3,0,none⟩) 0 0∧New 111 3 halfC ww w16.heap.size (.slice (some ⟨e3,0,none⟩) 0 0) []) ww (aa.tmps[55]?.getD undef))∧(L 3=true→(fun ww v=>∃ A4 c4,v=.slice A4 p.length c4∧New 111 3 halfC ww w16.heap.size (.slice A4 p.length c4) p) ww (aa.tmps[58]?.getD undef))∧(L 4=true→(fun ww v=>∃ A4 c4,v=.agg #[.slice A4 p.length c4]∧New 111 3 halfC ww w16.heap.size (.slice A4 p.length c4) p) ww (aa.tmps[59]?.getD undef))∧PreX ww (w.heap.size+1) 37 [.slice none 0 0] (L 5) (fun ww vs=>∃ A4 c4,vs=[.slice A4 p.length c4]∧New 111 3 halfC ww w16.heap.size (.slice A4 p.length c4) p)):=by
     intro L aa ww w' kk vv hkk hb hX
     obtain ⟨x0,x1,x2,x3⟩:=hX
     exact ⟨(fun h h2=>by rw [put_ne' (hkk 55 (by simp))];obtain ⟨e3',e,f3'⟩:=x0 h h2;exact ⟨e3',e,f3'.below hb leR⟩),(fun h=>by rw [put_ne' (hkk 58 (by simp))];obtain ⟨A4',c4',e,f4'⟩:=x1 h;exact ⟨A4',c4',e,f4'.below hb leR⟩),(fun h=>by rw [put_ne' (hkk 59 (by simp))];obtain ⟨A4',c4',e,f4'⟩:=x2 h;exact ⟨A4',c4',e,f4'.below hb leR⟩),(x3.bel hb (fun _ ⟨A4',c4',e,f4'⟩=>⟨A4',c4',e,f4'.below hb leR⟩))⟩
    refine wp_regK hXb (by kernel_rfl) [55,56,57,58,59,0,11] [none,some (.pointer (some ⟨w.heap.size,0,none⟩)),some (.slice a.A p.length a.c),none,none,none,some (.bool true)] (dlR 7) [55,56,57,58,59,11] [0,1,2,3,4,5,6] [(w.heap.size+1)] (by kernel_rfl) (by rw [hz];decide) ?_ (en rfl ?_ (en rfl ?_ (en rfl ?_ (en rfl ?_ (en rfl ?_ (en rfl ?_ (en rfl ?_ .nil))))))) ?_
    ·exact fun _ h=>⟨(fun h=>by cases h),(fun h=>by cases h),(fun h=>by cases h),(⟨fun _=>b4.kp h (by simp),(fun h=>by cases h)⟩)⟩
    ·intro Lk ak ww H _ _ hN
     obtain ⟨x0,x1,x2,x3⟩:=H.x
     simp [go_sem]
     have f3:New 111 3 halfC (ww.alloc (.cells #[] 111)) w16.heap.size (.slice (some ⟨ww.heap.size,0,none⟩) 0 0) []:=(New.mk0 ww).mono H.k.size
     exact hN _ _ (H.k.alloc _) trivial ⟨(fun _ _=>by rw [put_get_self (H.f.lt (by rw [hz];decide))];exact ⟨_,rfl,f3⟩),(fun h=>by rw [put_ne' (by decide)];obtain ⟨A4',c4',e,f4'⟩:=x1 h;exact ⟨A4',c4',e,f4'.below (below_al bR _) leR⟩),(fun h=>by rw [put_ne' (by decide)];obtain ⟨A4',c4',e,f4'⟩:=x2 h;exact ⟨A4',c4',e,f4'.below (below_al bR _) leR⟩),(x3.bel (below_al bR _) (fun _ ⟨A4',c4',e,f4'⟩=>⟨A4',c4',e,f4'.below (below_al bR _) leR⟩))⟩
    ·intro Lk ak ww H _ _ hN
     simp [go_sem,H.f.g rfl s5]
     exact (hN _ _ H.k rfl (hXb.q rfl H.x))
    ·intro Lk ak ww H _ _ hN
     simp [go_sem,(gS ak 56 (H.d 1 rfl rfl)),(b3.kp H.k (by simp<;>omega)).cell]
     exact (hN _ _ H.k rfl (hXb.q rfl H.x))
    ·intro Lk ak ww H _ _ hN
     obtain ⟨x0,x1,x2,x3⟩:=H.x
     obtain ⟨e3,ee0,f3⟩:=x0 (H.r 0 rfl) H.n
     have hBi:=H.k.below hB hB.size (by simp<;>omega)
     refine step_app0 halfC_len _ _ _ rfl w16.heap.size i0h _ 24 Tryz.underlying35 hi0h hz0h hz1h hz2h rfl (by decide) (ev ee0) f3 a.A a.c (ev (H.d 2 rfl rfl)) (hsp.below hBi) hnil H.k.size (by have:=hl;omega) (by decide) ?_
     rintro _ wx ⟨A4,c4,rfl,f4⟩ hb
     replace f4:New 111 3 halfC wx w16.heap.size (.slice A4 p.length c4) p:=⟨_,_,rfl,f4⟩
     exact hN _ _ (H.k.call hb) trivial ⟨(fun h h2=>by simp [upd] at h2),(fun _=>by rw [put_get_self (H.f.lt (by rw [hz];decide))];exact ⟨A4,c4,rfl,f4⟩),(fun h=>by rw [put_ne' (by decide)];obtain ⟨A4',c4',e,f4'⟩:=x2 h;exact ⟨A4',c4',e,f4'.below hb leR⟩),(x3.bel hb (fun _ ⟨A4',c4',e,f4'⟩=>⟨A4',c4',e,f4'.below hb leR⟩))⟩
    ·intro Lk ak ww H _ _ hN
     obtain ⟨x0,x1,x2,x3⟩:=H.x
     obtain ⟨A4,c4,ee3,f4⟩:=x1 (H.r 3 rfl)
     simp [go_sem,ee3]
     exact (hN _ _ H.k trivial ⟨(fun h h2=>by rw [put_ne' (by decide)];obtain ⟨e3',e,f3'⟩:=x0 h h2;exact ⟨e3',e,f3'.below bR leR⟩),(fun h=>by rw [put_ne' (by decide)];obtain ⟨A4',c4',e,f4'⟩:=x1 h;exact ⟨A4',c4',e,f4'.below bR leR⟩),(fun _=>by rw [put_get_self (H.f.lt (by rw [hz];decide))];exact ⟨A4,c4,rfl,f4⟩),(x3.bel bR (fun _ ⟨A4',c4',e,f4'⟩=>⟨A4',c4',e,f4'.below bR leR⟩))⟩)
    ·intro Lk ak ww H _ _ hN
     obtain ⟨x0,x1,x2,x3⟩:=H.x
     obtain ⟨A4,c4,ee4,f4⟩:=x2 (H.r 4 rfl)
     have HT:=x3.1 H.n
     simp [go_sem,ee4,H.f.g rfl s10,HT.cell,HT.frz]
     have f4:=f4.otherC (f4.typ HT (by decide)) [.slice A4 p.length c4] 0
     exact hN undef _ (H.k.store (.inr (by simp)) [.slice A4 p.length c4] 0) trivial ⟨(fun h h2=>by obtain ⟨e3',e,f3'⟩:=x0 h h2;exact ⟨e3',e,f3'.otherC (f3'.typ HT (by decide)) [.slice A4 p.length c4] 0⟩),(fun h=>by obtain ⟨A4',c4',e,f4'⟩:=x1 h;exact ⟨A4',c4',e,f4'.otherC (f4'.typ HT (by decide)) [.slice A4 p.length c4] 0⟩),(fun h=>by obtain ⟨A4',c4',e,f4'⟩:=x2 h;exact ⟨A4',c4',e,f4'.otherC (f4'.typ HT (by decide)) [.slice A4 p.length c4] 0⟩),(PreX.set HT (us:=[.slice A4 p.length c4]) rfl ⟨A4,c4,rfl,f4⟩)⟩
    ·exact fun Lk ak ww H _ _ hN=>wp_assign rfl rfl (hN _ _ H.k rfl (hXb.q rfl H.x))
    intro L a18 w19 hL hF hK hV hX
    obtain ⟨x0,x1,x2,x3⟩:=hX
    replace hz:=hF.Z hz;replace hdf:=hF.E hdf;replace s10:=hF.G s10;have s11:=gS a18 11 (hV 6 _ rfl);clear b4
    obtain ⟨_,b4,A4,c4,rfl,N4⟩:=x3.2 (hL 5 (by decide))
    have i4:∀ p,A4=some p→p.block<w19.heap.size:=fun p hp=>(N4.blk p hp).2;have zw16:=hZ;have zw19:=hK.size;replace hZ:=Nat.le_refl w19.heap.size
    replace hB:=hK.below hB hB.size (by simp<;>omega)
    clear hF hK hV hL x0 x1 x2 x3 hXb s1 s2 s3 s4 s5 s54 b3;refine th_n ?_
    refine wp_ret ?_
    refine th_r ?_
    refine bodyPost_ret (v:=.tuple #[.agg #[.slice A4 p.length c4],.bool true]) (by simp [results,Tryz.results185,go_sem,s10,b4.cell,s11]) hdf ?_
    have h9:=ga_yes (bx:=bx) (by_:=by_) (lo:=lo) (hi:=hi) (p:=p) (by have:=of_decide_eq_false (show decide ((p.length:Int) > 38)=false by simpa using q7);omega)
    have hT:growT p bx by_=true:=by unfold growT;rw [q10,q17];rfl
    have h0:=grow_triv (lo:=lo) (hi:=hi) hT
    exact ⟨_,by rw [h9.1,h0.1],by rw [h9.2,h0.2];exact N4.mono (by omega),hB⟩
   ·skip
    have hT:growT p bx by_=false:=by unfold growT;rw [q10,q17];rfl
    obtain ⟨hne,hnz⟩:=grow_ne hT
    have hD:DirIn bx by_:=⟨D.x,D.y,hnz⟩
    refine wp_cond_false (ev (vb s54 q17)) ?_
    refine wp_skip ?_;refine th_n ?_;refine wp_seq ?_
    have hXb:StaysX [12,60,66,67] (fun L aa ww=>(L 5=true→(fun ww v=>∃ A5 c5,v=.tuple #[.slice A5 ((gwL bx by_ lo hi p).length) c5,.bool (gwB bx by_ lo hi p)]∧New 111 3 halfC ww w16.heap.size (.slice A5 (gwL bx by_ lo hi p).length c5) (gwL bx by_ lo hi p)) ww (aa.tmps[66]?.getD undef))∧(L 6=true→(fun ww v=>∃ A5 c5,v=.tuple #[.slice A5 ((gwL bx by_ lo hi p).length) c5,.bool (gwB bx by_ lo hi p)]∧New 111 3 halfC ww w16.heap.size (.slice A5 (gwL bx by_ lo hi p).length c5) (gwL bx by_ lo hi p)) ww (aa.tmps[60]?.getD undef))∧(L 7=true→(fun ww v=>∃ A5 c5,v=.slice A5 ((gwL bx by_ lo hi p).length) c5∧New 111 3 halfC ww w16.heap.size (.slice A5 (gwL bx by_ lo hi p).length c5) (gwL bx by_ lo hi p)) ww (aa.tmps[67]?.getD undef))∧(L 9=true→(fun ww v=>∃ A5 c5,v=.slice A5 ((gwL bx by_ lo hi p).length) c5∧New 111 3 halfC ww w16.heap.size (.slice A5 (gwL bx by_ lo hi p).length c5) (gwL bx by_ lo hi p)) ww (aa.tmps[12]?.getD undef))):=by
     intro L aa ww w' kk vv hkk hb hX
     obtain ⟨x0,x1,x2,x3⟩:=hX
     exact ⟨(fun h=>by rw [put_ne' (hkk 66 (by simp))];obtain ⟨A5',c5',e,f5'⟩:=x0 h;exact ⟨A5',c5',e,f5'.below hb leR⟩),(fun h=>by rw [put_ne' (hkk 60 (by simp))];obtain ⟨A5',c5',e,f5'⟩:=x1 h;exact ⟨A5',c5',e,f5'.below hb leR⟩),(fun h=>by rw [put_ne' (hkk 67 (by simp))];obtain ⟨A5',c5',e,f5'⟩:=x2 h;exact ⟨A5',c5',e,f5'.below hb leR⟩),(fun h=>by rw [put_ne' (hkk 12 (by simp))];obtain ⟨A5',c5',e,f5'⟩:=x3 h;exact ⟨A5',c5',e,f5'.below hb leR⟩)⟩
    refine wp_regK hXb (by kernel_rfl) [61,62,63,64,65,66,60,67,68,12,13] [some (.agg #[.slice a.A p.length a.c]),some (.int .i64 bx),some (.int .i64 by_),some (.int .i64 lo),some (.int .i64 hi),none,none,none,some (.bool (gwB bx by_ lo hi p)),none,some (.bool (gwB bx by_ lo hi p))] (dlR 11) [61,62,63,64,65,66,60,67,68,12,13] [0,1,2,3,4,5,6,7,8,9,10] [] (by kernel_rfl) (by rw [hz];decide) ?_ (en rfl ?_ (en rfl ?_ (en rfl ?_ (en rfl ?_ (en rfl ?_ (en rfl ?_ (en rfl ?_ (en rfl ?_ (en rfl ?_ (en rfl ?_ (en rfl ?_ .nil))))))))))) ?_
    ·exact fun _ h=>⟨(fun h=>by cases h),(fun h=>by cases h),(fun h=>by cases h),(fun h=>by cases h)⟩
    ·intro Lk ak ww H _ _ hN
     simp [go_sem,H.f.g rfl s5,(b3.k0 H.k).cell]
     exact (hN _ _ H.k rfl (hXb.q rfl H.x))
    ·exact fun Lk ak ww H _ _ hN=>wp_move rfl (ev (H.f.g rfl s1)) (hN _ _ H.k rfl (hXb.q rfl H.x))
    ·exact fun Lk ak ww H _ _ hN=>wp_move rfl (ev (H.f.g rfl s2)) (hN _ _ H.k rfl (hXb.q rfl H.x))
    ·exact fun Lk ak ww H _ _ hN=>wp_move rfl (ev (H.f.g rfl s3)) (hN _ _ H.k rfl (hXb.q rfl H.x))
    ·exact fun Lk ak ww H _ _ hN=>wp_move rfl (ev (H.f.g rfl s4)) (hN _ _ H.k rfl (hXb.q rfl H.x))
    ·intro Lk ak ww H _ _ hN
     obtain ⟨x0,x1,x2,x3⟩:=H.x
     simp [go_sem,(gS ak 61 (H.d 0 rfl rfl)),(gS ak 62 (H.d 1 rfl rfl)),(gS ak 63 (H.d 2 rfl rfl)),(gS ak 64 (H.d 3 rfl rfl)),(gS ak 65 (H.d 4 rfl rfl))]
     have hBi:=H.k.below0 hB
     refine (sGrown_c p bx by_ lo hi a ww hp hne D hnz (hsp.below hBi)).mono ?_
     rintro x wx ⟨A5,c5,rfl,f0,hb⟩
     have f5:=f0.mono H.k.size
     exact (hN _ _ (H.k.call hb) trivial ⟨(fun _=>by rw [put_get_self (H.f.lt (by rw [hz];decide))];exact ⟨A5,c5,rfl,f5⟩),(fun h=>by rw [put_ne' (by decide)];obtain ⟨A5',c5',e,f5'⟩:=x1 h;exact ⟨A5',c5',e,f5'.below hb leR⟩),(fun h=>by rw [put_ne' (by decide)];obtain ⟨A5',c5',e,f5'⟩:=x2 h;exact ⟨A5',c5',e,f5'.below hb leR⟩),(fun h=>by rw [put_ne' (by decide)];obtain ⟨A5',c5',e,f5'⟩:=x3 h;exact ⟨A5',c5',e,f5'.below hb leR⟩)⟩)
    ·intro Lk ak ww H _ _ hN
     obtain ⟨x0,x1,x2,x3⟩:=H.x
     obtain ⟨A5,c5,ee5,f5⟩:=x0 (H.r 5 rfl)
     exact wp_move rfl (ev ee5) (hN _ _ H.k trivial ⟨(fun h=>by rw [put_ne' (by decide)];obtain ⟨A5',c5',e,f5'⟩:=x0 h;exact ⟨A5',c5',e,f5'.below bR leR⟩),(fun _=>by rw [put_get_self (H.f.lt (by rw [hz];decide))];exact ⟨A5,c5,rfl,f5⟩),(fun h=>by rw [put_ne' (by decide)];obtain ⟨A5',c5',e,f5'⟩:=x2 h;exact ⟨A5',c5',e,f5'.below bR leR⟩),(fun h=>by rw [put_ne' (by decide)];obtain ⟨A5',c5',e,f5'⟩:=x3 h;exact ⟨A5',c5',e,f5'.below bR leR⟩)⟩)
    ·intro Lk ak ww H _ _ hN
     obtain ⟨x0,x1,x2,x3⟩:=H.x
     obtain ⟨A5,c5,ee6,f5⟩:=x1 (H.r 6 rfl)
     exact wp_extract rfl (ev ee6) rfl (hN _ _ H.k trivial ⟨(fun h=>by rw [put_ne' (by decide)];obtain ⟨A5',c5',e,f5'⟩:=x0 h;exact ⟨A5',c5',e,f5'.below bR leR⟩),(fun h=>by rw [put_ne' (by decide)];obtain ⟨A5',c5',e,f5'⟩:=x1 h;exact ⟨A5',c5',e,f5'.below bR leR⟩),(fun _=>by rw [put_get_self (H.f.lt (by rw [hz];decide))];exact ⟨A5,c5,rfl,f5⟩),(fun h=>by rw [put_ne' (by decide)];obtain ⟨A5',c5',e,f5'⟩:=x3 h;exact ⟨A5',c5',e,f5'.below bR leR⟩)⟩)
    ·intro Lk ak ww H _ _ hN
     obtain ⟨x0,x1,x2,x3⟩:=H.x
     obtain ⟨A5,c5,ee6,f5⟩:=x1 (H.r 6 rfl)
     exact wp_extract rfl (ev ee6) rfl (hN _ _ H.k rfl (hXb.q rfl H.x))
    ·intro Lk ak ww H _ _ hN
     obtain ⟨x0,x1,x2,x3⟩:=H.x
     obtain ⟨A5,c5,ee7,f5⟩:=x2 (H.r 7 rfl)
     exact wp_assign rfl (ev ee7) (hN _ _ H.k trivial ⟨(fun h=>by rw [put_ne' (by decide)];obtain ⟨A5',c5',e,f5'⟩:=x0 h;exact ⟨A5',c5',e,f5'.below bR leR⟩),(fun h=>by rw [put_ne' (by decide)];obtain ⟨A5',c5',e,f5'⟩:=x1 h;exact ⟨A5',c5',e,f5'.below bR leR⟩),(fun h=>by rw [put_ne' (by decide)];obtain ⟨A5',c5',e,f5'⟩:=x2 h;exact ⟨A5',c5',e,f5'.below bR leR⟩),(fun _=>by rw [put_get_self (H.f.lt (by rw [hz];decide))];exact ⟨A5,c5,rfl,f5⟩)⟩)
    ·exact fun Lk ak ww H _ _ hN=>wp_assign rfl (ev (H.d 8 rfl rfl)) (hN _ _ H.k rfl (hXb.q rfl H.x))
    intro L a20 w21 hL hF hK hV hX
    obtain ⟨x0,x1,x2,x3⟩:=hX
    replace hz:=hF.Z hz;replace hdf:=hF.E hdf;replace s10:=hF.G s10;have s13:=gS a20 13 (hV 10 _ rfl);replace b4:=b4.k0 hK
    obtain ⟨A5,c5,s12,N5⟩:=x3 (hL 9 (by decide))
    have i5:∀ p,A5=some p→p.block<w21.heap.size:=fun p hp=>(N5.blk p hp).2;have zw16:=hZ;have zw21:=hK.size;replace hZ:=Nat.le_refl w21.heap.size;replace hB:=hK.below0 hB;clear hF hK hV hL x0 x1 x2 x3 hXb s1 s2 s3 s4 s5 s54 b3;refine th_n ?_;refine wp_seq ?_;refine wp_seq ?_
    refine wp_regJ (by kernel_rfl) [69,70] [some (.bool (gwB bx by_ lo hi p)),some (.bool (!(gwB bx by_ lo hi p)))] (dlR 2) [69,70] [0,1] [] (fun _ _ _=>True) (by kernel_rfl) (by rw [hz];decide) ?_ (en rfl ?_ (en rfl ?_ .nil)) ?_
    ·exact fun _ _=>trivial
    ·exact fun Lk ak ww H _ _ hN=>wp_move rfl (ev (H.f.g rfl s13)) (hN _ _ H.k rfl trivial)
    ·exact fun Lk ak ww H _ _ hN=>wp_not rfl (ev (H.d 0 rfl rfl)) (hN _ _ H.k rfl trivial)
    intro L a22 w23 hL hF hK hV hX;replace hz:=hF.Z hz;replace hdf:=hF.E hdf;replace s10:=hF.G s10;replace s12:=hF.G s12;have s70:=gS a22 70 (hV 1 _ rfl);replace b4:=b4.k0 hK;replace N5:=N5.below hK.toBelow leR;replace hZ:=Nat.le_trans hZ hK.size;replace hB:=hK.below0 hB;clear hF hK hV hL hX s13;refine th_n ?_
    rcases Bool.eq_false_or_eq_true (!(gwB bx by_ lo hi p)) with q24|q24
    ·skip
     refine wp_cond_true (ev (vb s70 q24)) ?_
     refine wp_seq ?_
     have hXb:StaysX [] (fun L aa ww=>PreX ww (w.heap.size+1) 37 [.slice none 0 0] (L 1) (fun _ vs=>vs=[.slice none 0 0])):=by
      intro L aa ww w' kk vv hkk hb hX
      have x0:=hX
      exact (x0.bel hb (fun _ h=>h))
     refine wp_regK hXb (by kernel_rfl) [71,0,11] [some (.agg #[.slice none 0 0]),none,some (.bool false)] (dlR 3) [71,11] [0,1,2] [(w.heap.size+1)] (by kernel_rfl) (by rw [hz];decide) ?_ (en rfl ?_ (en rfl ?_ (en rfl ?_ .nil))) ?_
     ·exact fun _ h=>(⟨fun _=>b4.kp h (by simp),(fun h=>by cases h)⟩)
     ·intro Lk ak ww H _ _ hN
      simp [go_sem]
      exact (hN _ _ H.k rfl H.x)
     ·intro Lk ak ww H _ _ hN
      have x0:=H.x
      have HT:=x0.1 H.n
      simp [go_sem,(gS ak 71 (H.d 0 rfl rfl)),H.f.g rfl s10,HT.cell,HT.frz]
      exact hN undef _ (H.k.store (.inr (by simp)) [.slice none 0 0] 0) trivial (PreX.set HT (us:=[.slice none 0 0]) rfl rfl)
     ·exact fun Lk ak ww H _ _ hN=>wp_assign rfl rfl (hN _ _ H.k rfl H.x)
     intro L a25 w26 hL hF hK hV hX;have x0:=hX;replace hz:=hF.Z hz;replace hdf:=hF.E hdf;replace s10:=hF.G s10;have s11:=gS a25 11 (hV 2 _ rfl);clear b4
     obtain ⟨_,b4,rfl⟩:=x0.2 (hL 1 (by decide))
     replace hZ:=Nat.le_trans hZ hK.size
     replace hB:=hK.below hB hB.size (by simp<;>omega)
     clear hF hK hV hL x0 hXb s12 s70 N5 i5;refine th_n ?_
     refine wp_ret ?_
     refine th_r ?_
     refine bodyPost_ret (v:=.tuple #[.agg #[.slice none 0 0],.bool false]) (by simp [results,Tryz.results185,go_sem,s10,b4.cell,s11]) hdf ?_
     have h9:=ga_yes (bx:=bx) (by_:=by_) (lo:=lo) (hi:=hi) (p:=p) (by have:=of_decide_eq_false (show decide ((p.length:Int) > 38)=false by simpa using q7);omega)
     have h0:=ga_bad hT (not_t q24)
     exact ⟨_,by rw [h9.1,h0.1],by rw [h9.2,h0.2];exact New.nilN _ _ _ _ _,hB⟩
    ·skip
     refine wp_cond_false (ev (vb s70 q24)) ?_
     refine wp_skip ?_;refine th_n ?_;refine wp_seq ?_
     have hXb:StaysX [73,74] (fun L aa ww=>(L 1=true→(fun ww v=>∃ A6 c6,v=.tuple #[.agg #[.slice A6 ((meetR (meetL (gwL bx by_ lo hi p))).length) c6],.bool (meetOk (meetL (gwL bx by_ lo hi p)))]∧New 111 3 halfC ww w23.heap.size (.slice A6 (meetR (meetL (gwL bx by_ lo hi p))).length c6) (meetR (meetL (gwL bx by_ lo hi p)))) ww (aa.tmps[73]?.getD undef))∧(L 2=true→(fun ww v=>∃ A6 c6,v=.agg #[.slice A6 ((meetR (meetL (gwL bx by_ lo hi p))).length) c6]∧New 111 3 halfC ww w23.heap.size (.slice A6 (meetR (meetL (gwL bx by_ lo hi p))).length c6) (meetR (meetL (gwL bx by_ lo hi p)))) ww (aa.tmps[74]?.getD undef))∧PreX ww (w.heap.size+1) 37 [.slice none 0 0] (L 4) (fun ww vs=>∃ A6 c6,vs=[.slice A6 ((meetR (meetL (gwL bx by_ lo hi p))).length) c6]∧New 111 3 halfC ww w23.heap.size (.slice A6 (meetR (meetL (gwL bx by_ lo hi p))).length c6) (meetR (meetL (gwL bx by_ lo hi p))))):=by
      intro L aa ww w' kk vv hkk hb hX
      obtain ⟨x0,x1,x2⟩:=hX
      exact ⟨(fun h=>by rw [put_ne' (hkk 73 (by simp))];obtain ⟨A6',c6',e,f6'⟩:=x0 h;exact ⟨A6',c6',e,f6'.below hb leR⟩),(fun h=>by rw [put_ne' (hkk 74 (by simp))];obtain ⟨A6',c6',e,f6'⟩:=x1 h;exact ⟨A6',c6',e,f6'.below hb leR⟩),(x2.bel hb (fun _ ⟨A6',c6',e,f6'⟩=>⟨A6',c6',e,f6'.below hb leR⟩))⟩
     refine wp_regK hXb (by kernel_rfl) [72,73,74,75,0,11] [some (.slice A5 ((gwL bx by_ lo hi p).length) c5),none,none,some (.bool (meetOk (meetL (gwL bx by_ lo hi p)))),none,some (.bool (meetOk (meetL (gwL bx by_ lo hi p))))] (dlR 6) [72,73,74,75,11] [0,1,2,3,4,5] [(w.heap.size+1)] (by kernel_rfl) (by rw [hz];decide) ?_ (en rfl ?_ (en rfl ?_ (en rfl ?_ (en rfl ?_ (en rfl ?_ (en rfl ?_ .nil)))))) ?_
     ·exact fun _ h=>⟨(fun h=>by cases h),(fun h=>by cases h),(⟨fun _=>b4.kp h (by simp),(fun h=>by cases h)⟩)⟩
     ·exact fun Lk ak ww H _ _ hN=>wp_move rfl (ev (H.f.g rfl s12)) (hN _ _ H.k rfl (hXb.q rfl H.x))
     ·intro Lk ak ww H _ _ hN
      obtain ⟨x0,x1,x2⟩:=H.x
      simp [go_sem,(gS ak 72 (H.d 0 rfl rfl))]
      refine (sFitL_c A5 (gwL bx by_ lo hi p) c5 ww (by have:=gwL_len (bx:=bx) (by_:=by_) (lo:=lo) (hi:=hi) (reg_len hp);omega) (gwL_ok hD) ((N5.kp H.k i5 (by omega) (by simp<;>omega)).out halfC_len) N5.nilcap).mono ?_
      rintro x wx ⟨_,rfl,⟨A6,c6,rfl,f0⟩,hb⟩
      have f6:=New.mono (show New 111 3 halfC wx ww.heap.size (.slice A6 (meetR (meetL (gwL bx by_ lo hi p))).length c6) (meetR (meetL (gwL bx by_ lo hi p))) from ⟨_,_,rfl,f0⟩) H.k.size
      exact (hN _ _ (H.k.call hb) trivial ⟨(fun _=>by rw [put_get_self (H.f.lt (by rw [hz];decide))];exact ⟨A6,c6,rfl,f6⟩),(fun h=>by rw [put_ne' (by decide)];obtain ⟨A6',c6',e,f6'⟩:=x1 h;exact ⟨A6',c6',e,f6'.below hb leR⟩),(x2.bel hb (fun _ ⟨A6',c6',e,f6'⟩=>⟨A6',c6',e,f6'.below hb leR⟩))⟩)
     ·intro Lk ak ww H _ _ hN
      obtain ⟨x0,x1,x2⟩:=H.x
      obtain ⟨A6,c6,ee1,f6⟩:=x0 (H.r 1 rfl)
      exact wp_extract rfl (ev ee1) rfl (hN _ _ H.k trivial ⟨(fun h=>by rw [put_ne' (by decide)];obtain ⟨A6',c6',e,f6'⟩:=x0 h;exact ⟨A6',c6',e,f6'.below bR leR⟩),(fun _=>by rw [put_get_self (H.f.lt (by rw [hz];decide))];exact ⟨A6,c6,rfl,f6⟩),(x2.bel bR (fun _ ⟨A6',c6',e,f6'⟩=>⟨A6',c6',e,f6'.below bR leR⟩))⟩)
     ·intro Lk ak ww H _ _ hN
      obtain ⟨x0,x1,x2⟩:=H.x
      obtain ⟨A6,c6,ee1,f6⟩:=x0 (H.r 1 rfl)
      exact wp_extract rfl (ev ee1) rfl (hN _ _ H.k rfl (hXb.q rfl H.x))
     ·intro Lk ak ww H _ _ hN
      obtain ⟨x0,x1,x2⟩:=H.x
      obtain ⟨A6,c6,ee2,f6⟩:=x1 (H.r 2 rfl)
      have HT:=x2.1 H.n
      simp [go_sem,ee2,H.f.g rfl s10,HT.cell,HT.frz]
      have f6:=f6.otherC (f6.typ HT (by decide)) [.slice A6 ((meetR (meetL (gwL bx by_ lo hi p))).length) c6] 0
      exact hN undef _ (H.k.store (.inr (by simp)) [.slice A6 ((meetR (meetL (gwL bx by_ lo hi p))).length) c6] 0) trivial ⟨(fun h=>by obtain ⟨A6',c6',e,f6'⟩:=x0 h;exact ⟨A6',c6',e,f6'.otherC (f6'.typ HT (by decide)) [.slice A6 ((meetR (meetL (gwL bx by_ lo hi p))).length) c6] 0⟩),(fun h=>by obtain ⟨A6',c6',e,f6'⟩:=x1 h;exact ⟨A6',c6',e,f6'.otherC (f6'.typ HT (by decide)) [.slice A6 ((meetR (meetL (gwL bx by_ lo hi p))).length) c6] 0⟩),(PreX.set HT (us:=[.slice A6 ((meetR (meetL (gwL bx by_ lo hi p))).length) c6]) rfl ⟨A6,c6,rfl,f6⟩)⟩
     ·exact fun Lk ak ww H _ _ hN=>wp_assign rfl (ev (H.d 3 rfl rfl)) (hN _ _ H.k rfl (hXb.q rfl H.x))
     intro L a27 w28 hL hF hK hV hX
     obtain ⟨x0,x1,x2⟩:=hX
     replace hz:=hF.Z hz;replace hdf:=hF.E hdf;replace s10:=hF.G s10;have s11:=gS a27 11 (hV 5 _ rfl);clear b4
     obtain ⟨_,b4,A6,c6,rfl,N6⟩:=x2.2 (hL 4 (by decide))
     have i6:∀ p,A6=some p→p.block<w28.heap.size:=fun p hp=>(N6.blk p hp).2;have zw23:=hZ;have zw28:=hK.size;replace hZ:=Nat.le_refl w28.heap.size
     replace hB:=hK.below hB hB.size (by simp<;>omega)
     clear hF hK hV hL x0 x1 x2 hXb s12 s70 N5 i5;refine th_n ?_
     refine wp_ret ?_
     refine bodyPost_ret (v:=.tuple #[.agg #[.slice A6 ((meetR (meetL (gwL bx by_ lo hi p))).length) c6],.bool (meetOk (meetL (gwL bx by_ lo hi p)))]) (by simp [results,Tryz.results185,go_sem,s10,b4.cell,s11]) hdf ?_
     have h9:=ga_yes (bx:=bx) (by_:=by_) (lo:=lo) (hi:=hi) (p:=p) (by have:=of_decide_eq_false (show decide ((p.length:Int) > 38)=false by simpa using q7);omega)
     have h0:=ga_fit hD hT (not_f q24)
     exact ⟨_,by rw [h9.1,h0.1],by rw [h9.2,h0.2];exact N6.mono (by omega),hB⟩
end Go.Proofs.YtdncnhcffbgjhaaGreat
