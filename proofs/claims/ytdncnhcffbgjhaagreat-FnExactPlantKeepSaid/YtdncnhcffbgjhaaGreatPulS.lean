/-
 The region of the points that a map moves into a region: of the reference.
 Conditions: valid regions and maps.
-/
import Derived.Test.YtdncnhcffbgjhaaGreatVa
import Derived.Test.YtdncnhcffbgjhaaGreatPul
import Derived.Test.YtdncnhcffbgjhaaGreatCopy
namespace Go.Proofs.YtdncnhcffbgjhaaGreat
open Go.RowKit
theorem movL_next {f:Half→Option Half} {p:List Half} {k:Nat} (h:k<p.length) (hs:(f (p.getD k half0)).isSome=true):movL f (p.take (k+1))=movL f (p.take k)++[(f (p.getD k half0)).getD half0]:=by
 have e:p.getD k half0=p[k]:=by rw [List.getD_eq_getElem?_getD,List.getElem?_eq_getElem h,Option.getD_some]
 rw [e] at hs ⊢
 obtain ⟨g,hg⟩:=Option.isSome_iff_exists.1 hs
 rw [movL_take h hg,hg];rfl
theorem movAll_next {f:Half→Option Half} {p:List Half} {k:Nat} (h:k<p.length) (h1:movAll f (p.take k)=true) (hs:(f (p.getD k half0)).isSome=true):movAll f (p.take (k+1))=true:=by
 have e:p.getD k half0=p[k]:=by rw [List.getD_eq_getElem?_getD,List.getElem?_eq_getElem h,Option.getD_some]
 rw [e] at hs
 obtain ⟨g,hg⟩:=Option.isSome_iff_exists.1 hs
 exact movAll_take h h1 hg
theorem mov_stop {f:Half→Option Half} {p:List Half} {k:Nat} (h:k<p.length) (hs:(f (p.getD k half0)).isSome=false):movOk f p=false∧movR f p=[]:=by
 have e:p.getD k half0=p[k]:=by rw [List.getD_eq_getElem?_getD,List.getElem?_eq_getElem h,Option.getD_some]
 rw [e] at hs
 refine mov_none h ?_
 cases q:f p[k] with
 | none=>rfl
 | some _=>rw [q] at hs;cases hs
theorem getD_halfOk {p:List Half} {k:Nat} (h:k<p.length) (hp:regionOk p=true):halfOk (p.getD k half0)=true:=by
 have e:p.getD k half0=p[k]:=by rw [List.getD_eq_getElem?_getD,List.getElem?_eq_getElem h,Option.getD_some]
 rw [e];exact reg_ok hp _ (List.getElem_mem h)
set_option maxRecDepth 100000 in
set_option maxHeartbeats 16000000 in
theorem sPull_c (p:List Half) (m:List Int) (d:Int) (a:SlA) (M:Option Addr) (cm:Nat) (w:World) (hp:regionOk p=true) (hM:MapIn m d) (hmap:mapOk m d=true) (hdet:m.getD 0 0*m.getD 3 0-m.getD 1 0*m.getD 2 0≠0) (hsp:Sl 3 halfC w a.A p) (hsm:Sl 1 intC w M m) (hna:a.A=none→a.c=0) :
 Calls Tryz.prog 186 #[.agg #[.slice a.A p.length a.c],.slice M m.length cm,.int .i64 d] w fun x w'=>∃ v,x=.returned (.tuple #[.agg #[v],.bool (movOk (pulH m d) p)])∧New 111 3 halfC w' w.heap.size v (movR (pulH m d) p)∧Below w.heap.size w w':=by
 have hml:=hM.len
 have hlp:=reg_len hp
 have hin:=fun h hh=>hIn (hOk (reg_ok hp h hh))
 have k03:=mulB (hM.m 0) (hM.m 3)
 have k12:=mulB (hM.m 1) (hM.m 2)
 obtain ⟨bm,om,em,fm⟩:=ElS.open_ hsm (by rw [hml];omega)
 have hbm:=fm.1
 obtain ⟨i0h,hi0h,hz0h,hz1h,hz2h⟩:=info_parts (show (Tryz.prog.info? 111).map (fun i=>(i.zero,i.size,i.bytes))=some (some (.agg #[.int .i64 0,.int .i64 0,.int .i64 0]),3,24) by kernel_rfl)
 refine calls_v Tryz.func186 rfl (n:=99) Tryz.ntmps186 (by simp) ?_
 intro a0 hz hdf ha
 have s0:a0.tmps[0]?.getD undef=.agg #[.slice a.A p.length a.c]:=ha 0 _ rfl;have s1:a0.tmps[1]?.getD undef=.slice M m.length cm:=ha 1 _ rfl;have s2:a0.tmps[2]?.getD undef=.int .i64 d:=ha 2 _ rfl;clear ha
 have hB:=Below.refl w.heap.size w
 have hZ:=Nat.le_refl w.heap.size
 refine wp_seq ?_
 refine wp_entry [3,6,7] [.pointer (some ⟨w.heap.size,0,none⟩),.pointer (some ⟨(w.heap.size+1),0,none⟩),.bool false] [some (.cells [.slice a.A p.length a.c].toArray 37),some (.cells [.slice none 0 0].toArray 37),none] [0,1,2] [3,6,7] [0,1,2] (by kernel_rfl) (by rw [hz];decide) (ec ?_ (ec ?_ (ec ?_ .nil))) ?_
 ·intro a w' hF hs N Q hN;simp [go_sem,hF.g rfl s0];rw [hs];exact hN
 ·intro a w' hF hs N Q hN;simp [go_sem];rw [hs];exact hN
 ·intro a w' hF hs N Q hN;simp [go_sem];exact hN
 intro a1 w2 hF hV hb hO
 replace hz:=hF.size.trans hz;replace hdf:=hF.defers.trans hdf;replace s1:=hF.g rfl s1;replace s2:=hF.g rfl s2
 have s3:a1.tmps[3]?.getD undef=.pointer (some ⟨w.heap.size,0,none⟩):=hV 0 (by decide)
 have s6:a1.tmps[6]?.getD undef=.pointer (some ⟨(w.heap.size+1),0,none⟩):=hV 1 (by decide)
 have b3:HasT w2 w.heap.size 37 [.slice a.A p.length a.c]:=hO 0 _ rfl
 have b4:HasT w2 (w.heap.size+1) 37 [.slice none 0 0]:=hO 1 _ rfl
 replace fm:=fm.bel hb
 have hG:=b4.lt
 replace hB:=below_tr hB hb;have zw2:=Nat.le_trans hZ hb.size;replace hZ:=Nat.le_refl w2.heap.size;clear hF hV hb hO s0;refine th_n ?_;refine wp_seq ?_;refine wp_seq ?_
 refine wp_regJ (by kernel_rfl) [13,14,15,16,17,18,19,20,21,22,23,24,25,26,27,28,29,30,31,32,33,34,35,36,37,38,39] [some (.agg #[.slice a.A p.length a.c]),some (.bool (regionOk p)),some (.bool (!(regionOk p))),some (.bool (!(regionOk p))),some ((bif !(regionOk p) then undef else (.slice M m.length cm:Value))),some ((bif !(regionOk p) then undef else (.int .i64 d:Value))),some ((bif !(regionOk p) then undef else (.bool (mapOk m d):Value))),some ((bif !(regionOk p) then undef else (.bool (!(mapOk m d)):Value))),some (.bool (!(regionOk p) || !(mapOk m d))),some (.bool (!(regionOk p) || !(mapOk m d))),some ((bif (!(regionOk p) || !(mapOk m d)) then undef else (.slice M m.length cm:Value))),some ((bif (!(regionOk p) || !(mapOk m d)) then undef else (.pointer (some ⟨bm,om,none⟩):Value))),some ((bif (!(regionOk p) || !(mapOk m d)) then undef else (.int .i64 (m.getD 0 0):Value))),some ((bif (!(regionOk p) || !(mapOk m d)) then undef else (.slice M m.length cm:Value))),some ((bif (!(regionOk p) || !(mapOk m d)) then undef else (.pointer (some ⟨bm,om+3,none⟩):Value))),some ((bif (!(regionOk p) || !(mapOk m d)) then undef else (.int .i64 (m.getD 3 0):Value))),some ((bif (!(regionOk p) || !(mapOk m d)) then undef else (.int .i64 ((m.getD 0 0)*(m.getD 3 0)):Value))),some ((bif (!(regionOk p) || !(mapOk m d)) then undef else (.slice M m.length cm:Value))),some ((bif (!(regionOk p) || !(mapOk m d)) then undef else (.pointer (some ⟨bm,om+1,none⟩):Value))),some ((bif (!(regionOk p) || !(mapOk m d)) then undef else (.int .i64 (m.getD 1 0):Value))),some ((bif (!(regionOk p) || !(mapOk m d)) then undef else (.slice M m.length cm:Value))),some ((bif (!(regionOk p) || !(mapOk m d)) then undef else (.pointer (some ⟨bm,om+2,none⟩):Value))),some ((bif (!(regionOk p) || !(mapOk m d)) then undef else (.int .i64 (m.getD 2 0):Value))),some ((bif (!(regionOk p) || !(mapOk m d)) then undef else (.int .i64 ((m.getD 1 0)*(m.getD 2 0)):Value))),some ((bif (!(regionOk p) || !(mapOk m d)) then undef else (.int .i64 (((m.getD 0 0)*(m.getD 3 0))-((m.getD 1 0)*(m.getD 2 0))):Value))),some ((bif (!(regionOk p) || !(mapOk m d)) then undef else (.bool (((m.getD 0 0)*(m.getD 3 0))-((m.getD 1 0)*(m.getD 2 0)) == 0):Value))),some (.bool ((!(regionOk p) || !(mapOk m d))||((m.getD 0 0)*(m.getD 3 0))-((m.getD 1 0)*(m.getD 2 0)) == 0))] ([[],[0],[0,1],[0,1,2],[0,1,2,3],[0,1,2,3],[0,1,2,3,4,5],[0,1,2,3,4,5,6],[0,1,2,3,4,5,6,7],[0,1,2,3,4,5,6,7,8],[0,1,2,3,4,5,6,7,8,9],[0,1,2,3,4,5,6,7,8,9,10],[0,1,2,3,4,5,6,7,8,9,10,11],[0,1,2,3,4,5,6,7,8,9],[0,1,2,3,4,5,6,7,8,9,13],[0,1,2,3,4,5,6,7,8,9,13,14],[0,1,2,3,4,5,6,7,8,9,10,11,12,13,14,15],[0,1,2,3,4,5,6,7,8,9],[0,1,2,3,4,5,6,7,8,9,17],[0,1,2,3,4,5,6,7,8,9,17,18],[0,1,2,3,4,5,6,7,8,9],[0,1,2,3,4,5,6,7,8,9,20],[0,1,2,3,4,5,6,7,8,9,20,21],[0,1,2,3,4,5,6,7,8,9,17,18,19,20,21,22],[0,1,2,3,4,5,6,7,8,9,10,11,12,13,14,15,16,17,18,19,20,21,22,23],[0,1,2,3,4,5,6,7,8,9,10,11,12,13,14,15,16,17,18,19,20,21,22,23,24],[0,1,2,3,4,5,6,7,8,9,10,11,12,13,14,15,16,17,18,19,20,21,22,23,24,25]]) [13,14,15,16,17,18,19,20,21,22,23,24,25,26,27,28,29,30,31,32,33,34,35,36,37,38,39] [0,1,2,3,4,5,6,7,8,9,10,11,12,13,14,15,16,17,18,19,20,21,22,23,24,25,26] [] (fun _ _ _=>True) (by kernel_rfl) (by rw [hz];decide) ?_ (en rfl ?_ (en rfl ?_ (en rfl ?_ (en rfl ?_ (eg ?_ (eg ?_ (eg ?_ (eg ?_ (en rfl ?_ (en rfl ?_ (eg ?_ (eg ?_ (eg ?_ (eg ?_ (eg ?_ (eg ?_ (eg ?_ (eg ?_ (eg ?_ (eg ?_ (eg ?_ (eg ?_ (eg ?_ (eg ?_ (eg ?_ (eg ?_ (en rfl ?_ .nil))))))))))))))))))))))))))) ?_
 ·exact fun _ _=>trivial
 ·intro Lk ak ww H _ _ hN
  simp [go_sem,H.f.g rfl s3,(b3.k0 H.k).cell]
  exact (hN _ _ H.k rfl trivial)
 ·intro Lk ak ww H _ _ hN
  simp [go_sem,(gS ak 13 (H.d 0 rfl rfl))]
  have hBi:=H.k.below0 hB
  refine (sRegionOk_c p a ww (by omega) hin (hsp.below hBi) hna).mono ?_
  rintro x wx ⟨rfl,hb⟩
  exact (hN _ _ (H.k.call hb) rfl trivial)
 ·exact fun Lk ak ww H _ _ hN=>wp_not rfl (ev (H.d 1 rfl rfl)) (hN _ _ H.k rfl trivial)
 ·exact fun Lk ak ww H _ _ hN=>wp_move rfl (ev (H.d 2 rfl rfl)) (hN _ _ H.k rfl trivial)
 ·intro Lk ak ww H _ _ hN
  refine wgf rfl rfl rfl (H.d 3 rfl rfl) (fun qg=>hN _ _ H.k (bif_t qg).symm trivial) fun qg=>?_
  exact wp_move rfl (ev (H.f.g rfl s1)) (hN _ _ H.k (bif_f qg).symm trivial)
 ·intro Lk ak ww H _ _ hN
  refine wgf rfl rfl rfl (H.d 3 rfl rfl) (fun qg=>hN _ _ H.k (bif_t qg).symm trivial) fun qg=>?_
  exact wp_move rfl (ev (H.f.g rfl s2)) (hN _ _ H.k (bif_f qg).symm trivial)
 ·intro Lk ak ww H _ _ hN
  refine wgf rfl rfl rfl (H.d 3 rfl rfl) (fun qg=>hN _ _ H.k (bif_t qg).symm trivial) fun qg=>?_
  simp [go_sem,(show ak.tmps[17]?.getD undef=_ from (H.d 4 rfl rfl).trans (bif_f qg)),(show ak.tmps[18]?.getD undef=_ from (H.d 5 rfl rfl).trans (bif_f qg))]
  have hBi:=H.k.below0 hB
  refine (sIsMap_c M m cm d ww (by omega) (hsm.below hBi)).mono ?_
  rintro x wx ⟨rfl,rfl⟩
  exact (hN _ _ H.k (bif_f qg).symm trivial)
 ·intro Lk ak ww H _ _ hN
  refine wgf rfl rfl rfl (H.d 3 rfl rfl) (fun qg=>hN _ _ H.k (bif_t qg).symm trivial) fun qg=>?_
  exact wp_not rfl (ev ((H.d 6 rfl rfl).trans (bif_f qg))) (hN _ _ H.k (bif_f qg).symm trivial)
 ·exact fun Lk ak ww H _ _ hN=>wp_pick rfl (ev (H.d 3 rfl rfl)) (fun h=>vor_t h) (fun h=>(ev ((H.d 7 rfl rfl).trans (bif_f h))).trans (vor_f h)) (hN _ _ H.k rfl trivial)
 ·exact fun Lk ak ww H _ _ hN=>wp_move rfl (ev (H.d 8 rfl rfl)) (hN _ _ H.k rfl trivial)
 ·intro Lk ak ww H _ _ hN
  refine wgf rfl rfl rfl (H.d 9 rfl rfl) (fun qg=>hN _ _ H.k (bif_t qg).symm trivial) fun qg=>?_
  exact wp_move rfl (ev (H.f.g rfl s1)) (hN _ _ H.k (bif_f qg).symm trivial)
 ·intro Lk ak ww H _ _ hN
  refine wgf rfl rfl rfl (H.d 9 rfl rfl) (fun qg=>hN _ _ H.k (bif_t qg).symm trivial) fun qg=>?_
  simp [go_sem,(show ak.tmps[23]?.getD undef=_ from (H.d 10 rfl rfl).trans (bif_f qg)),hml,em]
  exact (hN _ _ H.k (bif_f qg).symm trivial)
 ·intro Lk ak ww H _ _ hN
  refine wgf rfl rfl rfl (H.d 9 rfl rfl) (fun qg=>hN _ _ H.k (bif_t qg).symm trivial) fun qg=>?_
  have hE:=fm.kp H.k (by simp)
  simp [go_sem,(show ak.tmps[24]?.getD undef=_ from (H.d 11 rfl rfl).trans (bif_f qg)),(hE.at_ 0 (i:=0) (by omega) 0 (p:=om) (by omega) rfl)]
  exact (hN _ _ H.k (bif_f qg).symm trivial)
 ·intro Lk ak ww H _ _ hN
  refine wgf rfl rfl rfl (H.d 9 rfl rfl) (fun qg=>hN _ _ H.k (bif_t qg).symm trivial) fun qg=>?_
  exact wp_move rfl (ev (H.f.g rfl s1)) (hN _ _ H.k (bif_f qg).symm trivial)
 ·intro Lk ak ww H _ _ hN
  refine wgf rfl rfl rfl (H.d 9 rfl rfl) (fun qg=>hN _ _ H.k (bif_t qg).symm trivial) fun qg=>?_
  simp [go_sem,(show ak.tmps[26]?.getD undef=_ from (H.d 13 rfl rfl).trans (bif_f qg)),hml,em]
  exact (hN _ _ H.k (bif_f qg).symm trivial)
 ·intro Lk ak ww H _ _ hN
  refine wgf rfl rfl rfl (H.d 9 rfl rfl) (fun qg=>hN _ _ H.k (bif_t qg).symm trivial) fun qg=>?_
  have hE:=fm.kp H.k (by simp)
  simp [go_sem,(show ak.tmps[27]?.getD undef=_ from (H.d 14 rfl rfl).trans (bif_f qg)),(hE.at_ 0 (i:=3) (by omega) 0 (p:=om+3) (by omega) rfl)]
  exact (hN _ _ H.k (bif_f qg).symm trivial)
 ·intro Lk ak ww H _ _ hN
  refine wgf rfl rfl rfl (H.d 9 rfl rfl) (fun qg=>hN _ _ H.k (bif_t qg).symm trivial) fun qg=>?_
  exact wp_mul rfl (ev ((H.d 12 rfl rfl).trans (bif_f qg))) (ev ((H.d 15 rfl rfl).trans (bif_f qg))) (by omega) (hN _ _ H.k (bif_f qg).symm trivial)
 ·intro Lk ak ww H _ _ hN
  refine wgf rfl rfl rfl (H.d 9 rfl rfl) (fun qg=>hN _ _ H.k (bif_t qg).symm trivial) fun qg=>?_
  exact wp_move rfl (ev (H.f.g rfl s1)) (hN _ _ H.k (bif_f qg).symm trivial)
 ·intro Lk ak ww H _ _ hN
  refine wgf rfl rfl rfl (H.d 9 rfl rfl) (fun qg=>hN _ _ H.k (bif_t qg).symm trivial) fun qg=>?_
  simp [go_sem,(show ak.tmps[30]?.getD undef=_ from (H.d 17 rfl rfl).trans (bif_f qg)),hml,em]
  exact (hN _ _ H.k (bif_f qg).symm trivial)
 ·intro Lk ak ww H _ _ hN
  refine wgf rfl rfl rfl (H.d 9 rfl rfl) (fun qg=>hN _ _ H.k (bif_t qg).symm trivial) fun qg=>?_
  have hE:=fm.kp H.k (by simp)
  simp [go_sem,(show ak.tmps[31]?.getD undef=_ from (H.d 18 rfl rfl).trans (bif_f qg)),(hE.at_ 0 (i:=1) (by omega) 0 (p:=om+1) (by omega) rfl)]
  exact (hN _ _ H.k (bif_f qg).symm trivial)
 ·intro Lk ak ww H _ _ hN
  refine wgf rfl rfl rfl (H.d 9 rfl rfl) (fun qg=>hN _ _ H.k (bif_t qg).symm trivial) fun qg=>?_
  exact wp_move rfl (ev (H.f.g rfl s1)) (hN _ _ H.k (bif_f qg).symm trivial)
 ·intro Lk ak ww H _ _ hN
  refine wgf rfl rfl rfl (H.d 9 rfl rfl) (fun qg=>hN _ _ H.k (bif_t qg).symm trivial) fun qg=>?_
  simp [go_sem,(show ak.tmps[33]?.getD undef=_ from (H.d 20 rfl rfl).trans (bif_f qg)),hml,em]
  exact (hN _ _ H.k (bif_f qg).symm trivial)
 ·intro Lk ak ww H _ _ hN
  refine wgf rfl rfl rfl (H.d 9 rfl rfl) (fun qg=>hN _ _ H.k (bif_t qg).symm trivial) fun qg=>?_
  have hE:=fm.kp H.k (by simp)
  simp [go_sem,(show ak.tmps[34]?.getD undef=_ from (H.d 21 rfl rfl).trans (bif_f qg)),(hE.at_ 0 (i:=2) (by omega) 0 (p:=om+2) (by omega) rfl)]
  exact (hN _ _ H.k (bif_f qg).symm trivial)
 ·intro Lk ak ww H _ _ hN
  refine wgf rfl rfl rfl (H.d 9 rfl rfl) (fun qg=>hN _ _ H.k (bif_t qg).symm trivial) fun qg=>?_
  exact wp_mul rfl (ev ((H.d 19 rfl rfl).trans (bif_f qg))) (ev ((H.d 22 rfl rfl).trans (bif_f qg))) (by omega) (hN _ _ H.k (bif_f qg).symm trivial)
 ·intro Lk ak ww H _ _ hN
  refine wgf rfl rfl rfl (H.d 9 rfl rfl) (fun qg=>hN _ _ H.k (bif_t qg).symm trivial) fun qg=>?_
  exact wp_sub rfl (ev ((H.d 16 rfl rfl).trans (bif_f qg))) (ev ((H.d 23 rfl rfl).trans (bif_f qg))) (by omega) (hN _ _ H.k (bif_f qg).symm trivial)
 ·intro Lk ak ww H _ _ hN
  refine wgf rfl rfl rfl (H.d 9 rfl rfl) (fun qg=>hN _ _ H.k (bif_t qg).symm trivial) fun qg=>?_
  exact wp_bin rfl (ev ((H.d 24 rfl rfl).trans (bif_f qg))) rfl rfl rfl (hN _ _ H.k (bif_f qg).symm trivial)
 ·exact fun Lk ak ww H _ _ hN=>wp_pick rfl (ev (H.d 9 rfl rfl)) (fun h=>vor_t h) (fun h=>(ev ((H.d 25 rfl rfl).trans (bif_f h))).trans (vor_f h)) (hN _ _ H.k rfl trivial)
 intro L a5 w6 hL hF hK hV hX;replace hz:=hF.Z hz;replace hdf:=hF.E hdf;replace s1:=hF.G s1;replace s2:=hF.G s2;replace s3:=hF.G s3;replace s6:=hF.G s6;have s39:=gS a5 39 (hV 26 _ rfl);replace b3:=b3.k0 hK;replace b4:=b4.k0 hK
 replace fm:=fm.kp hK (by simp)
 replace hZ:=Nat.le_trans hZ hK.size;replace hB:=hK.below0 hB;clear hF hK hV hL hX;refine th_n ?_
 rcases Bool.eq_false_or_eq_true ((!(regionOk p) || !(mapOk m d))||((m.getD 0 0)*(m.getD 3 0))-((m.getD 1 0)*(m.getD 2 0)) == 0) with q7|q7
 ·skip
  rw [hp,hmap] at q7
  exact absurd (beq_t (by simpa only [Bool.not_true,Bool.false_or] using q7)) hdet
 ·skip
  refine wp_cond_false (ev (vb s39 q7)) ?_
  refine wp_skip ?_;refine th_n ?_;refine wp_seq ?_
  refine wp_regJ (by kernel_rfl) [41,8] [none,none] (dlR 2) [41,8] [0,1] [] (fun L aa ww=>(L 0=true→(fun ww v=>∃ A1 c1,v=.slice A1 0 c1∧New 111 3 halfC ww w6.heap.size (.slice A1 0 c1) []) ww (aa.tmps[41]?.getD undef))∧(L 1=true→(fun ww v=>∃ A1 c1,v=.slice A1 0 c1∧New 111 3 halfC ww w6.heap.size (.slice A1 0 c1) []) ww (aa.tmps[8]?.getD undef))) (by kernel_rfl) (by rw [hz];decide) ?_ (en rfl ?_ (en rfl ?_ .nil)) ?_
  ·exact fun _ h=>⟨(fun h=>by cases h),(fun h=>by cases h)⟩
  ·intro Lk ak ww H _ _ hN
   obtain ⟨x0,x1⟩:=H.x
   simp [go_sem]
   have f1:New 111 3 halfC (ww.alloc (.cells #[] 111)) w6.heap.size (.slice (some ⟨ww.heap.size,0,none⟩) 0 0) []:=(New.mk0 ww).mono H.k.size
   exact hN _ _ (H.k.alloc _) trivial ⟨(fun _=>by rw [put_get_self (H.f.lt (by rw [hz];decide))];exact ⟨_,_,rfl,f1⟩),(fun h=>by rw [put_ne' (by decide)];obtain ⟨A1',c1',e,f1'⟩:=x1 h;exact ⟨A1',c1',e,f1'.below (below_al bR _) leR⟩)⟩
  ·intro Lk ak ww H _ _ hN
   obtain ⟨x0,x1⟩:=H.x
   obtain ⟨A1,c1,ee0,f1⟩:=x0 (H.r 0 rfl)
   exact wp_assign rfl (ev ee0) (hN _ _ H.k trivial ⟨(fun h=>by rw [put_ne' (by decide)];obtain ⟨A1',c1',e,f1'⟩:=x0 h;exact ⟨A1',c1',e,f1'.below bR leR⟩),(fun _=>by rw [put_get_self (H.f.lt (by rw [hz];decide))];exact ⟨A1,c1,rfl,f1⟩)⟩)
  intro L a8 w9 hL hF hK hV hX
  obtain ⟨x0,x1⟩:=hX
  replace hz:=hF.Z hz;replace hdf:=hF.E hdf;replace s1:=hF.G s1;replace s2:=hF.G s2;replace s3:=hF.G s3;replace s6:=hF.G s6;replace b3:=b3.k0 hK;replace b4:=b4.k0 hK
  obtain ⟨A1,c1,s8,N1⟩:=x1 (hL 1 (by decide))
  have i1:∀ p,A1=some p→p.block<w9.heap.size:=fun p hp=>(N1.blk p hp).2
  replace fm:=fm.kp hK (by simp)
  have zw6:=hZ;have zw9:=hK.size;replace hZ:=Nat.le_refl w9.heap.size;replace hB:=hK.below0 hB;clear hF hK hV hL x0 x1 s39;refine th_n ?_;refine wp_seq ?_;refine wp_seq ?_
  refine wp_regJ (by kernel_rfl) [42,43,44,45] [some (.pointer (some ⟨w.heap.size,0,none⟩)),some (.slice a.A p.length a.c),some (.int .i64 (p.length:Int)),some (.int .i64 0)] (dlR 4) [42,43,44,45] [0,1,2,3] [] (fun _ _ _=>True) (by kernel_rfl) (by rw [hz];decide) ?_ (en rfl ?_ (en rfl ?_ (en rfl ?_ (en rfl ?_ .nil)))) ?_
  ·exact fun _ _=>trivial
  ·intro Lk ak ww H _ _ hN
   simp [go_sem,H.f.g rfl s3]
   exact (hN _ _ H.k rfl trivial)
  ·intro Lk ak ww H _ _ hN
   simp [go_sem,(gS ak 42 (H.d 0 rfl rfl)),(b3.k0 H.k).cell]
   exact (hN _ _ H.k rfl trivial)
  ·intro Lk ak ww H _ _ hN
   simp [go_sem,(gS ak 43 (H.d 1 rfl rfl))]
   exact (hN _ _ H.k rfl trivial)
  ·exact fun Lk ak ww H _ _ hN=>wp_move rfl rfl (hN _ _ H.k rfl trivial)
  intro L a10 w11 hL hF hK hV hX;replace hz:=hF.Z hz;replace hdf:=hF.E hdf;replace s1:=hF.G s1;replace s2:=hF.G s2;replace s6:=hF.G s6;replace s8:=hF.G s8;have s43:=gS a10 43 (hV 1 _ rfl);have s44:=gS a10 44 (hV 2 _ rfl);have s45:=gS a10 45 (hV 3 _ rfl);replace b4:=b4.k0 hK
  replace fm:=fm.kp hK (by simp)
  replace N1:=N1.below hK.toBelow leR;replace hZ:=Nat.le_trans hZ hK.size;replace hB:=hK.below0 hB;clear hF hK hV hL hX s3 b3;refine th_n ?_;refine wp_block ?_
  refine wp_loop (fun al wl=>al.tmps.size=99∧al.defers=[]∧∃ (k:Nat) (A2:Option Addr) (c2:Nat),(k≤p.length)∧(movAll (pulH m d) (p.take k)=true)∧al.tmps[1]?.getD undef=.slice M m.length cm∧al.tmps[2]?.getD undef=.int .i64 d∧al.tmps[6]?.getD undef=.pointer (some ⟨(w.heap.size+1),0,none⟩)∧al.tmps[8]?.getD undef=.slice A2 ((movL (pulH m d) (p.take k)).length) c2∧al.tmps[43]?.getD undef=.slice a.A p.length a.c∧al.tmps[44]?.getD undef=.int .i64 (p.length:Int)∧al.tmps[45]?.getD undef=.int .i64 (k:Int)∧HasT wl (w.heap.size+1) 37 [.slice none 0 0]∧ElS wl bm om 1 intC m∧New 111 3 halfC wl w6.heap.size (.slice A2 (movL (pulH m d) (p.take k)).length c2) (movL (pulH m d) (p.take k))∧Below w.heap.size w wl∧w9.heap.size≤wl.heap.size) (fun al _=>(p.length-(intOf (al.tmps[45]?.getD undef)).toNat)) ?_ ?_
  ·exact ⟨hz,hdf,(0),(A1),(c1),(Nat.zero_le _),(rfl),s1,s2,s6,s8,s43,s44,s45,b4,fm,(N1),hB,(by omega)⟩
  clear hz hdf hB hZ s1 s2 s6 s8 s43 s44 s45 b4 fm N1
  rintro a12 w13 ⟨hz,hdf,k,A2,c2,hk,hall,s1,s2,s6,s8,s43,s44,s45,b4,fm,N2,hB,hZ⟩
  have zw13:=hZ;replace hZ:=Nat.le_refl w13.heap.size;have i2:∀ p,A2=some p→p.block<w13.heap.size:=fun p hp=>(N2.blk p hp).2
  have hmu:(p.length-(intOf (a12.tmps[45]?.getD undef)).toNat)=(p.length-(intOf ((.int .i64 (k:Int)))).toNat):=by rw [s45]
  refine wp_seq ?_
  refine wp_regJ (by kernel_rfl) [46] [some (.bool (decide ((k:Int)<(p.length:Int))))] (dlR 1) [46] [0] [] (fun _ _ _=>True) (by kernel_rfl) (by rw [hz];decide) ?_ (en rfl ?_ .nil) ?_
  ·exact fun _ _=>trivial
  ·exact fun Lk ak ww H _ _ hN=>wp_bin rfl (ev (H.f.g rfl s45)) (ev (H.f.g rfl s44)) rfl rfl (hN _ _ H.k rfl trivial)
  intro L a14 w15 hL hF hK hV hX;replace hz:=hF.Z hz;replace hdf:=hF.E hdf;replace s1:=hF.G s1;replace s2:=hF.G s2;replace s6:=hF.G s6;replace s8:=hF.G s8;replace s43:=hF.G s43;replace s44:=hF.G s44;replace s45:=hF.G s45;have s46:=gS a14 46 (hV 0 _ rfl);replace b4:=b4.k0 hK
  replace fm:=fm.kp hK (by simp)
  replace N2:=N2.below hK.toBelow leR;replace hZ:=Nat.le_trans hZ hK.size;replace hB:=hK.below0 hB;clear hF hK hV hL hX;refine th_n ?_;refine wp_seq ?_
  rcases Bool.eq_false_or_eq_true (decide ((k:Int)<(p.length:Int))) with q16|q16
  ·skip
   have hkl:k<p.length:=by have:=dec_t q16;omega
   obtain ⟨bp,op,ep,fp⟩:=ElS.open_ (hsp.below hB) (by omega)
   have hh:=getD_halfOk hkl hp
   obtain ⟨⟨k1,k2⟩,⟨k3,k4⟩,⟨k5,k6⟩,⟨k7,k8⟩,⟨k9,k10⟩⟩:=pulB hM hh
   refine wp_cond_true (ev (vb s46 q16)) ?_
   refine wp_skip ?_;refine th_n ?_;refine wp_seq ?_;refine wp_block ?_;refine wp_seq ?_
   have hXb:StaysX [10] (fun L aa ww=>(L 2=true→BoxX w15 aa ww 10 111 [.int .i64 0,.int .i64 0,.int .i64 0] (L 3) (fun _ vs=>vs=[.int .i64 ((p.getD k half0).a),.int .i64 ((p.getD k half0).b),.int .i64 ((p.getD k half0).c)]))):=by
    intro L aa ww w' kk vv hkk hb hX
    have x0:=hX
    exact (fun h=>((x0 h).bel hb (fun _ h=>h)).put (hkk 10 (by simp)) _)
   refine wp_regK hXb (by kernel_rfl) [47,48,10,0] [some (.pointer (some ⟨bp,op+k*3,none⟩)),some (halfV (p.getD k half0)),none,none] (dlR 4) [47,48,10] [0,1,2,3] [] (by kernel_rfl) (by rw [hz];decide) ?_ (en rfl ?_ (en rfl ?_ (en rfl ?_ (en rfl ?_ .nil)))) ?_
   ·exact fun _ h=>(fun h=>by cases h)
   ·intro Lk ak ww H _ _ hN
    simp [go_sem,H.f.g rfl s43,H.f.g rfl s45,hkl,ep]
    exact (hN _ _ H.k rfl (hXb.q rfl H.x))
   ·intro Lk ak ww H _ _ hN
    have hE:=fp.kp H.k (by simp)
    simp [go_sem,(gS ak 47 (H.d 0 rfl rfl)),(hE.at_ half0 (i:=k) (by omega) 0 (p:=op+k*3) (by omega) rfl),(hE.at_ half0 (i:=k) (by omega) 1 (p:=op+k*3+1) (by omega) rfl),(hE.at_ half0 (i:=k) (by omega) 2 (p:=op+k*3+2) (by omega) rfl)]
    exact (hN _ _ H.k rfl (hXb.q rfl H.x))
   ·intro Lk ak ww H _ _ hN
    have x0:=H.x
    simp [go_sem]
    exact hN _ _ (H.k.alloc _) trivial (fun _=>by rw [show upd Lk 2 3=false from H.t 3 rfl];exact BoxX.new (s:=10) (H.f.lt (by rw [hz];decide)) H.k.size [.int .i64 0,.int .i64 0,.int .i64 0])
   ·intro Lk ak ww H _ _ hN
    have x0:=H.x
    obtain ⟨g,eg,hg,y,_⟩:=x0 (H.r 2 rfl)
    have HT:=y H.n
    simp [go_sem,(gS ak 48 (H.d 1 rfl rfl)),eg,HT.cell,HT.frz]
    exact hN undef _ (H.k.store (.inl hg) [.int .i64 ((p.getD k half0).a),.int .i64 ((p.getD k half0).b),.int .i64 ((p.getD k half0).c)] 0) trivial (fun _=>BoxX.set eg hg HT (us:=[.int .i64 ((p.getD k half0).a),.int .i64 ((p.getD k half0).b),.int .i64 ((p.getD k half0).c)]) rfl rfl)
   intro L a17 w18 hL hF hK hV hX;have x0:=hX;replace hz:=hF.Z hz;replace hdf:=hF.E hdf;replace s1:=hF.G s1;replace s2:=hF.G s2;replace s6:=hF.G s6;replace s8:=hF.G s8;replace s43:=hF.G s43;replace s44:=hF.G s44;replace s45:=hF.G s45;replace b4:=b4.k0 hK
   obtain ⟨g19,s10,lg19,-,b19⟩:=x0 (hL 2 (by decide))
   obtain ⟨_,b19,rfl⟩:=b19 (hL 3 (by decide))
   have ug19:=b19.lt
   replace fm:=fm.kp hK (by simp)
   replace N2:=N2.below hK.toBelow leR;have zw15:=hZ;have zw18:=hK.size;replace hZ:=Nat.le_refl w18.heap.size;replace hB:=hK.below0 hB;clear hF hK hV hL x0 hXb s46 fp;refine th_n ?_;refine wp_seq ?_
   have hXb:StaysX [11] (fun L aa ww=>(L 34=true→BoxX w18 aa ww 11 111 [.int .i64 0,.int .i64 0,.int .i64 0] (L 35) (fun _ vs=>vs=[.int .i64 (((pulH m d (p.getD k half0)).getD half0).a),.int .i64 (((pulH m d (p.getD k half0)).getD half0).b),.int .i64 (((pulH m d (p.getD k half0)).getD half0).c)]))):=by
    intro L aa ww w' kk vv hkk hb hX
    have x0:=hX
    exact (fun h=>((x0 h).bel hb (fun _ h=>h)).put (hkk 11 (by simp)) _)
   refine wp_regK hXb (by kernel_rfl) [50,51,52,53,54,55,56,57,58,59,60,61,62,63,64,65,66,67,68,69,70,71,72,73,74,75,76,77,78,79,80,49,81,82,11,0,12] [some (.pointer (some ⟨g19,0,none⟩)),some (.int .i64 ((p.getD k half0).a)),some (.slice M m.length cm),some (.pointer (some ⟨bm,om,none⟩)),some (.int .i64 (m.getD 0 0)),some (.int .i64 (((p.getD k half0).a)*(m.getD 0 0))),some (.pointer (some ⟨g19,1,none⟩)),some (.int .i64 ((p.getD k half0).b)),some (.slice M m.length cm),some (.pointer (some ⟨bm,om+2,none⟩)),some (.int .i64 (m.getD 2 0)),some (.int .i64 (((p.getD k half0).b)*(m.getD 2 0))),some (.int .i64 ((((p.getD k half0).a)*(m.getD 0 0))+(((p.getD k half0).b)*(m.getD 2 0)))),some (.pointer (some ⟨g19,0,none⟩)),some (.int .i64 ((p.getD k half0).a)),some (.slice M m.length cm),some (.pointer (some ⟨bm,om+1,none⟩)),some (.int .i64 (m.getD 1 0)),some (.int .i64 (((p.getD k half0).a)*(m.getD 1 0))),some (.pointer (some ⟨g19,1,none⟩)),some (.int .i64 ((p.getD k half0).b)),some (.slice M m.length cm),some (.pointer (some ⟨bm,om+3,none⟩)),some (.int .i64 (m.getD 3 0)),some (.int .i64 (((p.getD k half0).b)*(m.getD 3 0))),some (.int .i64 ((((p.getD k half0).a)*(m.getD 1 0))+(((p.getD k half0).b)*(m.getD 3 0)))),some (.pointer (some ⟨g19,2,none⟩)),some (.int .i64 ((p.getD k half0).c)),some (.int .i64 d),some (.int .i64 (((p.getD k half0).c)*d)),some (.tuple #[halfV ((pulH m d (p.getD k half0)).getD half0),.bool ((pulH m d (p.getD k half0)).isSome)]),some (.tuple #[halfV ((pulH m d (p.getD k half0)).getD half0),.bool ((pulH m d (p.getD k half0)).isSome)]),some (halfV ((pulH m d (p.getD k half0)).getD half0)),some (.bool ((pulH m d (p.getD k half0)).isSome)),none,none,some (.bool ((pulH m d (p.getD k half0)).isSome))] ([[],[0],[],[2],[2,3],[0,1,2,3,4],[],[6],[],[8],[8,9],[6,7,8,9,10],[0,1,2,3,4,5,6,7,8,9,10,11],[],[13],[],[15],[15,16],[13,14,15,16,17],[],[19],[],[21],[21,22],[19,20,21,22,23],[13,14,15,16,17,18,19,20,21,22,23,24],[],[26],[],[26,27,28],[0,1,2,3,4,5,6,7,8,9,10,11,12,13,14,15,16,17,18,19,20,21,22,23,24,25,26,27,28,29],[0,1,2,3,4,5,6,7,8,9,10,11,12,13,14,15,16,17,18,19,20,21,22,23,24,25,26,27,28,29,30],[0,1,2,3,4,5,6,7,8,9,10,11,12,13,14,15,16,17,18,19,20,21,22,23,24,25,26,27,28,29,30,31],[0,1,2,3,4,5,6,7,8,9,10,11,12,13,14,15,16,17,18,19,20,21,22,23,24,25,26,27,28,29,30,31],[],[0,1,2,3,4,5,6,7,8,9,10,11,12,13,14,15,16,17,18,19,20,21,22,23,24,25,26,27,28,29,30,31,32,34],[0,1,2,3,4,5,6,7,8,9,10,11,12,13,14,15,16,17,18,19,20,21,22,23,24,25,26,27,28,29,30,31,32,33,34,35]]) [50,51,52,53,54,55,56,57,58,59,60,61,62,63,64,65,66,67,68,69,70,71,72,73,74,75,76,77,78,79,80,49,81,82,11,12] [0,1,2,3,4,5,6,7,8,9,10,11,12,13,14,15,16,17,18,19,20,21,22,23,24,25,26,27,28,29,30,31,32,33,34,35,36] [] (by kernel_rfl) (by rw [hz];decide) ?_ (en rfl ?_ (en rfl ?_ (en rfl ?_ (en rfl ?_ (en rfl ?_ (en rfl ?_ (en rfl ?_ (en rfl ?_ (en rfl ?_ (en rfl ?_ (en rfl ?_ (en rfl ?_ (en rfl ?_ (en rfl ?_ (en rfl ?_ (en rfl ?_ (en rfl ?_ (en rfl ?_ (en rfl ?_ (en rfl ?_ (en rfl ?_ (en rfl ?_ (en rfl ?_ (en rfl ?_ (en rfl ?_ (en rfl ?_ (en rfl ?_ (en rfl ?_ (en rfl ?_ (en rfl ?_ (en rfl ?_ (en rfl ?_ (en rfl ?_ (en rfl ?_ (en rfl ?_ (en rfl ?_ (en rfl ?_ .nil))))))))))))))))))))))))))))))))))))) ?_
   ·exact fun _ h=>(fun h=>by cases h)
   ·intro Lk ak ww H _ _ hN
    simp [go_sem,H.f.g rfl s10]
    exact (hN _ _ H.k rfl (hXb.q rfl H.x))
   ·intro Lk ak ww H _ _ hN
    simp [go_sem,(gS ak 50 (H.d 0 rfl rfl)),(b19.k0 H.k).cell]
    exact (hN _ _ H.k rfl (hXb.q rfl H.x))
   ·exact fun Lk ak ww H _ _ hN=>wp_move rfl (ev (H.f.g rfl s1)) (hN _ _ H.k rfl (hXb.q rfl H.x))
   ·intro Lk ak ww H _ _ hN
    simp [go_sem,(gS ak 52 (H.d 2 rfl rfl)),hml,em]
    exact (hN _ _ H.k rfl (hXb.q rfl H.x))
   ·intro Lk ak ww H _ _ hN
    have hE:=fm.kp H.k (by simp)
    simp [go_sem,(gS ak 53 (H.d 3 rfl rfl)),(hE.at_ 0 (i:=0) (by omega) 0 (p:=om) (by omega) rfl)]
    exact (hN _ _ H.k rfl (hXb.q rfl H.x))
   ·exact fun Lk ak ww H _ _ hN=>wp_mul rfl (ev (H.d 1 rfl rfl)) (ev (H.d 4 rfl rfl)) (by omega) (hN _ _ H.k rfl (hXb.q rfl H.x))
   ·intro Lk ak ww H _ _ hN
    simp [go_sem,H.f.g rfl s10]
    exact (hN _ _ H.k rfl (hXb.q rfl H.x))
   ·intro Lk ak ww H _ _ hN
    simp [go_sem,(gS ak 56 (H.d 6 rfl rfl)),(b19.k0 H.k).cell]
    exact (hN _ _ H.k rfl (hXb.q rfl H.x))
   ·exact fun Lk ak ww H _ _ hN=>wp_move rfl (ev (H.f.g rfl s1)) (hN _ _ H.k rfl (hXb.q rfl H.x))
   ·intro Lk ak ww H _ _ hN
    simp [go_sem,(gS ak 58 (H.d 8 rfl rfl)),hml,em]
    exact (hN _ _ H.k rfl (hXb.q rfl H.x))
   ·intro Lk ak ww H _ _ hN
    have hE:=fm.kp H.k (by simp)
    simp [go_sem,(gS ak 59 (H.d 9 rfl rfl)),(hE.at_ 0 (i:=2) (by omega) 0 (p:=om+2) (by omega) rfl)]
    exact (hN _ _ H.k rfl (hXb.q rfl H.x))
   ·exact fun Lk ak ww H _ _ hN=>wp_mul rfl (ev (H.d 7 rfl rfl)) (ev (H.d 10 rfl rfl)) (by omega) (hN _ _ H.k rfl (hXb.q rfl H.x))
   ·exact fun Lk ak ww H _ _ hN=>wp_add rfl (ev (H.d 5 rfl rfl)) (ev (H.d 11 rfl rfl)) (by omega) (hN _ _ H.k rfl (hXb.q rfl H.x))
   ·intro Lk ak ww H _ _ hN
    simp [go_sem,H.f.g rfl s10]
    exact (hN _ _ H.k rfl (hXb.q rfl H.x))
   ·intro Lk ak ww H _ _ hN
    simp [go_sem,(gS ak 63 (H.d 13 rfl rfl)),(b19.k0 H.k).cell]
    exact (hN _ _ H.k rfl (hXb.q rfl H.x))
   ·exact fun Lk ak ww H _ _ hN=>wp_move rfl (ev (H.f.g rfl s1)) (hN _ _ H.k rfl (hXb.q rfl H.x))
   ·intro Lk ak ww H _ _ hN
    simp [go_sem,(gS ak 65 (H.d 15 rfl rfl)),hml,em]
    exact (hN _ _ H.k rfl (hXb.q rfl H.x))
   ·intro Lk ak ww H _ _ hN
    have hE:=fm.kp H.k (by simp)
    simp [go_sem,(gS ak 66 (H.d 16 rfl rfl)),(hE.at_ 0 (i:=1) (by omega) 0 (p:=om+1) (by omega) rfl)]
    exact (hN _ _ H.k rfl (hXb.q rfl H.x))
   ·exact fun Lk ak ww H _ _ hN=>wp_mul rfl (ev (H.d 14 rfl rfl)) (ev (H.d 17 rfl rfl)) (by omega) (hN _ _ H.k rfl (hXb.q rfl H.x))
   ·intro Lk ak ww H _ _ hN
    simp [go_sem,H.f.g rfl s10]
    exact (hN _ _ H.k rfl (hXb.q rfl H.x))
   ·intro Lk ak ww H _ _ hN
    simp [go_sem,(gS ak 69 (H.d 19 rfl rfl)),(b19.k0 H.k).cell]
    exact (hN _ _ H.k rfl (hXb.q rfl H.x))
   ·exact fun Lk ak ww H _ _ hN=>wp_move rfl (ev (H.f.g rfl s1)) (hN _ _ H.k rfl (hXb.q rfl H.x))
   ·intro Lk ak ww H _ _ hN
    simp [go_sem,(gS ak 71 (H.d 21 rfl rfl)),hml,em]
    exact (hN _ _ H.k rfl (hXb.q rfl H.x))
   ·intro Lk ak ww H _ _ hN
    have hE:=fm.kp H.k (by simp)
    simp [go_sem,(gS ak 72 (H.d 22 rfl rfl)),(hE.at_ 0 (i:=3) (by omega) 0 (p:=om+3) (by omega) rfl)]
    exact (hN _ _ H.k rfl (hXb.q rfl H.x))
   ·exact fun Lk ak ww H _ _ hN=>wp_mul rfl (ev (H.d 20 rfl rfl)) (ev (H.d 23 rfl rfl)) (by omega) (hN _ _ H.k rfl (hXb.q rfl H.x))
   ·exact fun Lk ak ww H _ _ hN=>wp_add rfl (ev (H.d 18 rfl rfl)) (ev (H.d 24 rfl rfl)) (by omega) (hN _ _ H.k rfl (hXb.q rfl H.x))
   ·intro Lk ak ww H _ _ hN
    simp [go_sem,H.f.g rfl s10]
    exact (hN _ _ H.k rfl (hXb.q rfl H.x))
   ·intro Lk ak ww H _ _ hN
    simp [go_sem,(gS ak 76 (H.d 26 rfl rfl)),(b19.k0 H.k).cell]
    exact (hN _ _ H.k rfl (hXb.q rfl H.x))
   ·exact fun Lk ak ww H _ _ hN=>wp_move rfl (ev (H.f.g rfl s2)) (hN _ _ H.k rfl (hXb.q rfl H.x))
   ·exact fun Lk ak ww H _ _ hN=>wp_mul rfl (ev (H.d 27 rfl rfl)) (ev (H.d 28 rfl rfl)) (by omega) (hN _ _ H.k rfl (hXb.q rfl H.x))
   ·intro Lk ak ww H _ _ hN
    simp [go_sem,(gS ak 62 (H.d 12 rfl rfl)),(gS ak 75 (H.d 25 rfl rfl)),(gS ak 79 (H.d 29 rfl rfl))]
    refine (show Calls Tryz.prog 128 #[.int .i64 ((p.getD k half0).a*m.getD 0 0+(p.getD k half0).b*m.getD 2 0),.int .i64 ((p.getD k half0).a*m.getD 1 0+(p.getD k half0).b*m.getD 3 0),.int .i64 ((p.getD k half0).c*d)] ww (fun e w'=>e=.returned (optHalfV (pulH m d (p.getD k half0)))∧Below ww.heap.size ww w') from sHalfOf_c _ _ _ ww ⟨by omega,by omega⟩ ⟨by omega,by omega⟩ ⟨by omega,by omega⟩).mono ?_
    rintro x wx ⟨rfl,hb⟩
    exact (hN _ _ (H.k.call hb) (optHalf_eq _) (hXb.b rfl hb H.x))
   ·exact fun Lk ak ww H _ _ hN=>wp_move rfl (ev (H.d 30 rfl rfl)) (hN _ _ H.k rfl (hXb.q rfl H.x))
   ·exact fun Lk ak ww H _ _ hN=>wp_extract rfl (ev (H.d 31 rfl rfl)) rfl (hN _ _ H.k rfl (hXb.q rfl H.x))
   ·exact fun Lk ak ww H _ _ hN=>wp_extract rfl (ev (H.d 31 rfl rfl)) rfl (hN _ _ H.k rfl (hXb.q rfl H.x))
   ·intro Lk ak ww H _ _ hN
    have x0:=H.x
    simp [go_sem]
    exact hN _ _ (H.k.alloc _) trivial (fun _=>by rw [show upd Lk 34 35=false from H.t 35 rfl];exact BoxX.new (s:=11) (H.f.lt (by rw [hz];decide)) H.k.size [.int .i64 0,.int .i64 0,.int .i64 0])
   ·intro Lk ak ww H _ _ hN
    have x0:=H.x
    obtain ⟨g,eg,hg,y,_⟩:=x0 (H.r 34 rfl)
    have HT:=y H.n
    simp [go_sem,(gS ak 81 (H.d 32 rfl rfl)),eg,HT.cell,HT.frz]
    exact hN undef _ (H.k.store (.inl hg) [.int .i64 (((pulH m d (p.getD k half0)).getD half0).a),.int .i64 (((pulH m d (p.getD k half0)).getD half0).b),.int .i64 (((pulH m d (p.getD k half0)).getD half0).c)] 0) trivial (fun _=>BoxX.set eg hg HT (us:=[.int .i64 (((pulH m d (p.getD k half0)).getD half0).a),.int .i64 (((pulH m d (p.getD k half0)).getD half0).b),.int .i64 (((pulH m d (p.getD k half0)).getD half0).c)]) rfl rfl)
   ·exact fun Lk ak ww H _ _ hN=>wp_assign rfl (ev (H.d 33 rfl rfl)) (hN _ _ H.k rfl (hXb.q rfl H.x))
   intro L a20 w21 hL hF hK hV hX;have x0:=hX;replace hz:=hF.Z hz;replace hdf:=hF.E hdf;replace s1:=hF.G s1;replace s2:=hF.G s2;replace s6:=hF.G s6;replace s8:=hF.G s8;replace s43:=hF.G s43;replace s44:=hF.G s44;replace s45:=hF.G s45;have s12:=gS a20 12 (hV 36 _ rfl);replace b4:=b4.k0 hK
   obtain ⟨g22,s11,lg22,-,b22⟩:=x0 (hL 34 (by decide))
   obtain ⟨_,b22,rfl⟩:=b22 (hL 35 (by decide))
   have ug22:=b22.lt
   replace fm:=fm.kp hK (by simp)
   replace N2:=N2.below hK.toBelow leR;have zw21:=hK.size;replace hZ:=Nat.le_refl w21.heap.size;replace hB:=hK.below0 hB;clear hF hK hV hL x0 hXb s10 b19;refine th_n ?_;refine wp_seq ?_;refine wp_seq ?_
   refine wp_regJ (by kernel_rfl) [83,84] [some (.bool ((pulH m d (p.getD k half0)).isSome)),some (.bool (!((pulH m d (p.getD k half0)).isSome)))] (dlR 2) [83,84] [0,1] [] (fun _ _ _=>True) (by kernel_rfl) (by rw [hz];decide) ?_ (en rfl ?_ (en rfl ?_ .nil)) ?_
   ·exact fun _ _=>trivial
   ·exact fun Lk ak ww H _ _ hN=>wp_move rfl (ev (H.f.g rfl s12)) (hN _ _ H.k rfl trivial)
   ·exact fun Lk ak ww H _ _ hN=>wp_not rfl (ev (H.d 0 rfl rfl)) (hN _ _ H.k rfl trivial)
   intro L a23 w24 hL hF hK hV hX;replace hz:=hF.Z hz;replace hdf:=hF.E hdf;replace s1:=hF.G s1;replace s2:=hF.G s2;replace s6:=hF.G s6;replace s8:=hF.G s8;replace s43:=hF.G s43;replace s44:=hF.G s44;replace s45:=hF.G s45;replace s11:=hF.G s11;have s84:=gS a23 84 (hV 1 _ rfl);replace b4:=b4.k0 hK;replace b22:=b22.k0 hK
   replace fm:=fm.kp hK (by simp)
   replace N2:=N2.below hK.toBelow leR;replace hZ:=Nat.le_trans hZ hK.size;replace hB:=hK.below0 hB;clear hF hK hV hL hX s12;refine th_n ?_
   rcases Bool.eq_false_or_eq_true (!((pulH m d (p.getD k half0)).isSome)) with q25|q25
   ·skip
    refine wp_cond_true (ev (vb s84 q25)) ?_
    refine wp_seq ?_
    have hXb:StaysX [] (fun L aa ww=>PreX ww (w.heap.size+1) 37 [.slice none 0 0] (L 1) (fun _ vs=>vs=[.slice none 0 0])):=by
     intro L aa ww w' kk vv hkk hb hX
     have x0:=hX
     exact (x0.bel hb (fun _ h=>h))
    refine wp_regK hXb (by kernel_rfl) [85,0,7] [some (.agg #[.slice none 0 0]),none,some (.bool false)] (dlR 3) [85,7] [0,1,2] [(w.heap.size+1)] (by kernel_rfl) (by rw [hz];decide) ?_ (en rfl ?_ (en rfl ?_ (en rfl ?_ .nil))) ?_
    ·exact fun _ h=>(⟨fun _=>b4.kp h (by simp),(fun h=>by cases h)⟩)
    ·intro Lk ak ww H _ _ hN
     simp [go_sem]
     exact (hN _ _ H.k rfl H.x)
    ·intro Lk ak ww H _ _ hN
     have x0:=H.x
     have HT:=x0.1 H.n
     simp [go_sem,(gS ak 85 (H.d 0 rfl rfl)),H.f.g rfl s6,HT.cell,HT.frz]
     exact hN undef _ (H.k.store (.inr (by simp)) [.slice none 0 0] 0) trivial (PreX.set HT (us:=[.slice none 0 0]) rfl rfl)
    ·exact fun Lk ak ww H _ _ hN=>wp_assign rfl rfl (hN _ _ H.k rfl H.x)
    intro L a26 w27 hL hF hK hV hX;have x0:=hX;replace hz:=hF.Z hz;replace hdf:=hF.E hdf;replace s6:=hF.G s6;have s7:=gS a26 7 (hV 2 _ rfl);clear b4
    obtain ⟨_,b4,rfl⟩:=x0.2 (hL 1 (by decide))
    replace fm:=fm.kp hK (by simp<;>omega)
    replace hZ:=Nat.le_trans hZ hK.size
    replace hB:=hK.below hB hB.size (by simp<;>omega)
    clear hF hK hV hL x0 hXb s1 s2 s8 s43 s44 s45 s11 s84 b22 N2 i2;refine th_n ?_
    refine wp_ret ?_
    refine th_r (ib_r (th_r (th_r (ib_r (th_r ?_)))))
    refine bodyPost_ret (v:=.tuple #[.agg #[.slice none 0 0],.bool false]) (by simp [results,Tryz.results186,go_sem,s6,b4.cell,s7]) hdf ?_
    have h0:=mov_stop (f:=pulH m d) hkl (not_t q25)
    exact ⟨_,by rw [h0.1],by rw [h0.2];exact New.nilN _ _ _ _ _,hB⟩
   ·skip
    refine wp_cond_false (ev (vb s84 q25)) ?_
    refine wp_skip ?_;refine th_n ?_
    have hXb:StaysX [8,88,89] (fun L aa ww=>(L 2=true→(fun ww v=>∃ g3,v=.slice (some ⟨g3,0,none⟩) 1 1∧HasT ww g3 111 [.int .i64 (((pulH m d (p.getD k half0)).getD half0).a),.int .i64 (((pulH m d (p.getD k half0)).getD half0).b),.int .i64 (((pulH m d (p.getD k half0)).getD half0).c)]∧w24.heap.size≤g3) ww (aa.tmps[88]?.getD undef))∧(L 3=true→(fun ww v=>∃ A4 c4,v=.slice A4 (((movL (pulH m d) (p.take k))++[((pulH m d (p.getD k half0)).getD half0)]).length) c4∧New 111 3 halfC ww w6.heap.size (.slice A4 ((movL (pulH m d) (p.take k))++[((pulH m d (p.getD k half0)).getD half0)]).length c4) ((movL (pulH m d) (p.take k))++[((pulH m d (p.getD k half0)).getD half0)])) ww (aa.tmps[89]?.getD undef))∧(L 4=true→(fun ww v=>∃ A4 c4,v=.slice A4 (((movL (pulH m d) (p.take k))++[((pulH m d (p.getD k half0)).getD half0)]).length) c4∧New 111 3 halfC ww w6.heap.size (.slice A4 ((movL (pulH m d) (p.take k))++[((pulH m d (p.getD k half0)).getD half0)]).length c4) ((movL (pulH m d) (p.take k))++[((pulH m d (p.getD k half0)).getD half0)])) ww (aa.tmps[8]?.getD undef))∧(L 3=false→New 111 3 halfC ww w6.heap.size (.slice A2 (movL (pulH m d) (p.take k)).length c2) (movL (pulH m d) (p.take k)))∧(L 4=false→aa.tmps[8]?.getD undef=.slice A2 ((movL (pulH m d) (p.take k)).length) c2)):=by
     intro L aa ww w' kk vv hkk hb hX
     obtain ⟨x0,x1,x2,x3,x4⟩:=hX
     exact ⟨(fun h=>by rw [put_ne' (hkk 88 (by simp))];obtain ⟨g3',e,f3'⟩:=x0 h;exact ⟨g3',e,⟨f3'.1.bel hb,f3'.2⟩⟩),(fun h=>by rw [put_ne' (hkk 89 (by simp))];obtain ⟨A4',c4',e,f4'⟩:=x1 h;exact ⟨A4',c4',e,f4'.below hb leR⟩),(fun h=>by rw [put_ne' (hkk 8 (by simp))];obtain ⟨A4',c4',e,f4'⟩:=x2 h;exact ⟨A4',c4',e,f4'.below hb leR⟩),(fun h=>(x3 h).below hb leR),(fun h=>(put_ne' (hkk 8 (by simp)) vv).trans (x4 h))⟩
    refine wp_regK hXb (by kernel_rfl) [86,87,88,89,8] [some (.slice A2 ((movL (pulH m d) (p.take k)).length) c2),some (halfV ((pulH m d (p.getD k half0)).getD half0)),none,none,none] (dlR 5) [86,87,88,89,8] [0,1,2,3,4] (blkL A2) (by kernel_rfl) (by rw [hz];decide) ?_ (en rfl ?_ (en rfl ?_ (en rfl ?_ (en rfl ?_ (en rfl ?_ .nil))))) ?_
    ·exact fun _ h=>⟨(fun h=>by cases h),(fun h=>by cases h),(fun h=>by cases h),(fun _=>N2.below h.toBelow leR),(fun _=>s8)⟩
    ·intro Lk ak ww H _ _ hN
     obtain ⟨x0,x1,x2,x3,x4⟩:=H.x
     exact wp_move rfl (ev (x4 (H.t 4 rfl))) (hN _ _ H.k rfl (hXb.q rfl H.x))
    ·intro Lk ak ww H _ _ hN
     simp [go_sem,H.f.g rfl s11,(b22.kp H.k (blkL_nin (fun p hp=>by have q1:=N2.blk p hp;have q2:=i2 p hp;omega))).cell]
     exact (hN _ _ H.k rfl (hXb.q rfl H.x))
    ·intro Lk ak ww H _ _ hN
     obtain ⟨x0,x1,x2,x3,x4⟩:=H.x
     simp [go_sem,(gS ak 87 (H.d 1 rfl rfl))]
     have f3:HasT (ww.alloc (.cells #[.int .i64 (((pulH m d (p.getD k half0)).getD half0).a),.int .i64 (((pulH m d (p.getD k half0)).getD half0).b),.int .i64 (((pulH m d (p.getD k half0)).getD half0).c)] 111)) ww.heap.size 111 [.int .i64 (((pulH m d (p.getD k half0)).getD half0).a),.int .i64 (((pulH m d (p.getD k half0)).getD half0).b),.int .i64 (((pulH m d (p.getD k half0)).getD half0).c)]∧w24.heap.size≤ww.heap.size:=⟨HasT.new _ _ _,H.k.size⟩
     exact hN _ _ (H.k.alloc _) trivial ⟨(fun _=>by rw [put_get_self (H.f.lt (by rw [hz];decide))];exact ⟨_,rfl,f3⟩),(fun h=>by rw [put_ne' (by decide)];obtain ⟨A4',c4',e,f4'⟩:=x1 h;exact ⟨A4',c4',e,f4'.below (below_al bR _) leR⟩),(fun h=>by rw [put_ne' (by decide)];obtain ⟨A4',c4',e,f4'⟩:=x2 h;exact ⟨A4',c4',e,f4'.below (below_al bR _) leR⟩),(fun h=>(x3 h).below (below_al bR _) leR),(fun h=>(put_ne' (by decide) _).trans (x4 h))⟩
    ·intro Lk ak ww H _ _ hN
     obtain ⟨x0,x1,x2,x3,x4⟩:=H.x
     obtain ⟨g3,ee2,f3⟩:=x0 (H.r 2 rfl)
     refine wp_app1 halfC_len rfl w6.heap.size i0h _ 24 Tryz.underlying35 hi0h hz0h hz1h hz2h rfl (by decide) (ev (H.d 0 rfl rfl)) (x3 H.n) (ev ee2) (y:=((pulH m d (p.getD k half0)).getD half0)) f3.1 halfC_one (by have:=H.k.size;omega) (by rw [movL_len,List.length_take];omega) (by decide) ?_
     intro A4 c4 wx f4 hG
     exact hN _ _ (H.k.trans2 hG (fun m h=>.inl h)) trivial ⟨(fun h=>by rw [put_ne' (by decide)];obtain ⟨g',e,f'⟩:=x0 h;exact ⟨g',e,f'.1.kp hG (blkL_nin (fun p hp=>by have q1:=N2.blk p hp;have q2:=f'.2;omega)),f'.2⟩),(fun _=>by rw [put_get_self (H.f.lt (by rw [hz];decide))];exact ⟨A4,c4,rfl,f4⟩),(fun h=>absurd (H.t 4 rfl) (by rw [show Lk 4=true by simpa [upd] using h];decide)),(fun h=>by simp [upd] at h),(fun h=>(put_ne' (by decide) _).trans (x4 h))⟩
    ·intro Lk ak ww H _ _ hN
     obtain ⟨x0,x1,x2,x3,x4⟩:=H.x
     obtain ⟨A4,c4,ee3,f4⟩:=x1 (H.r 3 rfl)
     exact wp_assign rfl (ev ee3) (hN _ _ H.k trivial ⟨(fun h=>by rw [put_ne' (by decide)];obtain ⟨g3',e,f3'⟩:=x0 h;exact ⟨g3',e,⟨f3'.1.bel bR,f3'.2⟩⟩),(fun h=>by rw [put_ne' (by decide)];obtain ⟨A4',c4',e,f4'⟩:=x1 h;exact ⟨A4',c4',e,f4'.below bR leR⟩),(fun _=>by rw [put_get_self (H.f.lt (by rw [hz];decide))];exact ⟨A4,c4,rfl,f4⟩),(fun h=>(x3 h).below bR leR),(fun h=>by simp [upd] at h)⟩)
    intro L a28 w29 hL hF hK hV hX
    obtain ⟨x0,x1,x2,x3,x4⟩:=hX
    replace hz:=hF.Z hz;replace hdf:=hF.E hdf
    have hB9:=hK.below hB hB.size (fun m hm=>by obtain ⟨p,hp,rfl⟩:=blkL_in hm;have q1:=N2.blk p hp;have q2:=i2 p hp;omega)
    replace s1:=hF.G s1;replace s2:=hF.G s2;replace s6:=hF.G s6;replace s43:=hF.G s43;replace s44:=hF.G s44;replace s45:=hF.G s45
    replace b4:=b4.kp hK (blkL_nin (fun p hp=>by have q1:=N2.blk p hp;have q2:=i2 p hp;omega))
    obtain ⟨A4,c4,s8,N4⟩:=x2 (hL 4 (by decide))
    have i4:∀ p,A4=some p→p.block<w29.heap.size:=fun p hp=>(N4.blk p hp).2
    replace fm:=fm.kp hK (blkL_nin (fun p hp=>by have q1:=N2.blk p hp;have q2:=i2 p hp;omega))
    have zw24:=hZ;have zw29:=hK.size;replace hZ:=Nat.le_refl w29.heap.size;replace hB:=hB9;clear hF hK hV hL x0 x1 x2 x3 x4 hXb s11 s84 b22 N2 i2;refine ib_n (th_n ?_)
    refine wp_regJ (by kernel_rfl) [90,45] [some (.int .i64 ((k:Int)+1)),some (.int .i64 ((k:Int)+1))] (dlR 2) [90,45] [0,1] [] (fun L aa ww=>(L 1=false→aa.tmps[45]?.getD undef=.int .i64 (k:Int))) (by kernel_rfl) (by rw [hz];decide) ?_ (en rfl ?_ (en rfl ?_ .nil)) ?_
    ·exact fun _ h=>(fun _=>s45)
    ·intro Lk ak ww H _ _ hN
     have x0:=H.x
     exact wp_add rfl (ev (x0 (H.t 1 rfl))) rfl (by omega) (hN _ _ H.k rfl (fun h=>(put_ne' (by decide) _).trans (x0 h)))
    ·intro Lk ak ww H _ _ hN
     have x0:=H.x
     exact wp_move rfl (ev (H.d 0 rfl rfl)) (hN _ _ H.k rfl (fun h=>by simp [upd] at h))
    intro L a30 w31 hL hF hK hV hX;have x0:=hX;replace hz:=hF.Z hz;replace hdf:=hF.E hdf;replace s1:=hF.G s1;replace s2:=hF.G s2;replace s6:=hF.G s6;replace s43:=hF.G s43;replace s44:=hF.G s44;replace s8:=hF.G s8;have s45:=gS a30 45 (hV 1 _ rfl);replace b4:=b4.k0 hK
    replace fm:=fm.kp hK (by simp)
    replace N4:=N4.below hK.toBelow leR;replace hZ:=Nat.le_trans hZ hK.size;replace hB:=hK.below0 hB;clear hF hK hV hL x0;refine th_n ?_
    refine ⟨?_, ?_⟩
    ·exact ⟨hz,hdf,(k+1),(A4),(c4),(by omega),(movAll_next hkl hall (not_f q25)),s1,s2,s6,(by rw [movL_next hkl (not_f q25)];exact s8),s43,s44,s45,b4,fm,(by rw [movL_next hkl (not_f q25)];exact N4),hB,(by omega)⟩
    ·show (p.length-(intOf (a30.tmps[45]?.getD undef)).toNat)<_
     rw [s45,hmu];simp only [intOf];omega
  ·skip
   have ek:k=p.length:=by have:=dec_f q16;omega
   have hta:p.take k=p:=by rw [ek];exact List.take_length
   have hmo:∀ g∈movL (pulH m d) (p.take k),halfOk g=true:=by rw [hta];rw [hta] at hall;exact movL_ok (fun _ _ _ e=>pulH_ok e) hall
   have hlm:(movL (pulH m d) (p.take k)).length=p.length:=by rw [movL_len,hta]
   rw [hta] at hall
   refine wp_cond_false (ev (vb s46 q16)) ?_
   refine wp_exit ?_
   refine th_e (th_e (ib_x (th_n ?_)));refine wp_seq ?_;refine wp_seq ?_
   refine wp_regJ (by kernel_rfl) [91,92,93] [some (.slice A2 ((movL (pulH m d) (p.take k)).length) c2),some (.int .i64 (((movL (pulH m d) (p.take k)).length:Nat):Int)),some (.bool ((((movL (pulH m d) (p.take k)).length:Nat):Int) == 0))] (dlR 3) [91,92,93] [0,1,2] [] (fun _ _ _=>True) (by kernel_rfl) (by rw [hz];decide) ?_ (en rfl ?_ (en rfl ?_ (en rfl ?_ .nil))) ?_
   ·exact fun _ _=>trivial
   ·exact fun Lk ak ww H _ _ hN=>wp_move rfl (ev (H.f.g rfl s8)) (hN _ _ H.k rfl trivial)
   ·intro Lk ak ww H _ _ hN
    simp [go_sem,(gS ak 91 (H.d 0 rfl rfl))]
    exact (hN _ _ H.k rfl trivial)
   ·exact fun Lk ak ww H _ _ hN=>wp_bin rfl (ev (H.d 1 rfl rfl)) rfl rfl rfl (hN _ _ H.k rfl trivial)
   intro L a32 w33 hL hF hK hV hX;replace hz:=hF.Z hz;replace hdf:=hF.E hdf;replace s6:=hF.G s6;replace s8:=hF.G s8;have s93:=gS a32 93 (hV 2 _ rfl);replace b4:=b4.k0 hK
   replace fm:=fm.kp hK (by simp)
   replace N2:=N2.below hK.toBelow leR;replace hZ:=Nat.le_trans hZ hK.size;replace hB:=hK.below0 hB;clear hF hK hV hL hX s1 s2 s43 s44 s45 s46;refine th_n ?_
   rcases Bool.eq_false_or_eq_true ((((movL (pulH m d) (p.take k)).length:Nat):Int) == 0) with q34|q34
   ·skip
    refine wp_cond_true (ev (vb s93 q34)) ?_
    refine wp_seq ?_
    have hXb:StaysX [] (fun L aa ww=>PreX ww (w.heap.size+1) 37 [.slice none 0 0] (L 1) (fun _ vs=>vs=[.slice none 0 0])):=by
     intro L aa ww w' kk vv hkk hb hX
     have x0:=hX
     exact (x0.bel hb (fun _ h=>h))
    refine wp_regK hXb (by kernel_rfl) [94,0,7] [some (.agg #[.slice none 0 0]),none,some (.bool true)] (dlR 3) [94,7] [0,1,2] [(w.heap.size+1)] (by kernel_rfl) (by rw [hz];decide) ?_ (en rfl ?_ (en rfl ?_ (en rfl ?_ .nil))) ?_
    ·exact fun _ h=>(⟨fun _=>b4.kp h (by simp),(fun h=>by cases h)⟩)
    ·intro Lk ak ww H _ _ hN
     simp [go_sem]
     exact (hN _ _ H.k rfl H.x)
    ·intro Lk ak ww H _ _ hN
     have x0:=H.x
     have HT:=x0.1 H.n
     simp [go_sem,(gS ak 94 (H.d 0 rfl rfl)),H.f.g rfl s6,HT.cell,HT.frz]
     exact hN undef _ (H.k.store (.inr (by simp)) [.slice none 0 0] 0) trivial (PreX.set HT (us:=[.slice none 0 0]) rfl rfl)
    ·exact fun Lk ak ww H _ _ hN=>wp_assign rfl rfl (hN _ _ H.k rfl H.x)
    intro L a35 w36 hL hF hK hV hX;have x0:=hX;replace hz:=hF.Z hz;replace hdf:=hF.E hdf;replace s6:=hF.G s6;have s7:=gS a35 7 (hV 2 _ rfl);clear b4
    obtain ⟨_,b4,rfl⟩:=x0.2 (hL 1 (by decide))
    replace fm:=fm.kp hK (by simp<;>omega)
    replace hZ:=Nat.le_trans hZ hK.size
    replace hB:=hK.below hB hB.size (by simp<;>omega)
    clear hF hK hV hL x0 hXb s8 s93 N2 i2;refine th_n ?_
    refine wp_ret ?_
    refine th_r ?_
    refine bodyPost_ret (v:=.tuple #[.agg #[.slice none 0 0],.bool true]) (by simp [results,Tryz.results186,go_sem,s6,b4.cell,s7]) hdf ?_
    have h0:p.length=0:=by have:=beq_t q34;omega
    exact ⟨_,by rw [(mov_void h0).1],by rw [(mov_void h0).2];exact New.nilN _ _ _ _ _,hB⟩
   ·skip
    refine wp_cond_false (ev (vb s93 q34)) ?_
    refine wp_skip ?_;refine th_n ?_;refine wp_seq ?_
    have hXb:StaysX [96,97] (fun L aa ww=>(L 1=true→(fun ww v=>∃ A5 c5,v=.tuple #[.agg #[.slice A5 ((meetR (meetL (movL (pulH m d) (p.take k)))).length) c5],.bool (meetOk (meetL (movL (pulH m d) (p.take k))))]∧New 111 3 halfC ww w33.heap.size (.slice A5 (meetR (meetL (movL (pulH m d) (p.take k)))).length c5) (meetR (meetL (movL (pulH m d) (p.take k))))) ww (aa.tmps[96]?.getD undef))∧(L 2=true→(fun ww v=>∃ A5 c5,v=.agg #[.slice A5 ((meetR (meetL (movL (pulH m d) (p.take k)))).length) c5]∧New 111 3 halfC ww w33.heap.size (.slice A5 (meetR (meetL (movL (pulH m d) (p.take k)))).length c5) (meetR (meetL (movL (pulH m d) (p.take k))))) ww (aa.tmps[97]?.getD undef))∧PreX ww (w.heap.size+1) 37 [.slice none 0 0] (L 4) (fun ww vs=>∃ A5 c5,vs=[.slice A5 ((meetR (meetL (movL (pulH m d) (p.take k)))).length) c5]∧New 111 3 halfC ww w33.heap.size (.slice A5 (meetR (meetL (movL (pulH m d) (p.take k)))).length c5) (meetR (meetL (movL (pulH m d) (p.take k)))))):=by
     intro L aa ww w' kk vv hkk hb hX
     obtain ⟨x0,x1,x2⟩:=hX
     exact ⟨(fun h=>by rw [put_ne' (hkk 96 (by simp))];obtain ⟨A5',c5',e,f5'⟩:=x0 h;exact ⟨A5',c5',e,f5'.below hb leR⟩),(fun h=>by rw [put_ne' (hkk 97 (by simp))];obtain ⟨A5',c5',e,f5'⟩:=x1 h;exact ⟨A5',c5',e,f5'.below hb leR⟩),(x2.bel hb (fun _ ⟨A5',c5',e,f5'⟩=>⟨A5',c5',e,f5'.below hb leR⟩))⟩
    refine wp_regK hXb (by kernel_rfl) [95,96,97,98,0,7] [some (.slice A2 ((movL (pulH m d) (p.take k)).length) c2),none,none,some (.bool (meetOk (meetL (movL (pulH m d) (p.take k))))),none,some (.bool (meetOk (meetL (movL (pulH m d) (p.take k)))))] (dlR 6) [95,96,97,98,7] [0,1,2,3,4,5] [(w.heap.size+1)] (by kernel_rfl) (by rw [hz];decide) ?_ (en rfl ?_ (en rfl ?_ (en rfl ?_ (en rfl ?_ (en rfl ?_ (en rfl ?_ .nil)))))) ?_
    ·exact fun _ h=>⟨(fun h=>by cases h),(fun h=>by cases h),(⟨fun _=>b4.kp h (by simp),(fun h=>by cases h)⟩)⟩
    ·exact fun Lk ak ww H _ _ hN=>wp_move rfl (ev (H.f.g rfl s8)) (hN _ _ H.k rfl (hXb.q rfl H.x))
    ·intro Lk ak ww H _ _ hN
     obtain ⟨x0,x1,x2⟩:=H.x
     simp [go_sem,(gS ak 95 (H.d 0 rfl rfl))]
     refine (sFitL_c A2 (movL (pulH m d) (p.take k)) c2 ww (by rw [hlm];omega) hmo ((N2.kp H.k i2 (by omega) (by simp<;>omega)).out halfC_len) N2.nilcap).mono ?_
     rintro x wx ⟨_,rfl,⟨A5,c5,rfl,f0⟩,hb⟩
     have f5:=New.mono (show New 111 3 halfC wx ww.heap.size (.slice A5 (meetR (meetL (movL (pulH m d) (p.take k)))).length c5) (meetR (meetL (movL (pulH m d) (p.take k)))) from ⟨_,_,rfl,f0⟩) H.k.size
     exact (hN _ _ (H.k.call hb) trivial ⟨(fun _=>by rw [put_get_self (H.f.lt (by rw [hz];decide))];exact ⟨A5,c5,rfl,f5⟩),(fun h=>by rw [put_ne' (by decide)];obtain ⟨A5',c5',e,f5'⟩:=x1 h;exact ⟨A5',c5',e,f5'.below hb leR⟩),(x2.bel hb (fun _ ⟨A5',c5',e,f5'⟩=>⟨A5',c5',e,f5'.below hb leR⟩))⟩)
    ·intro Lk ak ww H _ _ hN
     obtain ⟨x0,x1,x2⟩:=H.x
     obtain ⟨A5,c5,ee1,f5⟩:=x0 (H.r 1 rfl)
     exact wp_extract rfl (ev ee1) rfl (hN _ _ H.k trivial ⟨(fun h=>by rw [put_ne' (by decide)];obtain ⟨A5',c5',e,f5'⟩:=x0 h;exact ⟨A5',c5',e,f5'.below bR leR⟩),(fun _=>by rw [put_get_self (H.f.lt (by rw [hz];decide))];exact ⟨A5,c5,rfl,f5⟩),(x2.bel bR (fun _ ⟨A5',c5',e,f5'⟩=>⟨A5',c5',e,f5'.below bR leR⟩))⟩)
    ·intro Lk ak ww H _ _ hN
     obtain ⟨x0,x1,x2⟩:=H.x
     obtain ⟨A5,c5,ee1,f5⟩:=x0 (H.r 1 rfl)
     exact wp_extract rfl (ev ee1) rfl (hN _ _ H.k rfl (hXb.q rfl H.x))
    ·intro Lk ak ww H _ _ hN
     obtain ⟨x0,x1,x2⟩:=H.x
     obtain ⟨A5,c5,ee2,f5⟩:=x1 (H.r 2 rfl)
     have HT:=x2.1 H.n
     simp [go_sem,ee2,H.f.g rfl s6,HT.cell,HT.frz]
     have f5:=f5.otherC (f5.typ HT (by decide)) [.slice A5 ((meetR (meetL (movL (pulH m d) (p.take k)))).length) c5] 0
     exact hN undef _ (H.k.store (.inr (by simp)) [.slice A5 ((meetR (meetL (movL (pulH m d) (p.take k)))).length) c5] 0) trivial ⟨(fun h=>by obtain ⟨A5',c5',e,f5'⟩:=x0 h;exact ⟨A5',c5',e,f5'.otherC (f5'.typ HT (by decide)) [.slice A5 ((meetR (meetL (movL (pulH m d) (p.take k)))).length) c5] 0⟩),(fun h=>by obtain ⟨A5',c5',e,f5'⟩:=x1 h;exact ⟨A5',c5',e,f5'.otherC (f5'.typ HT (by decide)) [.slice A5 ((meetR (meetL (movL (pulH m d) (p.take k)))).length) c5] 0⟩),(PreX.set HT (us:=[.slice A5 ((meetR (meetL (movL (pulH m d) (p.take k)))).length) c5]) rfl ⟨A5,c5,rfl,f5⟩)⟩
    ·exact fun Lk ak ww H _ _ hN=>wp_assign rfl (ev (H.d 3 rfl rfl)) (hN _ _ H.k rfl (hXb.q rfl H.x))
    intro L a37 w38 hL hF hK hV hX
    obtain ⟨x0,x1,x2⟩:=hX
    replace hz:=hF.Z hz;replace hdf:=hF.E hdf;replace s6:=hF.G s6;have s7:=gS a37 7 (hV 5 _ rfl);clear b4
    obtain ⟨_,b4,A5,c5,rfl,N5⟩:=x2.2 (hL 4 (by decide))
    have i5:∀ p,A5=some p→p.block<w38.heap.size:=fun p hp=>(N5.blk p hp).2
    replace fm:=fm.kp hK (by simp<;>omega)
    have zw33:=hZ;have zw38:=hK.size;replace hZ:=Nat.le_refl w38.heap.size
    replace hB:=hK.below hB hB.size (by simp<;>omega)
    clear hF hK hV hL x0 x1 x2 hXb s8 s93 N2 i2;refine th_n ?_
    refine wp_ret ?_
    refine bodyPost_ret (v:=.tuple #[.agg #[.slice A5 ((meetR (meetL (movL (pulH m d) (p.take k)))).length) c5],.bool (meetOk (meetL (movL (pulH m d) (p.take k))))]) (by simp [results,Tryz.results186,go_sem,s6,b4.cell,s7]) hdf ?_
    rw [hta] at N5
    have h0:=mov_all (f:=pulH m d) (p:=p) (by have:=beq_f q34;omega) hall
    exact ⟨_,by rw [h0.1,hta],by rw [h0.2];exact N5.mono (by omega),hB⟩
end Go.Proofs.YtdncnhcffbgjhaaGreat
