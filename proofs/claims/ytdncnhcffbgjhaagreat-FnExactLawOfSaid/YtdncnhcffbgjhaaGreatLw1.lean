/-
 The pieces of a law, and half planes that hold for all states of a region: of the program and of the reference.
 Conditions: valid rooms, regions and half planes.
-/
import Derived.Test.YtdncnhcffbgjhaaGreatWatS
namespace Go.Proofs.YtdncnhcffbgjhaaGreat
open Go.RowKit
def pieceN (a b c d:Int):Piece:=⟨a.tdiv ((gcdAll [a,b,c,d]:Nat):Int),b.tdiv ((gcdAll [a,b,c,d]:Nat):Int),c.tdiv ((gcdAll [a,b,c,d]:Nat):Int),d.tdiv ((gcdAll [a,b,c,d]:Nat):Int)⟩
/-- The function (a x + b y + c) / d in lowest terms. -/
def pieceM (a b c d:Int):Piece:=if d<0 then pieceN (-a) (-b) (-c) (-d) else pieceN a b c d
structure PcB (a b c d:Int):Prop where
 fa : -10000000≤a∧a≤10000000
 fb : -10000000≤b∧b≤10000000
 fc : -10000000000≤c∧c≤10000000000
 fd : -10000000000≤d∧d≤10000000000
 nz:d≠0
theorem PcB.neg {a b c d:Int} (h:PcB a b c d):PcB (-a) (-b) (-c) (-d):=by
 have h1:=h.fa
 have h2:=h.fb
 have h3:=h.fc
 have h4:=h.fd
 have h5:=h.nz
 exact ⟨by omega,by omega,by omega,by omega,by omega⟩
structure PcG (a b c d:Int):Prop where
 g:1≤((gcdAll [a,b,c,d]:Nat):Int)∧((gcdAll [a,b,c,d]:Nat):Int)≤10000000000
 fa : -10000000000≤a.tdiv ((gcdAll [a,b,c,d]:Nat):Int)∧a.tdiv ((gcdAll [a,b,c,d]:Nat):Int)≤10000000000
 fb : -10000000000≤b.tdiv ((gcdAll [a,b,c,d]:Nat):Int)∧b.tdiv ((gcdAll [a,b,c,d]:Nat):Int)≤10000000000
 fc : -10000000000≤c.tdiv ((gcdAll [a,b,c,d]:Nat):Int)∧c.tdiv ((gcdAll [a,b,c,d]:Nat):Int)≤10000000000
 fd : -10000000000≤d.tdiv ((gcdAll [a,b,c,d]:Nat):Int)∧d.tdiv ((gcdAll [a,b,c,d]:Nat):Int)≤10000000000
theorem pcG {a b c d:Int} (h:PcB a b c d):PcG a b c d:=by
 have h1:=h.fa
 have h2:=h.fb
 have h3:=h.fc
 have h4:=h.fd
 have h5:=h.nz
 have e:gcdAll [a,b,c,d]=Nat.gcd (Nat.gcd (Nat.gcd a.natAbs b.natAbs) c.natAbs) d.natAbs:=gcd4 a b c d
 have dv:gcdAll [a,b,c,d] ∣ d.natAbs:=by rw [e];exact Nat.gcd_dvd_right _ _
 have hp:0<gcdAll [a,b,c,d]:=by rw [e];exact Nat.gcd_pos_of_pos_right _ (by omega)
 have hle:gcdAll [a,b,c,d]≤10000000000:=Nat.le_trans (Nat.le_of_dvd (by omega) dv) (by omega)
 have k:=fun (x:Int) (hx : -10000000000≤x∧x≤10000000000)=>tdiv_le x (gcdAll [a,b,c,d]) 10000000000 (by omega) (by omega)
 exact ⟨⟨by omega,by omega⟩,k a (by omega),k b (by omega),k c (by omega),k d (by omega)⟩
theorem four_slI {w:World} {g T:Nat} {x y z u:Int} (h:HasT w g T [.int .i64 x,.int .i64 y,.int .i64 z,.int .i64 u]):Sl 1 intC w (some ⟨g,0,none⟩) [x,y,z,u] :=
 (New.lit (enc:=intC) (xs:=[x,y,z,u]) (base:=0) (T:=T) intC_len h (Nat.zero_le _) (by simp)).out intC_len
theorem gcdOf4 {a b c d:Int} (h:PcB a b c d):gcdOf (gcdOf a b) (gcdOf c d)=((gcdAll [a,b,c,d]:Nat):Int):=by
 have h1:=h.fa
 have h2:=h.fb
 have h3:=h.fc
 have h4:=h.fd
 have m:∀ x:Int,-10000000000≤x→isMin x=false:=fun x hx=>by simp [isMin];omega
 have e1:=gcdOf_no (m a (by omega)) (m b (by omega))
 have e2:=gcdOf_no (m c (by omega)) (m d (by omega))
 rw [e1,e2,gcdOf_no (by simp [isMin]) (by simp [isMin]),gcd4]
 simp only [Int.natAbs_natCast]
 rw [Nat.gcd_assoc (Nat.gcd a.natAbs b.natAbs)]
/-- The half plane of the states from which none leads out of it, without an input, holds at all corners. -/
def covB (p:List Half) (o:Option Half):Bool:=o.isSome&&(corners p).all fun s=>!decide (sgn (valS (o.getD half0) s) > 0)
theorem cov_no {p:List Half} {o:Option Half} (h:o.isSome=false):covB p o=false:=by unfold covB;rw [h];rfl
theorem cov_stop {p:List Half} {o:Option Half} {k:Nat} (h:k<(corners p).length) (hb:decide (sgn (valS (o.getD half0) ((corners p).getD k sp0)) > 0)=true):covB p o=false:=by
 rw [getD_el h] at hb
 unfold covB
 rw [List.all_eq_false.2 ⟨_,List.getElem_mem h,by rw [hb];decide⟩,Bool.and_false]
theorem cov_next {C:List Spot} {g:Half} {k:Nat} (h:k<C.length) (h1:((C.take k).all fun s=>!decide (sgn (valS g s) > 0))=true) (hb:decide (sgn (valS g (C.getD k sp0)) > 0)=false):((C.take (k+1)).all fun s=>!decide (sgn (valS g s) > 0))=true:=by
 rw [getD_el h] at hb
 rw [List.take_add_one,List.getElem?_eq_getElem h,List.all_append,h1]
 simp only [Option.toList_some,List.all_cons,List.all_nil,Bool.and_true,Bool.true_and]
 rw [hb];rfl
theorem cov_yes {p:List Half} {o:Option Half} (h:o.isSome=true) (h1:((corners p).all fun s=>!decide (sgn (valS (o.getD half0) s) > 0))=true):covB p o=true:=by unfold covB;rw [h,h1];rfl
theorem optH_ok {a b c:Int} (h:(halfOf a b c).isSome=true):halfOk ((halfOf a b c).getD half0)=true:=by
 obtain ⟨g,e⟩:=Option.isSome_iff_exists.1 h
 rw [e];exact halfOf_ok e
set_option maxRecDepth 100000 in
set_option maxHeartbeats 3000000 in
theorem iPiece_c (a b c d:Int) (w:World) (hP:PcB a b c d) :
 Calls Tryz.prog 69 #[.int .i64 a,.int .i64 b,.int .i64 c,.int .i64 d] w fun x w'=>x=.returned (pieceV (pieceM a b c d))∧Below w.heap.size w w':=by
 have h1:=hP.fa
 have h2:=hP.fb
 have h3:=hP.fc
 have h4:=hP.fd
 refine calls_v Tryz.func69 rfl (n:=40) Tryz.ntmps69 (by simp) ?_
 intro a0 hz hdf ha
 have s0:a0.tmps[0]?.getD undef=.int .i64 a:=ha 0 _ rfl;have s1:a0.tmps[1]?.getD undef=.int .i64 b:=ha 1 _ rfl;have s2:a0.tmps[2]?.getD undef=.int .i64 c:=ha 2 _ rfl;have s3:a0.tmps[3]?.getD undef=.int .i64 d:=ha 3 _ rfl;clear ha
 have hB:=Below.refl w.heap.size w
 have hZ:=Nat.le_refl w.heap.size
 refine wp_seq ?_
 refine wp_entry [8] [.pointer (some ⟨w.heap.size,0,none⟩)] [some (.cells [.int .i64 0,.int .i64 0,.int .i64 0,.int .i64 0].toArray 109)] [0] [8] [0] (by kernel_rfl) (by rw [hz];decide) (ec ?_ .nil) ?_
 ·intro a w' hF hs N Q hN;simp [go_sem];rw [hs];exact hN
 intro a1 w2 hF hV hb hO
 replace hz:=hF.size.trans hz;replace hdf:=hF.defers.trans hdf;replace s0:=hF.g rfl s0;replace s1:=hF.g rfl s1;replace s2:=hF.g rfl s2;replace s3:=hF.g rfl s3
 have s8:a1.tmps[8]?.getD undef=.pointer (some ⟨w.heap.size,0,none⟩):=hV 0 (by decide)
 have b3:HasT w2 w.heap.size 109 [.int .i64 0,.int .i64 0,.int .i64 0,.int .i64 0]:=hO 0 _ rfl
 have hG:=b3.lt
 replace hB:=below_tr hB hb;have zw2:=Nat.le_trans hZ hb.size;replace hZ:=Nat.le_refl w2.heap.size;clear hF hV hb hO;refine th_n ?_;refine wp_seq ?_;refine wp_seq ?_
 refine wp_regJ (by kernel_rfl) [10,11] [some (.int .i64 d),some (.bool (decide (d<0)))] (dlR 2) [10,11] [0,1] [] (fun _ _ _=>True) (by kernel_rfl) (by rw [hz];decide) ?_ (en rfl ?_ (en rfl ?_ .nil)) ?_
 ·exact fun _ _=>trivial
 ·exact fun Lk ak ww H _ _ hN=>wp_move rfl (ev (H.f.g rfl s3)) (hN _ _ H.k rfl trivial)
 ·exact fun Lk ak ww H _ _ hN=>wp_bin rfl (ev (H.d 0 rfl rfl)) rfl rfl rfl (hN _ _ H.k rfl trivial)
 intro L a4 w5 hL hF hK hV hX;replace hz:=hF.Z hz;replace hdf:=hF.E hdf;replace s0:=hF.G s0;replace s1:=hF.G s1;replace s2:=hF.G s2;replace s3:=hF.G s3;replace s8:=hF.G s8;have s11:=gS a4 11 (hV 1 _ rfl);replace b3:=b3.k0 hK;replace hZ:=Nat.le_trans hZ hK.size;replace hB:=hK.below0 hB;clear hF hK hV hL hX;refine th_n ?_
 rcases Bool.eq_false_or_eq_true (decide (d<0)) with q6|q6
 ·skip
  refine wp_cond_true (ev (vb s11 q6)) ?_
  have hXb:StaysX [0,1,2,3] (fun L aa ww=>(L 8=false→aa.tmps[0]?.getD undef=.int .i64 a)∧(L 9=false→aa.tmps[1]?.getD undef=.int .i64 b)∧(L 10=false→aa.tmps[2]?.getD undef=.int .i64 c)∧(L 11=false→aa.tmps[3]?.getD undef=.int .i64 d)):=by
   intro L aa ww w' kk vv hkk hb hX
   obtain ⟨x0,x1,x2,x3⟩:=hX
   exact ⟨(fun h=>(put_ne' (hkk 0 (by simp)) vv).trans (x0 h)),(fun h=>(put_ne' (hkk 1 (by simp)) vv).trans (x1 h)),(fun h=>(put_ne' (hkk 2 (by simp)) vv).trans (x2 h)),(fun h=>(put_ne' (hkk 3 (by simp)) vv).trans (x3 h))⟩
  refine wp_regK hXb (by kernel_rfl) [12,13,14,15,16,17,18,19,0,1,2,3] [some (.int .i64 a),some (.int .i64 (-a)),some (.int .i64 b),some (.int .i64 (-b)),some (.int .i64 c),some (.int .i64 (-c)),some (.int .i64 d),some (.int .i64 (-d)),some (.int .i64 (-a)),some (.int .i64 (-b)),some (.int .i64 (-c)),some (.int .i64 (-d))] (dlR 12) [12,13,14,15,16,17,18,19,0,1,2,3] [0,1,2,3,4,5,6,7,8,9,10,11] [] (by kernel_rfl) (by rw [hz];decide) ?_ (en rfl ?_ (en rfl ?_ (en rfl ?_ (en rfl ?_ (en rfl ?_ (en rfl ?_ (en rfl ?_ (en rfl ?_ (en rfl ?_ (en rfl ?_ (en rfl ?_ (en rfl ?_ .nil)))))))))))) ?_
  ·exact fun _ h=>⟨(fun _=>s0),(fun _=>s1),(fun _=>s2),(fun _=>s3)⟩
  ·intro Lk ak ww H _ _ hN
   obtain ⟨x0,x1,x2,x3⟩:=H.x
   exact wp_move rfl (ev (x0 (H.t 8 rfl))) (hN _ _ H.k rfl (hXb Lk ak ww _ (some 12) _ (by simp) bR H.x))
  ·exact fun Lk ak ww H _ _ hN=>wp_neg rfl (ev (H.d 0 rfl rfl)) (by omega) (hN _ _ H.k rfl (hXb Lk ak ww _ (some 13) _ (by simp) bR H.x))
  ·intro Lk ak ww H _ _ hN
   obtain ⟨x0,x1,x2,x3⟩:=H.x
   exact wp_move rfl (ev (x1 (H.t 9 rfl))) (hN _ _ H.k rfl (hXb Lk ak ww _ (some 14) _ (by simp) bR H.x))
  ·exact fun Lk ak ww H _ _ hN=>wp_neg rfl (ev (H.d 2 rfl rfl)) (by omega) (hN _ _ H.k rfl (hXb Lk ak ww _ (some 15) _ (by simp) bR H.x))
  ·intro Lk ak ww H _ _ hN
   obtain ⟨x0,x1,x2,x3⟩:=H.x
   exact wp_move rfl (ev (x2 (H.t 10 rfl))) (hN _ _ H.k rfl (hXb Lk ak ww _ (some 16) _ (by simp) bR H.x))
  ·exact fun Lk ak ww H _ _ hN=>wp_neg rfl (ev (H.d 4 rfl rfl)) (by omega) (hN _ _ H.k rfl (hXb Lk ak ww _ (some 17) _ (by simp) bR H.x))
  ·intro Lk ak ww H _ _ hN
   obtain ⟨x0,x1,x2,x3⟩:=H.x
   exact wp_move rfl (ev (x3 (H.t 11 rfl))) (hN _ _ H.k rfl (hXb Lk ak ww _ (some 18) _ (by simp) bR H.x))
  ·exact fun Lk ak ww H _ _ hN=>wp_neg rfl (ev (H.d 6 rfl rfl)) (by omega) (hN _ _ H.k rfl (hXb Lk ak ww _ (some 19) _ (by simp) bR H.x))
  ·intro Lk ak ww H _ _ hN
   obtain ⟨x0,x1,x2,x3⟩:=H.x
   exact wp_assign rfl (ev (H.d 1 rfl rfl)) (hN _ _ H.k rfl ⟨(fun h=>by simp [upd] at h),(fun h=>(put_ne' (by decide) _).trans (x1 h)),(fun h=>(put_ne' (by decide) _).trans (x2 h)),(fun h=>(put_ne' (by decide) _).trans (x3 h))⟩)
  ·intro Lk ak ww H _ _ hN
   obtain ⟨x0,x1,x2,x3⟩:=H.x
   exact wp_assign rfl (ev (H.d 3 rfl rfl)) (hN _ _ H.k rfl ⟨(fun h=>(put_ne' (by decide) _).trans (x0 h)),(fun h=>by simp [upd] at h),(fun h=>(put_ne' (by decide) _).trans (x2 h)),(fun h=>(put_ne' (by decide) _).trans (x3 h))⟩)
  ·intro Lk ak ww H _ _ hN
   obtain ⟨x0,x1,x2,x3⟩:=H.x
   exact wp_assign rfl (ev (H.d 5 rfl rfl)) (hN _ _ H.k rfl ⟨(fun h=>(put_ne' (by decide) _).trans (x0 h)),(fun h=>(put_ne' (by decide) _).trans (x1 h)),(fun h=>by simp [upd] at h),(fun h=>(put_ne' (by decide) _).trans (x3 h))⟩)
  ·intro Lk ak ww H _ _ hN
   obtain ⟨x0,x1,x2,x3⟩:=H.x
   exact wp_assign rfl (ev (H.d 7 rfl rfl)) (hN _ _ H.k rfl ⟨(fun h=>(put_ne' (by decide) _).trans (x0 h)),(fun h=>(put_ne' (by decide) _).trans (x1 h)),(fun h=>(put_ne' (by decide) _).trans (x2 h)),(fun h=>by simp [upd] at h)⟩)
  intro L a7 w8 hL hF hK hV hX
  obtain ⟨x0,x1,x2,x3⟩:=hX
  replace hz:=hF.Z hz;replace hdf:=hF.E hdf;replace s8:=hF.G s8;have s0:=gS a7 0 (hV 8 _ rfl);have s1:=gS a7 1 (hV 9 _ rfl);have s2:=gS a7 2 (hV 10 _ rfl);have s3:=gS a7 3 (hV 11 _ rfl);replace b3:=b3.k0 hK;replace hZ:=Nat.le_trans hZ hK.size;replace hB:=hK.below0 hB;clear hF hK hV hL x0 x1 x2 x3 hXb s11;refine th_n ?_;refine wp_seq ?_
  have hB0:=hP
  obtain ⟨xa,exa⟩:∃ z:Int,z = -a:=⟨_,rfl⟩
  rw [← exa] at s0
  obtain ⟨xb,exb⟩:∃ z:Int,z = -b:=⟨_,rfl⟩
  rw [← exb] at s1
  obtain ⟨xc,exc⟩:∃ z:Int,z = -c:=⟨_,rfl⟩
  rw [← exc] at s2
  obtain ⟨xd,exd⟩:∃ z:Int,z = -d:=⟨_,rfl⟩
  rw [← exd] at s3
  have hX:PcB xa xb xc xd:=by rw [exa,exb,exc,exd];exact hP.neg
  have hG4:=pcG hX
  have hx1:=hX.fa
  have hx2:=hX.fb
  have hx3:=hX.fc
  have hx4:=hX.fd
  have hg4:=hG4.g
  have hpm:pieceM a b c d=pieceN xa xb xc xd:=by unfold pieceM;rw [if_pos (dec_t q6),exa,exb,exc,exd]
  have hXb:StaysX [24] (fun L aa ww=>(L 4=true→(fun ww v=>∃ g1,v=.slice (some ⟨g1,0,none⟩) 4 4∧HasT ww g1 3 [.int .i64 xa,.int .i64 xb,.int .i64 xc,.int .i64 xd]∧w8.heap.size≤g1) ww (aa.tmps[24]?.getD undef))):=by
   intro L aa ww w' kk vv hkk hb hX
   have x0:=hX
   exact (fun h=>by rw [put_ne' (hkk 24 (by simp))];obtain ⟨g1',e,f1'⟩:=x0 h;exact ⟨g1',e,⟨f1'.1.bel hb,f1'.2⟩⟩)
  refine wp_regK hXb (by kernel_rfl) [20,21,22,23,24,25,26,9] [some (.int .i64 xa),some (.int .i64 xb),some (.int .i64 xc),some (.int .i64 xd),none,some (.int .u64 ((gcdAll [xa,xb,xc,xd]:Nat):Int)),some (.int .i64 ((gcdAll [xa,xb,xc,xd]:Nat):Int)),some (.int .i64 ((gcdAll [xa,xb,xc,xd]:Nat):Int))] (dlR 8) [20,21,22,23,24,25,26,9] [0,1,2,3,4,5,6,7] [] (by kernel_rfl) (by rw [hz];decide) ?_ (en rfl ?_ (en rfl ?_ (en rfl ?_ (en rfl ?_ (en rfl ?_ (en rfl ?_ (en rfl ?_ (en rfl ?_ .nil)))))))) ?_
  ·exact fun _ h=>(fun h=>by cases h)
  ·exact fun Lk ak ww H _ _ hN=>wp_move rfl (ev (H.f.g rfl s0)) (hN _ _ H.k rfl (hXb.q rfl H.x))
  ·exact fun Lk ak ww H _ _ hN=>wp_move rfl (ev (H.f.g rfl s1)) (hN _ _ H.k rfl (hXb.q rfl H.x))
  ·exact fun Lk ak ww H _ _ hN=>wp_move rfl (ev (H.f.g rfl s2)) (hN _ _ H.k rfl (hXb.q rfl H.x))
  ·exact fun Lk ak ww H _ _ hN=>wp_move rfl (ev (H.f.g rfl s3)) (hN _ _ H.k rfl (hXb.q rfl H.x))
  ·intro Lk ak ww H _ _ hN
   have x0:=H.x
   simp [go_sem,(gS ak 20 (H.d 0 rfl rfl)),(gS ak 21 (H.d 1 rfl rfl)),(gS ak 22 (H.d 2 rfl rfl)),(gS ak 23 (H.d 3 rfl rfl))]
   have f1:HasT (ww.alloc (.cells #[.int .i64 xa,.int .i64 xb,.int .i64 xc,.int .i64 xd] 3)) ww.heap.size 3 [.int .i64 xa,.int .i64 xb,.int .i64 xc,.int .i64 xd]∧w8.heap.size≤ww.heap.size:=⟨HasT.new _ _ _,H.k.size⟩
   exact hN _ _ (H.k.alloc _) trivial (fun _=>by rw [put_get_self (H.f.lt (by rw [hz];decide))];exact ⟨_,rfl,f1⟩)
  ·intro Lk ak ww H _ _ hN
   have x0:=H.x
   obtain ⟨g1,ee4,f1⟩:=x0 (H.r 4 rfl)
   simp [go_sem,ee4]
   refine (gcdOfAll_c (some ⟨g1,0,none⟩) [xa,xb,xc,xd] 4 ww (by simp) (by intro n hn;simp only [List.mem_cons,List.not_mem_nil,or_false] at hn;rcases hn with rfl|rfl|rfl|rfl<;>exact ⟨by omega,by omega⟩) (four_slI f1.1)).mono ?_
   rintro x wx ⟨rfl,hb⟩
   exact (hN _ _ (H.k.call hb) rfl (hXb.b rfl hb H.x))
  ·intro Lk ak ww H _ _ hN
   simp [go_sem,(gS ak 25 (H.d 5 rfl rfl))]
   exact (hN _ _ H.k (congrArg (Value.int .i64) (wrp (by omega))) (hXb.q rfl H.x))
  ·exact fun Lk ak ww H _ _ hN=>wp_assign rfl (ev (H.d 6 rfl rfl)) (hN _ _ H.k rfl (hXb.q rfl H.x))
  intro L a9 w10 hL hF hK hV hX;have x0:=hX;replace hz:=hF.Z hz;replace hdf:=hF.E hdf;replace s8:=hF.G s8;replace s0:=hF.G s0;replace s1:=hF.G s1;replace s2:=hF.G s2;replace s3:=hF.G s3;have s9:=gS a9 9 (hV 7 _ rfl);replace b3:=b3.k0 hK;replace hZ:=Nat.le_trans hZ hK.size;replace hB:=hK.below0 hB;clear hF hK hV hL x0 hXb
  obtain ⟨gg,egg⟩:∃ z:Int,z=((gcdAll [xa,xb,xc,xd]:Nat):Int):=⟨_,rfl⟩
  rw [← egg] at s9
  have hgg:1≤gg∧gg≤10000000000:=by rw [egg];exact hg4
  have ht0 : -10000000000≤xa.tdiv gg∧xa.tdiv gg≤10000000000:=by rw [egg];exact hG4.fa
  have ht1 : -10000000000≤xb.tdiv gg∧xb.tdiv gg≤10000000000:=by rw [egg];exact hG4.fb
  have ht2 : -10000000000≤xc.tdiv gg∧xc.tdiv gg≤10000000000:=by rw [egg];exact hG4.fc
  have ht3 : -10000000000≤xd.tdiv gg∧xd.tdiv gg≤10000000000:=by rw [egg];exact hG4.fd
  refine th_n ?_;refine wp_seq ?_
  have hXb:StaysX [] (fun L aa ww=>PreX ww w.heap.size 109 [.int .i64 0,.int .i64 0,.int .i64 0,.int .i64 0] (L 13) (fun _ vs=>vs=[.int .i64 (xa.tdiv gg),.int .i64 (xb.tdiv gg),.int .i64 (xc.tdiv gg),.int .i64 (xd.tdiv gg)])):=by
   intro L aa ww w' kk vv hkk hb hX
   have x0:=hX
   exact (x0.bel hb (fun _ h=>h))
  refine wp_regK hXb (by kernel_rfl) [27,28,29,30,31,32,33,34,35,36,37,38,39,0] [some (.int .i64 xa),some (.int .i64 gg),some (.int .i64 (xa.tdiv gg)),some (.int .i64 xb),some (.int .i64 gg),some (.int .i64 (xb.tdiv gg)),some (.int .i64 xc),some (.int .i64 gg),some (.int .i64 (xc.tdiv gg)),some (.int .i64 xd),some (.int .i64 gg),some (.int .i64 (xd.tdiv gg)),some (.agg #[.int .i64 (xa.tdiv gg),.int .i64 (xb.tdiv gg),.int .i64 (xc.tdiv gg),.int .i64 (xd.tdiv gg)]),none] ([[],[],[0,1],[],[],[3,4],[],[],[6,7],[],[],[9,10],[0,1,2,3,4,5,6,7,8,9,10,11],[0,1,2,3,4,5,6,7,8,9,10,11,12]]) [27,28,29,30,31,32,33,34,35,36,37,38,39] [0,1,2,3,4,5,6,7,8,9,10,11,12,13] [w.heap.size] (by kernel_rfl) (by rw [hz];decide) ?_ (en rfl ?_ (en rfl ?_ (en rfl ?_ (en rfl ?_ (en rfl ?_ (en rfl ?_ (en rfl ?_ (en rfl ?_ (en rfl ?_ (en rfl ?_ (en rfl ?_ (en rfl ?_ (en rfl ?_ (en rfl ?_ .nil)))))))))))))) ?_
  ·exact fun _ h=>(⟨fun _=>b3.kp h (by simp),(fun h=>by cases h)⟩)
  ·exact fun Lk ak ww H _ _ hN=>wp_move rfl (ev (H.f.g rfl s0)) (hN _ _ H.k rfl H.x)
  ·exact fun Lk ak ww H _ _ hN=>wp_move rfl (ev (H.f.g rfl s9)) (hN _ _ H.k rfl H.x)
  ·exact fun Lk ak ww H _ _ hN=>wp_quo rfl (ev (H.d 0 rfl rfl)) (ev (H.d 1 rfl rfl)) (by omega) (by omega) (hN _ _ H.k rfl H.x)
  ·exact fun Lk ak ww H _ _ hN=>wp_move rfl (ev (H.f.g rfl s1)) (hN _ _ H.k rfl H.x)
  ·exact fun Lk ak ww H _ _ hN=>wp_move rfl (ev (H.f.g rfl s9)) (hN _ _ H.k rfl H.x)
  ·exact fun Lk ak ww H _ _ hN=>wp_quo rfl (ev (H.d 3 rfl rfl)) (ev (H.d 4 rfl rfl)) (by omega) (by omega) (hN _ _ H.k rfl H.x)
  ·exact fun Lk ak ww H _ _ hN=>wp_move rfl (ev (H.f.g rfl s2)) (hN _ _ H.k rfl H.x)
  ·exact fun Lk ak ww H _ _ hN=>wp_move rfl (ev (H.f.g rfl s9)) (hN _ _ H.k rfl H.x)
  ·exact fun Lk ak ww H _ _ hN=>wp_quo rfl (ev (H.d 6 rfl rfl)) (ev (H.d 7 rfl rfl)) (by omega) (by omega) (hN _ _ H.k rfl H.x)
  ·exact fun Lk ak ww H _ _ hN=>wp_move rfl (ev (H.f.g rfl s3)) (hN _ _ H.k rfl H.x)
  ·exact fun Lk ak ww H _ _ hN=>wp_move rfl (ev (H.f.g rfl s9)) (hN _ _ H.k rfl H.x)
  ·exact fun Lk ak ww H _ _ hN=>wp_quo rfl (ev (H.d 9 rfl rfl)) (ev (H.d 10 rfl rfl)) (by omega) (by omega) (hN _ _ H.k rfl H.x)
  ·intro Lk ak ww H _ _ hN
   simp [go_sem,(gS ak 29 (H.d 2 rfl rfl)),(gS ak 32 (H.d 5 rfl rfl)),(gS ak 35 (H.d 8 rfl rfl)),(gS ak 38 (H.d 11 rfl rfl))]
   exact (hN _ _ H.k rfl H.x)
  ·intro Lk ak ww H _ _ hN
   have x0:=H.x
   have HT:=x0.1 H.n
   simp [go_sem,(gS ak 39 (H.d 12 rfl rfl)),H.f.g rfl s8,HT.cell,HT.frz]
   exact hN undef _ (H.k.store (.inr (by simp)) [.int .i64 (xa.tdiv gg),.int .i64 (xb.tdiv gg),.int .i64 (xc.tdiv gg),.int .i64 (xd.tdiv gg)] 0) trivial (PreX.set HT (us:=[.int .i64 (xa.tdiv gg),.int .i64 (xb.tdiv gg),.int .i64 (xc.tdiv gg),.int .i64 (xd.tdiv gg)]) rfl rfl)
  intro L a11 w12 hL hF hK hV hX;have x0:=hX;replace hz:=hF.Z hz;replace hdf:=hF.E hdf;replace s8:=hF.G s8;clear b3
  obtain ⟨_,b3,rfl⟩:=x0.2 (hL 13 (by decide))
  replace hZ:=Nat.le_trans hZ hK.size
  replace hB:=hK.below hB hB.size (by simp<;>omega)
  clear hF hK hV hL x0 hXb s0 s1 s2 s3 s9;refine th_n ?_
  refine wp_ret ?_
  refine bodyPost_ret (v:=.agg #[.int .i64 (xa.tdiv gg),.int .i64 (xb.tdiv gg),.int .i64 (xc.tdiv gg),.int .i64 (xd.tdiv gg)]) (by simp [results,Tryz.results69,go_sem,s8,b3.cell]) hdf ?_
  exact ⟨by rw [hpm];unfold pieceN;rw [← egg],hB⟩
 ·skip
  refine wp_cond_false (ev (vb s11 q6)) ?_
  refine wp_skip ?_;refine th_n ?_;refine wp_seq ?_
  have hB0:=hP
  obtain ⟨xa,exa⟩:∃ z:Int,z=a:=⟨_,rfl⟩
  rw [← exa] at s0
  obtain ⟨xb,exb⟩:∃ z:Int,z=b:=⟨_,rfl⟩
  rw [← exb] at s1
  obtain ⟨xc,exc⟩:∃ z:Int,z=c:=⟨_,rfl⟩
  rw [← exc] at s2
  obtain ⟨xd,exd⟩:∃ z:Int,z=d:=⟨_,rfl⟩
  rw [← exd] at s3
  have hX:PcB xa xb xc xd:=by rw [exa,exb,exc,exd];exact hP
  have hG4:=pcG hX
  have hx1:=hX.fa
  have hx2:=hX.fb
  have hx3:=hX.fc
  have hx4:=hX.fd
  have hg4:=hG4.g
  have hpm:pieceM a b c d=pieceN xa xb xc xd:=by unfold pieceM;rw [if_neg (dec_f q6),exa,exb,exc,exd]
  have hXb:StaysX [24] (fun L aa ww=>(L 4=true→(fun ww v=>∃ g2,v=.slice (some ⟨g2,0,none⟩) 4 4∧HasT ww g2 3 [.int .i64 xa,.int .i64 xb,.int .i64 xc,.int .i64 xd]∧w5.heap.size≤g2) ww (aa.tmps[24]?.getD undef))):=by
   intro L aa ww w' kk vv hkk hb hX
   have x0:=hX
   exact (fun h=>by rw [put_ne' (hkk 24 (by simp))];obtain ⟨g2',e,f2'⟩:=x0 h;exact ⟨g2',e,⟨f2'.1.bel hb,f2'.2⟩⟩)
  refine wp_regK hXb (by kernel_rfl) [20,21,22,23,24,25,26,9] [some (.int .i64 xa),some (.int .i64 xb),some (.int .i64 xc),some (.int .i64 xd),none,some (.int .u64 ((gcdAll [xa,xb,xc,xd]:Nat):Int)),some (.int .i64 ((gcdAll [xa,xb,xc,xd]:Nat):Int)),some (.int .i64 ((gcdAll [xa,xb,xc,xd]:Nat):Int))] (dlR 8) [20,21,22,23,24,25,26,9] [0,1,2,3,4,5,6,7] [] (by kernel_rfl) (by rw [hz];decide) ?_ (en rfl ?_ (en rfl ?_ (en rfl ?_ (en rfl ?_ (en rfl ?_ (en rfl ?_ (en rfl ?_ (en rfl ?_ .nil)))))))) ?_
  ·exact fun _ h=>(fun h=>by cases h)
  ·exact fun Lk ak ww H _ _ hN=>wp_move rfl (ev (H.f.g rfl s0)) (hN _ _ H.k rfl (hXb.q rfl H.x))
  ·exact fun Lk ak ww H _ _ hN=>wp_move rfl (ev (H.f.g rfl s1)) (hN _ _ H.k rfl (hXb.q rfl H.x))
  ·exact fun Lk ak ww H _ _ hN=>wp_move rfl (ev (H.f.g rfl s2)) (hN _ _ H.k rfl (hXb.q rfl H.x))
  ·exact fun Lk ak ww H _ _ hN=>wp_move rfl (ev (H.f.g rfl s3)) (hN _ _ H.k rfl (hXb.q rfl H.x))
  ·intro Lk ak ww H _ _ hN
   have x0:=H.x
   simp [go_sem,(gS ak 20 (H.d 0 rfl rfl)),(gS ak 21 (H.d 1 rfl rfl)),(gS ak 22 (H.d 2 rfl rfl)),(gS ak 23 (H.d 3 rfl rfl))]
   have f2:HasT (ww.alloc (.cells #[.int .i64 xa,.int .i64 xb,.int .i64 xc,.int .i64 xd] 3)) ww.heap.size 3 [.int .i64 xa,.int .i64 xb,.int .i64 xc,.int .i64 xd]∧w5.heap.size≤ww.heap.size:=⟨HasT.new _ _ _,H.k.size⟩
   exact hN _ _ (H.k.alloc _) trivial (fun _=>by rw [put_get_self (H.f.lt (by rw [hz];decide))];exact ⟨_,rfl,f2⟩)
  ·intro Lk ak ww H _ _ hN
   have x0:=H.x
   obtain ⟨g2,ee4,f2⟩:=x0 (H.r 4 rfl)
   simp [go_sem,ee4]
   refine (gcdOfAll_c (some ⟨g2,0,none⟩) [xa,xb,xc,xd] 4 ww (by simp) (by intro n hn;simp only [List.mem_cons,List.not_mem_nil,or_false] at hn;rcases hn with rfl|rfl|rfl|rfl<;>exact ⟨by omega,by omega⟩) (four_slI f2.1)).mono ?_
   rintro x wx ⟨rfl,hb⟩
   exact (hN _ _ (H.k.call hb) rfl (hXb.b rfl hb H.x))
  ·intro Lk ak ww H _ _ hN
   simp [go_sem,(gS ak 25 (H.d 5 rfl rfl))]
   exact (hN _ _ H.k (congrArg (Value.int .i64) (wrp (by omega))) (hXb.q rfl H.x))
  ·exact fun Lk ak ww H _ _ hN=>wp_assign rfl (ev (H.d 6 rfl rfl)) (hN _ _ H.k rfl (hXb.q rfl H.x))
  intro L a13 w14 hL hF hK hV hX;have x0:=hX;replace hz:=hF.Z hz;replace hdf:=hF.E hdf;replace s0:=hF.G s0;replace s1:=hF.G s1;replace s2:=hF.G s2;replace s3:=hF.G s3;replace s8:=hF.G s8;have s9:=gS a13 9 (hV 7 _ rfl);replace b3:=b3.k0 hK;replace hZ:=Nat.le_trans hZ hK.size;replace hB:=hK.below0 hB;clear hF hK hV hL x0 hXb s11
  obtain ⟨gg,egg⟩:∃ z:Int,z=((gcdAll [xa,xb,xc,xd]:Nat):Int):=⟨_,rfl⟩
  rw [← egg] at s9
  have hgg:1≤gg∧gg≤10000000000:=by rw [egg];exact hg4
  have ht0 : -10000000000≤xa.tdiv gg∧xa.tdiv gg≤10000000000:=by rw [egg];exact hG4.fa
  have ht1 : -10000000000≤xb.tdiv gg∧xb.tdiv gg≤10000000000:=by rw [egg];exact hG4.fb
  have ht2 : -10000000000≤xc.tdiv gg∧xc.tdiv gg≤10000000000:=by rw [egg];exact hG4.fc
  have ht3 : -10000000000≤xd.tdiv gg∧xd.tdiv gg≤10000000000:=by rw [egg];exact hG4.fd
  refine th_n ?_;refine wp_seq ?_
  have hXb:StaysX [] (fun L aa ww=>PreX ww w.heap.size 109 [.int .i64 0,.int .i64 0,.int .i64 0,.int .i64 0] (L 13) (fun _ vs=>vs=[.int .i64 (xa.tdiv gg),.int .i64 (xb.tdiv gg),.int .i64 (xc.tdiv gg),.int .i64 (xd.tdiv gg)])):=by
   intro L aa ww w' kk vv hkk hb hX
   have x0:=hX
   exact (x0.bel hb (fun _ h=>h))
  refine wp_regK hXb (by kernel_rfl) [27,28,29,30,31,32,33,34,35,36,37,38,39,0] [some (.int .i64 xa),some (.int .i64 gg),some (.int .i64 (xa.tdiv gg)),some (.int .i64 xb),some (.int .i64 gg),some (.int .i64 (xb.tdiv gg)),some (.int .i64 xc),some (.int .i64 gg),some (.int .i64 (xc.tdiv gg)),some (.int .i64 xd),some (.int .i64 gg),some (.int .i64 (xd.tdiv gg)),some (.agg #[.int .i64 (xa.tdiv gg),.int .i64 (xb.tdiv gg),.int .i64 (xc.tdiv gg),.int .i64 (xd.tdiv gg)]),none] ([[],[],[0,1],[],[],[3,4],[],[],[6,7],[],[],[9,10],[0,1,2,3,4,5,6,7,8,9,10,11],[0,1,2,3,4,5,6,7,8,9,10,11,12]]) [27,28,29,30,31,32,33,34,35,36,37,38,39] [0,1,2,3,4,5,6,7,8,9,10,11,12,13] [w.heap.size] (by kernel_rfl) (by rw [hz];decide) ?_ (en rfl ?_ (en rfl ?_ (en rfl ?_ (en rfl ?_ (en rfl ?_ (en rfl ?_ (en rfl ?_ (en rfl ?_ (en rfl ?_ (en rfl ?_ (en rfl ?_ (en rfl ?_ (en rfl ?_ (en rfl ?_ .nil)))))))))))))) ?_
  ·exact fun _ h=>(⟨fun _=>b3.kp h (by simp),(fun h=>by cases h)⟩)
  ·exact fun Lk ak ww H _ _ hN=>wp_move rfl (ev (H.f.g rfl s0)) (hN _ _ H.k rfl H.x)
  ·exact fun Lk ak ww H _ _ hN=>wp_move rfl (ev (H.f.g rfl s9)) (hN _ _ H.k rfl H.x)
  ·exact fun Lk ak ww H _ _ hN=>wp_quo rfl (ev (H.d 0 rfl rfl)) (ev (H.d 1 rfl rfl)) (by omega) (by omega) (hN _ _ H.k rfl H.x)
  ·exact fun Lk ak ww H _ _ hN=>wp_move rfl (ev (H.f.g rfl s1)) (hN _ _ H.k rfl H.x)
  ·exact fun Lk ak ww H _ _ hN=>wp_move rfl (ev (H.f.g rfl s9)) (hN _ _ H.k rfl H.x)
  ·exact fun Lk ak ww H _ _ hN=>wp_quo rfl (ev (H.d 3 rfl rfl)) (ev (H.d 4 rfl rfl)) (by omega) (by omega) (hN _ _ H.k rfl H.x)
  ·exact fun Lk ak ww H _ _ hN=>wp_move rfl (ev (H.f.g rfl s2)) (hN _ _ H.k rfl H.x)
  ·exact fun Lk ak ww H _ _ hN=>wp_move rfl (ev (H.f.g rfl s9)) (hN _ _ H.k rfl H.x)
  ·exact fun Lk ak ww H _ _ hN=>wp_quo rfl (ev (H.d 6 rfl rfl)) (ev (H.d 7 rfl rfl)) (by omega) (by omega) (hN _ _ H.k rfl H.x)
  ·exact fun Lk ak ww H _ _ hN=>wp_move rfl (ev (H.f.g rfl s3)) (hN _ _ H.k rfl H.x)
  ·exact fun Lk ak ww H _ _ hN=>wp_move rfl (ev (H.f.g rfl s9)) (hN _ _ H.k rfl H.x)
  ·exact fun Lk ak ww H _ _ hN=>wp_quo rfl (ev (H.d 9 rfl rfl)) (ev (H.d 10 rfl rfl)) (by omega) (by omega) (hN _ _ H.k rfl H.x)
  ·intro Lk ak ww H _ _ hN
   simp [go_sem,(gS ak 29 (H.d 2 rfl rfl)),(gS ak 32 (H.d 5 rfl rfl)),(gS ak 35 (H.d 8 rfl rfl)),(gS ak 38 (H.d 11 rfl rfl))]
   exact (hN _ _ H.k rfl H.x)
  ·intro Lk ak ww H _ _ hN
   have x0:=H.x
   have HT:=x0.1 H.n
   simp [go_sem,(gS ak 39 (H.d 12 rfl rfl)),H.f.g rfl s8,HT.cell,HT.frz]
   exact hN undef _ (H.k.store (.inr (by simp)) [.int .i64 (xa.tdiv gg),.int .i64 (xb.tdiv gg),.int .i64 (xc.tdiv gg),.int .i64 (xd.tdiv gg)] 0) trivial (PreX.set HT (us:=[.int .i64 (xa.tdiv gg),.int .i64 (xb.tdiv gg),.int .i64 (xc.tdiv gg),.int .i64 (xd.tdiv gg)]) rfl rfl)
  intro L a15 w16 hL hF hK hV hX;have x0:=hX;replace hz:=hF.Z hz;replace hdf:=hF.E hdf;replace s8:=hF.G s8;clear b3
  obtain ⟨_,b3,rfl⟩:=x0.2 (hL 13 (by decide))
  replace hZ:=Nat.le_trans hZ hK.size
  replace hB:=hK.below hB hB.size (by simp<;>omega)
  clear hF hK hV hL x0 hXb s0 s1 s2 s3 s9;refine th_n ?_
  refine wp_ret ?_
  refine bodyPost_ret (v:=.agg #[.int .i64 (xa.tdiv gg),.int .i64 (xb.tdiv gg),.int .i64 (xc.tdiv gg),.int .i64 (xd.tdiv gg)]) (by simp [results,Tryz.results69,go_sem,s8,b3.cell]) hdf ?_
  exact ⟨by rw [hpm];unfold pieceN;rw [← egg],hB⟩
set_option maxRecDepth 100000 in
set_option maxHeartbeats 3000000 in
theorem sPiece_c (r:Room) (h:Half) (n:Int) (ra:RoomA) (w:World) (hM:MapIn r.map r.div) (hh:halfOk h=true) (hP:PcB (-(h.a*r.map.getD 0 0+h.b*r.map.getD 2 0)) (-(h.a*r.map.getD 1 0+h.b*r.map.getD 3 0)) (h.c*r.div) (r.div*n)) (hs:RoomSl w r ra) :
 Calls Tryz.prog 63 #[roomV r ra,halfV h,.int .i64 n] w fun x w'=>x=.returned (pieceV (pieceM (-(h.a*r.map.getD 0 0+h.b*r.map.getD 2 0)) (-(h.a*r.map.getD 1 0+h.b*r.map.getD 3 0)) (h.c*r.div) (r.div*n)))∧Below w.heap.size w w':=by
 have hml:=hM.len
 obtain ⟨bm,om,em,fm⟩:=ElS.open_ hs.map (by rw [hml];omega)
 have hbm:=fm.1
 obtain ⟨⟨k1,k2⟩,⟨k3,k4⟩,⟨k5,k6⟩,⟨k7,k8⟩,⟨k9,k10⟩⟩:=pulB hM hh
 have hMd:=hM.d
 have hPd:=hP.fd
 refine calls_v Tryz.func63 rfl (n:=83) Tryz.ntmps63 (by simp) ?_
 intro a0 hz hdf ha
 have s0:a0.tmps[0]?.getD undef=roomV r ra:=ha 0 _ rfl;have s1:a0.tmps[1]?.getD undef=halfV h:=ha 1 _ rfl;have s2:a0.tmps[2]?.getD undef=.int .i64 n:=ha 2 _ rfl;clear ha
 have hB:=Below.refl w.heap.size w
 have hZ:=Nat.le_refl w.heap.size
 refine wp_seq ?_
 refine wp_entry [3,4,6] [.pointer (some ⟨w.heap.size,0,none⟩),.pointer (some ⟨(w.heap.size+1),0,none⟩),.pointer (some ⟨(w.heap.size+2),0,none⟩)] [some (.cells (roomC r ra).toArray 39),some (.cells [.int .i64 h.a,.int .i64 h.b,.int .i64 h.c].toArray 111),some (.cells [.int .i64 0,.int .i64 0,.int .i64 0,.int .i64 0].toArray 109)] [0,1,2] [3,4,6] [0,1,2] (by kernel_rfl) (by rw [hz];decide) (ec ?_ (ec ?_ (ec ?_ .nil))) ?_
 ·intro a w' hF hs N Q hN;simp [go_sem,hF.g rfl s0];rw [hs];exact hN
 ·intro a w' hF hs N Q hN;simp [go_sem,hF.g rfl s1];rw [hs];exact hN
 ·intro a w' hF hs N Q hN;simp [go_sem];rw [hs];exact hN
 intro a1 w2 hF hV hb hO
 replace hz:=hF.size.trans hz;replace hdf:=hF.defers.trans hdf;replace s2:=hF.g rfl s2
 have s3:a1.tmps[3]?.getD undef=.pointer (some ⟨w.heap.size,0,none⟩):=hV 0 (by decide)
 have s4:a1.tmps[4]?.getD undef=.pointer (some ⟨(w.heap.size+1),0,none⟩):=hV 1 (by decide)
 have s6:a1.tmps[6]?.getD undef=.pointer (some ⟨(w.heap.size+2),0,none⟩):=hV 2 (by decide)
 have b3:HasT w2 w.heap.size 39 (roomC r ra):=hO 0 _ rfl
 have b4:HasT w2 (w.heap.size+1) 111 [.int .i64 h.a,.int .i64 h.b,.int .i64 h.c]:=hO 1 _ rfl
 have b5:HasT w2 (w.heap.size+2) 109 [.int .i64 0,.int .i64 0,.int .i64 0,.int .i64 0]:=hO 2 _ rfl
 replace fm:=fm.bel hb
 have hG:=b5.lt
 replace hB:=below_tr hB hb;have zw2:=Nat.le_trans hZ hb.size;replace hZ:=Nat.le_refl w2.heap.size;clear hF hV hb hO s0 s1;refine th_n ?_;refine wp_seq ?_
 refine wp_regJ (by kernel_rfl) [12,13,14,15,16,17,18,19,20,21,22,23,24,25,26,27,7] [some (.pointer (some ⟨(w.heap.size+1),0,none⟩)),some (.int .i64 h.a),some (.pointer (some ⟨w.heap.size,0,none⟩)),some (.slice ra.map.A r.map.length ra.map.c),some (.pointer (some ⟨bm,om,none⟩)),some (.int .i64 (r.map.getD 0 0)),some (.int .i64 (h.a*(r.map.getD 0 0))),some (.pointer (some ⟨(w.heap.size+1),1,none⟩)),some (.int .i64 h.b),some (.pointer (some ⟨w.heap.size,0,none⟩)),some (.slice ra.map.A r.map.length ra.map.c),some (.pointer (some ⟨bm,om+2,none⟩)),some (.int .i64 (r.map.getD 2 0)),some (.int .i64 (h.b*(r.map.getD 2 0))),some (.int .i64 ((h.a*(r.map.getD 0 0))+(h.b*(r.map.getD 2 0)))),some (.int .i64 (-((h.a*(r.map.getD 0 0))+(h.b*(r.map.getD 2 0))))),some (.int .i64 (-((h.a*(r.map.getD 0 0))+(h.b*(r.map.getD 2 0)))))] ([[],[0],[],[2],[2,3],[2,3,4],[0,1,2,3,4,5],[],[7],[],[9],[9,10],[9,10,11],[7,8,9,10,11,12],[0,1,2,3,4,5,6,7,8,9,10,11,12,13],[0,1,2,3,4,5,6,7,8,9,10,11,12,13,14],[0,1,2,3,4,5,6,7,8,9,10,11,12,13,14,15]]) [12,13,14,15,16,17,18,19,20,21,22,23,24,25,26,27,7] [0,1,2,3,4,5,6,7,8,9,10,11,12,13,14,15,16] [] (fun _ _ _=>True) (by kernel_rfl) (by rw [hz];decide) ?_ (en rfl ?_ (en rfl ?_ (en rfl ?_ (en rfl ?_ (en rfl ?_ (en rfl ?_ (en rfl ?_ (en rfl ?_ (en rfl ?_ (en rfl ?_ (en rfl ?_ (en rfl ?_ (en rfl ?_ (en rfl ?_ (en rfl ?_ (en rfl ?_ (en rfl ?_ .nil))))))))))))))))) ?_
 ·exact fun _ _=>trivial
 ·intro Lk ak ww H _ _ hN
  simp [go_sem,H.f.g rfl s4]
  exact (hN _ _ H.k rfl trivial)
 ·intro Lk ak ww H _ _ hN
  simp [go_sem,(gS ak 12 (H.d 0 rfl rfl)),(b4.k0 H.k).cell]
  exact (hN _ _ H.k rfl trivial)
 ·intro Lk ak ww H _ _ hN
  simp [go_sem,H.f.g rfl s3]
  exact (hN _ _ H.k rfl trivial)
 ·intro Lk ak ww H _ _ hN
  simp [go_sem,(gS ak 14 (H.d 2 rfl rfl)),(b3.k0 H.k).cell]
  exact (hN _ _ H.k rfl trivial)
 ·intro Lk ak ww H _ _ hN
  simp [go_sem,(gS ak 15 (H.d 3 rfl rfl)),hml,em]
  exact (hN _ _ H.k rfl trivial)
 ·intro Lk ak ww H _ _ hN
  have hE:=fm.kp H.k (by simp)
  simp [go_sem,(gS ak 16 (H.d 4 rfl rfl)),(hE.at_ 0 (i:=0) (by omega) 0 (p:=om) (by omega) rfl)]
  exact (hN _ _ H.k rfl trivial)
 ·exact fun Lk ak ww H _ _ hN=>wp_mul rfl (ev (H.d 1 rfl rfl)) (ev (H.d 5 rfl rfl)) (by omega) (hN _ _ H.k rfl trivial)
 ·intro Lk ak ww H _ _ hN
  simp [go_sem,H.f.g rfl s4]
  exact (hN _ _ H.k rfl trivial)
 ·intro Lk ak ww H _ _ hN
  simp [go_sem,(gS ak 19 (H.d 7 rfl rfl)),(b4.k0 H.k).cell]
  exact (hN _ _ H.k rfl trivial)
 ·intro Lk ak ww H _ _ hN
  simp [go_sem,H.f.g rfl s3]
  exact (hN _ _ H.k rfl trivial)
 ·intro Lk ak ww H _ _ hN
  simp [go_sem,(gS ak 21 (H.d 9 rfl rfl)),(b3.k0 H.k).cell]
  exact (hN _ _ H.k rfl trivial)
 ·intro Lk ak ww H _ _ hN
  simp [go_sem,(gS ak 22 (H.d 10 rfl rfl)),hml,em]
  exact (hN _ _ H.k rfl trivial)
 ·intro Lk ak ww H _ _ hN
  have hE:=fm.kp H.k (by simp)
  simp [go_sem,(gS ak 23 (H.d 11 rfl rfl)),(hE.at_ 0 (i:=2) (by omega) 0 (p:=om+2) (by omega) rfl)]
  exact (hN _ _ H.k rfl trivial)
 ·exact fun Lk ak ww H _ _ hN=>wp_mul rfl (ev (H.d 8 rfl rfl)) (ev (H.d 12 rfl rfl)) (by omega) (hN _ _ H.k rfl trivial)
 ·exact fun Lk ak ww H _ _ hN=>wp_add rfl (ev (H.d 6 rfl rfl)) (ev (H.d 13 rfl rfl)) (by omega) (hN _ _ H.k rfl trivial)
 ·exact fun Lk ak ww H _ _ hN=>wp_neg rfl (ev (H.d 14 rfl rfl)) (by omega) (hN _ _ H.k rfl trivial)
 ·exact fun Lk ak ww H _ _ hN=>wp_assign rfl (ev (H.d 15 rfl rfl)) (hN _ _ H.k rfl trivial)
 intro L a6 w7 hL hF hK hV hX;replace hz:=hF.Z hz;replace hdf:=hF.E hdf;replace s2:=hF.G s2;replace s3:=hF.G s3;replace s4:=hF.G s4;replace s6:=hF.G s6;have s7:=gS a6 7 (hV 16 _ rfl);replace b3:=b3.k0 hK;replace b4:=b4.k0 hK;replace b5:=b5.k0 hK
 replace fm:=fm.kp hK (by simp)
 replace hZ:=Nat.le_trans hZ hK.size;replace hB:=hK.below0 hB;clear hF hK hV hL hX;refine th_n ?_;refine wp_seq ?_
 refine wp_regJ (by kernel_rfl) [28,29,30,31,32,33,34,35,36,37,38,39,40,41,42,43,8] [some (.pointer (some ⟨(w.heap.size+1),0,none⟩)),some (.int .i64 h.a),some (.pointer (some ⟨w.heap.size,0,none⟩)),some (.slice ra.map.A r.map.length ra.map.c),some (.pointer (some ⟨bm,om+1,none⟩)),some (.int .i64 (r.map.getD 1 0)),some (.int .i64 (h.a*(r.map.getD 1 0))),some (.pointer (some ⟨(w.heap.size+1),1,none⟩)),some (.int .i64 h.b),some (.pointer (some ⟨w.heap.size,0,none⟩)),some (.slice ra.map.A r.map.length ra.map.c),some (.pointer (some ⟨bm,om+3,none⟩)),some (.int .i64 (r.map.getD 3 0)),some (.int .i64 (h.b*(r.map.getD 3 0))),some (.int .i64 ((h.a*(r.map.getD 1 0))+(h.b*(r.map.getD 3 0)))),some (.int .i64 (-((h.a*(r.map.getD 1 0))+(h.b*(r.map.getD 3 0))))),some (.int .i64 (-((h.a*(r.map.getD 1 0))+(h.b*(r.map.getD 3 0)))))] ([[],[0],[],[2],[2,3],[2,3,4],[0,1,2,3,4,5],[],[7],[],[9],[9,10],[9,10,11],[7,8,9,10,11,12],[0,1,2,3,4,5,6,7,8,9,10,11,12,13],[0,1,2,3,4,5,6,7,8,9,10,11,12,13,14],[0,1,2,3,4,5,6,7,8,9,10,11,12,13,14,15]]) [28,29,30,31,32,33,34,35,36,37,38,39,40,41,42,43,8] [0,1,2,3,4,5,6,7,8,9,10,11,12,13,14,15,16] [] (fun _ _ _=>True) (by kernel_rfl) (by rw [hz];decide) ?_ (en rfl ?_ (en rfl ?_ (en rfl ?_ (en rfl ?_ (en rfl ?_ (en rfl ?_ (en rfl ?_ (en rfl ?_ (en rfl ?_ (en rfl ?_ (en rfl ?_ (en rfl ?_ (en rfl ?_ (en rfl ?_ (en rfl ?_ (en rfl ?_ (en rfl ?_ .nil))))))))))))))))) ?_
 ·exact fun _ _=>trivial
 ·intro Lk ak ww H _ _ hN
  simp [go_sem,H.f.g rfl s4]
  exact (hN _ _ H.k rfl trivial)
 ·intro Lk ak ww H _ _ hN
  simp [go_sem,(gS ak 28 (H.d 0 rfl rfl)),(b4.k0 H.k).cell]
  exact (hN _ _ H.k rfl trivial)
 ·intro Lk ak ww H _ _ hN
  simp [go_sem,H.f.g rfl s3]
  exact (hN _ _ H.k rfl trivial)
 ·intro Lk ak ww H _ _ hN
  simp [go_sem,(gS ak 30 (H.d 2 rfl rfl)),(b3.k0 H.k).cell]
  exact (hN _ _ H.k rfl trivial)
 ·intro Lk ak ww H _ _ hN
  simp [go_sem,(gS ak 31 (H.d 3 rfl rfl)),hml,em]
  exact (hN _ _ H.k rfl trivial)
 ·intro Lk ak ww H _ _ hN
  have hE:=fm.kp H.k (by simp)
  simp [go_sem,(gS ak 32 (H.d 4 rfl rfl)),(hE.at_ 0 (i:=1) (by omega) 0 (p:=om+1) (by omega) rfl)]
  exact (hN _ _ H.k rfl trivial)
 ·exact fun Lk ak ww H _ _ hN=>wp_mul rfl (ev (H.d 1 rfl rfl)) (ev (H.d 5 rfl rfl)) (by omega) (hN _ _ H.k rfl trivial)
 ·intro Lk ak ww H _ _ hN
  simp [go_sem,H.f.g rfl s4]
  exact (hN _ _ H.k rfl trivial)
 ·intro Lk ak ww H _ _ hN
  simp [go_sem,(gS ak 35 (H.d 7 rfl rfl)),(b4.k0 H.k).cell]
  exact (hN _ _ H.k rfl trivial)
 ·intro Lk ak ww H _ _ hN
  simp [go_sem,H.f.g rfl s3]
  exact (hN _ _ H.k rfl trivial)
 ·intro Lk ak ww H _ _ hN
  simp [go_sem,(gS ak 37 (H.d 9 rfl rfl)),(b3.k0 H.k).cell]
  exact (hN _ _ H.k rfl trivial)
 ·intro Lk ak ww H _ _ hN
  simp [go_sem,(gS ak 38 (H.d 10 rfl rfl)),hml,em]
  exact (hN _ _ H.k rfl trivial)
 ·intro Lk ak ww H _ _ hN
  have hE:=fm.kp H.k (by simp)
  simp [go_sem,(gS ak 39 (H.d 11 rfl rfl)),(hE.at_ 0 (i:=3) (by omega) 0 (p:=om+3) (by omega) rfl)]
  exact (hN _ _ H.k rfl trivial)
 ·exact fun Lk ak ww H _ _ hN=>wp_mul rfl (ev (H.d 8 rfl rfl)) (ev (H.d 12 rfl rfl)) (by omega) (hN _ _ H.k rfl trivial)
 ·exact fun Lk ak ww H _ _ hN=>wp_add rfl (ev (H.d 6 rfl rfl)) (ev (H.d 13 rfl rfl)) (by omega) (hN _ _ H.k rfl trivial)
 ·exact fun Lk ak ww H _ _ hN=>wp_neg rfl (ev (H.d 14 rfl rfl)) (by omega) (hN _ _ H.k rfl trivial)
 ·exact fun Lk ak ww H _ _ hN=>wp_assign rfl (ev (H.d 15 rfl rfl)) (hN _ _ H.k rfl trivial)
 intro L a8 w9 hL hF hK hV hX;replace hz:=hF.Z hz;replace hdf:=hF.E hdf;replace s2:=hF.G s2;replace s3:=hF.G s3;replace s4:=hF.G s4;replace s6:=hF.G s6;replace s7:=hF.G s7;have s8:=gS a8 8 (hV 16 _ rfl);replace b3:=b3.k0 hK;replace b4:=b4.k0 hK;replace b5:=b5.k0 hK
 replace fm:=fm.kp hK (by simp)
 replace hZ:=Nat.le_trans hZ hK.size;replace hB:=hK.below0 hB;clear hF hK hV hL hX;refine th_n ?_;refine wp_seq ?_
 refine wp_regJ (by kernel_rfl) [44,45,46,47,48,9] [some (.pointer (some ⟨(w.heap.size+1),2,none⟩)),some (.int .i64 h.c),some (.pointer (some ⟨w.heap.size,1,none⟩)),some (.int .i64 r.div),some (.int .i64 (h.c*r.div)),some (.int .i64 (h.c*r.div))] (dlR 6) [44,45,46,47,48,9] [0,1,2,3,4,5] [] (fun _ _ _=>True) (by kernel_rfl) (by rw [hz];decide) ?_ (en rfl ?_ (en rfl ?_ (en rfl ?_ (en rfl ?_ (en rfl ?_ (en rfl ?_ .nil)))))) ?_
 ·exact fun _ _=>trivial
 ·intro Lk ak ww H _ _ hN
  simp [go_sem,H.f.g rfl s4]
  exact (hN _ _ H.k rfl trivial)
 ·intro Lk ak ww H _ _ hN
  simp [go_sem,(gS ak 44 (H.d 0 rfl rfl)),(b4.k0 H.k).cell]
  exact (hN _ _ H.k rfl trivial)
 ·intro Lk ak ww H _ _ hN
  simp [go_sem,H.f.g rfl s3]
  exact (hN _ _ H.k rfl trivial)
 ·intro Lk ak ww H _ _ hN
  simp [go_sem,(gS ak 46 (H.d 2 rfl rfl)),(b3.k0 H.k).cell]
  exact (hN _ _ H.k rfl trivial)
 ·exact fun Lk ak ww H _ _ hN=>wp_mul rfl (ev (H.d 1 rfl rfl)) (ev (H.d 3 rfl rfl)) (by omega) (hN _ _ H.k rfl trivial)
 ·exact fun Lk ak ww H _ _ hN=>wp_assign rfl (ev (H.d 4 rfl rfl)) (hN _ _ H.k rfl trivial)
 intro L a10 w11 hL hF hK hV hX;replace hz:=hF.Z hz;replace hdf:=hF.E hdf;replace s2:=hF.G s2;replace s3:=hF.G s3;replace s6:=hF.G s6;replace s7:=hF.G s7;replace s8:=hF.G s8;have s9:=gS a10 9 (hV 5 _ rfl);replace b3:=b3.k0 hK;replace b5:=b5.k0 hK
 replace fm:=fm.kp hK (by simp)
 replace hZ:=Nat.le_trans hZ hK.size;replace hB:=hK.below0 hB;clear hF hK hV hL hX s4 b4;refine th_n ?_;refine wp_seq ?_
 refine wp_regJ (by kernel_rfl) [49,50,51,52,10] [some (.pointer (some ⟨w.heap.size,1,none⟩)),some (.int .i64 r.div),some (.int .i64 n),some (.int .i64 (r.div*n)),some (.int .i64 (r.div*n))] (dlR 5) [49,50,51,52,10] [0,1,2,3,4] [] (fun _ _ _=>True) (by kernel_rfl) (by rw [hz];decide) ?_ (en rfl ?_ (en rfl ?_ (en rfl ?_ (en rfl ?_ (en rfl ?_ .nil))))) ?_
 ·exact fun _ _=>trivial
 ·intro Lk ak ww H _ _ hN
  simp [go_sem,H.f.g rfl s3]
  exact (hN _ _ H.k rfl trivial)
 ·intro Lk ak ww H _ _ hN
  simp [go_sem,(gS ak 49 (H.d 0 rfl rfl)),(b3.k0 H.k).cell]
  exact (hN _ _ H.k rfl trivial)
 ·exact fun Lk ak ww H _ _ hN=>wp_move rfl (ev (H.f.g rfl s2)) (hN _ _ H.k rfl trivial)
 ·exact fun Lk ak ww H _ _ hN=>wp_mul rfl (ev (H.d 1 rfl rfl)) (ev (H.d 2 rfl rfl)) (by omega) (hN _ _ H.k rfl trivial)
 ·exact fun Lk ak ww H _ _ hN=>wp_assign rfl (ev (H.d 3 rfl rfl)) (hN _ _ H.k rfl trivial)
 intro L a12 w13 hL hF hK hV hX;replace hz:=hF.Z hz;replace hdf:=hF.E hdf;replace s6:=hF.G s6;replace s7:=hF.G s7;replace s8:=hF.G s8;replace s9:=hF.G s9;have s10:=gS a12 10 (hV 4 _ rfl);replace b5:=b5.k0 hK
 replace fm:=fm.kp hK (by simp)
 replace hZ:=Nat.le_trans hZ hK.size;replace hB:=hK.below0 hB;clear hF hK hV hL hX s2 s3 b3
 obtain ⟨pa,epa⟩:∃ z:Int,z = -((h.a*(r.map.getD 0 0))+(h.b*(r.map.getD 2 0))):=⟨_,rfl⟩
 rw [← epa] at s7
 obtain ⟨pb,epb⟩:∃ z:Int,z = -((h.a*(r.map.getD 1 0))+(h.b*(r.map.getD 3 0))):=⟨_,rfl⟩
 rw [← epb] at s8
 obtain ⟨pc,epc⟩:∃ z:Int,z=h.c*r.div:=⟨_,rfl⟩
 rw [← epc] at s9
 obtain ⟨pd,epd⟩:∃ z:Int,z=r.div*n:=⟨_,rfl⟩
 rw [← epd] at s10
 have hP2:PcB pa pb pc pd:=by rw [epa,epb,epc,epd];exact hP
 have h1:=hP2.fa
 have h2:=hP2.fb
 have h3:=hP2.fc
 have h4:=hP2.fd
 refine th_n ?_;refine wp_seq ?_;refine wp_seq ?_
 refine wp_regJ (by kernel_rfl) [53,54] [some (.int .i64 pd),some (.bool (decide (pd<0)))] (dlR 2) [53,54] [0,1] [] (fun _ _ _=>True) (by kernel_rfl) (by rw [hz];decide) ?_ (en rfl ?_ (en rfl ?_ .nil)) ?_
 ·exact fun _ _=>trivial
 ·exact fun Lk ak ww H _ _ hN=>wp_move rfl (ev (H.f.g rfl s10)) (hN _ _ H.k rfl trivial)
 ·exact fun Lk ak ww H _ _ hN=>wp_bin rfl (ev (H.d 0 rfl rfl)) rfl rfl rfl (hN _ _ H.k rfl trivial)
 intro L a14 w15 hL hF hK hV hX;replace hz:=hF.Z hz;replace hdf:=hF.E hdf;replace s6:=hF.G s6;replace s7:=hF.G s7;replace s8:=hF.G s8;replace s9:=hF.G s9;replace s10:=hF.G s10;have s54:=gS a14 54 (hV 1 _ rfl);replace b5:=b5.k0 hK
 replace fm:=fm.kp hK (by simp)
 replace hZ:=Nat.le_trans hZ hK.size;replace hB:=hK.below0 hB;clear hF hK hV hL hX;refine th_n ?_
 rcases Bool.eq_false_or_eq_true (decide (pd<0)) with q16|q16
 ·skip
  refine wp_cond_true (ev (vb s54 q16)) ?_
  refine wp_seq ?_
  have hXb:StaysX [7] (fun L aa ww=>(L 2=false→aa.tmps[7]?.getD undef=.int .i64 pa)):=by
   intro L aa ww w' kk vv hkk hb hX
   have x0:=hX
   exact (fun h=>(put_ne' (hkk 7 (by simp)) vv).trans (x0 h))
  refine wp_regK hXb (by kernel_rfl) [55,56,7] [some (.int .i64 pa),some (.int .i64 (-pa)),some (.int .i64 (-pa))] (dlR 3) [55,56,7] [0,1,2] [] (by kernel_rfl) (by rw [hz];decide) ?_ (en rfl ?_ (en rfl ?_ (en rfl ?_ .nil))) ?_
  ·exact fun _ h=>(fun _=>s7)
  ·intro Lk ak ww H _ _ hN
   have x0:=H.x
   exact wp_move rfl (ev (x0 (H.t 2 rfl))) (hN _ _ H.k rfl (hXb Lk ak ww _ (some 55) _ (by simp) bR H.x))
  ·exact fun Lk ak ww H _ _ hN=>wp_neg rfl (ev (H.d 0 rfl rfl)) (by omega) (hN _ _ H.k rfl (hXb Lk ak ww _ (some 56) _ (by simp) bR H.x))
  ·intro Lk ak ww H _ _ hN
   have x0:=H.x
   exact wp_assign rfl (ev (H.d 1 rfl rfl)) (hN _ _ H.k rfl (fun h=>by simp [upd] at h))
  intro L a17 w18 hL hF hK hV hX;have x0:=hX;replace hz:=hF.Z hz;replace hdf:=hF.E hdf;replace s6:=hF.G s6;replace s8:=hF.G s8;replace s9:=hF.G s9;replace s10:=hF.G s10;have s7:=gS a17 7 (hV 2 _ rfl);replace b5:=b5.k0 hK
  replace fm:=fm.kp hK (by simp)
  replace hZ:=Nat.le_trans hZ hK.size;replace hB:=hK.below0 hB;clear hF hK hV hL x0 hXb s54;refine th_n ?_;refine wp_seq ?_
  have hXb:StaysX [8] (fun L aa ww=>(L 2=false→aa.tmps[8]?.getD undef=.int .i64 pb)):=by
   intro L aa ww w' kk vv hkk hb hX
   have x0:=hX
   exact (fun h=>(put_ne' (hkk 8 (by simp)) vv).trans (x0 h))
  refine wp_regK hXb (by kernel_rfl) [57,58,8] [some (.int .i64 pb),some (.int .i64 (-pb)),some (.int .i64 (-pb))] (dlR 3) [57,58,8] [0,1,2] [] (by kernel_rfl) (by rw [hz];decide) ?_ (en rfl ?_ (en rfl ?_ (en rfl ?_ .nil))) ?_
  ·exact fun _ h=>(fun _=>s8)
  ·intro Lk ak ww H _ _ hN
   have x0:=H.x
   exact wp_move rfl (ev (x0 (H.t 2 rfl))) (hN _ _ H.k rfl (hXb Lk ak ww _ (some 57) _ (by simp) bR H.x))
  ·exact fun Lk ak ww H _ _ hN=>wp_neg rfl (ev (H.d 0 rfl rfl)) (by omega) (hN _ _ H.k rfl (hXb Lk ak ww _ (some 58) _ (by simp) bR H.x))
  ·intro Lk ak ww H _ _ hN
   have x0:=H.x
   exact wp_assign rfl (ev (H.d 1 rfl rfl)) (hN _ _ H.k rfl (fun h=>by simp [upd] at h))
  intro L a19 w20 hL hF hK hV hX;have x0:=hX;replace hz:=hF.Z hz;replace hdf:=hF.E hdf;replace s6:=hF.G s6;replace s9:=hF.G s9;replace s10:=hF.G s10;replace s7:=hF.G s7;have s8:=gS a19 8 (hV 2 _ rfl);replace b5:=b5.k0 hK
  replace fm:=fm.kp hK (by simp)
  replace hZ:=Nat.le_trans hZ hK.size;replace hB:=hK.below0 hB;clear hF hK hV hL x0 hXb;refine th_n ?_;refine wp_seq ?_
  have hXb:StaysX [9] (fun L aa ww=>(L 2=false→aa.tmps[9]?.getD undef=.int .i64 pc)):=by
   intro L aa ww w' kk vv hkk hb hX
   have x0:=hX
   exact (fun h=>(put_ne' (hkk 9 (by simp)) vv).trans (x0 h))
  refine wp_regK hXb (by kernel_rfl) [59,60,9] [some (.int .i64 pc),some (.int .i64 (-pc)),some (.int .i64 (-pc))] (dlR 3) [59,60,9] [0,1,2] [] (by kernel_rfl) (by rw [hz];decide) ?_ (en rfl ?_ (en rfl ?_ (en rfl ?_ .nil))) ?_
  ·exact fun _ h=>(fun _=>s9)
  ·intro Lk ak ww H _ _ hN
   have x0:=H.x
   exact wp_move rfl (ev (x0 (H.t 2 rfl))) (hN _ _ H.k rfl (hXb Lk ak ww _ (some 59) _ (by simp) bR H.x))
  ·exact fun Lk ak ww H _ _ hN=>wp_neg rfl (ev (H.d 0 rfl rfl)) (by omega) (hN _ _ H.k rfl (hXb Lk ak ww _ (some 60) _ (by simp) bR H.x))
  ·intro Lk ak ww H _ _ hN
   have x0:=H.x
   exact wp_assign rfl (ev (H.d 1 rfl rfl)) (hN _ _ H.k rfl (fun h=>by simp [upd] at h))
  intro L a21 w22 hL hF hK hV hX;have x0:=hX;replace hz:=hF.Z hz;replace hdf:=hF.E hdf;replace s6:=hF.G s6;replace s10:=hF.G s10;replace s7:=hF.G s7;replace s8:=hF.G s8;have s9:=gS a21 9 (hV 2 _ rfl);replace b5:=b5.k0 hK
  replace fm:=fm.kp hK (by simp)
  replace hZ:=Nat.le_trans hZ hK.size;replace hB:=hK.below0 hB;clear hF hK hV hL x0 hXb;refine th_n ?_
  have hXb:StaysX [10] (fun L aa ww=>(L 2=false→aa.tmps[10]?.getD undef=.int .i64 pd)):=by
   intro L aa ww w' kk vv hkk hb hX
   have x0:=hX
   exact (fun h=>(put_ne' (hkk 10 (by simp)) vv).trans (x0 h))
  refine wp_regK hXb (by kernel_rfl) [61,62,10] [some (.int .i64 pd),some (.int .i64 (-pd)),some (.int .i64 (-pd))] (dlR 3) [61,62,10] [0,1,2] [] (by kernel_rfl) (by rw [hz];decide) ?_ (en rfl ?_ (en rfl ?_ (en rfl ?_ .nil))) ?_
  ·exact fun _ h=>(fun _=>s10)
  ·intro Lk ak ww H _ _ hN
   have x0:=H.x
   exact wp_move rfl (ev (x0 (H.t 2 rfl))) (hN _ _ H.k rfl (hXb Lk ak ww _ (some 61) _ (by simp) bR H.x))
  ·exact fun Lk ak ww H _ _ hN=>wp_neg rfl (ev (H.d 0 rfl rfl)) (by omega) (hN _ _ H.k rfl (hXb Lk ak ww _ (some 62) _ (by simp) bR H.x))
  ·intro Lk ak ww H _ _ hN
   have x0:=H.x
   exact wp_assign rfl (ev (H.d 1 rfl rfl)) (hN _ _ H.k rfl (fun h=>by simp [upd] at h))
  intro L a23 w24 hL hF hK hV hX;have x0:=hX;replace hz:=hF.Z hz;replace hdf:=hF.E hdf;replace s6:=hF.G s6;replace s7:=hF.G s7;replace s8:=hF.G s8;replace s9:=hF.G s9;have s10:=gS a23 10 (hV 2 _ rfl);replace b5:=b5.k0 hK
  replace fm:=fm.kp hK (by simp)
  replace hZ:=Nat.le_trans hZ hK.size;replace hB:=hK.below0 hB;clear hF hK hV hL x0 hXb;refine th_n ?_;refine wp_seq ?_
  obtain ⟨xa,exa⟩:∃ z:Int,z = -pa:=⟨_,rfl⟩
  rw [← exa] at s7
  obtain ⟨xb,exb⟩:∃ z:Int,z = -pb:=⟨_,rfl⟩
  rw [← exb] at s8
  obtain ⟨xc,exc⟩:∃ z:Int,z = -pc:=⟨_,rfl⟩
  rw [← exc] at s9
  obtain ⟨xd,exd⟩:∃ z:Int,z = -pd:=⟨_,rfl⟩
  rw [← exd] at s10
  have hX:PcB xa xb xc xd:=by rw [exa,exb,exc,exd];exact hP2.neg
  have hG4:=pcG hX
  have hx1:=hX.fa
  have hx2:=hX.fb
  have hx3:=hX.fc
  have hx4:=hX.fd
  have hg4:=hG4.g
  have hpm:pieceM (-(h.a*r.map.getD 0 0+h.b*r.map.getD 2 0)) (-(h.a*r.map.getD 1 0+h.b*r.map.getD 3 0)) (h.c*r.div) (r.div*n)=pieceN xa xb xc xd:=by rw [← epa,← epb,← epc,← epd];unfold pieceM;rw [if_pos (dec_t q16),exa,exb,exc,exd]
  refine wp_regJ (by kernel_rfl) [63,64,65,66,67,68,69,11] [some (.int .i64 xa),some (.int .i64 xb),some (.int .i64 (gcdOf xa xb)),some (.int .i64 xc),some (.int .i64 xd),some (.int .i64 (gcdOf xc xd)),some (.int .i64 (gcdOf (gcdOf xa xb) (gcdOf xc xd))),some (.int .i64 (gcdOf (gcdOf xa xb) (gcdOf xc xd)))] (dlR 8) [63,64,65,66,67,68,69,11] [0,1,2,3,4,5,6,7] [] (fun _ _ _=>True) (by kernel_rfl) (by rw [hz];decide) ?_ (en rfl ?_ (en rfl ?_ (en rfl ?_ (en rfl ?_ (en rfl ?_ (en rfl ?_ (en rfl ?_ (en rfl ?_ .nil)))))))) ?_
  ·exact fun _ _=>trivial
  ·exact fun Lk ak ww H _ _ hN=>wp_move rfl (ev (H.f.g rfl s7)) (hN _ _ H.k rfl trivial)
  ·exact fun Lk ak ww H _ _ hN=>wp_move rfl (ev (H.f.g rfl s8)) (hN _ _ H.k rfl trivial)
  ·intro Lk ak ww H _ _ hN
   simp [go_sem,(gS ak 63 (H.d 0 rfl rfl)),(gS ak 64 (H.d 1 rfl rfl))]
   refine (sGcdOf_q xa xb ww (⟨by omega,by omega⟩) (⟨by omega,by omega⟩)).mono ?_
   rintro x wx ⟨rfl,n,rfl⟩
   have hb:Below ww.heap.size ww (ww.drewN n):=below_drewN bR n
   exact (hN _ _ (H.k.call hb) rfl trivial)
  ·exact fun Lk ak ww H _ _ hN=>wp_move rfl (ev (H.f.g rfl s9)) (hN _ _ H.k rfl trivial)
  ·exact fun Lk ak ww H _ _ hN=>wp_move rfl (ev (H.f.g rfl s10)) (hN _ _ H.k rfl trivial)
  ·intro Lk ak ww H _ _ hN
   simp [go_sem,(gS ak 66 (H.d 3 rfl rfl)),(gS ak 67 (H.d 4 rfl rfl))]
   refine (sGcdOf_q xc xd ww (⟨by omega,by omega⟩) (⟨by omega,by omega⟩)).mono ?_
   rintro x wx ⟨rfl,n,rfl⟩
   have hb:Below ww.heap.size ww (ww.drewN n):=below_drewN bR n
   exact (hN _ _ (H.k.call hb) rfl trivial)
  ·intro Lk ak ww H _ _ hN
   simp [go_sem,(gS ak 65 (H.d 2 rfl rfl)),(gS ak 68 (H.d 5 rfl rfl))]
   refine (sGcdOf_q (gcdOf xa xb) (gcdOf xc xd) ww (gcdOf_In64 ⟨by omega,by omega⟩ ⟨by omega,by omega⟩) (gcdOf_In64 ⟨by omega,by omega⟩ ⟨by omega,by omega⟩)).mono ?_
   rintro x wx ⟨rfl,n,rfl⟩
   have hb:Below ww.heap.size ww (ww.drewN n):=below_drewN bR n
   exact (hN _ _ (H.k.call hb) rfl trivial)
  ·exact fun Lk ak ww H _ _ hN=>wp_assign rfl (ev (H.d 6 rfl rfl)) (hN _ _ H.k rfl trivial)
  intro L a25 w26 hL hF hK hV hX;replace hz:=hF.Z hz;replace hdf:=hF.E hdf;replace s6:=hF.G s6;replace s7:=hF.G s7;replace s8:=hF.G s8;replace s9:=hF.G s9;replace s10:=hF.G s10;have s11:=gS a25 11 (hV 7 _ rfl);replace b5:=b5.k0 hK
  replace fm:=fm.kp hK (by simp)
  replace hZ:=Nat.le_trans hZ hK.size;replace hB:=hK.below0 hB;clear hF hK hV hL hX
  obtain ⟨gg,egg⟩:∃ z:Int,z=gcdOf (gcdOf xa xb) (gcdOf xc xd):=⟨_,rfl⟩
  rw [← egg] at s11
  rw [gcdOf4 hX] at egg
  have hgg:1≤gg∧gg≤10000000000:=by rw [egg];exact hg4
  have ht0 : -10000000000≤xa.tdiv gg∧xa.tdiv gg≤10000000000:=by rw [egg];exact hG4.fa
  have ht1 : -10000000000≤xb.tdiv gg∧xb.tdiv gg≤10000000000:=by rw [egg];exact hG4.fb
  have ht2 : -10000000000≤xc.tdiv gg∧xc.tdiv gg≤10000000000:=by rw [egg];exact hG4.fc
  have ht3 : -10000000000≤xd.tdiv gg∧xd.tdiv gg≤10000000000:=by rw [egg];exact hG4.fd
  refine th_n ?_;refine wp_seq ?_
  have hXb:StaysX [] (fun L aa ww=>PreX ww (w.heap.size+2) 109 [.int .i64 0,.int .i64 0,.int .i64 0,.int .i64 0] (L 13) (fun _ vs=>vs=[.int .i64 (xa.tdiv gg),.int .i64 (xb.tdiv gg),.int .i64 (xc.tdiv gg),.int .i64 (xd.tdiv gg)])):=by
   intro L aa ww w' kk vv hkk hb hX
   have x0:=hX
   exact (x0.bel hb (fun _ h=>h))
  refine wp_regK hXb (by kernel_rfl) [70,71,72,73,74,75,76,77,78,79,80,81,82,0] [some (.int .i64 xa),some (.int .i64 gg),some (.int .i64 (xa.tdiv gg)),some (.int .i64 xb),some (.int .i64 gg),some (.int .i64 (xb.tdiv gg)),some (.int .i64 xc),some (.int .i64 gg),some (.int .i64 (xc.tdiv gg)),some (.int .i64 xd),some (.int .i64 gg),some (.int .i64 (xd.tdiv gg)),some (.agg #[.int .i64 (xa.tdiv gg),.int .i64 (xb.tdiv gg),.int .i64 (xc.tdiv gg),.int .i64 (xd.tdiv gg)]),none] ([[],[],[0,1],[],[],[3,4],[],[],[6,7],[],[],[9,10],[0,1,2,3,4,5,6,7,8,9,10,11],[0,1,2,3,4,5,6,7,8,9,10,11,12]]) [70,71,72,73,74,75,76,77,78,79,80,81,82] [0,1,2,3,4,5,6,7,8,9,10,11,12,13] [(w.heap.size+2)] (by kernel_rfl) (by rw [hz];decide) ?_ (en rfl ?_ (en rfl ?_ (en rfl ?_ (en rfl ?_ (en rfl ?_ (en rfl ?_ (en rfl ?_ (en rfl ?_ (en rfl ?_ (en rfl ?_ (en rfl ?_ (en rfl ?_ (en rfl ?_ (en rfl ?_ .nil)))))))))))))) ?_
  ·exact fun _ h=>(⟨fun _=>b5.kp h (by simp),(fun h=>by cases h)⟩)
  ·exact fun Lk ak ww H _ _ hN=>wp_move rfl (ev (H.f.g rfl s7)) (hN _ _ H.k rfl H.x)
  ·exact fun Lk ak ww H _ _ hN=>wp_move rfl (ev (H.f.g rfl s11)) (hN _ _ H.k rfl H.x)
  ·exact fun Lk ak ww H _ _ hN=>wp_quo rfl (ev (H.d 0 rfl rfl)) (ev (H.d 1 rfl rfl)) (by omega) (by omega) (hN _ _ H.k rfl H.x)
  ·exact fun Lk ak ww H _ _ hN=>wp_move rfl (ev (H.f.g rfl s8)) (hN _ _ H.k rfl H.x)
  ·exact fun Lk ak ww H _ _ hN=>wp_move rfl (ev (H.f.g rfl s11)) (hN _ _ H.k rfl H.x)
  ·exact fun Lk ak ww H _ _ hN=>wp_quo rfl (ev (H.d 3 rfl rfl)) (ev (H.d 4 rfl rfl)) (by omega) (by omega) (hN _ _ H.k rfl H.x)
  ·exact fun Lk ak ww H _ _ hN=>wp_move rfl (ev (H.f.g rfl s9)) (hN _ _ H.k rfl H.x)
  ·exact fun Lk ak ww H _ _ hN=>wp_move rfl (ev (H.f.g rfl s11)) (hN _ _ H.k rfl H.x)
  ·exact fun Lk ak ww H _ _ hN=>wp_quo rfl (ev (H.d 6 rfl rfl)) (ev (H.d 7 rfl rfl)) (by omega) (by omega) (hN _ _ H.k rfl H.x)
  ·exact fun Lk ak ww H _ _ hN=>wp_move rfl (ev (H.f.g rfl s10)) (hN _ _ H.k rfl H.x)
  ·exact fun Lk ak ww H _ _ hN=>wp_move rfl (ev (H.f.g rfl s11)) (hN _ _ H.k rfl H.x)
  ·exact fun Lk ak ww H _ _ hN=>wp_quo rfl (ev (H.d 9 rfl rfl)) (ev (H.d 10 rfl rfl)) (by omega) (by omega) (hN _ _ H.k rfl H.x)
  ·intro Lk ak ww H _ _ hN
   simp [go_sem,(gS ak 72 (H.d 2 rfl rfl)),(gS ak 75 (H.d 5 rfl rfl)),(gS ak 78 (H.d 8 rfl rfl)),(gS ak 81 (H.d 11 rfl rfl))]
   exact (hN _ _ H.k rfl H.x)
  ·intro Lk ak ww H _ _ hN
   have x0:=H.x
   have HT:=x0.1 H.n
   simp [go_sem,(gS ak 82 (H.d 12 rfl rfl)),H.f.g rfl s6,HT.cell,HT.frz]
   exact hN undef _ (H.k.store (.inr (by simp)) [.int .i64 (xa.tdiv gg),.int .i64 (xb.tdiv gg),.int .i64 (xc.tdiv gg),.int .i64 (xd.tdiv gg)] 0) trivial (PreX.set HT (us:=[.int .i64 (xa.tdiv gg),.int .i64 (xb.tdiv gg),.int .i64 (xc.tdiv gg),.int .i64 (xd.tdiv gg)]) rfl rfl)
  intro L a27 w28 hL hF hK hV hX;have x0:=hX;replace hz:=hF.Z hz;replace hdf:=hF.E hdf;replace s6:=hF.G s6;clear b5
  obtain ⟨_,b5,rfl⟩:=x0.2 (hL 13 (by decide))
  replace fm:=fm.kp hK (by simp<;>omega)
  replace hZ:=Nat.le_trans hZ hK.size
  replace hB:=hK.below hB hB.size (by simp<;>omega)
  clear hF hK hV hL x0 hXb s7 s8 s9 s10 s11;refine th_n ?_
  refine wp_ret ?_
  refine bodyPost_ret (v:=.agg #[.int .i64 (xa.tdiv gg),.int .i64 (xb.tdiv gg),.int .i64 (xc.tdiv gg),.int .i64 (xd.tdiv gg)]) (by simp [results,Tryz.results63,go_sem,s6,b5.cell]) hdf ?_
  exact ⟨by rw [hpm];unfold pieceN;rw [← egg],hB⟩
 ·skip
  refine wp_cond_false (ev (vb s54 q16)) ?_
  refine wp_skip ?_;refine th_n ?_;refine wp_seq ?_
  obtain ⟨xa,exa⟩:∃ z:Int,z=pa:=⟨_,rfl⟩
  rw [← exa] at s7
  obtain ⟨xb,exb⟩:∃ z:Int,z=pb:=⟨_,rfl⟩
  rw [← exb] at s8
  obtain ⟨xc,exc⟩:∃ z:Int,z=pc:=⟨_,rfl⟩
  rw [← exc] at s9
  obtain ⟨xd,exd⟩:∃ z:Int,z=pd:=⟨_,rfl⟩
  rw [← exd] at s10
  have hX:PcB xa xb xc xd:=by rw [exa,exb,exc,exd];exact hP2
  have hG4:=pcG hX
  have hx1:=hX.fa
  have hx2:=hX.fb
  have hx3:=hX.fc
  have hx4:=hX.fd
  have hg4:=hG4.g
  have hpm:pieceM (-(h.a*r.map.getD 0 0+h.b*r.map.getD 2 0)) (-(h.a*r.map.getD 1 0+h.b*r.map.getD 3 0)) (h.c*r.div) (r.div*n)=pieceN xa xb xc xd:=by rw [← epa,← epb,← epc,← epd];unfold pieceM;rw [if_neg (dec_f q16),exa,exb,exc,exd]
  refine wp_regJ (by kernel_rfl) [63,64,65,66,67,68,69,11] [some (.int .i64 xa),some (.int .i64 xb),some (.int .i64 (gcdOf xa xb)),some (.int .i64 xc),some (.int .i64 xd),some (.int .i64 (gcdOf xc xd)),some (.int .i64 (gcdOf (gcdOf xa xb) (gcdOf xc xd))),some (.int .i64 (gcdOf (gcdOf xa xb) (gcdOf xc xd)))] (dlR 8) [63,64,65,66,67,68,69,11] [0,1,2,3,4,5,6,7] [] (fun _ _ _=>True) (by kernel_rfl) (by rw [hz];decide) ?_ (en rfl ?_ (en rfl ?_ (en rfl ?_ (en rfl ?_ (en rfl ?_ (en rfl ?_ (en rfl ?_ (en rfl ?_ .nil)))))))) ?_
  ·exact fun _ _=>trivial
  ·exact fun Lk ak ww H _ _ hN=>wp_move rfl (ev (H.f.g rfl s7)) (hN _ _ H.k rfl trivial)
  ·exact fun Lk ak ww H _ _ hN=>wp_move rfl (ev (H.f.g rfl s8)) (hN _ _ H.k rfl trivial)
  ·intro Lk ak ww H _ _ hN
   simp [go_sem,(gS ak 63 (H.d 0 rfl rfl)),(gS ak 64 (H.d 1 rfl rfl))]
   refine (sGcdOf_q xa xb ww (⟨by omega,by omega⟩) (⟨by omega,by omega⟩)).mono ?_
   rintro x wx ⟨rfl,n,rfl⟩
   have hb:Below ww.heap.size ww (ww.drewN n):=below_drewN bR n
   exact (hN _ _ (H.k.call hb) rfl trivial)
  ·exact fun Lk ak ww H _ _ hN=>wp_move rfl (ev (H.f.g rfl s9)) (hN _ _ H.k rfl trivial)
  ·exact fun Lk ak ww H _ _ hN=>wp_move rfl (ev (H.f.g rfl s10)) (hN _ _ H.k rfl trivial)
  ·intro Lk ak ww H _ _ hN
   simp [go_sem,(gS ak 66 (H.d 3 rfl rfl)),(gS ak 67 (H.d 4 rfl rfl))]
   refine (sGcdOf_q xc xd ww (⟨by omega,by omega⟩) (⟨by omega,by omega⟩)).mono ?_
   rintro x wx ⟨rfl,n,rfl⟩
   have hb:Below ww.heap.size ww (ww.drewN n):=below_drewN bR n
   exact (hN _ _ (H.k.call hb) rfl trivial)
  ·intro Lk ak ww H _ _ hN
   simp [go_sem,(gS ak 65 (H.d 2 rfl rfl)),(gS ak 68 (H.d 5 rfl rfl))]
   refine (sGcdOf_q (gcdOf xa xb) (gcdOf xc xd) ww (gcdOf_In64 ⟨by omega,by omega⟩ ⟨by omega,by omega⟩) (gcdOf_In64 ⟨by omega,by omega⟩ ⟨by omega,by omega⟩)).mono ?_
   rintro x wx ⟨rfl,n,rfl⟩
   have hb:Below ww.heap.size ww (ww.drewN n):=below_drewN bR n
   exact (hN _ _ (H.k.call hb) rfl trivial)
  ·exact fun Lk ak ww H _ _ hN=>wp_assign rfl (ev (H.d 6 rfl rfl)) (hN _ _ H.k rfl trivial)
  intro L a29 w30 hL hF hK hV hX;replace hz:=hF.Z hz;replace hdf:=hF.E hdf;replace s6:=hF.G s6;replace s7:=hF.G s7;replace s8:=hF.G s8;replace s9:=hF.G s9;replace s10:=hF.G s10;have s11:=gS a29 11 (hV 7 _ rfl);replace b5:=b5.k0 hK
  replace fm:=fm.kp hK (by simp)
  replace hZ:=Nat.le_trans hZ hK.size;replace hB:=hK.below0 hB;clear hF hK hV hL hX s54
  obtain ⟨gg,egg⟩:∃ z:Int,z=gcdOf (gcdOf xa xb) (gcdOf xc xd):=⟨_,rfl⟩
  rw [← egg] at s11
  rw [gcdOf4 hX] at egg
  have hgg:1≤gg∧gg≤10000000000:=by rw [egg];exact hg4
  have ht0 : -10000000000≤xa.tdiv gg∧xa.tdiv gg≤10000000000:=by rw [egg];exact hG4.fa
  have ht1 : -10000000000≤xb.tdiv gg∧xb.tdiv gg≤10000000000:=by rw [egg];exact hG4.fb
  have ht2 : -10000000000≤xc.tdiv gg∧xc.tdiv gg≤10000000000:=by rw [egg];exact hG4.fc
  have ht3 : -10000000000≤xd.tdiv gg∧xd.tdiv gg≤10000000000:=by rw [egg];exact hG4.fd
  refine th_n ?_;refine wp_seq ?_
  have hXb:StaysX [] (fun L aa ww=>PreX ww (w.heap.size+2) 109 [.int .i64 0,.int .i64 0,.int .i64 0,.int .i64 0] (L 13) (fun _ vs=>vs=[.int .i64 (xa.tdiv gg),.int .i64 (xb.tdiv gg),.int .i64 (xc.tdiv gg),.int .i64 (xd.tdiv gg)])):=by
   intro L aa ww w' kk vv hkk hb hX
   have x0:=hX
   exact (x0.bel hb (fun _ h=>h))
  refine wp_regK hXb (by kernel_rfl) [70,71,72,73,74,75,76,77,78,79,80,81,82,0] [some (.int .i64 xa),some (.int .i64 gg),some (.int .i64 (xa.tdiv gg)),some (.int .i64 xb),some (.int .i64 gg),some (.int .i64 (xb.tdiv gg)),some (.int .i64 xc),some (.int .i64 gg),some (.int .i64 (xc.tdiv gg)),some (.int .i64 xd),some (.int .i64 gg),some (.int .i64 (xd.tdiv gg)),some (.agg #[.int .i64 (xa.tdiv gg),.int .i64 (xb.tdiv gg),.int .i64 (xc.tdiv gg),.int .i64 (xd.tdiv gg)]),none] ([[],[],[0,1],[],[],[3,4],[],[],[6,7],[],[],[9,10],[0,1,2,3,4,5,6,7,8,9,10,11],[0,1,2,3,4,5,6,7,8,9,10,11,12]]) [70,71,72,73,74,75,76,77,78,79,80,81,82] [0,1,2,3,4,5,6,7,8,9,10,11,12,13] [(w.heap.size+2)] (by kernel_rfl) (by rw [hz];decide) ?_ (en rfl ?_ (en rfl ?_ (en rfl ?_ (en rfl ?_ (en rfl ?_ (en rfl ?_ (en rfl ?_ (en rfl ?_ (en rfl ?_ (en rfl ?_ (en rfl ?_ (en rfl ?_ (en rfl ?_ (en rfl ?_ .nil)))))))))))))) ?_
  ·exact fun _ h=>(⟨fun _=>b5.kp h (by simp),(fun h=>by cases h)⟩)
  ·exact fun Lk ak ww H _ _ hN=>wp_move rfl (ev (H.f.g rfl s7)) (hN _ _ H.k rfl H.x)
  ·exact fun Lk ak ww H _ _ hN=>wp_move rfl (ev (H.f.g rfl s11)) (hN _ _ H.k rfl H.x)
  ·exact fun Lk ak ww H _ _ hN=>wp_quo rfl (ev (H.d 0 rfl rfl)) (ev (H.d 1 rfl rfl)) (by omega) (by omega) (hN _ _ H.k rfl H.x)
  ·exact fun Lk ak ww H _ _ hN=>wp_move rfl (ev (H.f.g rfl s8)) (hN _ _ H.k rfl H.x)
  ·exact fun Lk ak ww H _ _ hN=>wp_move rfl (ev (H.f.g rfl s11)) (hN _ _ H.k rfl H.x)
  ·exact fun Lk ak ww H _ _ hN=>wp_quo rfl (ev (H.d 3 rfl rfl)) (ev (H.d 4 rfl rfl)) (by omega) (by omega) (hN _ _ H.k rfl H.x)
  ·exact fun Lk ak ww H _ _ hN=>wp_move rfl (ev (H.f.g rfl s9)) (hN _ _ H.k rfl H.x)
  ·exact fun Lk ak ww H _ _ hN=>wp_move rfl (ev (H.f.g rfl s11)) (hN _ _ H.k rfl H.x)
  ·exact fun Lk ak ww H _ _ hN=>wp_quo rfl (ev (H.d 6 rfl rfl)) (ev (H.d 7 rfl rfl)) (by omega) (by omega) (hN _ _ H.k rfl H.x)
  ·exact fun Lk ak ww H _ _ hN=>wp_move rfl (ev (H.f.g rfl s10)) (hN _ _ H.k rfl H.x)
  ·exact fun Lk ak ww H _ _ hN=>wp_move rfl (ev (H.f.g rfl s11)) (hN _ _ H.k rfl H.x)
  ·exact fun Lk ak ww H _ _ hN=>wp_quo rfl (ev (H.d 9 rfl rfl)) (ev (H.d 10 rfl rfl)) (by omega) (by omega) (hN _ _ H.k rfl H.x)
  ·intro Lk ak ww H _ _ hN
   simp [go_sem,(gS ak 72 (H.d 2 rfl rfl)),(gS ak 75 (H.d 5 rfl rfl)),(gS ak 78 (H.d 8 rfl rfl)),(gS ak 81 (H.d 11 rfl rfl))]
   exact (hN _ _ H.k rfl H.x)
  ·intro Lk ak ww H _ _ hN
   have x0:=H.x
   have HT:=x0.1 H.n
   simp [go_sem,(gS ak 82 (H.d 12 rfl rfl)),H.f.g rfl s6,HT.cell,HT.frz]
   exact hN undef _ (H.k.store (.inr (by simp)) [.int .i64 (xa.tdiv gg),.int .i64 (xb.tdiv gg),.int .i64 (xc.tdiv gg),.int .i64 (xd.tdiv gg)] 0) trivial (PreX.set HT (us:=[.int .i64 (xa.tdiv gg),.int .i64 (xb.tdiv gg),.int .i64 (xc.tdiv gg),.int .i64 (xd.tdiv gg)]) rfl rfl)
  intro L a31 w32 hL hF hK hV hX;have x0:=hX;replace hz:=hF.Z hz;replace hdf:=hF.E hdf;replace s6:=hF.G s6;clear b5
  obtain ⟨_,b5,rfl⟩:=x0.2 (hL 13 (by decide))
  replace fm:=fm.kp hK (by simp<;>omega)
  replace hZ:=Nat.le_trans hZ hK.size
  replace hB:=hK.below hB hB.size (by simp<;>omega)
  clear hF hK hV hL x0 hXb s7 s8 s9 s10 s11;refine th_n ?_
  refine wp_ret ?_
  refine bodyPost_ret (v:=.agg #[.int .i64 (xa.tdiv gg),.int .i64 (xb.tdiv gg),.int .i64 (xc.tdiv gg),.int .i64 (xd.tdiv gg)]) (by simp [results,Tryz.results63,go_sem,s6,b5.cell]) hdf ?_
  exact ⟨by rw [hpm];unfold pieceN;rw [← egg],hB⟩
set_option maxRecDepth 100000 in
set_option maxHeartbeats 3000000 in
theorem iCovers_c (p:List Half) (a b c:Int) (pa:SlA) (w:World) (hp:regionOk p=true) (ha : -10000000≤a∧a≤10000000) (hb : -10000000≤b∧b≤10000000) (hc : -10000000000≤c∧c≤10000000000) (hsp:Sl 3 halfC w pa.A p) :
 Calls Tryz.prog 70 #[.agg #[.slice pa.A p.length pa.c],.int .i64 a,.int .i64 b,.int .i64 c] w fun x w'=>x=.returned (.bool (covB p (halfOf a b c)))∧Below w.heap.size w w':=by
 refine calls_v Tryz.func70 rfl (n:=34) Tryz.ntmps70 (by simp) ?_
 intro a0 hz hdf ha
 have s0:a0.tmps[0]?.getD undef=.agg #[.slice pa.A p.length pa.c]:=ha 0 _ rfl;have s1:a0.tmps[1]?.getD undef=.int .i64 a:=ha 1 _ rfl;have s2:a0.tmps[2]?.getD undef=.int .i64 b:=ha 2 _ rfl;have s3:a0.tmps[3]?.getD undef=.int .i64 c:=ha 3 _ rfl;clear ha
 have hB:=Below.refl w.heap.size w
 have hZ:=Nat.le_refl w.heap.size
 refine wp_seq ?_
 refine wp_entry [4,8] [.pointer (some ⟨w.heap.size,0,none⟩),.bool false] [some (.cells [.slice pa.A p.length pa.c].toArray 37),none] [0,1] [4,8] [0,1] (by kernel_rfl) (by rw [hz];decide) (ec ?_ (ec ?_ .nil)) ?_
 ·intro a w' hF hs N Q hN;simp [go_sem,hF.g rfl s0];rw [hs];exact hN
 ·intro a w' hF hs N Q hN;simp [go_sem];exact hN
 intro a1 w2 hF hV hb hO
 replace hz:=hF.size.trans hz;replace hdf:=hF.defers.trans hdf;replace s1:=hF.g rfl s1;replace s2:=hF.g rfl s2;replace s3:=hF.g rfl s3
 have s4:a1.tmps[4]?.getD undef=.pointer (some ⟨w.heap.size,0,none⟩):=hV 0 (by decide)
 have b3:HasT w2 w.heap.size 37 [.slice pa.A p.length pa.c]:=hO 0 _ rfl
 have hG:=b3.lt
 replace hB:=below_tr hB hb;have zw2:=Nat.le_trans hZ hb.size;replace hZ:=Nat.le_refl w2.heap.size;clear hF hV hb hO s0;refine th_n ?_;refine wp_seq ?_
 have hXb:StaysX [9] (fun L aa ww=>(L 7=true→BoxX w2 aa ww 9 111 [.int .i64 0,.int .i64 0,.int .i64 0] (L 8) (fun _ vs=>vs=[.int .i64 (((halfOf a b c).getD half0).a),.int .i64 (((halfOf a b c).getD half0).b),.int .i64 (((halfOf a b c).getD half0).c)]))):=by
  intro L aa ww w' kk vv hkk hb hX
  have x0:=hX
  exact (fun h=>((x0 h).bel hb (fun _ h=>h)).put (hkk 9 (by simp)) _)
 refine wp_regK hXb (by kernel_rfl) [14,15,16,17,13,18,19,9,0,10] [some (.int .i64 a),some (.int .i64 b),some (.int .i64 c),some (.tuple #[halfV ((halfOf a b c).getD half0),.bool ((halfOf a b c).isSome)]),some (.tuple #[halfV ((halfOf a b c).getD half0),.bool ((halfOf a b c).isSome)]),some (halfV ((halfOf a b c).getD half0)),some (.bool ((halfOf a b c).isSome)),none,none,some (.bool ((halfOf a b c).isSome))] (dlR 10) [14,15,16,17,13,18,19,9,10] [0,1,2,3,4,5,6,7,8,9] [] (by kernel_rfl) (by rw [hz];decide) ?_ (en rfl ?_ (en rfl ?_ (en rfl ?_ (en rfl ?_ (en rfl ?_ (en rfl ?_ (en rfl ?_ (en rfl ?_ (en rfl ?_ (en rfl ?_ .nil)))))))))) ?_
 ·exact fun _ h=>(fun h=>by cases h)
 ·exact fun Lk ak ww H _ _ hN=>wp_move rfl (ev (H.f.g rfl s1)) (hN _ _ H.k rfl (hXb.q rfl H.x))
 ·exact fun Lk ak ww H _ _ hN=>wp_move rfl (ev (H.f.g rfl s2)) (hN _ _ H.k rfl (hXb.q rfl H.x))
 ·exact fun Lk ak ww H _ _ hN=>wp_move rfl (ev (H.f.g rfl s3)) (hN _ _ H.k rfl (hXb.q rfl H.x))
 ·intro Lk ak ww H _ _ hN
  simp [go_sem,(gS ak 14 (H.d 0 rfl rfl)),(gS ak 15 (H.d 1 rfl rfl)),(gS ak 16 (H.d 2 rfl rfl))]
  refine (iHalfOf_c a b c ww ⟨by omega,by omega⟩ ⟨by omega,by omega⟩ ⟨by omega,by omega⟩).mono ?_
  rintro x wx ⟨rfl,hb⟩
  exact (hN _ _ (H.k.call hb) (optHalf_eq _) (hXb.b rfl hb H.x))
 ·exact fun Lk ak ww H _ _ hN=>wp_move rfl (ev (H.d 3 rfl rfl)) (hN _ _ H.k rfl (hXb.q rfl H.x))
 ·exact fun Lk ak ww H _ _ hN=>wp_extract rfl (ev (H.d 4 rfl rfl)) rfl (hN _ _ H.k rfl (hXb.q rfl H.x))
 ·exact fun Lk ak ww H _ _ hN=>wp_extract rfl (ev (H.d 4 rfl rfl)) rfl (hN _ _ H.k rfl (hXb.q rfl H.x))
 ·intro Lk ak ww H _ _ hN
  have x0:=H.x
  simp [go_sem]
  exact hN _ _ (H.k.alloc _) trivial (fun _=>by rw [show upd Lk 7 8=false from H.t 8 rfl];exact BoxX.new (s:=9) (H.f.lt (by rw [hz];decide)) H.k.size [.int .i64 0,.int .i64 0,.int .i64 0])
 ·intro Lk ak ww H _ _ hN
  have x0:=H.x
  obtain ⟨g,eg,hg,y,_⟩:=x0 (H.r 7 rfl)
  have HT:=y H.n
  simp [go_sem,(gS ak 18 (H.d 5 rfl rfl)),eg,HT.cell,HT.frz]
  exact hN undef _ (H.k.store (.inl hg) [.int .i64 (((halfOf a b c).getD half0).a),.int .i64 (((halfOf a b c).getD half0).b),.int .i64 (((halfOf a b c).getD half0).c)] 0) trivial (fun _=>BoxX.set eg hg HT (us:=[.int .i64 (((halfOf a b c).getD half0).a),.int .i64 (((halfOf a b c).getD half0).b),.int .i64 (((halfOf a b c).getD half0).c)]) rfl rfl)
 ·exact fun Lk ak ww H _ _ hN=>wp_assign rfl (ev (H.d 6 rfl rfl)) (hN _ _ H.k rfl (hXb.q rfl H.x))
 intro L a4 w5 hL hF hK hV hX;have x0:=hX;replace hz:=hF.Z hz;replace hdf:=hF.E hdf;replace s4:=hF.G s4;have s10:=gS a4 10 (hV 9 _ rfl);replace b3:=b3.k0 hK
 obtain ⟨g6,s9,lg6,-,b6⟩:=x0 (hL 7 (by decide))
 obtain ⟨_,b6,rfl⟩:=b6 (hL 8 (by decide))
 have ug6:=b6.lt
 have zw5:=hK.size;replace hZ:=Nat.le_refl w5.heap.size;replace hB:=hK.below0 hB;clear hF hK hV hL x0 hXb s1 s2 s3;refine th_n ?_;refine wp_seq ?_;refine wp_seq ?_
 refine wp_regJ (by kernel_rfl) [20,21] [some (.bool ((halfOf a b c).isSome)),some (.bool (!((halfOf a b c).isSome)))] (dlR 2) [20,21] [0,1] [] (fun _ _ _=>True) (by kernel_rfl) (by rw [hz];decide) ?_ (en rfl ?_ (en rfl ?_ .nil)) ?_
 ·exact fun _ _=>trivial
 ·exact fun Lk ak ww H _ _ hN=>wp_move rfl (ev (H.f.g rfl s10)) (hN _ _ H.k rfl trivial)
 ·exact fun Lk ak ww H _ _ hN=>wp_not rfl (ev (H.d 0 rfl rfl)) (hN _ _ H.k rfl trivial)
 intro L a7 w8 hL hF hK hV hX;replace hz:=hF.Z hz;replace hdf:=hF.E hdf;replace s4:=hF.G s4;replace s9:=hF.G s9;have s21:=gS a7 21 (hV 1 _ rfl);replace b3:=b3.k0 hK;replace b6:=b6.k0 hK;replace hZ:=Nat.le_trans hZ hK.size;replace hB:=hK.below0 hB;clear hF hK hV hL hX s10;refine th_n ?_
 rcases Bool.eq_false_or_eq_true (!((halfOf a b c).isSome)) with q9|q9
 ·skip
  refine wp_cond_true (ev (vb s21 q9)) ?_
  refine wp_seq ?_
  refine wp_regJ (by kernel_rfl) [8] [some (.bool false)] (dlR 1) [8] [0] [] (fun _ _ _=>True) (by kernel_rfl) (by rw [hz];decide) ?_ (en rfl ?_ .nil) ?_
  ·exact fun _ _=>trivial
  ·exact fun Lk ak ww H _ _ hN=>wp_assign rfl rfl (hN _ _ H.k rfl trivial)
  intro L a10 w11 hL hF hK hV hX;replace hz:=hF.Z hz;replace hdf:=hF.E hdf;have s8:=gS a10 8 (hV 0 _ rfl);replace hZ:=Nat.le_trans hZ hK.size;replace hB:=hK.below0 hB;clear hF hK hV hL hX s4 s9 s21 b3 b6;refine th_n ?_
  refine wp_ret ?_
  refine th_r ?_
  refine bodyPost_ret (v:=.bool false) (by simp [results,Tryz.results70,go_sem,s8]) hdf ?_
  exact ⟨by rw [cov_no (not_t q9)],hB⟩
 ·skip
  have hgok:halfOk ((halfOf a b c).getD half0)=true:=optH_ok (not_f q9)
  refine wp_cond_false (ev (vb s21 q9)) ?_
  refine wp_skip ?_;refine th_n ?_;refine wp_seq ?_;refine wp_seq ?_
  have hXb:StaysX [23] (fun L aa ww=>(L 1=true→(fun ww v=>∃ A1 c1,v=.slice A1 ((corners p).length) c1∧New 57 3 spotC ww w8.heap.size (.slice A1 (corners p).length c1) (corners p)) ww (aa.tmps[23]?.getD undef))):=by
   intro L aa ww w' kk vv hkk hb hX
   have x0:=hX
   exact (fun h=>by rw [put_ne' (hkk 23 (by simp))];obtain ⟨A1',c1',e,f1'⟩:=x0 h;exact ⟨A1',c1',e,f1'.below hb leR⟩)
  refine wp_regK hXb (by kernel_rfl) [22,23,24,25] [some (.agg #[.slice pa.A p.length pa.c]),none,some (.int .i64 (((corners p).length:Nat):Int)),some (.int .i64 0)] (dlR 4) [22,23,24,25] [0,1,2,3] [] (by kernel_rfl) (by rw [hz];decide) ?_ (en rfl ?_ (en rfl ?_ (en rfl ?_ (en rfl ?_ .nil)))) ?_
  ·exact fun _ h=>(fun h=>by cases h)
  ·intro Lk ak ww H _ _ hN
   simp [go_sem,H.f.g rfl s4,(b3.k0 H.k).cell]
   exact (hN _ _ H.k rfl (hXb.q rfl H.x))
  ·intro Lk ak ww H _ _ hN
   have x0:=H.x
   simp [go_sem,(gS ak 22 (H.d 0 rfl rfl))]
   have hBi:=H.k.below0 hB
   refine (iCorners_c p pa ww hp (hsp.below hBi)).mono ?_
   rintro x wx ⟨_,rfl,⟨A1,c1,rfl,f0⟩,hb⟩
   have f1:=New.mono (show New 57 3 spotC wx ww.heap.size (.slice A1 (corners p).length c1) (corners p) from ⟨_,_,rfl,f0⟩) H.k.size
   exact (hN _ _ (H.k.call hb) trivial (fun _=>by rw [put_get_self (H.f.lt (by rw [hz];decide))];exact ⟨A1,c1,rfl,f1⟩))
  ·intro Lk ak ww H _ _ hN
   have x0:=H.x
   obtain ⟨A1,c1,ee1,f1⟩:=x0 (H.r 1 rfl)
   simp [go_sem,ee1]
   exact (hN _ _ H.k rfl (hXb.q rfl H.x))
  ·exact fun Lk ak ww H _ _ hN=>wp_move rfl rfl (hN _ _ H.k rfl (hXb.q rfl H.x))
  intro L a12 w13 hL hF hK hV hX;have x0:=hX;replace hz:=hF.Z hz;replace hdf:=hF.E hdf;replace s9:=hF.G s9;have s24:=gS a12 24 (hV 2 _ rfl);have s25:=gS a12 25 (hV 3 _ rfl);replace b6:=b6.k0 hK
  obtain ⟨A1,c1,s23,N1⟩:=x0 (hL 1 (by decide))
  have i1:∀ p,A1=some p→p.block<w13.heap.size:=fun p hp=>(N1.blk p hp).2;have zw8:=hZ;have zw13:=hK.size;replace hZ:=Nat.le_refl w13.heap.size;replace hB:=hK.below0 hB;clear hF hK hV hL x0 hXb s4 s21 b3;refine th_n ?_;refine wp_block ?_
  refine wp_loop (fun al wl=>al.tmps.size=34∧al.defers=[]∧∃ (k:Nat),(k≤(corners p).length)∧((((corners p).take k).all fun s=>!decide (sgn (valS ((halfOf a b c).getD half0) s) > 0))=true)∧al.tmps[9]?.getD undef=.pointer (some ⟨g6,0,none⟩)∧al.tmps[24]?.getD undef=.int .i64 (((corners p).length:Nat):Int)∧al.tmps[25]?.getD undef=.int .i64 (k:Int)∧al.tmps[23]?.getD undef=.slice A1 ((corners p).length) c1∧HasT wl g6 111 [.int .i64 (((halfOf a b c).getD half0).a),.int .i64 (((halfOf a b c).getD half0).b),.int .i64 (((halfOf a b c).getD half0).c)]∧New 57 3 spotC wl w8.heap.size (.slice A1 (corners p).length c1) (corners p)∧Below w.heap.size w wl∧w13.heap.size≤wl.heap.size) (fun al _=>((corners p).length-(intOf (al.tmps[25]?.getD undef)).toNat)) ?_ ?_
  ·exact ⟨hz,hdf,(0),(Nat.zero_le _),(rfl),s9,s24,s25,s23,b6,N1,hB,(by omega)⟩
  clear hz hdf hB hZ s9 s24 s25 s23 b6 N1
  rintro a14 w15 ⟨hz,hdf,k,hk,hall,s9,s24,s25,s23,b6,N1,hB,hZ⟩
  have zw15:=hZ;replace hZ:=Nat.le_refl w15.heap.size
  have hmu:((corners p).length-(intOf (a14.tmps[25]?.getD undef)).toNat)=((corners p).length-(intOf ((.int .i64 (k:Int)))).toNat):=by rw [s25]
  refine wp_seq ?_
  refine wp_regJ (by kernel_rfl) [26] [some (.bool (decide ((k:Int)<(((corners p).length:Nat):Int))))] (dlR 1) [26] [0] [] (fun _ _ _=>True) (by kernel_rfl) (by rw [hz];decide) ?_ (en rfl ?_ .nil) ?_
  ·exact fun _ _=>trivial
  ·exact fun Lk ak ww H _ _ hN=>wp_bin rfl (ev (H.f.g rfl s25)) (ev (H.f.g rfl s24)) rfl rfl (hN _ _ H.k rfl trivial)
  intro L a16 w17 hL hF hK hV hX;replace hz:=hF.Z hz;replace hdf:=hF.E hdf;replace s9:=hF.G s9;replace s24:=hF.G s24;replace s25:=hF.G s25;replace s23:=hF.G s23;have s26:=gS a16 26 (hV 0 _ rfl);replace b6:=b6.k0 hK;replace N1:=N1.below hK.toBelow leR;replace hZ:=Nat.le_trans hZ hK.size;replace hB:=hK.below0 hB;clear hF hK hV hL hX;refine th_n ?_;refine wp_seq ?_
  rcases Bool.eq_false_or_eq_true (decide ((k:Int)<(((corners p).length:Nat):Int))) with q18|q18
  ·skip
   have hkl:k<(corners p).length:=by have:=dec_t q18;omega
   have hcl:(corners p).length≤40:=by rw [corners_len];exact reg_len hp
   obtain ⟨bc,oc,ec_,fc⟩:=ElS.open_ (N1.out spotC_len) (by omega)
   refine wp_cond_true (ev (vb s26 q18)) ?_
   refine wp_skip ?_;refine th_n ?_;refine wp_seq ?_;refine wp_block ?_;refine wp_seq ?_
   have hXb:StaysX [12] (fun L aa ww=>(L 2=true→BoxX w17 aa ww 12 57 [.int .i64 0,.int .i64 0,.int .i64 0] (L 3) (fun _ vs=>vs=[.int .i64 (((corners p).getD k sp0).x),.int .i64 (((corners p).getD k sp0).y),.int .i64 (((corners p).getD k sp0).d)]))):=by
    intro L aa ww w' kk vv hkk hb hX
    have x0:=hX
    exact (fun h=>((x0 h).bel hb (fun _ h=>h)).put (hkk 12 (by simp)) _)
   refine wp_regK hXb (by kernel_rfl) [27,28,12,0] [some (.pointer (some ⟨bc,oc+k*3,none⟩)),some (spotV ((corners p).getD k sp0)),none,none] (dlR 4) [27,28,12] [0,1,2,3] [] (by kernel_rfl) (by rw [hz];decide) ?_ (en rfl ?_ (en rfl ?_ (en rfl ?_ (en rfl ?_ .nil)))) ?_
   ·exact fun _ h=>(fun h=>by cases h)
   ·intro Lk ak ww H _ _ hN
    simp [go_sem,H.f.g rfl s23,H.f.g rfl s25,hkl,ec_]
    exact (hN _ _ H.k rfl (hXb.q rfl H.x))
   ·intro Lk ak ww H _ _ hN
    have hE:=fc.kp H.k (by simp)
    simp [go_sem,(gS ak 27 (H.d 0 rfl rfl)),(hE.at_ sp0 (i:=k) (by omega) 0 (p:=oc+k*3) (by omega) rfl),(hE.at_ sp0 (i:=k) (by omega) 1 (p:=oc+k*3+1) (by omega) rfl),(hE.at_ sp0 (i:=k) (by omega) 2 (p:=oc+k*3+2) (by omega) rfl)]
    exact (hN _ _ H.k rfl (hXb.q rfl H.x))
   ·intro Lk ak ww H _ _ hN
    have x0:=H.x
    simp [go_sem]
    exact hN _ _ (H.k.alloc _) trivial (fun _=>by rw [show upd Lk 2 3=false from H.t 3 rfl];exact BoxX.new (s:=12) (H.f.lt (by rw [hz];decide)) H.k.size [.int .i64 0,.int .i64 0,.int .i64 0])
   ·intro Lk ak ww H _ _ hN
    have x0:=H.x
    obtain ⟨g,eg,hg,y,_⟩:=x0 (H.r 2 rfl)
    have HT:=y H.n
    simp [go_sem,(gS ak 28 (H.d 1 rfl rfl)),eg,HT.cell,HT.frz]
    exact hN undef _ (H.k.store (.inl hg) [.int .i64 (((corners p).getD k sp0).x),.int .i64 (((corners p).getD k sp0).y),.int .i64 (((corners p).getD k sp0).d)] 0) trivial (fun _=>BoxX.set eg hg HT (us:=[.int .i64 (((corners p).getD k sp0).x),.int .i64 (((corners p).getD k sp0).y),.int .i64 (((corners p).getD k sp0).d)]) rfl rfl)
   intro L a19 w20 hL hF hK hV hX;have x0:=hX;replace hz:=hF.Z hz;replace hdf:=hF.E hdf;replace s9:=hF.G s9;replace s24:=hF.G s24;replace s25:=hF.G s25;replace s23:=hF.G s23;replace b6:=b6.k0 hK
   obtain ⟨g21,s12,lg21,-,b21⟩:=x0 (hL 2 (by decide))
   obtain ⟨_,b21,rfl⟩:=b21 (hL 3 (by decide))
   have ug21:=b21.lt
   replace N1:=N1.below hK.toBelow leR;have zw17:=hZ;have zw20:=hK.size;replace hZ:=Nat.le_refl w20.heap.size;replace hB:=hK.below0 hB;clear hF hK hV hL x0 hXb s26 fc;refine th_n ?_;refine wp_seq ?_
   refine wp_regJ (by kernel_rfl) [29,30,31,32] [some (halfV ((halfOf a b c).getD half0)),some (spotV ((corners p).getD k sp0)),some (.int .i64 (sgn (valS ((halfOf a b c).getD half0) ((corners p).getD k sp0)))),some (.bool (decide (sgn (valS ((halfOf a b c).getD half0) ((corners p).getD k sp0)) > 0)))] (dlR 4) [29,30,31,32] [0,1,2,3] [] (fun _ _ _=>True) (by kernel_rfl) (by rw [hz];decide) ?_ (en rfl ?_ (en rfl ?_ (en rfl ?_ (en rfl ?_ .nil)))) ?_
   ·exact fun _ _=>trivial
   ·intro Lk ak ww H _ _ hN
    simp [go_sem,H.f.g rfl s9,(b6.k0 H.k).cell]
    exact (hN _ _ H.k rfl trivial)
   ·intro Lk ak ww H _ _ hN
    simp [go_sem,H.f.g rfl s12,(b21.k0 H.k).cell]
    exact (hN _ _ H.k rfl trivial)
   ·intro Lk ak ww H _ _ hN
    simp [go_sem,(gS ak 29 (H.d 0 rfl rfl)),(gS ak 30 (H.d 1 rfl rfl))]
    refine (iSideOf_c ((halfOf a b c).getD half0) ((corners p).getD k sp0) ww hgok (corners_ok hp _ (getD_mem hkl sp0))).mono ?_
    rintro x wx ⟨rfl,hb⟩
    exact (hN _ _ (H.k.call hb) rfl trivial)
   ·exact fun Lk ak ww H _ _ hN=>wp_bin rfl (ev (H.d 2 rfl rfl)) rfl rfl rfl (hN _ _ H.k rfl trivial)
   intro L a22 w23 hL hF hK hV hX;replace hz:=hF.Z hz;replace hdf:=hF.E hdf;replace s9:=hF.G s9;replace s24:=hF.G s24;replace s25:=hF.G s25;replace s23:=hF.G s23;have s32:=gS a22 32 (hV 3 _ rfl);replace b6:=b6.k0 hK;replace N1:=N1.below hK.toBelow leR;replace hZ:=Nat.le_trans hZ hK.size;replace hB:=hK.below0 hB;clear hF hK hV hL hX s12 b21;refine th_n ?_
   rcases Bool.eq_false_or_eq_true (decide (sgn (valS ((halfOf a b c).getD half0) ((corners p).getD k sp0)) > 0)) with q24|q24
   ·skip
    refine wp_cond_true (ev (vb s32 q24)) ?_
    refine wp_seq ?_
    refine wp_regJ (by kernel_rfl) [8] [some (.bool false)] (dlR 1) [8] [0] [] (fun _ _ _=>True) (by kernel_rfl) (by rw [hz];decide) ?_ (en rfl ?_ .nil) ?_
    ·exact fun _ _=>trivial
    ·exact fun Lk ak ww H _ _ hN=>wp_assign rfl rfl (hN _ _ H.k rfl trivial)
    intro L a25 w26 hL hF hK hV hX;replace hz:=hF.Z hz;replace hdf:=hF.E hdf;have s8:=gS a25 8 (hV 0 _ rfl);replace hZ:=Nat.le_trans hZ hK.size;replace hB:=hK.below0 hB;clear hF hK hV hL hX s9 s24 s25 s23 s32 b6 N1 i1;refine th_n ?_
    refine wp_ret ?_
    refine ib_r (th_r (th_r (ib_r (th_r ?_))))
    refine bodyPost_ret (v:=.bool false) (by simp [results,Tryz.results70,go_sem,s8]) hdf ?_
    exact ⟨by rw [cov_stop hkl q24],hB⟩
   ·skip
    refine wp_cond_false (ev (vb s32 q24)) ?_
    refine wp_skip ?_;refine ib_n (th_n ?_)
    refine wp_regJ (by kernel_rfl) [33,25] [some (.int .i64 ((k:Int)+1)),some (.int .i64 ((k:Int)+1))] (dlR 2) [33,25] [0,1] [] (fun L aa ww=>(L 1=false→aa.tmps[25]?.getD undef=.int .i64 (k:Int))) (by kernel_rfl) (by rw [hz];decide) ?_ (en rfl ?_ (en rfl ?_ .nil)) ?_
    ·exact fun _ h=>(fun _=>s25)
    ·intro Lk ak ww H _ _ hN
     have x0:=H.x
     exact wp_add rfl (ev (x0 (H.t 1 rfl))) rfl (by omega) (hN _ _ H.k rfl (fun h=>(put_ne' (by decide) _).trans (x0 h)))
    ·intro Lk ak ww H _ _ hN
     have x0:=H.x
     exact wp_move rfl (ev (H.d 0 rfl rfl)) (hN _ _ H.k rfl (fun h=>by simp [upd] at h))
    intro L a27 w28 hL hF hK hV hX;have x0:=hX;replace hz:=hF.Z hz;replace hdf:=hF.E hdf;replace s9:=hF.G s9;replace s24:=hF.G s24;replace s23:=hF.G s23;have s25:=gS a27 25 (hV 1 _ rfl);replace b6:=b6.k0 hK;replace N1:=N1.below hK.toBelow leR;replace hZ:=Nat.le_trans hZ hK.size;replace hB:=hK.below0 hB;clear hF hK hV hL x0 s32;refine th_n ?_
    refine ⟨?_, ?_⟩
    ·exact ⟨hz,hdf,(k+1),(by omega),(cov_next hkl hall q24),s9,s24,s25,s23,b6,N1,hB,(by omega)⟩
    ·show ((corners p).length-(intOf (a27.tmps[25]?.getD undef)).toNat)<_
     rw [s25,hmu];simp only [intOf];omega
  ·skip
   have ek:k=(corners p).length:=by have:=dec_f q18;omega
   rw [ek,List.take_length] at hall
   refine wp_cond_false (ev (vb s26 q18)) ?_
   refine wp_exit ?_
   refine th_e (th_e (ib_x (th_n ?_)));refine wp_seq ?_
   refine wp_regJ (by kernel_rfl) [8] [some (.bool true)] (dlR 1) [8] [0] [] (fun _ _ _=>True) (by kernel_rfl) (by rw [hz];decide) ?_ (en rfl ?_ .nil) ?_
   ·exact fun _ _=>trivial
   ·exact fun Lk ak ww H _ _ hN=>wp_assign rfl rfl (hN _ _ H.k rfl trivial)
   intro L a29 w30 hL hF hK hV hX;replace hz:=hF.Z hz;replace hdf:=hF.E hdf;have s8:=gS a29 8 (hV 0 _ rfl);replace hZ:=Nat.le_trans hZ hK.size;replace hB:=hK.below0 hB;clear hF hK hV hL hX s9 s24 s25 s23 s26 b6 N1 i1;refine th_n ?_
   refine wp_ret ?_
   refine bodyPost_ret (v:=.bool true) (by simp [results,Tryz.results70,go_sem,s8]) hdf ?_
   exact ⟨by rw [cov_yes (not_f q9) hall],hB⟩
set_option maxRecDepth 100000 in
set_option maxHeartbeats 3000000 in
theorem sFree_c (r:Room) (p:List Half) (h:Half) (ra:RoomA) (pa:SlA) (w:World) (hM:MapIn r.map r.div) (hp:regionOk p=true) (hh:halfOk h=true) (hs:RoomSl w r ra) (hsp:Sl 3 halfC w pa.A p) :
 Calls Tryz.prog 64 #[roomV r ra,.agg #[.slice pa.A p.length pa.c],halfV h] w fun x w'=>x=.returned (.bool (covB p (pulH r.map r.div h)))∧Below w.heap.size w w':=by
 have hml:=hM.len
 obtain ⟨bm,om,em,fm⟩:=ElS.open_ hs.map (by rw [hml];omega)
 have hbm:=fm.1
 obtain ⟨⟨k1,k2⟩,⟨k3,k4⟩,⟨k5,k6⟩,⟨k7,k8⟩,⟨k9,k10⟩⟩:=pulB hM hh
 have hMd:=hM.d
 refine calls_v Tryz.func64 rfl (n:=64) Tryz.ntmps64 (by simp) ?_
 intro a0 hz hdf ha
 have s0:a0.tmps[0]?.getD undef=roomV r ra:=ha 0 _ rfl;have s1:a0.tmps[1]?.getD undef=.agg #[.slice pa.A p.length pa.c]:=ha 1 _ rfl;have s2:a0.tmps[2]?.getD undef=halfV h:=ha 2 _ rfl;clear ha
 have hB:=Below.refl w.heap.size w
 have hZ:=Nat.le_refl w.heap.size
 refine wp_seq ?_
 refine wp_entry [3,4,5,6] [.pointer (some ⟨w.heap.size,0,none⟩),.pointer (some ⟨(w.heap.size+1),0,none⟩),.pointer (some ⟨(w.heap.size+2),0,none⟩),.bool false] [some (.cells (roomC r ra).toArray 39),some (.cells [.slice pa.A p.length pa.c].toArray 37),some (.cells [.int .i64 h.a,.int .i64 h.b,.int .i64 h.c].toArray 111),none] [0,1,2,3] [3,4,5,6] [0,1,2,3] (by kernel_rfl) (by rw [hz];decide) (ec ?_ (ec ?_ (ec ?_ (ec ?_ .nil)))) ?_
 ·intro a w' hF hs N Q hN;simp [go_sem,hF.g rfl s0];rw [hs];exact hN
 ·intro a w' hF hs N Q hN;simp [go_sem,hF.g rfl s1];rw [hs];exact hN
 ·intro a w' hF hs N Q hN;simp [go_sem,hF.g rfl s2];rw [hs];exact hN
 ·intro a w' hF hs N Q hN;simp [go_sem];exact hN
 intro a1 w2 hF hV hb hO
 replace hz:=hF.size.trans hz;replace hdf:=hF.defers.trans hdf
 have s3:a1.tmps[3]?.getD undef=.pointer (some ⟨w.heap.size,0,none⟩):=hV 0 (by decide)
 have s4:a1.tmps[4]?.getD undef=.pointer (some ⟨(w.heap.size+1),0,none⟩):=hV 1 (by decide)
 have s5:a1.tmps[5]?.getD undef=.pointer (some ⟨(w.heap.size+2),0,none⟩):=hV 2 (by decide)
 have b3:HasT w2 w.heap.size 39 (roomC r ra):=hO 0 _ rfl
 have b4:HasT w2 (w.heap.size+1) 37 [.slice pa.A p.length pa.c]:=hO 1 _ rfl
 have b5:HasT w2 (w.heap.size+2) 111 [.int .i64 h.a,.int .i64 h.b,.int .i64 h.c]:=hO 2 _ rfl
 replace fm:=fm.bel hb
 have hG:=b5.lt
 replace hB:=below_tr hB hb;have zw2:=Nat.le_trans hZ hb.size;replace hZ:=Nat.le_refl w2.heap.size;clear hF hV hb hO s0 s1 s2;refine th_n ?_;refine wp_seq ?_
 have hXb:StaysX [7] (fun L aa ww=>(L 39=true→BoxX w2 aa ww 7 111 [.int .i64 0,.int .i64 0,.int .i64 0] (L 40) (fun _ vs=>vs=[.int .i64 (((pulH r.map r.div h).getD half0).a),.int .i64 (((pulH r.map r.div h).getD half0).b),.int .i64 (((pulH r.map r.div h).getD half0).c)]))):=by
  intro L aa ww w' kk vv hkk hb hX
  have x0:=hX
  exact (fun h=>((x0 h).bel hb (fun _ h=>h)).put (hkk 7 (by simp)) _)
 refine wp_regK hXb (by kernel_rfl) [12,13,14,15,16,17,18,19,20,21,22,23,24,25,26,27,28,29,30,31,32,33,34,35,36,37,38,39,40,41,42,43,44,45,46,47,11,48,49,7,0,8] [some (.pointer (some ⟨(w.heap.size+2),0,none⟩)),some (.int .i64 h.a),some (.pointer (some ⟨w.heap.size,0,none⟩)),some (.slice ra.map.A r.map.length ra.map.c),some (.pointer (some ⟨bm,om,none⟩)),some (.int .i64 (r.map.getD 0 0)),some (.int .i64 (h.a*(r.map.getD 0 0))),some (.pointer (some ⟨(w.heap.size+2),1,none⟩)),some (.int .i64 h.b),some (.pointer (some ⟨w.heap.size,0,none⟩)),some (.slice ra.map.A r.map.length ra.map.c),some (.pointer (some ⟨bm,om+2,none⟩)),some (.int .i64 (r.map.getD 2 0)),some (.int .i64 (h.b*(r.map.getD 2 0))),some (.int .i64 ((h.a*(r.map.getD 0 0))+(h.b*(r.map.getD 2 0)))),some (.pointer (some ⟨(w.heap.size+2),0,none⟩)),some (.int .i64 h.a),some (.pointer (some ⟨w.heap.size,0,none⟩)),some (.slice ra.map.A r.map.length ra.map.c),some (.pointer (some ⟨bm,om+1,none⟩)),some (.int .i64 (r.map.getD 1 0)),some (.int .i64 (h.a*(r.map.getD 1 0))),some (.pointer (some ⟨(w.heap.size+2),1,none⟩)),some (.int .i64 h.b),some (.pointer (some ⟨w.heap.size,0,none⟩)),some (.slice ra.map.A r.map.length ra.map.c),some (.pointer (some ⟨bm,om+3,none⟩)),some (.int .i64 (r.map.getD 3 0)),some (.int .i64 (h.b*(r.map.getD 3 0))),some (.int .i64 ((h.a*(r.map.getD 1 0))+(h.b*(r.map.getD 3 0)))),some (.pointer (some ⟨(w.heap.size+2),2,none⟩)),some (.int .i64 h.c),some (.pointer (some ⟨w.heap.size,1,none⟩)),some (.int .i64 r.div),some (.int .i64 (h.c*r.div)),some (.tuple #[halfV ((pulH r.map r.div h).getD half0),.bool ((pulH r.map r.div h).isSome)]),some (.tuple #[halfV ((pulH r.map r.div h).getD half0),.bool ((pulH r.map r.div h).isSome)]),some (halfV ((pulH r.map r.div h).getD half0)),some (.bool ((pulH r.map r.div h).isSome)),none,none,some (.bool ((pulH r.map r.div h).isSome))] ([[],[0],[],[2],[2,3],[2,3,4],[0,1,2,3,4,5],[],[7],[],[9],[9,10],[9,10,11],[7,8,9,10,11,12],[0,1,2,3,4,5,6,7,8,9,10,11,12,13],[],[15],[],[17],[17,18],[17,18,19],[15,16,17,18,19,20],[],[22],[],[24],[24,25],[24,25,26],[22,23,24,25,26,27],[15,16,17,18,19,20,21,22,23,24,25,26,27,28],[],[30],[],[32],[30,31,32,33],[0,1,2,3,4,5,6,7,8,9,10,11,12,13,14,15,16,17,18,19,20,21,22,23,24,25,26,27,28,29,30,31,32,33,34],[0,1,2,3,4,5,6,7,8,9,10,11,12,13,14,15,16,17,18,19,20,21,22,23,24,25,26,27,28,29,30,31,32,33,34,35],[0,1,2,3,4,5,6,7,8,9,10,11,12,13,14,15,16,17,18,19,20,21,22,23,24,25,26,27,28,29,30,31,32,33,34,35,36],[0,1,2,3,4,5,6,7,8,9,10,11,12,13,14,15,16,17,18,19,20,21,22,23,24,25,26,27,28,29,30,31,32,33,34,35,36],[],[0,1,2,3,4,5,6,7,8,9,10,11,12,13,14,15,16,17,18,19,20,21,22,23,24,25,26,27,28,29,30,31,32,33,34,35,36,37,39],[0,1,2,3,4,5,6,7,8,9,10,11,12,13,14,15,16,17,18,19,20,21,22,23,24,25,26,27,28,29,30,31,32,33,34,35,36,37,38,39,40]]) [12,13,14,15,16,17,18,19,20,21,22,23,24,25,26,27,28,29,30,31,32,33,34,35,36,37,38,39,40,41,42,43,44,45,46,47,11,48,49,7,8] [0,1,2,3,4,5,6,7,8,9,10,11,12,13,14,15,16,17,18,19,20,21,22,23,24,25,26,27,28,29,30,31,32,33,34,35,36,37,38,39,40,41] [] (by kernel_rfl) (by rw [hz];decide) ?_ (en rfl ?_ (en rfl ?_ (en rfl ?_ (en rfl ?_ (en rfl ?_ (en rfl ?_ (en rfl ?_ (en rfl ?_ (en rfl ?_ (en rfl ?_ (en rfl ?_ (en rfl ?_ (en rfl ?_ (en rfl ?_ (en rfl ?_ (en rfl ?_ (en rfl ?_ (en rfl ?_ (en rfl ?_ (en rfl ?_ (en rfl ?_ (en rfl ?_ (en rfl ?_ (en rfl ?_ (en rfl ?_ (en rfl ?_ (en rfl ?_ (en rfl ?_ (en rfl ?_ (en rfl ?_ (en rfl ?_ (en rfl ?_ (en rfl ?_ (en rfl ?_ (en rfl ?_ (en rfl ?_ (en rfl ?_ (en rfl ?_ (en rfl ?_ (en rfl ?_ (en rfl ?_ (en rfl ?_ .nil)))))))))))))))))))))))))))))))))))))))))) ?_
 ·exact fun _ h=>(fun h=>by cases h)
 ·intro Lk ak ww H _ _ hN
  simp [go_sem,H.f.g rfl s5]
  exact (hN _ _ H.k rfl (hXb.q rfl H.x))
 ·intro Lk ak ww H _ _ hN
  simp [go_sem,(gS ak 12 (H.d 0 rfl rfl)),(b5.k0 H.k).cell]
  exact (hN _ _ H.k rfl (hXb.q rfl H.x))
 ·intro Lk ak ww H _ _ hN
  simp [go_sem,H.f.g rfl s3]
  exact (hN _ _ H.k rfl (hXb.q rfl H.x))
 ·intro Lk ak ww H _ _ hN
  simp [go_sem,(gS ak 14 (H.d 2 rfl rfl)),(b3.k0 H.k).cell]
  exact (hN _ _ H.k rfl (hXb.q rfl H.x))
 ·intro Lk ak ww H _ _ hN
  simp [go_sem,(gS ak 15 (H.d 3 rfl rfl)),hml,em]
  exact (hN _ _ H.k rfl (hXb.q rfl H.x))
 ·intro Lk ak ww H _ _ hN
  have hE:=fm.kp H.k (by simp)
  simp [go_sem,(gS ak 16 (H.d 4 rfl rfl)),(hE.at_ 0 (i:=0) (by omega) 0 (p:=om) (by omega) rfl)]
  exact (hN _ _ H.k rfl (hXb.q rfl H.x))
 ·exact fun Lk ak ww H _ _ hN=>wp_mul rfl (ev (H.d 1 rfl rfl)) (ev (H.d 5 rfl rfl)) (by omega) (hN _ _ H.k rfl (hXb.q rfl H.x))
 ·intro Lk ak ww H _ _ hN
  simp [go_sem,H.f.g rfl s5]
  exact (hN _ _ H.k rfl (hXb.q rfl H.x))
 ·intro Lk ak ww H _ _ hN
  simp [go_sem,(gS ak 19 (H.d 7 rfl rfl)),(b5.k0 H.k).cell]
  exact (hN _ _ H.k rfl (hXb.q rfl H.x))
 ·intro Lk ak ww H _ _ hN
  simp [go_sem,H.f.g rfl s3]
  exact (hN _ _ H.k rfl (hXb.q rfl H.x))
 ·intro Lk ak ww H _ _ hN
  simp [go_sem,(gS ak 21 (H.d 9 rfl rfl)),(b3.k0 H.k).cell]
  exact (hN _ _ H.k rfl (hXb.q rfl H.x))
 ·intro Lk ak ww H _ _ hN
  simp [go_sem,(gS ak 22 (H.d 10 rfl rfl)),hml,em]
  exact (hN _ _ H.k rfl (hXb.q rfl H.x))
 ·intro Lk ak ww H _ _ hN
  have hE:=fm.kp H.k (by simp)
  simp [go_sem,(gS ak 23 (H.d 11 rfl rfl)),(hE.at_ 0 (i:=2) (by omega) 0 (p:=om+2) (by omega) rfl)]
  exact (hN _ _ H.k rfl (hXb.q rfl H.x))
 ·exact fun Lk ak ww H _ _ hN=>wp_mul rfl (ev (H.d 8 rfl rfl)) (ev (H.d 12 rfl rfl)) (by omega) (hN _ _ H.k rfl (hXb.q rfl H.x))
 ·exact fun Lk ak ww H _ _ hN=>wp_add rfl (ev (H.d 6 rfl rfl)) (ev (H.d 13 rfl rfl)) (by omega) (hN _ _ H.k rfl (hXb.q rfl H.x))
 ·intro Lk ak ww H _ _ hN
  simp [go_sem,H.f.g rfl s5]
  exact (hN _ _ H.k rfl (hXb.q rfl H.x))
 ·intro Lk ak ww H _ _ hN
  simp [go_sem,(gS ak 27 (H.d 15 rfl rfl)),(b5.k0 H.k).cell]
  exact (hN _ _ H.k rfl (hXb.q rfl H.x))
 ·intro Lk ak ww H _ _ hN
  simp [go_sem,H.f.g rfl s3]
  exact (hN _ _ H.k rfl (hXb.q rfl H.x))
 ·intro Lk ak ww H _ _ hN
  simp [go_sem,(gS ak 29 (H.d 17 rfl rfl)),(b3.k0 H.k).cell]
  exact (hN _ _ H.k rfl (hXb.q rfl H.x))
 ·intro Lk ak ww H _ _ hN
  simp [go_sem,(gS ak 30 (H.d 18 rfl rfl)),hml,em]
  exact (hN _ _ H.k rfl (hXb.q rfl H.x))
 ·intro Lk ak ww H _ _ hN
  have hE:=fm.kp H.k (by simp)
  simp [go_sem,(gS ak 31 (H.d 19 rfl rfl)),(hE.at_ 0 (i:=1) (by omega) 0 (p:=om+1) (by omega) rfl)]
  exact (hN _ _ H.k rfl (hXb.q rfl H.x))
 ·exact fun Lk ak ww H _ _ hN=>wp_mul rfl (ev (H.d 16 rfl rfl)) (ev (H.d 20 rfl rfl)) (by omega) (hN _ _ H.k rfl (hXb.q rfl H.x))
 ·intro Lk ak ww H _ _ hN
  simp [go_sem,H.f.g rfl s5]
  exact (hN _ _ H.k rfl (hXb.q rfl H.x))
 ·intro Lk ak ww H _ _ hN
  simp [go_sem,(gS ak 34 (H.d 22 rfl rfl)),(b5.k0 H.k).cell]
  exact (hN _ _ H.k rfl (hXb.q rfl H.x))
 ·intro Lk ak ww H _ _ hN
  simp [go_sem,H.f.g rfl s3]
  exact (hN _ _ H.k rfl (hXb.q rfl H.x))
 ·intro Lk ak ww H _ _ hN
  simp [go_sem,(gS ak 36 (H.d 24 rfl rfl)),(b3.k0 H.k).cell]
  exact (hN _ _ H.k rfl (hXb.q rfl H.x))
 ·intro Lk ak ww H _ _ hN
  simp [go_sem,(gS ak 37 (H.d 25 rfl rfl)),hml,em]
  exact (hN _ _ H.k rfl (hXb.q rfl H.x))
 ·intro Lk ak ww H _ _ hN
  have hE:=fm.kp H.k (by simp)
  simp [go_sem,(gS ak 38 (H.d 26 rfl rfl)),(hE.at_ 0 (i:=3) (by omega) 0 (p:=om+3) (by omega) rfl)]
  exact (hN _ _ H.k rfl (hXb.q rfl H.x))
 ·exact fun Lk ak ww H _ _ hN=>wp_mul rfl (ev (H.d 23 rfl rfl)) (ev (H.d 27 rfl rfl)) (by omega) (hN _ _ H.k rfl (hXb.q rfl H.x))
 ·exact fun Lk ak ww H _ _ hN=>wp_add rfl (ev (H.d 21 rfl rfl)) (ev (H.d 28 rfl rfl)) (by omega) (hN _ _ H.k rfl (hXb.q rfl H.x))
 ·intro Lk ak ww H _ _ hN
  simp [go_sem,H.f.g rfl s5]
  exact (hN _ _ H.k rfl (hXb.q rfl H.x))
 ·intro Lk ak ww H _ _ hN
  simp [go_sem,(gS ak 42 (H.d 30 rfl rfl)),(b5.k0 H.k).cell]
  exact (hN _ _ H.k rfl (hXb.q rfl H.x))
 ·intro Lk ak ww H _ _ hN
  simp [go_sem,H.f.g rfl s3]
  exact (hN _ _ H.k rfl (hXb.q rfl H.x))
 ·intro Lk ak ww H _ _ hN
  simp [go_sem,(gS ak 44 (H.d 32 rfl rfl)),(b3.k0 H.k).cell]
  exact (hN _ _ H.k rfl (hXb.q rfl H.x))
 ·exact fun Lk ak ww H _ _ hN=>wp_mul rfl (ev (H.d 31 rfl rfl)) (ev (H.d 33 rfl rfl)) (by omega) (hN _ _ H.k rfl (hXb.q rfl H.x))
 ·intro Lk ak ww H _ _ hN
  simp [go_sem,(gS ak 26 (H.d 14 rfl rfl)),(gS ak 41 (H.d 29 rfl rfl)),(gS ak 46 (H.d 34 rfl rfl))]
  refine (show Calls Tryz.prog 128 #[.int .i64 (h.a*r.map.getD 0 0+h.b*r.map.getD 2 0),.int .i64 (h.a*r.map.getD 1 0+h.b*r.map.getD 3 0),.int .i64 (h.c*r.div)] ww (fun e w'=>e=.returned (optHalfV (pulH r.map r.div h))∧Below ww.heap.size ww w') from sHalfOf_c _ _ _ ww ⟨by omega,by omega⟩ ⟨by omega,by omega⟩ ⟨by omega,by omega⟩).mono ?_
  rintro x wx ⟨rfl,hb⟩
  exact (hN _ _ (H.k.call hb) (optHalf_eq _) (hXb.b rfl hb H.x))
 ·exact fun Lk ak ww H _ _ hN=>wp_move rfl (ev (H.d 35 rfl rfl)) (hN _ _ H.k rfl (hXb.q rfl H.x))
 ·exact fun Lk ak ww H _ _ hN=>wp_extract rfl (ev (H.d 36 rfl rfl)) rfl (hN _ _ H.k rfl (hXb.q rfl H.x))
 ·exact fun Lk ak ww H _ _ hN=>wp_extract rfl (ev (H.d 36 rfl rfl)) rfl (hN _ _ H.k rfl (hXb.q rfl H.x))
 ·intro Lk ak ww H _ _ hN
  have x0:=H.x
  simp [go_sem]
  exact hN _ _ (H.k.alloc _) trivial (fun _=>by rw [show upd Lk 39 40=false from H.t 40 rfl];exact BoxX.new (s:=7) (H.f.lt (by rw [hz];decide)) H.k.size [.int .i64 0,.int .i64 0,.int .i64 0])
 ·intro Lk ak ww H _ _ hN
  have x0:=H.x
  obtain ⟨g,eg,hg,y,_⟩:=x0 (H.r 39 rfl)
  have HT:=y H.n
  simp [go_sem,(gS ak 48 (H.d 37 rfl rfl)),eg,HT.cell,HT.frz]
  exact hN undef _ (H.k.store (.inl hg) [.int .i64 (((pulH r.map r.div h).getD half0).a),.int .i64 (((pulH r.map r.div h).getD half0).b),.int .i64 (((pulH r.map r.div h).getD half0).c)] 0) trivial (fun _=>BoxX.set eg hg HT (us:=[.int .i64 (((pulH r.map r.div h).getD half0).a),.int .i64 (((pulH r.map r.div h).getD half0).b),.int .i64 (((pulH r.map r.div h).getD half0).c)]) rfl rfl)
 ·exact fun Lk ak ww H _ _ hN=>wp_assign rfl (ev (H.d 38 rfl rfl)) (hN _ _ H.k rfl (hXb.q rfl H.x))
 intro L a6 w7 hL hF hK hV hX;have x0:=hX;replace hz:=hF.Z hz;replace hdf:=hF.E hdf;replace s4:=hF.G s4;have s8:=gS a6 8 (hV 41 _ rfl);replace b4:=b4.k0 hK
 obtain ⟨g8,s7,lg8,-,b8⟩:=x0 (hL 39 (by decide))
 obtain ⟨_,b8,rfl⟩:=b8 (hL 40 (by decide))
 have ug8:=b8.lt
 replace fm:=fm.kp hK (by simp)
 have zw7:=hK.size;replace hZ:=Nat.le_refl w7.heap.size;replace hB:=hK.below0 hB;clear hF hK hV hL x0 hXb s3 s5 b3 b5;refine th_n ?_;refine wp_seq ?_;refine wp_seq ?_
 refine wp_regJ (by kernel_rfl) [50,51] [some (.bool ((pulH r.map r.div h).isSome)),some (.bool (!((pulH r.map r.div h).isSome)))] (dlR 2) [50,51] [0,1] [] (fun _ _ _=>True) (by kernel_rfl) (by rw [hz];decide) ?_ (en rfl ?_ (en rfl ?_ .nil)) ?_
 ·exact fun _ _=>trivial
 ·exact fun Lk ak ww H _ _ hN=>wp_move rfl (ev (H.f.g rfl s8)) (hN _ _ H.k rfl trivial)
 ·exact fun Lk ak ww H _ _ hN=>wp_not rfl (ev (H.d 0 rfl rfl)) (hN _ _ H.k rfl trivial)
 intro L a9 w10 hL hF hK hV hX;replace hz:=hF.Z hz;replace hdf:=hF.E hdf;replace s4:=hF.G s4;replace s7:=hF.G s7;have s51:=gS a9 51 (hV 1 _ rfl);replace b4:=b4.k0 hK;replace b8:=b8.k0 hK
 replace fm:=fm.kp hK (by simp)
 replace hZ:=Nat.le_trans hZ hK.size;replace hB:=hK.below0 hB;clear hF hK hV hL hX s8;refine th_n ?_
 rcases Bool.eq_false_or_eq_true (!((pulH r.map r.div h).isSome)) with q11|q11
 ·skip
  refine wp_cond_true (ev (vb s51 q11)) ?_
  refine wp_seq ?_
  refine wp_regJ (by kernel_rfl) [6] [some (.bool false)] (dlR 1) [6] [0] [] (fun _ _ _=>True) (by kernel_rfl) (by rw [hz];decide) ?_ (en rfl ?_ .nil) ?_
  ·exact fun _ _=>trivial
  ·exact fun Lk ak ww H _ _ hN=>wp_assign rfl rfl (hN _ _ H.k rfl trivial)
  intro L a12 w13 hL hF hK hV hX;replace hz:=hF.Z hz;replace hdf:=hF.E hdf;have s6:=gS a12 6 (hV 0 _ rfl)
  replace fm:=fm.kp hK (by simp)
  replace hZ:=Nat.le_trans hZ hK.size;replace hB:=hK.below0 hB;clear hF hK hV hL hX s4 s7 s51 b4 b8;refine th_n ?_
  refine wp_ret ?_
  refine th_r ?_
  refine bodyPost_ret (v:=.bool false) (by simp [results,Tryz.results64,go_sem,s6]) hdf ?_
  exact ⟨by rw [cov_no (not_t q11)],hB⟩
 ·skip
  have hgok:halfOk ((pulH r.map r.div h).getD half0)=true:=optH_ok (not_f q11)
  refine wp_cond_false (ev (vb s51 q11)) ?_
  refine wp_skip ?_;refine th_n ?_;refine wp_seq ?_;refine wp_seq ?_
  have hXb:StaysX [53] (fun L aa ww=>(L 1=true→(fun ww v=>∃ A1 c1,v=.slice A1 ((corners p).length) c1∧New 57 3 spotC ww w10.heap.size (.slice A1 (corners p).length c1) (corners p)) ww (aa.tmps[53]?.getD undef))):=by
   intro L aa ww w' kk vv hkk hb hX
   have x0:=hX
   exact (fun h=>by rw [put_ne' (hkk 53 (by simp))];obtain ⟨A1',c1',e,f1'⟩:=x0 h;exact ⟨A1',c1',e,f1'.below hb leR⟩)
  refine wp_regK hXb (by kernel_rfl) [52,53,54,55] [some (.agg #[.slice pa.A p.length pa.c]),none,some (.int .i64 (((corners p).length:Nat):Int)),some (.int .i64 0)] (dlR 4) [52,53,54,55] [0,1,2,3] [] (by kernel_rfl) (by rw [hz];decide) ?_ (en rfl ?_ (en rfl ?_ (en rfl ?_ (en rfl ?_ .nil)))) ?_
  ·exact fun _ h=>(fun h=>by cases h)
  ·intro Lk ak ww H _ _ hN
   simp [go_sem,H.f.g rfl s4,(b4.k0 H.k).cell]
   exact (hN _ _ H.k rfl (hXb.q rfl H.x))
  ·intro Lk ak ww H _ _ hN
   have x0:=H.x
   simp [go_sem,(gS ak 52 (H.d 0 rfl rfl))]
   have hBi:=H.k.below0 hB
   refine (sCorners_c p pa ww hp (hsp.below hBi)).mono ?_
   rintro x wx ⟨_,rfl,⟨A1,c1,rfl,f0⟩,hb⟩
   have f1:=New.mono (show New 57 3 spotC wx ww.heap.size (.slice A1 (corners p).length c1) (corners p) from ⟨_,_,rfl,f0⟩) H.k.size
   exact (hN _ _ (H.k.call hb) trivial (fun _=>by rw [put_get_self (H.f.lt (by rw [hz];decide))];exact ⟨A1,c1,rfl,f1⟩))
  ·intro Lk ak ww H _ _ hN
   have x0:=H.x
   obtain ⟨A1,c1,ee1,f1⟩:=x0 (H.r 1 rfl)
   simp [go_sem,ee1]
   exact (hN _ _ H.k rfl (hXb.q rfl H.x))
  ·exact fun Lk ak ww H _ _ hN=>wp_move rfl rfl (hN _ _ H.k rfl (hXb.q rfl H.x))
  intro L a14 w15 hL hF hK hV hX;have x0:=hX;replace hz:=hF.Z hz;replace hdf:=hF.E hdf;replace s7:=hF.G s7;have s54:=gS a14 54 (hV 2 _ rfl);have s55:=gS a14 55 (hV 3 _ rfl);replace b8:=b8.k0 hK
  obtain ⟨A1,c1,s53,N1⟩:=x0 (hL 1 (by decide))
  have i1:∀ p,A1=some p→p.block<w15.heap.size:=fun p hp=>(N1.blk p hp).2
  replace fm:=fm.kp hK (by simp)
  have zw10:=hZ;have zw15:=hK.size;replace hZ:=Nat.le_refl w15.heap.size;replace hB:=hK.below0 hB;clear hF hK hV hL x0 hXb s4 s51 b4;refine th_n ?_;refine wp_block ?_
  refine wp_loop (fun al wl=>al.tmps.size=64∧al.defers=[]∧∃ (k:Nat),(k≤(corners p).length)∧((((corners p).take k).all fun s=>!decide (sgn (valS ((pulH r.map r.div h).getD half0) s) > 0))=true)∧al.tmps[7]?.getD undef=.pointer (some ⟨g8,0,none⟩)∧al.tmps[54]?.getD undef=.int .i64 (((corners p).length:Nat):Int)∧al.tmps[55]?.getD undef=.int .i64 (k:Int)∧al.tmps[53]?.getD undef=.slice A1 ((corners p).length) c1∧HasT wl g8 111 [.int .i64 (((pulH r.map r.div h).getD half0).a),.int .i64 (((pulH r.map r.div h).getD half0).b),.int .i64 (((pulH r.map r.div h).getD half0).c)]∧New 57 3 spotC wl w10.heap.size (.slice A1 (corners p).length c1) (corners p)∧Below w.heap.size w wl∧w15.heap.size≤wl.heap.size) (fun al _=>((corners p).length-(intOf (al.tmps[55]?.getD undef)).toNat)) ?_ ?_
  ·exact ⟨hz,hdf,(0),(Nat.zero_le _),(rfl),s7,s54,s55,s53,b8,N1,hB,(by omega)⟩
  clear hz hdf hB hZ s7 s54 s55 s53 b8 N1
  rintro a16 w17 ⟨hz,hdf,k,hk,hall,s7,s54,s55,s53,b8,N1,hB,hZ⟩
  have zw17:=hZ;replace hZ:=Nat.le_refl w17.heap.size
  have hmu:((corners p).length-(intOf (a16.tmps[55]?.getD undef)).toNat)=((corners p).length-(intOf ((.int .i64 (k:Int)))).toNat):=by rw [s55]
  refine wp_seq ?_
  refine wp_regJ (by kernel_rfl) [56] [some (.bool (decide ((k:Int)<(((corners p).length:Nat):Int))))] (dlR 1) [56] [0] [] (fun _ _ _=>True) (by kernel_rfl) (by rw [hz];decide) ?_ (en rfl ?_ .nil) ?_
  ·exact fun _ _=>trivial
  ·exact fun Lk ak ww H _ _ hN=>wp_bin rfl (ev (H.f.g rfl s55)) (ev (H.f.g rfl s54)) rfl rfl (hN _ _ H.k rfl trivial)
  intro L a18 w19 hL hF hK hV hX;replace hz:=hF.Z hz;replace hdf:=hF.E hdf;replace s7:=hF.G s7;replace s54:=hF.G s54;replace s55:=hF.G s55;replace s53:=hF.G s53;have s56:=gS a18 56 (hV 0 _ rfl);replace b8:=b8.k0 hK;replace N1:=N1.below hK.toBelow leR;replace hZ:=Nat.le_trans hZ hK.size;replace hB:=hK.below0 hB;clear hF hK hV hL hX;refine th_n ?_;refine wp_seq ?_
  rcases Bool.eq_false_or_eq_true (decide ((k:Int)<(((corners p).length:Nat):Int))) with q20|q20
  ·skip
   have hkl:k<(corners p).length:=by have:=dec_t q20;omega
   have hcl:(corners p).length≤40:=by rw [corners_len];exact reg_len hp
   obtain ⟨bc,oc,ec_,fc⟩:=ElS.open_ (N1.out spotC_len) (by omega)
   refine wp_cond_true (ev (vb s56 q20)) ?_
   refine wp_skip ?_;refine th_n ?_;refine wp_seq ?_;refine wp_block ?_;refine wp_seq ?_
   have hXb:StaysX [10] (fun L aa ww=>(L 2=true→BoxX w19 aa ww 10 57 [.int .i64 0,.int .i64 0,.int .i64 0] (L 3) (fun _ vs=>vs=[.int .i64 (((corners p).getD k sp0).x),.int .i64 (((corners p).getD k sp0).y),.int .i64 (((corners p).getD k sp0).d)]))):=by
    intro L aa ww w' kk vv hkk hb hX
    have x0:=hX
    exact (fun h=>((x0 h).bel hb (fun _ h=>h)).put (hkk 10 (by simp)) _)
   refine wp_regK hXb (by kernel_rfl) [57,58,10,0] [some (.pointer (some ⟨bc,oc+k*3,none⟩)),some (spotV ((corners p).getD k sp0)),none,none] (dlR 4) [57,58,10] [0,1,2,3] [] (by kernel_rfl) (by rw [hz];decide) ?_ (en rfl ?_ (en rfl ?_ (en rfl ?_ (en rfl ?_ .nil)))) ?_
   ·exact fun _ h=>(fun h=>by cases h)
   ·intro Lk ak ww H _ _ hN
    simp [go_sem,H.f.g rfl s53,H.f.g rfl s55,hkl,ec_]
    exact (hN _ _ H.k rfl (hXb.q rfl H.x))
   ·intro Lk ak ww H _ _ hN
    have hE:=fc.kp H.k (by simp)
    simp [go_sem,(gS ak 57 (H.d 0 rfl rfl)),(hE.at_ sp0 (i:=k) (by omega) 0 (p:=oc+k*3) (by omega) rfl),(hE.at_ sp0 (i:=k) (by omega) 1 (p:=oc+k*3+1) (by omega) rfl),(hE.at_ sp0 (i:=k) (by omega) 2 (p:=oc+k*3+2) (by omega) rfl)]
    exact (hN _ _ H.k rfl (hXb.q rfl H.x))
   ·intro Lk ak ww H _ _ hN
    have x0:=H.x
    simp [go_sem]
    exact hN _ _ (H.k.alloc _) trivial (fun _=>by rw [show upd Lk 2 3=false from H.t 3 rfl];exact BoxX.new (s:=10) (H.f.lt (by rw [hz];decide)) H.k.size [.int .i64 0,.int .i64 0,.int .i64 0])
   ·intro Lk ak ww H _ _ hN
    have x0:=H.x
    obtain ⟨g,eg,hg,y,_⟩:=x0 (H.r 2 rfl)
    have HT:=y H.n
    simp [go_sem,(gS ak 58 (H.d 1 rfl rfl)),eg,HT.cell,HT.frz]
    exact hN undef _ (H.k.store (.inl hg) [.int .i64 (((corners p).getD k sp0).x),.int .i64 (((corners p).getD k sp0).y),.int .i64 (((corners p).getD k sp0).d)] 0) trivial (fun _=>BoxX.set eg hg HT (us:=[.int .i64 (((corners p).getD k sp0).x),.int .i64 (((corners p).getD k sp0).y),.int .i64 (((corners p).getD k sp0).d)]) rfl rfl)
   intro L a21 w22 hL hF hK hV hX;have x0:=hX;replace hz:=hF.Z hz;replace hdf:=hF.E hdf;replace s7:=hF.G s7;replace s54:=hF.G s54;replace s55:=hF.G s55;replace s53:=hF.G s53;replace b8:=b8.k0 hK
   obtain ⟨g23,s10,lg23,-,b23⟩:=x0 (hL 2 (by decide))
   obtain ⟨_,b23,rfl⟩:=b23 (hL 3 (by decide))
   have ug23:=b23.lt
   replace N1:=N1.below hK.toBelow leR;have zw19:=hZ;have zw22:=hK.size;replace hZ:=Nat.le_refl w22.heap.size;replace hB:=hK.below0 hB;clear hF hK hV hL x0 hXb s56 fc;refine th_n ?_;refine wp_seq ?_
   refine wp_regJ (by kernel_rfl) [59,60,61,62] [some (halfV ((pulH r.map r.div h).getD half0)),some (spotV ((corners p).getD k sp0)),some (.int .i64 (sgn (valS ((pulH r.map r.div h).getD half0) ((corners p).getD k sp0)))),some (.bool (decide (sgn (valS ((pulH r.map r.div h).getD half0) ((corners p).getD k sp0)) > 0)))] (dlR 4) [59,60,61,62] [0,1,2,3] [] (fun _ _ _=>True) (by kernel_rfl) (by rw [hz];decide) ?_ (en rfl ?_ (en rfl ?_ (en rfl ?_ (en rfl ?_ .nil)))) ?_
   ·exact fun _ _=>trivial
   ·intro Lk ak ww H _ _ hN
    simp [go_sem,H.f.g rfl s7,(b8.k0 H.k).cell]
    exact (hN _ _ H.k rfl trivial)
   ·intro Lk ak ww H _ _ hN
    simp [go_sem,H.f.g rfl s10,(b23.k0 H.k).cell]
    exact (hN _ _ H.k rfl trivial)
   ·intro Lk ak ww H _ _ hN
    simp [go_sem,(gS ak 59 (H.d 0 rfl rfl)),(gS ak 60 (H.d 1 rfl rfl))]
    refine (sSide_c ((pulH r.map r.div h).getD half0) ((corners p).getD k sp0) ww hgok (corners_ok hp _ (getD_mem hkl sp0))).mono ?_
    rintro x wx ⟨rfl,hb⟩
    exact (hN _ _ (H.k.call hb) rfl trivial)
   ·exact fun Lk ak ww H _ _ hN=>wp_bin rfl (ev (H.d 2 rfl rfl)) rfl rfl rfl (hN _ _ H.k rfl trivial)
   intro L a24 w25 hL hF hK hV hX;replace hz:=hF.Z hz;replace hdf:=hF.E hdf;replace s7:=hF.G s7;replace s54:=hF.G s54;replace s55:=hF.G s55;replace s53:=hF.G s53;have s62:=gS a24 62 (hV 3 _ rfl);replace b8:=b8.k0 hK;replace N1:=N1.below hK.toBelow leR;replace hZ:=Nat.le_trans hZ hK.size;replace hB:=hK.below0 hB;clear hF hK hV hL hX s10 b23;refine th_n ?_
   rcases Bool.eq_false_or_eq_true (decide (sgn (valS ((pulH r.map r.div h).getD half0) ((corners p).getD k sp0)) > 0)) with q26|q26
   ·skip
    refine wp_cond_true (ev (vb s62 q26)) ?_
    refine wp_seq ?_
    refine wp_regJ (by kernel_rfl) [6] [some (.bool false)] (dlR 1) [6] [0] [] (fun _ _ _=>True) (by kernel_rfl) (by rw [hz];decide) ?_ (en rfl ?_ .nil) ?_
    ·exact fun _ _=>trivial
    ·exact fun Lk ak ww H _ _ hN=>wp_assign rfl rfl (hN _ _ H.k rfl trivial)
    intro L a27 w28 hL hF hK hV hX;replace hz:=hF.Z hz;replace hdf:=hF.E hdf;have s6:=gS a27 6 (hV 0 _ rfl);replace hZ:=Nat.le_trans hZ hK.size;replace hB:=hK.below0 hB;clear hF hK hV hL hX s7 s54 s55 s53 s62 b8 N1 i1;refine th_n ?_
    refine wp_ret ?_
    refine ib_r (th_r (th_r (ib_r (th_r ?_))))
    refine bodyPost_ret (v:=.bool false) (by simp [results,Tryz.results64,go_sem,s6]) hdf ?_
    exact ⟨by rw [cov_stop hkl q26],hB⟩
   ·skip
    refine wp_cond_false (ev (vb s62 q26)) ?_
    refine wp_skip ?_;refine ib_n (th_n ?_)
    refine wp_regJ (by kernel_rfl) [63,55] [some (.int .i64 ((k:Int)+1)),some (.int .i64 ((k:Int)+1))] (dlR 2) [63,55] [0,1] [] (fun L aa ww=>(L 1=false→aa.tmps[55]?.getD undef=.int .i64 (k:Int))) (by kernel_rfl) (by rw [hz];decide) ?_ (en rfl ?_ (en rfl ?_ .nil)) ?_
    ·exact fun _ h=>(fun _=>s55)
    ·intro Lk ak ww H _ _ hN
     have x0:=H.x
     exact wp_add rfl (ev (x0 (H.t 1 rfl))) rfl (by omega) (hN _ _ H.k rfl (fun h=>(put_ne' (by decide) _).trans (x0 h)))
    ·intro Lk ak ww H _ _ hN
     have x0:=H.x
     exact wp_move rfl (ev (H.d 0 rfl rfl)) (hN _ _ H.k rfl (fun h=>by simp [upd] at h))
    intro L a29 w30 hL hF hK hV hX;have x0:=hX;replace hz:=hF.Z hz;replace hdf:=hF.E hdf;replace s7:=hF.G s7;replace s54:=hF.G s54;replace s53:=hF.G s53;have s55:=gS a29 55 (hV 1 _ rfl);replace b8:=b8.k0 hK;replace N1:=N1.below hK.toBelow leR;replace hZ:=Nat.le_trans hZ hK.size;replace hB:=hK.below0 hB;clear hF hK hV hL x0 s62;refine th_n ?_
    refine ⟨?_, ?_⟩
    ·exact ⟨hz,hdf,(k+1),(by omega),(cov_next hkl hall q26),s7,s54,s55,s53,b8,N1,hB,(by omega)⟩
    ·show ((corners p).length-(intOf (a29.tmps[55]?.getD undef)).toNat)<_
     rw [s55,hmu];simp only [intOf];omega
  ·skip
   have ek:k=(corners p).length:=by have:=dec_f q20;omega
   rw [ek,List.take_length] at hall
   refine wp_cond_false (ev (vb s56 q20)) ?_
   refine wp_exit ?_
   refine th_e (th_e (ib_x (th_n ?_)));refine wp_seq ?_
   refine wp_regJ (by kernel_rfl) [6] [some (.bool true)] (dlR 1) [6] [0] [] (fun _ _ _=>True) (by kernel_rfl) (by rw [hz];decide) ?_ (en rfl ?_ .nil) ?_
   ·exact fun _ _=>trivial
   ·exact fun Lk ak ww H _ _ hN=>wp_assign rfl rfl (hN _ _ H.k rfl trivial)
   intro L a31 w32 hL hF hK hV hX;replace hz:=hF.Z hz;replace hdf:=hF.E hdf;have s6:=gS a31 6 (hV 0 _ rfl);replace hZ:=Nat.le_trans hZ hK.size;replace hB:=hK.below0 hB;clear hF hK hV hL hX s7 s54 s55 s53 s56 b8 N1 i1;refine th_n ?_
   refine wp_ret ?_
   refine bodyPost_ret (v:=.bool true) (by simp [results,Tryz.results64,go_sem,s6]) hdf ?_
   exact ⟨by rw [cov_yes (not_f q11) hall],hB⟩
end Go.Proofs.YtdncnhcffbgjhaaGreat
