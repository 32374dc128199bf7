/-
 The law of a room and a region: of the program and of the reference.
 Conditions: the slices hold at most 2^20 elements.
-/
import Derived.Test.YtdncnhcffbgjhaaGreatLw1
import Derived.Test.YtdncnhcffbgjhaaGreatVb
import Derived.Test.YtdncnhcffbgjhaaGreatGrXg
namespace Go.Proofs.YtdncnhcffbgjhaaGreat
open Go.RowKit
def pcM (r:Room) (h:Half):Piece:=pieceM (-(h.a*r.map.getD 0 0+h.b*r.map.getD 2 0)) (-(h.a*r.map.getD 1 0+h.b*r.map.getD 3 0)) (h.c*r.div) (r.div*slopeA r h)
def lwF (r:Room) (p:List Half) (o:Option Law) (h:Half):Option Law:=o.bind fun x =>
 if slopeA r h > 0 then some ⟨x.lows,(x.highs++[pcM r h])⟩ else if slopeA r h<0 then some ⟨(x.lows++[pcM r h]),x.highs⟩ else if covB p (pulH r.map r.div h)=true then some x else none
def lwA (r:Room) (p:List Half) (e:List Half):Option Law:=e.foldl (lwF r p) (some ⟨[⟨0,0,r.low,1⟩],[⟨0,0,r.high,1⟩]⟩)
def lof0:Law:=⟨[],[]⟩
def lofOk (r:Room) (p:List Half):Bool:=robOk r p&&(lwA r p (rpR r p)).isSome
def lofR (r:Room) (p:List Half):Law:=if robOk r p=true then (lwA r p (rpR r p)).getD lof0 else lof0
theorem lwA_next {r:Room} {p e:List Half} {k:Nat} (h:k<e.length):lwA r p (e.take (k+1))=lwF r p (lwA r p (e.take k)) (e.getD k half0):=by
 unfold lwA
 rw [List.take_add_one,List.getElem?_eq_getElem h,List.foldl_append,getD_el h];rfl
theorem lwF_none (r:Room) (p e:List Half):e.foldl (lwF r p) none=none:=by
 induction e with
 | nil=>rfl
 | cons m l ih=>exact ih
theorem lwA_stop {r:Room} {p e:List Half} {k:Nat} (h:k<e.length) (hn:lwF r p (lwA r p (e.take k)) (e.getD k half0)=none):lwA r p e=none:=by
 have e1:=lwA_next (r:=r) (p:=p) h
 rw [hn] at e1
 unfold lwA at e1 ⊢
 rw [← List.take_append_drop (k+1) e,List.foldl_append,e1]
 exact lwF_none r p _
theorem lwF_hi {r:Room} {p:List Half} {lo hi:List Piece} {h:Half} (hn:slopeA r h > 0):lwF r p (some ⟨lo,hi⟩) h=some ⟨lo,(hi++[pcM r h])⟩:=by
 unfold lwF
 rw [Option.bind_some,if_pos hn]
theorem lwF_lo {r:Room} {p:List Half} {lo hi:List Piece} {h:Half} (hn:slopeA r h<0):lwF r p (some ⟨lo,hi⟩) h=some ⟨(lo++[pcM r h]),hi⟩:=by
 unfold lwF
 rw [Option.bind_some,if_neg (by omega),if_pos hn]
theorem lwF_eq {r:Room} {p:List Half} {lo hi:List Piece} {h:Half} (h1:¬ slopeA r h > 0) (h2:¬ slopeA r h<0) (h3:covB p (pulH r.map r.div h)=true):lwF r p (some ⟨lo,hi⟩) h=some ⟨lo,hi⟩:=by
 unfold lwF
 rw [Option.bind_some,if_neg h1,if_neg h2,if_pos h3]
theorem lwF_no {r:Room} {p:List Half} {x:Law} {h:Half} (h1:¬ slopeA r h > 0) (h2:¬ slopeA r h<0) (h3:covB p (pulH r.map r.div h)=false):lwF r p (some x) h=none:=by
 unfold lwF
 rw [Option.bind_some,if_neg h1,if_neg h2,if_neg (by rw [h3];simp)]
theorem law_no {r:Room} {p:List Half} (h:robOk r p=false):lofOk r p=false∧lofR r p=lof0:=by
 unfold lofOk lofR
 rw [h,if_neg (by simp)];exact ⟨rfl,rfl⟩
theorem law_none {r:Room} {p:List Half} (h:robOk r p=true) (hn:lwA r p (rpR r p)=none):lofOk r p=false∧lofR r p=lof0:=by
 unfold lofOk lofR
 rw [h,hn,if_pos rfl];exact ⟨rfl,rfl⟩
theorem law_some {r:Room} {p:List Half} {x:Law} (h:robOk r p=true) (hn:lwA r p (rpR r p)=some x):lofOk r p=true∧lofR r p=x:=by
 unfold lofOk lofR
 rw [h,hn,if_pos rfl];exact ⟨rfl,rfl⟩
theorem rob_void {r:Room} {p:List Half} (h:(!(rpOk r p)||decide (p.length=0)||decide ((rpR r p).length=0))=true):robOk r p=false:=by
 unfold robOk
 rcases Bool.eq_false_or_eq_true (rpOk r p) with h1|h1
 ·rw [h1] at h ⊢
  rcases Bool.eq_false_or_eq_true (decide (p.length=0)) with h2|h2
  ·rw [h2];rfl
  ·rw [h2] at h ⊢
   rw [show decide ((rpR r p).length=0)=true by simpa using h];rfl
 ·rw [h1];simp
theorem rob_yes {r:Room} {p:List Half} (h:(!(rpOk r p)||decide (p.length=0)||decide ((rpR r p).length=0))=false):robOk r p=true:=by
 unfold robOk
 rw [not_f (or_f1 (or_f1 h)),or_f2 (or_f1 h),or_f2 h];rfl
theorem rob_parts {r:Room} {p:List Half} (h:robOk r p=true):roomOk r=true∧regionOk p=true:=by
 unfold robOk rpOk at h
 simp only [Bool.and_eq_true] at h
 exact ⟨h.1.2.1.1,h.1.2.1.2⟩
structure LwB (r:Room) (h:Half):Prop where
 sa : -5000000≤h.a*r.bx∧h.a*r.bx≤5000000
 sb : -5000000≤h.b*r.by_∧h.b*r.by_≤5000000
 s : -10000000≤slopeA r h∧slopeA r h≤10000000
 p:slopeA r h≠0→PcB (-(h.a*r.map.getD 0 0+h.b*r.map.getD 2 0)) (-(h.a*r.map.getD 1 0+h.b*r.map.getD 3 0)) (h.c*r.div) (r.div*slopeA r h)
 ds : -200000000≤r.div*slopeA r h∧r.div*slopeA r h≤200000000
theorem lwB {r:Room} {h:Half} (hr:roomOk r=true) (hh:halfOk h=true):LwB r h:=by
 obtain ⟨a1,a2,_⟩:=halfOk_iff.1 hh
 have B:=roomB hr
 have bx:=B.bx
 have by_:=B.by_
 have dv:=B.div
 have x:=mulB (a:=h.a) (b:=r.bx) (A:=50000) (B:=100) a1 bx
 have y:=mulB (a:=h.b) (b:=r.by_) (A:=50000) (B:=100) a2 by_
 obtain ⟨⟨k1,k2⟩,⟨k3,k4⟩,⟨k5,k6⟩,⟨k7,k8⟩,⟨k9,k10⟩⟩:=pulB (mapIn hr) hh
 have hs : -10000000≤slopeA r h∧slopeA r h≤10000000:=by unfold slopeA;omega
 have d:=mulB (a:=r.div) (b:=slopeA r h) (A:=20) (B:=10000000) ⟨by omega,by omega⟩ hs
 refine ⟨⟨by omega,by omega⟩,⟨by omega,by omega⟩,hs,fun hn=>⟨by omega,by omega,by omega,by omega, ?_⟩,by omega⟩
 exact Int.mul_ne_zero (by omega) hn
theorem iPieceX_c {a b c d:Int} {PC:Piece} (h:PC=pieceM a b c d) (w:World) (hP:PcB a b c d) :
 Calls Tryz.prog 69 #[.int .i64 a,.int .i64 b,.int .i64 c,.int .i64 d] w fun x w'=>x=.returned (pieceV PC)∧Below w.heap.size w w':=by subst h;exact iPiece_c a b c d w hP
theorem sPieceX_c {r:Room} {h:Half} {PC:Piece} (n:Int) (e:PC=pcM r h) (hn:n=slopeA r h) (ra:RoomA) (w:World) (hM:MapIn r.map r.div) (hh:halfOk h=true) (hP:PcB (-(h.a*r.map.getD 0 0+h.b*r.map.getD 2 0)) (-(h.a*r.map.getD 1 0+h.b*r.map.getD 3 0)) (h.c*r.div) (r.div*slopeA r h)) (hs:RoomSl w r ra) :
 Calls Tryz.prog 63 #[roomV r ra,halfV h,.int .i64 n] w fun x w'=>x=.returned (pieceV PC)∧Below w.heap.size w w':=by
 subst e hn
 exact sPiece_c r h _ ra w hM hh hP hs
theorem lwF_len {r:Room} {p:List Half} {n:Nat}:∀ (e:List Half) (o:Option Law),(∀ x,o=some x→x.lows.length+x.highs.length≤n)→∀ x,e.foldl (lwF r p) o=some x→x.lows.length+x.highs.length≤n+e.length:=by
 intro e
 induction e generalizing n with
 | nil=>exact fun o h x e2=>h x e2
 | cons m l ih =>
  intro o h x e2
  have h3:∀ y,lwF r p o m=some y→y.lows.length+y.highs.length≤n+1:=by
   intro y e3
   cases o with
   | none=>cases e3
   | some z =>
    have h4:=h z rfl
    unfold lwF at e3
    rw [Option.bind_some] at e3
    split at e3
    ·injection e3 with e3
     rw [← e3];simp only [List.length_append,List.length_cons,List.length_nil];omega
    ·split at e3
     ·injection e3 with e3
      rw [← e3];simp only [List.length_append,List.length_cons,List.length_nil];omega
     ·split at e3
      ·injection e3 with e3
       rw [← e3];omega
      ·cases e3
  have h5:=ih (lwF r p o m) h3 x e2
  rw [List.length_cons];omega
theorem lofR_le (r:Room) (p:List Half):lawLen (lofR r p)≤1048576:=by
 unfold lofR
 split
 ·cases e:lwA r p (rpR r p) with
  | none=>decide
  | some x =>
   have h:=lwF_len (n:=2) (rpR r p) _ (fun y e2=>by injection e2 with e2;rw [← e2];exact Nat.le_refl 2) x e
   have:=reg_len (rpR_ok r p)
   show x.lows.length+x.highs.length≤1048576
   omega
 ·decide
theorem rob_len (r:Room) (p:List Half):(rpR r p).length≤40:=reg_len (rpR_ok r p)
set_option maxRecDepth 100000 in
set_option maxHeartbeats 6000000 in
theorem iLawOf_c (r:Room) (p:List Half) (ra:RoomA) (b:SlA) (w:World) (hn:roomLen r≤1048576) (hin:RoomIn r) (hs:RoomSl w r ra) (hnl:RoomNil ra) (hlp:p.length≤1048576) (hpi:∀ h∈p,h.In) (hsp:Sl 3 halfC w b.A p) (hnb:b.A=none→b.c=0) :
 Calls Tryz.prog 16 #[roomV r ra,.agg #[.slice b.A p.length b.c]] w fun x w'=>∃ b',x=.returned (.tuple #[lawV (lofR r p) b',.bool (lofOk r p)])∧LawNew w' w.heap.size (lofR r p) b'∧Below w.heap.size w w':=by
 obtain ⟨i0p,hi0p,hz0p,hz1p,hz2p⟩:=info_parts (show (Tryz.prog.info? 109).map (fun i=>(i.zero,i.size,i.bytes))=some (some (.agg #[.int .i64 0,.int .i64 0,.int .i64 0,.int .i64 0]),4,32) by kernel_rfl)
 refine calls_v Tryz.func16 rfl (n:=124) Tryz.ntmps16 (by simp) ?_
 intro a0 hz hdf ha
 have s0:a0.tmps[0]?.getD undef=roomV r ra:=ha 0 _ rfl;have s1:a0.tmps[1]?.getD undef=.agg #[.slice b.A p.length b.c]:=ha 1 _ rfl;clear ha
 have hB:=Below.refl w.heap.size w
 have hZ:=Nat.le_refl w.heap.size
 refine wp_seq ?_
 refine wp_entry [2,3,4,5] [.pointer (some ⟨w.heap.size,0,none⟩),.pointer (some ⟨(w.heap.size+1),0,none⟩),.pointer (some ⟨(w.heap.size+2),0,none⟩),.bool false] [some (.cells (roomC r ra).toArray 39),some (.cells [.slice b.A p.length b.c].toArray 37),some (.cells [.slice none 0 0,.slice none 0 0].toArray 32),none] [0,1,2,3] [2,3,4,5] [0,1,2,3] (by kernel_rfl) (by rw [hz];decide) (ec ?_ (ec ?_ (ec ?_ (ec ?_ .nil)))) ?_
 ·intro a w' hF hs N Q hN;simp [go_sem,hF.g rfl s0];rw [hs];exact hN
 ·intro a w' hF hs N Q hN;simp [go_sem,hF.g rfl s1];rw [hs];exact hN
 ·intro a w' hF hs N Q hN;simp [go_sem];rw [hs];exact hN
 ·intro a w' hF hs N Q hN;simp [go_sem];exact hN
 intro a1 w2 hF hV hb hO
 replace hz:=hF.size.trans hz;replace hdf:=hF.defers.trans hdf
 have s2:a1.tmps[2]?.getD undef=.pointer (some ⟨w.heap.size,0,none⟩):=hV 0 (by decide)
 have s3:a1.tmps[3]?.getD undef=.pointer (some ⟨(w.heap.size+1),0,none⟩):=hV 1 (by decide)
 have s4:a1.tmps[4]?.getD undef=.pointer (some ⟨(w.heap.size+2),0,none⟩):=hV 2 (by decide)
 have b3:HasT w2 w.heap.size 39 (roomC r ra):=hO 0 _ rfl
 have b4:HasT w2 (w.heap.size+1) 37 [.slice b.A p.length b.c]:=hO 1 _ rfl
 have b5:HasT w2 (w.heap.size+2) 32 [.slice none 0 0,.slice none 0 0]:=hO 2 _ rfl
 have hG:=b5.lt
 replace hB:=below_tr hB hb;have zw2:=Nat.le_trans hZ hb.size;replace hZ:=Nat.le_refl w2.heap.size;clear hF hV hb hO s0 s1;refine th_n ?_;refine wp_seq ?_
 have hXb:StaysX [6,15,18,19] (fun L aa ww=>(L 2=true→(fun ww v=>∃ A1 c1 R1,v=.tuple #[.agg #[.slice A1 R1.length c1],.bool (robOk r p)]∧(robOk r p=true→R1=rpR r p)∧R1.length≤40∧New 111 3 halfC ww w2.heap.size (.slice A1 R1.length c1) R1) ww (aa.tmps[18]?.getD undef))∧(L 3=true→(fun ww v=>∃ A1 c1 R1,v=.tuple #[.agg #[.slice A1 R1.length c1],.bool (robOk r p)]∧(robOk r p=true→R1=rpR r p)∧R1.length≤40∧New 111 3 halfC ww w2.heap.size (.slice A1 R1.length c1) R1) ww (aa.tmps[15]?.getD undef))∧(L 4=true→(fun ww v=>∃ A1 c1 R1,v=.agg #[.slice A1 R1.length c1]∧(robOk r p=true→R1=rpR r p)∧R1.length≤40∧New 111 3 halfC ww w2.heap.size (.slice A1 R1.length c1) R1) ww (aa.tmps[19]?.getD undef))∧(L 6=true→BoxX w2 aa ww 6 37 [.slice none 0 0] (L 7) (fun ww vs=>∃ A1 c1 R1,vs=[.slice A1 R1.length c1]∧(robOk r p=true→R1=rpR r p)∧R1.length≤40∧New 111 3 halfC ww w2.heap.size (.slice A1 R1.length c1) R1))):=by
  intro L aa ww w' kk vv hkk hb hX
  obtain ⟨x0,x1,x2,x3⟩:=hX
  exact ⟨(fun h=>by rw [put_ne' (hkk 18 (by simp))];obtain ⟨A1',c1',R1',e,f1'⟩:=x0 h;exact ⟨A1',c1',R1',e,And.intro f1'.1 (And.intro f1'.2.1 (f1'.2.2.below hb leR))⟩),(fun h=>by rw [put_ne' (hkk 15 (by simp))];obtain ⟨A1',c1',R1',e,f1'⟩:=x1 h;exact ⟨A1',c1',R1',e,And.intro f1'.1 (And.intro f1'.2.1 (f1'.2.2.below hb leR))⟩),(fun h=>by rw [put_ne' (hkk 19 (by simp))];obtain ⟨A1',c1',R1',e,f1'⟩:=x2 h;exact ⟨A1',c1',R1',e,And.intro f1'.1 (And.intro f1'.2.1 (f1'.2.2.below hb leR))⟩),(fun h=>((x3 h).bel hb (fun _ ⟨A1',c1',R1',e,f1'⟩=>⟨A1',c1',R1',e,And.intro f1'.1 (And.intro f1'.2.1 (f1'.2.2.below hb leR))⟩)).put (hkk 6 (by simp)) _)⟩
 refine wp_regK hXb (by kernel_rfl) [16,17,18,15,19,20,6,0,7] [some (roomV r ra),some (.agg #[.slice b.A p.length b.c]),none,none,none,some (.bool (robOk r p)),none,none,some (.bool (robOk r p))] (dlR 9) [16,17,18,15,19,20,6,7] [0,1,2,3,4,5,6,7,8] [] (by kernel_rfl) (by rw [hz];decide) ?_ (en rfl ?_ (en rfl ?_ (en rfl ?_ (en rfl ?_ (en rfl ?_ (en rfl ?_ (en rfl ?_ (en rfl ?_ (en rfl ?_ .nil))))))))) ?_
 ·exact fun _ h=>⟨(fun h=>by cases h),(fun h=>by cases h),(fun h=>by cases h),(fun h=>by cases h)⟩
 ·intro Lk ak ww H _ _ hN
  simp [go_sem,H.f.g rfl s2,(b3.k0 H.k).cell]
  exact (hN _ _ H.k rfl (hXb.q rfl H.x))
 ·intro Lk ak ww H _ _ hN
  simp [go_sem,H.f.g rfl s3,(b4.k0 H.k).cell]
  exact (hN _ _ H.k rfl (hXb.q rfl H.x))
 ·intro Lk ak ww H _ _ hN
  obtain ⟨x0,x1,x2,x3⟩:=H.x
  simp [go_sem,(gS ak 16 (H.d 0 rfl rfl)),(gS ak 17 (H.d 1 rfl rfl))]
  have hBi:=H.k.below0 hB
  refine (iRobustOf_c r p ra b ww hn hin (hs.below hBi) hnl hlp hpi (hsp.below hBi) hnb).mono ?_
  rintro x wx ⟨_,R1,rfl,f8,f9,⟨A1,c1,rfl,f0⟩,hb⟩
  have f1:(robOk r p=true→R1=rpR r p)∧R1.length≤40∧New 111 3 halfC wx _ (.slice A1 R1.length c1) R1:=⟨f8,f9,New.mono (show New 111 3 halfC wx ww.heap.size (.slice A1 R1.length c1) R1 from ⟨_,_,rfl,f0⟩) H.k.size⟩
  exact (hN _ _ (H.k.call hb) trivial ⟨(fun _=>by rw [put_get_self (H.f.lt (by rw [hz];decide))];exact ⟨A1,c1,R1,rfl,f1⟩),(fun h=>by rw [put_ne' (by decide)];obtain ⟨A1',c1',R1',e,f1'⟩:=x1 h;exact ⟨A1',c1',R1',e,And.intro f1'.1 (And.intro f1'.2.1 (f1'.2.2.below hb leR))⟩),(fun h=>by rw [put_ne' (by decide)];obtain ⟨A1',c1',R1',e,f1'⟩:=x2 h;exact ⟨A1',c1',R1',e,And.intro f1'.1 (And.intro f1'.2.1 (f1'.2.2.below hb leR))⟩),(fun h=>((x3 h).bel hb (fun _ ⟨A1',c1',R1',e,f1'⟩=>⟨A1',c1',R1',e,And.intro f1'.1 (And.intro f1'.2.1 (f1'.2.2.below hb leR))⟩)).put (by decide) _)⟩)
 ·intro Lk ak ww H _ _ hN
  obtain ⟨x0,x1,x2,x3⟩:=H.x
  obtain ⟨A1,c1,R1,ee2,f1⟩:=x0 (H.r 2 rfl)
  exact wp_move rfl (ev ee2) (hN _ _ H.k trivial ⟨(fun h=>by rw [put_ne' (by decide)];obtain ⟨A1',c1',R1',e,f1'⟩:=x0 h;exact ⟨A1',c1',R1',e,And.intro f1'.1 (And.intro f1'.2.1 (f1'.2.2.below bR leR))⟩),(fun _=>by rw [put_get_self (H.f.lt (by rw [hz];decide))];exact ⟨A1,c1,R1,rfl,f1⟩),(fun h=>by rw [put_ne' (by decide)];obtain ⟨A1',c1',R1',e,f1'⟩:=x2 h;exact ⟨A1',c1',R1',e,And.intro f1'.1 (And.intro f1'.2.1 (f1'.2.2.below bR leR))⟩),(fun h=>((x3 h).bel bR (fun _ ⟨A1',c1',R1',e,f1'⟩=>⟨A1',c1',R1',e,And.intro f1'.1 (And.intro f1'.2.1 (f1'.2.2.below bR leR))⟩)).put (by decide) _)⟩)
 ·intro Lk ak ww H _ _ hN
  obtain ⟨x0,x1,x2,x3⟩:=H.x
  obtain ⟨A1,c1,R1,ee3,f1⟩:=x1 (H.r 3 rfl)
  exact wp_extract rfl (ev ee3) rfl (hN _ _ H.k trivial ⟨(fun h=>by rw [put_ne' (by decide)];obtain ⟨A1',c1',R1',e,f1'⟩:=x0 h;exact ⟨A1',c1',R1',e,And.intro f1'.1 (And.intro f1'.2.1 (f1'.2.2.below bR leR))⟩),(fun h=>by rw [put_ne' (by decide)];obtain ⟨A1',c1',R1',e,f1'⟩:=x1 h;exact ⟨A1',c1',R1',e,And.intro f1'.1 (And.intro f1'.2.1 (f1'.2.2.below bR leR))⟩),(fun _=>by rw [put_get_self (H.f.lt (by rw [hz];decide))];exact ⟨A1,c1,R1,rfl,f1⟩),(fun h=>((x3 h).bel bR (fun _ ⟨A1',c1',R1',e,f1'⟩=>⟨A1',c1',R1',e,And.intro f1'.1 (And.intro f1'.2.1 (f1'.2.2.below bR leR))⟩)).put (by decide) _)⟩)
 ·intro Lk ak ww H _ _ hN
  obtain ⟨x0,x1,x2,x3⟩:=H.x
  obtain ⟨A1,c1,R1,ee3,f1⟩:=x1 (H.r 3 rfl)
  exact wp_extract rfl (ev ee3) rfl (hN _ _ H.k rfl (hXb.q rfl H.x))
 ·intro Lk ak ww H _ _ hN
  obtain ⟨x0,x1,x2,x3⟩:=H.x
  simp [go_sem]
  exact hN _ _ (H.k.alloc _) trivial ⟨(fun h=>by rw [put_ne' (by decide)];obtain ⟨A1',c1',R1',e,f1'⟩:=x0 h;exact ⟨A1',c1',R1',e,And.intro f1'.1 (And.intro f1'.2.1 (f1'.2.2.below (below_al bR _) leR))⟩),(fun h=>by rw [put_ne' (by decide)];obtain ⟨A1',c1',R1',e,f1'⟩:=x1 h;exact ⟨A1',c1',R1',e,And.intro f1'.1 (And.intro f1'.2.1 (f1'.2.2.below (below_al bR _) leR))⟩),(fun h=>by rw [put_ne' (by decide)];obtain ⟨A1',c1',R1',e,f1'⟩:=x2 h;exact ⟨A1',c1',R1',e,And.intro f1'.1 (And.intro f1'.2.1 (f1'.2.2.below (below_al bR _) leR))⟩),(fun _=>by rw [show upd Lk 6 7=false from H.t 7 rfl];exact BoxX.new (s:=6) (H.f.lt (by rw [hz];decide)) H.k.size [.slice none 0 0])⟩
 ·intro Lk ak ww H _ _ hN
  obtain ⟨x0,x1,x2,x3⟩:=H.x
  obtain ⟨A1,c1,R1,ee4,f1⟩:=x2 (H.r 4 rfl)
  obtain ⟨g,eg,hg,y,_⟩:=x3 (H.r 6 rfl)
  have HT:=y H.n
  simp [go_sem,ee4,eg,HT.cell,HT.frz]
  have f1:=And.intro f1.1 (And.intro f1.2.1 (f1.2.2.otherC (f1.2.2.typ HT (by decide)) [.slice A1 R1.length c1] 0))
  exact hN undef _ (H.k.store (.inl hg) [.slice A1 R1.length c1] 0) trivial ⟨(fun h=>by obtain ⟨A1',c1',R1',e,f1'⟩:=x0 h;exact ⟨A1',c1',R1',e,And.intro f1'.1 (And.intro f1'.2.1 (f1'.2.2.otherC (f1'.2.2.typ HT (by decide)) [.slice A1 R1.length c1] 0))⟩),(fun h=>by obtain ⟨A1',c1',R1',e,f1'⟩:=x1 h;exact ⟨A1',c1',R1',e,And.intro f1'.1 (And.intro f1'.2.1 (f1'.2.2.otherC (f1'.2.2.typ HT (by decide)) [.slice A1 R1.length c1] 0))⟩),(fun h=>by obtain ⟨A1',c1',R1',e,f1'⟩:=x2 h;exact ⟨A1',c1',R1',e,And.intro f1'.1 (And.intro f1'.2.1 (f1'.2.2.otherC (f1'.2.2.typ HT (by decide)) [.slice A1 R1.length c1] 0))⟩),(fun _=>BoxX.set eg hg HT (us:=[.slice A1 R1.length c1]) rfl ⟨A1,c1,R1,rfl,f1⟩)⟩
 ·exact fun Lk ak ww H _ _ hN=>wp_assign rfl (ev (H.d 5 rfl rfl)) (hN _ _ H.k rfl (hXb.q rfl H.x))
 intro L a6 w7 hL hF hK hV hX
 obtain ⟨x0,x1,x2,x3⟩:=hX
 replace hz:=hF.Z hz;replace hdf:=hF.E hdf;replace s2:=hF.G s2;replace s3:=hF.G s3;replace s4:=hF.G s4;have s7:=gS a6 7 (hV 8 _ rfl);replace b3:=b3.k0 hK;replace b4:=b4.k0 hK;replace b5:=b5.k0 hK
 obtain ⟨g8,s6,lg8,-,b8⟩:=x3 (hL 6 (by decide))
 obtain ⟨_,b8,A1,c1,R1,rfl,N1⟩:=b8 (hL 7 (by decide))
 obtain ⟨E1r,E1l,N1⟩:=N1
 have i1:∀ p,A1=some p→p.block<w7.heap.size:=fun p hp=>(N1.blk p hp).2
 have ug8:=b8.lt
 have zw7:=hK.size;replace hZ:=Nat.le_refl w7.heap.size;replace hB:=hK.below0 hB;clear hF hK hV hL x0 x1 x2 x3 hXb;refine th_n ?_;refine wp_seq ?_;refine wp_seq ?_
 refine wp_regJ (by kernel_rfl) [21,22] [some (.bool (robOk r p)),some (.bool (!(robOk r p)))] (dlR 2) [21,22] [0,1] [] (fun _ _ _=>True) (by kernel_rfl) (by rw [hz];decide) ?_ (en rfl ?_ (en rfl ?_ .nil)) ?_
 ·exact fun _ _=>trivial
 ·exact fun Lk ak ww H _ _ hN=>wp_move rfl (ev (H.f.g rfl s7)) (hN _ _ H.k rfl trivial)
 ·exact fun Lk ak ww H _ _ hN=>wp_not rfl (ev (H.d 0 rfl rfl)) (hN _ _ H.k rfl trivial)
 intro L a9 w10 hL hF hK hV hX;replace hz:=hF.Z hz;replace hdf:=hF.E hdf;replace s2:=hF.G s2;replace s3:=hF.G s3;replace s4:=hF.G s4;replace s6:=hF.G s6;have s22:=gS a9 22 (hV 1 _ rfl);replace b3:=b3.k0 hK;replace b4:=b4.k0 hK;replace b5:=b5.k0 hK;replace b8:=b8.k0 hK;replace N1:=N1.below hK.toBelow leR;replace hZ:=Nat.le_trans hZ hK.size;replace hB:=hK.below0 hB;clear hF hK hV hL hX s7;refine th_n ?_
 rcases Bool.eq_false_or_eq_true (!(robOk r p)) with q11|q11
 ·skip
  refine wp_cond_true (ev (vb s22 q11)) ?_
  refine wp_seq ?_
  have hXb:StaysX [] (fun L aa ww=>PreX ww (w.heap.size+2) 32 [.slice none 0 0,.slice none 0 0] (L 1) (fun _ vs=>vs=[.slice none 0 0,.slice none 0 0])):=by
   intro L aa ww w' kk vv hkk hb hX
   have x0:=hX
   exact (x0.bel hb (fun _ h=>h))
  refine wp_regK hXb (by kernel_rfl) [23,0,5] [some (.agg #[.slice none 0 0,.slice none 0 0]),none,some (.bool false)] (dlR 3) [23,5] [0,1,2] [(w.heap.size+2)] (by kernel_rfl) (by rw [hz];decide) ?_ (en rfl ?_ (en rfl ?_ (en rfl ?_ .nil))) ?_
  ·exact fun _ h=>(⟨fun _=>b5.kp h (by simp),(fun h=>by cases h)⟩)
  ·intro Lk ak ww H _ _ hN
   simp [go_sem]
   exact (hN _ _ H.k rfl H.x)
  ·intro Lk ak ww H _ _ hN
   have x0:=H.x
   have HT:=x0.1 H.n
   simp [go_sem,(gS ak 23 (H.d 0 rfl rfl)),H.f.g rfl s4,HT.cell,HT.frz]
   exact hN undef _ (H.k.store (.inr (by simp)) [.slice none 0 0,.slice none 0 0] 0) trivial (PreX.set HT (us:=[.slice none 0 0,.slice none 0 0]) rfl rfl)
  ·exact fun Lk ak ww H _ _ hN=>wp_assign rfl rfl (hN _ _ H.k rfl H.x)
  intro L a12 w13 hL hF hK hV hX;have x0:=hX;replace hz:=hF.Z hz;replace hdf:=hF.E hdf;replace s4:=hF.G s4;have s5:=gS a12 5 (hV 2 _ rfl);clear b5
  obtain ⟨_,b5,rfl⟩:=x0.2 (hL 1 (by decide))
  replace hZ:=Nat.le_trans hZ hK.size
  replace hB:=hK.below hB hB.size (by simp<;>omega)
  clear hF hK hV hL x0 hXb s2 s3 s6 s22 b3 b4 b8 N1 i1;refine th_n ?_
  refine wp_ret ?_
  refine th_r ?_
  refine bodyPost_ret (v:=.tuple #[.agg #[.slice none 0 0,.slice none 0 0],.bool false]) (by simp [results,Tryz.results16,go_sem,s4,b5.cell,s5]) hdf ?_
  have h0:=law_no (not_t q11)
  exact ⟨⟨⟨none,0⟩,⟨none,0⟩⟩,by rw [h0.1,h0.2];rfl,by rw [h0.2];exact LawNew.nil _ _,hB⟩
 ·skip
  have hrob:=not_f q11
  have hR9:=E1r hrob
  subst hR9
  have hrp:=rob_parts hrob
  have hle:=rob_len r p
  have hdv:=(roomB hrp.1).div
  refine wp_cond_false (ev (vb s22 q11)) ?_
  refine wp_skip ?_;refine th_n ?_;refine wp_seq ?_
  have hXb:StaysX [8,27,31,32] (fun L aa ww=>(L 3=true→(fun ww v=>∃ g2,v=.slice (some ⟨g2,0,none⟩) 1 1∧HasT ww g2 109 [.int .i64 0,.int .i64 0,.int .i64 r.low,.int .i64 1]∧w10.heap.size≤g2) ww (aa.tmps[27]?.getD undef))∧(L 7=true→(fun ww v=>∃ g3,v=.slice (some ⟨g3,0,none⟩) 1 1∧HasT ww g3 109 [.int .i64 0,.int .i64 0,.int .i64 r.high,.int .i64 1]∧w10.heap.size≤g3) ww (aa.tmps[31]?.getD undef))∧(L 8=true→(fun ww v=>∃ a4,v=.agg #[.slice a4.lows.A ([(⟨0,0,r.low,1⟩:Piece)].length) a4.lows.c,.slice a4.highs.A ([(⟨0,0,r.high,1⟩:Piece)].length) a4.highs.c]∧LawNew ww w10.heap.size ⟨[(⟨0,0,r.low,1⟩:Piece)],[(⟨0,0,r.high,1⟩:Piece)]⟩ a4) ww (aa.tmps[32]?.getD undef))∧(L 9=true→BoxX w10 aa ww 8 32 [.slice none 0 0,.slice none 0 0] (L 10) (fun ww vs=>∃ a4,vs=[.slice a4.lows.A ([(⟨0,0,r.low,1⟩:Piece)].length) a4.lows.c,.slice a4.highs.A ([(⟨0,0,r.high,1⟩:Piece)].length) a4.highs.c]∧LawNew ww w10.heap.size ⟨[(⟨0,0,r.low,1⟩:Piece)],[(⟨0,0,r.high,1⟩:Piece)]⟩ a4))∧(L 3=true→L 7=true→aa.tmps[27]?.getD undef≠aa.tmps[31]?.getD undef)):=by
   intro L aa ww w' kk vv hkk hb hX
   obtain ⟨x0,x1,x2,x3,x4⟩:=hX
   exact ⟨(fun h=>by rw [put_ne' (hkk 27 (by simp))];obtain ⟨g2',e,f2'⟩:=x0 h;exact ⟨g2',e,⟨f2'.1.bel hb,f2'.2⟩⟩),(fun h=>by rw [put_ne' (hkk 31 (by simp))];obtain ⟨g3',e,f3'⟩:=x1 h;exact ⟨g3',e,⟨f3'.1.bel hb,f3'.2⟩⟩),(fun h=>by rw [put_ne' (hkk 32 (by simp))];obtain ⟨a4',e,f4'⟩:=x2 h;exact ⟨a4',e,f4'.below hb leR⟩),(fun h=>((x3 h).bel hb (fun _ ⟨a4',e,f4'⟩=>⟨a4',e,f4'.below hb leR⟩)).put (hkk 8 (by simp)) _),(fun h1 h2 e=>x4 h1 h2 ((put_ne' (hkk 27 (by simp)) vv).symm.trans (e.trans (put_ne' (hkk 31 (by simp)) vv))))⟩
  refine wp_regK hXb (by kernel_rfl) [24,25,26,27,28,29,30,31,32,8,0] [some (.pointer (some ⟨w.heap.size,4,none⟩)),some (.int .i64 r.low),some (.agg #[.int .i64 0,.int .i64 0,.int .i64 r.low,.int .i64 1]),none,some (.pointer (some ⟨w.heap.size,5,none⟩)),some (.int .i64 r.high),some (.agg #[.int .i64 0,.int .i64 0,.int .i64 r.high,.int .i64 1]),none,none,none,none] (dlR 11) [24,25,26,27,28,29,30,31,32,8] [0,1,2,3,4,5,6,7,8,9,10] [] (by kernel_rfl) (by rw [hz];decide) ?_ (en rfl ?_ (en rfl ?_ (en rfl ?_ (en rfl ?_ (en rfl ?_ (en rfl ?_ (en rfl ?_ (en rfl ?_ (en rfl ?_ (en rfl ?_ (en rfl ?_ .nil))))))))))) ?_
  ·exact fun _ h=>⟨(fun h=>by cases h),(fun h=>by cases h),(fun h=>by cases h),(fun h=>by cases h),(fun h=>by cases h)⟩
  ·intro Lk ak ww H _ _ hN
   simp [go_sem,H.f.g rfl s2]
   exact (hN _ _ H.k rfl (hXb.q rfl H.x))
  ·intro Lk ak ww H _ _ hN
   simp [go_sem,(gS ak 24 (H.d 0 rfl rfl)),(b3.k0 H.k).cell]
   exact (hN _ _ H.k rfl (hXb.q rfl H.x))
  ·intro Lk ak ww H _ _ hN
   simp [go_sem,(gS ak 25 (H.d 1 rfl rfl))]
   exact (hN _ _ H.k rfl (hXb.q rfl H.x))
  ·intro Lk ak ww H _ _ hN
   obtain ⟨x0,x1,x2,x3,x4⟩:=H.x
   simp [go_sem,(gS ak 26 (H.d 2 rfl rfl))]
   have f2:HasT (ww.alloc (.cells #[.int .i64 0,.int .i64 0,.int .i64 r.low,.int .i64 1] 109)) ww.heap.size 109 [.int .i64 0,.int .i64 0,.int .i64 r.low,.int .i64 1]∧w10.heap.size≤ww.heap.size:=⟨HasT.new _ _ _,H.k.size⟩
   exact hN _ _ (H.k.alloc _) trivial ⟨(fun _=>by rw [put_get_self (H.f.lt (by rw [hz];decide))];exact ⟨_,rfl,f2⟩),(fun h=>by rw [put_ne' (by decide)];obtain ⟨g3',e,f3'⟩:=x1 h;exact ⟨g3',e,⟨f3'.1.bel (below_al bR _),f3'.2⟩⟩),(fun h=>by rw [put_ne' (by decide)];obtain ⟨a4',e,f4'⟩:=x2 h;exact ⟨a4',e,f4'.below (below_al bR _) leR⟩),(fun h=>((x3 h).bel (below_al bR _) (fun _ ⟨a4',e,f4'⟩=>⟨a4',e,f4'.below (below_al bR _) leR⟩)).put (by decide) _),(fun h1 h2 e=>by obtain ⟨g2,e2,f2⟩:=x1 h2;rw [put_get_self (H.f.lt (by rw [hz];decide)),put_ne' (by decide),e2] at e;exact sl_ne (by have:=f2.1.lt;omega) e)⟩
  ·intro Lk ak ww H _ _ hN
   simp [go_sem,H.f.g rfl s2]
   exact (hN _ _ H.k rfl (hXb.q rfl H.x))
  ·intro Lk ak ww H _ _ hN
   simp [go_sem,(gS ak 28 (H.d 4 rfl rfl)),(b3.k0 H.k).cell]
   exact (hN _ _ H.k rfl (hXb.q rfl H.x))
  ·intro Lk ak ww H _ _ hN
   simp [go_sem,(gS ak 29 (H.d 5 rfl rfl))]
   exact (hN _ _ H.k rfl (hXb.q rfl H.x))
  ·intro Lk ak ww H _ _ hN
   obtain ⟨x0,x1,x2,x3,x4⟩:=H.x
   simp [go_sem,(gS ak 30 (H.d 6 rfl rfl))]
   have f3:HasT (ww.alloc (.cells #[.int .i64 0,.int .i64 0,.int .i64 r.high,.int .i64 1] 109)) ww.heap.size 109 [.int .i64 0,.int .i64 0,.int .i64 r.high,.int .i64 1]∧w10.heap.size≤ww.heap.size:=⟨HasT.new _ _ _,H.k.size⟩
   exact hN _ _ (H.k.alloc _) trivial ⟨(fun h=>by rw [put_ne' (by decide)];obtain ⟨g2',e,f2'⟩:=x0 h;exact ⟨g2',e,⟨f2'.1.bel (below_al bR _),f2'.2⟩⟩),(fun _=>by rw [put_get_self (H.f.lt (by rw [hz];decide))];exact ⟨_,rfl,f3⟩),(fun h=>by rw [put_ne' (by decide)];obtain ⟨a4',e,f4'⟩:=x2 h;exact ⟨a4',e,f4'.below (below_al bR _) leR⟩),(fun h=>((x3 h).bel (below_al bR _) (fun _ ⟨a4',e,f4'⟩=>⟨a4',e,f4'.below (below_al bR _) leR⟩)).put (by decide) _),(fun h1 h2 e=>by obtain ⟨g2,e2,f2⟩:=x0 h1;rw [put_get_self (H.f.lt (by rw [hz];decide)),put_ne' (by decide),e2] at e;exact sl_ne (by have:=f2.1.lt;omega) e)⟩
  ·intro Lk ak ww H _ _ hN
   obtain ⟨x0,x1,x2,x3,x4⟩:=H.x
   obtain ⟨g2,ee3,f2⟩:=x0 (H.r 3 rfl)
   obtain ⟨g3,ee7,f3⟩:=x1 (H.r 7 rfl)
   simp [go_sem,ee3,ee7]
   have f4:LawNew ww w10.heap.size ⟨[(⟨0,0,r.low,1⟩:Piece)],[(⟨0,0,r.high,1⟩:Piece)]⟩ ⟨⟨some ⟨g2,0,none⟩,1⟩,⟨some ⟨g3,0,none⟩,1⟩⟩:=LawNew.lits f2.1 f3.1 f2.2 f3.2 (fun e=>x4 (H.r 3 rfl) (H.r 7 rfl) (by rw [ee3,ee7,e]))
   exact hN _ _ H.k trivial ⟨(fun h=>by rw [put_ne' (by decide)];obtain ⟨g2',e,f2'⟩:=x0 h;exact ⟨g2',e,⟨f2'.1.bel bR,f2'.2⟩⟩),(fun h=>by rw [put_ne' (by decide)];obtain ⟨g3',e,f3'⟩:=x1 h;exact ⟨g3',e,⟨f3'.1.bel bR,f3'.2⟩⟩),(fun _=>by rw [put_get_self (H.f.lt (by rw [hz];decide))];exact ⟨_,rfl,f4⟩),(fun h=>((x3 h).bel bR (fun _ ⟨a4',e,f4'⟩=>⟨a4',e,f4'.below bR leR⟩)).put (by decide) _),(fun h1 h2 e=>x4 h1 h2 ((put_ne' (by decide) _).symm.trans (e.trans (put_ne' (by decide) _))))⟩
  ·intro Lk ak ww H _ _ hN
   obtain ⟨x0,x1,x2,x3,x4⟩:=H.x
   simp [go_sem]
   exact hN _ _ (H.k.alloc _) trivial ⟨(fun h=>by rw [put_ne' (by decide)];obtain ⟨g2',e,f2'⟩:=x0 h;exact ⟨g2',e,⟨f2'.1.bel (below_al bR _),f2'.2⟩⟩),(fun h=>by rw [put_ne' (by decide)];obtain ⟨g3',e,f3'⟩:=x1 h;exact ⟨g3',e,⟨f3'.1.bel (below_al bR _),f3'.2⟩⟩),(fun h=>by rw [put_ne' (by decide)];obtain ⟨a4',e,f4'⟩:=x2 h;exact ⟨a4',e,f4'.below (below_al bR _) leR⟩),(fun _=>by rw [show upd Lk 9 10=false from H.t 10 rfl];exact BoxX.new (s:=8) (H.f.lt (by rw [hz];decide)) H.k.size [.slice none 0 0,.slice none 0 0]),(fun h1 h2 e=>x4 h1 h2 ((put_ne' (by decide) _).symm.trans (e.trans (put_ne' (by decide) _))))⟩
  ·intro Lk ak ww H _ _ hN
   obtain ⟨x0,x1,x2,x3,x4⟩:=H.x
   obtain ⟨a4,ee8,f4⟩:=x2 (H.r 8 rfl)
   obtain ⟨g,eg,hg,y,_⟩:=x3 (H.r 9 rfl)
   have HT:=y H.n
   simp [go_sem,ee8,eg,HT.cell,HT.frz]
   have f4:=f4.otherT HT (by decide) [.slice a4.lows.A ([(⟨0,0,r.low,1⟩:Piece)].length) a4.lows.c,.slice a4.highs.A ([(⟨0,0,r.high,1⟩:Piece)].length) a4.highs.c] 0
   exact hN undef _ (H.k.store (.inl hg) [.slice a4.lows.A ([(⟨0,0,r.low,1⟩:Piece)].length) a4.lows.c,.slice a4.highs.A ([(⟨0,0,r.high,1⟩:Piece)].length) a4.highs.c] 0) trivial ⟨(fun h=>by obtain ⟨g2',e,f2'⟩:=x0 h;exact ⟨g2',e,⟨f2'.1.other (f2'.1.ne HT (by decide)) [.slice a4.lows.A ([(⟨0,0,r.low,1⟩:Piece)].length) a4.lows.c,.slice a4.highs.A ([(⟨0,0,r.high,1⟩:Piece)].length) a4.highs.c] 0,f2'.2⟩⟩),(fun h=>by obtain ⟨g3',e,f3'⟩:=x1 h;exact ⟨g3',e,⟨f3'.1.other (f3'.1.ne HT (by decide)) [.slice a4.lows.A ([(⟨0,0,r.low,1⟩:Piece)].length) a4.lows.c,.slice a4.highs.A ([(⟨0,0,r.high,1⟩:Piece)].length) a4.highs.c] 0,f3'.2⟩⟩),(fun h=>by obtain ⟨a4',e,f4'⟩:=x2 h;exact ⟨a4',e,f4'.otherT HT (by decide) [.slice a4.lows.A ([(⟨0,0,r.low,1⟩:Piece)].length) a4.lows.c,.slice a4.highs.A ([(⟨0,0,r.high,1⟩:Piece)].length) a4.highs.c] 0⟩),(fun _=>BoxX.set eg hg HT (us:=[.slice a4.lows.A ([(⟨0,0,r.low,1⟩:Piece)].length) a4.lows.c,.slice a4.highs.A ([(⟨0,0,r.high,1⟩:Piece)].length) a4.highs.c]) rfl ⟨a4,rfl,f4⟩),(x4)⟩
  intro L a14 w15 hL hF hK hV hX
  obtain ⟨x0,x1,x2,x3,x4⟩:=hX
  replace hz:=hF.Z hz;replace hdf:=hF.E hdf;replace s2:=hF.G s2;replace s3:=hF.G s3;replace s4:=hF.G s4;replace s6:=hF.G s6;replace b3:=b3.k0 hK;replace b4:=b4.k0 hK;replace b5:=b5.k0 hK;replace b8:=b8.k0 hK
  obtain ⟨g16,s8,lg16,-,b16⟩:=x3 (hL 9 (by decide))
  obtain ⟨_,b16,a4,rfl,N4⟩:=b16 (hL 10 (by decide))
  have ug16:=b16.lt
  replace N1:=N1.below hK.toBelow leR;have zw10:=hZ;have zw15:=hK.size;replace hZ:=Nat.le_refl w15.heap.size;replace hB:=hK.below0 hB;clear hF hK hV hL x0 x1 x2 x3 x4 hXb s22;refine th_n ?_;refine wp_seq ?_;refine wp_seq ?_
  refine wp_regJ (by kernel_rfl) [33,34,35,36] [some (.pointer (some ⟨g8,0,none⟩)),some (.slice A1 ((rpR r p).length) c1),some (.int .i64 (((rpR r p).length:Nat):Int)),some (.int .i64 0)] (dlR 4) [33,34,35,36] [0,1,2,3] [] (fun _ _ _=>True) (by kernel_rfl) (by rw [hz];decide) ?_ (en rfl ?_ (en rfl ?_ (en rfl ?_ (en rfl ?_ .nil)))) ?_
  ·exact fun _ _=>trivial
  ·intro Lk ak ww H _ _ hN
   simp [go_sem,H.f.g rfl s6]
   exact (hN _ _ H.k rfl trivial)
  ·intro Lk ak ww H _ _ hN
   simp [go_sem,(gS ak 33 (H.d 0 rfl rfl)),(b8.k0 H.k).cell]
   exact (hN _ _ H.k rfl trivial)
  ·intro Lk ak ww H _ _ hN
   simp [go_sem,(gS ak 34 (H.d 1 rfl rfl))]
   exact (hN _ _ H.k rfl trivial)
  ·exact fun Lk ak ww H _ _ hN=>wp_move rfl rfl (hN _ _ H.k rfl trivial)
  intro L a17 w18 hL hF hK hV hX;replace hz:=hF.Z hz;replace hdf:=hF.E hdf;replace s2:=hF.G s2;replace s3:=hF.G s3;replace s4:=hF.G s4;replace s8:=hF.G s8;have s34:=gS a17 34 (hV 1 _ rfl);have s35:=gS a17 35 (hV 2 _ rfl);have s36:=gS a17 36 (hV 3 _ rfl);replace b3:=b3.k0 hK;replace b4:=b4.k0 hK;replace b5:=b5.k0 hK;replace b16:=b16.k0 hK;replace N1:=N1.below hK.toBelow leR;replace N4:=N4.below hK.toBelow leR;replace hZ:=Nat.le_trans hZ hK.size;replace hB:=hK.below0 hB;clear hF hK hV hL hX s6 b8;refine th_n ?_;refine wp_block ?_
  refine wp_loop (fun al wl=>al.tmps.size=124∧al.defers=[]∧∃ (k:Nat) (lo:List Piece) (hi:List Piece) (a5:LawA),(k≤(rpR r p).length)∧(lwA r p ((rpR r p).take k)=some ⟨lo,hi⟩)∧(lo.length+hi.length≤k+2)∧al.tmps[2]?.getD undef=.pointer (some ⟨w.heap.size,0,none⟩)∧al.tmps[3]?.getD undef=.pointer (some ⟨(w.heap.size+1),0,none⟩)∧al.tmps[4]?.getD undef=.pointer (some ⟨(w.heap.size+2),0,none⟩)∧al.tmps[8]?.getD undef=.pointer (some ⟨g16,0,none⟩)∧al.tmps[34]?.getD undef=.slice A1 ((rpR r p).length) c1∧al.tmps[35]?.getD undef=.int .i64 (((rpR r p).length:Nat):Int)∧al.tmps[36]?.getD undef=.int .i64 (k:Int)∧HasT wl w.heap.size 39 (roomC r ra)∧HasT wl (w.heap.size+1) 37 [.slice b.A p.length b.c]∧HasT wl (w.heap.size+2) 32 [.slice none 0 0,.slice none 0 0]∧HasT wl g16 32 [.slice a5.lows.A lo.length a5.lows.c,.slice a5.highs.A hi.length a5.highs.c]∧New 111 3 halfC wl w2.heap.size (.slice A1 (rpR r p).length c1) (rpR r p)∧LawNew wl w10.heap.size ⟨lo,hi⟩ a5∧Below w.heap.size w wl∧w15.heap.size≤wl.heap.size) (fun al _=>((rpR r p).length-(intOf (al.tmps[36]?.getD undef)).toNat)) ?_ ?_
  ·exact ⟨hz,hdf,(0),([(⟨0,0,r.low,1⟩:Piece)]),([(⟨0,0,r.high,1⟩:Piece)]),(a4),(Nat.zero_le _),(rfl),leR,s2,s3,s4,s8,s34,s35,s36,b3,b4,b5,b16,N1,(N4),hB,(by omega)⟩
  clear hz hdf hB hZ s2 s3 s4 s8 s34 s35 s36 b3 b4 b5 b16 N1 N4
  rintro a19 w20 ⟨hz,hdf,k,lo,hi,a5,hk,hlw,hlen,s2,s3,s4,s8,s34,s35,s36,b3,b4,b5,b16,N1,N5,hB,hZ⟩
  have zw20:=hZ;replace hZ:=Nat.le_refl w20.heap.size
  have i5L:∀ p,a5.lows.A=some p→p.block<w20.heap.size:=fun p hp=>(N5.lows.blk p hp).2
  have i5H:∀ p,a5.highs.A=some p→p.block<w20.heap.size:=fun p hp=>(N5.highs.blk p hp).2
  have hmu:((rpR r p).length-(intOf (a19.tmps[36]?.getD undef)).toNat)=((rpR r p).length-(intOf ((.int .i64 (k:Int)))).toNat):=by rw [s36]
  refine wp_seq ?_
  refine wp_regJ (by kernel_rfl) [37] [some (.bool (decide ((k:Int)<(((rpR r p).length:Nat):Int))))] (dlR 1) [37] [0] [] (fun _ _ _=>True) (by kernel_rfl) (by rw [hz];decide) ?_ (en rfl ?_ .nil) ?_
  ·exact fun _ _=>trivial
  ·exact fun Lk ak ww H _ _ hN=>wp_bin rfl (ev (H.f.g rfl s36)) (ev (H.f.g rfl s35)) rfl rfl (hN _ _ H.k rfl trivial)
  intro L a21 w22 hL hF hK hV hX;replace hz:=hF.Z hz;replace hdf:=hF.E hdf;replace s2:=hF.G s2;replace s3:=hF.G s3;replace s4:=hF.G s4;replace s8:=hF.G s8;replace s34:=hF.G s34;replace s35:=hF.G s35;replace s36:=hF.G s36;have s37:=gS a21 37 (hV 0 _ rfl);replace b3:=b3.k0 hK;replace b4:=b4.k0 hK;replace b5:=b5.k0 hK;replace b16:=b16.k0 hK;replace N1:=N1.below hK.toBelow leR;replace N5:=N5.below hK.toBelow leR;replace hZ:=Nat.le_trans hZ hK.size;replace hB:=hK.below0 hB;clear hF hK hV hL hX;refine th_n ?_;refine wp_seq ?_
  rcases Bool.eq_false_or_eq_true (decide ((k:Int)<(((rpR r p).length:Nat):Int))) with q23|q23
  ·skip
   have hkl:k<(rpR r p).length:=by have:=dec_t q23;omega
   obtain ⟨be,oe,ee_,fe⟩:=ElS.open_ (N1.out halfC_len) (by omega)
   have tbe:be<w22.heap.size:=fe.lt
   have hh9:=getD_halfOk hkl (rpR_ok r p)
   have hml:=(mapIn hrp.1).len
   obtain ⟨bm,om,em,fm⟩:=ElS.open_ (hs.below hB).map (by rw [hml];omega)
   obtain ⟨bm0,om0,em0,fm0⟩:=ElS.open_ hs.map (by rw [hml];omega)
   have hbm:bm<w.heap.size:=by rw [em0] at em;injection em with em9;injection em9 with em9 _ _;rw [← em9];exact fm0.lt
   refine wp_cond_true (ev (vb s37 q23)) ?_
   refine wp_skip ?_;refine th_n ?_;refine wp_seq ?_;refine wp_block ?_;refine wp_seq ?_
   have hXb:StaysX [10] (fun L aa ww=>(L 2=true→BoxX w22 aa ww 10 111 [.int .i64 0,.int .i64 0,.int .i64 0] (L 3) (fun _ vs=>vs=[.int .i64 (((rpR r p).getD k half0).a),.int .i64 (((rpR r p).getD k half0).b),.int .i64 (((rpR r p).getD k half0).c)]))):=by
    intro L aa ww w' kk vv hkk hb hX
    have x0:=hX
    exact (fun h=>((x0 h).bel hb (fun _ h=>h)).put (hkk 10 (by simp)) _)
   refine wp_regK hXb (by kernel_rfl) [38,39,10,0] [some (.pointer (some ⟨be,oe+k*3,none⟩)),some (halfV ((rpR r p).getD k half0)),none,none] (dlR 4) [38,39,10] [0,1,2,3] [] (by kernel_rfl) (by rw [hz];decide) ?_ (en rfl ?_ (en rfl ?_ (en rfl ?_ (en rfl ?_ .nil)))) ?_
   ·exact fun _ h=>(fun h=>by cases h)
   ·intro Lk ak ww H _ _ hN
    simp [go_sem,H.f.g rfl s34,H.f.g rfl s36,hkl,ee_]
    exact (hN _ _ H.k rfl (hXb.q rfl H.x))
   ·intro Lk ak ww H _ _ hN
    have hE:=fe.kp H.k (by simp)
    simp [go_sem,(gS ak 38 (H.d 0 rfl rfl)),(hE.at_ half0 (i:=k) (by omega) 0 (p:=oe+k*3) (by omega) rfl),(hE.at_ half0 (i:=k) (by omega) 1 (p:=oe+k*3+1) (by omega) rfl),(hE.at_ half0 (i:=k) (by omega) 2 (p:=oe+k*3+2) (by omega) rfl)]
    exact (hN _ _ H.k rfl (hXb.q rfl H.x))
   ·intro Lk ak ww H _ _ hN
    have x0:=H.x
    simp [go_sem]
    exact hN _ _ (H.k.alloc _) trivial (fun _=>by rw [show upd Lk 2 3=false from H.t 3 rfl];exact BoxX.new (s:=10) (H.f.lt (by rw [hz];decide)) H.k.size [.int .i64 0,.int .i64 0,.int .i64 0])
   ·intro Lk ak ww H _ _ hN
    have x0:=H.x
    obtain ⟨g,eg,hg,y,_⟩:=x0 (H.r 2 rfl)
    have HT:=y H.n
    simp [go_sem,(gS ak 39 (H.d 1 rfl rfl)),eg,HT.cell,HT.frz]
    exact hN undef _ (H.k.store (.inl hg) [.int .i64 (((rpR r p).getD k half0).a),.int .i64 (((rpR r p).getD k half0).b),.int .i64 (((rpR r p).getD k half0).c)] 0) trivial (fun _=>BoxX.set eg hg HT (us:=[.int .i64 (((rpR r p).getD k half0).a),.int .i64 (((rpR r p).getD k half0).b),.int .i64 (((rpR r p).getD k half0).c)]) rfl rfl)
   intro L a24 w25 hL hF hK hV hX;have x0:=hX;replace hz:=hF.Z hz;replace hdf:=hF.E hdf;replace s2:=hF.G s2;replace s3:=hF.G s3;replace s4:=hF.G s4;replace s8:=hF.G s8;replace s34:=hF.G s34;replace s35:=hF.G s35;replace s36:=hF.G s36;replace b3:=b3.k0 hK;replace b4:=b4.k0 hK;replace b5:=b5.k0 hK;replace b16:=b16.k0 hK
   obtain ⟨g26,s10,lg26,-,b26⟩:=x0 (hL 2 (by decide))
   obtain ⟨_,b26,rfl⟩:=b26 (hL 3 (by decide))
   have ug26:=b26.lt
   replace fm:=fm.kp hK (by simp)
   replace N1:=N1.below hK.toBelow leR;replace N5:=N5.below hK.toBelow leR;have zw22:=hZ;have zw25:=hK.size;replace hZ:=Nat.le_refl w25.heap.size;replace hB:=hK.below0 hB;clear hF hK hV hL x0 hXb s37 fe
   obtain ⟨hv,ehv⟩:∃ z,z=((rpR r p).getD k half0):=⟨_,rfl⟩
   rw [← ehv] at b26 hh9
   have hh:=hh9
   have hLB:=lwB hrp.1 hh
   obtain ⟨⟨k1,k2⟩,⟨k3,k4⟩,⟨k5,k6⟩,⟨k7,k8⟩,⟨k9,k10⟩⟩:=pulB (mapIn hrp.1) hh
   have hsa:=hLB.sa
   have hsb:=hLB.sb
   have hss:=hLB.s
   have hds9:=hLB.ds
   refine th_n ?_;refine wp_seq ?_
   refine wp_regJ (by kernel_rfl) [40,41,42,43,44,45,46,47,48,49,50,51,52,53,54,11] [some (.pointer (some ⟨g26,0,none⟩)),some (.int .i64 hv.a),some (.pointer (some ⟨w.heap.size,0,none⟩)),some (.slice ra.map.A r.map.length ra.map.c),some (.pointer (some ⟨bm,om,none⟩)),some (.int .i64 (r.map.getD 0 0)),some (.int .i64 (hv.a*(r.map.getD 0 0))),some (.pointer (some ⟨g26,1,none⟩)),some (.int .i64 hv.b),some (.pointer (some ⟨w.heap.size,0,none⟩)),some (.slice ra.map.A r.map.length ra.map.c),some (.pointer (some ⟨bm,om+2,none⟩)),some (.int .i64 (r.map.getD 2 0)),some (.int .i64 (hv.b*(r.map.getD 2 0))),some (.int .i64 ((hv.a*(r.map.getD 0 0))+(hv.b*(r.map.getD 2 0)))),some (.int .i64 ((hv.a*(r.map.getD 0 0))+(hv.b*(r.map.getD 2 0))))] ([[],[0],[],[2],[2,3],[2,3,4],[0,1,2,3,4,5],[],[7],[],[9],[9,10],[9,10,11],[7,8,9,10,11,12],[0,1,2,3,4,5,6,7,8,9,10,11,12,13],[0,1,2,3,4,5,6,7,8,9,10,11,12,13,14]]) [40,41,42,43,44,45,46,47,48,49,50,51,52,53,54,11] [0,1,2,3,4,5,6,7,8,9,10,11,12,13,14,15] [] (fun _ _ _=>True) (by kernel_rfl) (by rw [hz];decide) ?_ (en rfl ?_ (en rfl ?_ (en rfl ?_ (en rfl ?_ (en rfl ?_ (en rfl ?_ (en rfl ?_ (en rfl ?_ (en rfl ?_ (en rfl ?_ (en rfl ?_ (en rfl ?_ (en rfl ?_ (en rfl ?_ (en rfl ?_ (en rfl ?_ .nil)))))))))))))))) ?_
   ·exact fun _ _=>trivial
   ·intro Lk ak ww H _ _ hN
    simp [go_sem,H.f.g rfl s10]
    exact (hN _ _ H.k rfl trivial)
   ·intro Lk ak ww H _ _ hN
    simp [go_sem,(gS ak 40 (H.d 0 rfl rfl)),(b26.k0 H.k).cell]
    exact (hN _ _ H.k rfl trivial)
   ·intro Lk ak ww H _ _ hN
    simp [go_sem,H.f.g rfl s2]
    exact (hN _ _ H.k rfl trivial)
   ·intro Lk ak ww H _ _ hN
    simp [go_sem,(gS ak 42 (H.d 2 rfl rfl)),(b3.k0 H.k).cell]
    exact (hN _ _ H.k rfl trivial)
   ·intro Lk ak ww H _ _ hN
    simp [go_sem,(gS ak 43 (H.d 3 rfl rfl)),hml,em]
    exact (hN _ _ H.k rfl trivial)
   ·intro Lk ak ww H _ _ hN
    have hE:=fm.kp H.k (by simp)
    simp [go_sem,(gS ak 44 (H.d 4 rfl rfl)),(hE.at_ 0 (i:=0) (by omega) 0 (p:=om) (by omega) rfl)]
    exact (hN _ _ H.k rfl trivial)
   ·exact fun Lk ak ww H _ _ hN=>wp_mul rfl (ev (H.d 1 rfl rfl)) (ev (H.d 5 rfl rfl)) (by omega) (hN _ _ H.k rfl trivial)
   ·intro Lk ak ww H _ _ hN
    simp [go_sem,H.f.g rfl s10]
    exact (hN _ _ H.k rfl trivial)
   ·intro Lk ak ww H _ _ hN
    simp [go_sem,(gS ak 47 (H.d 7 rfl rfl)),(b26.k0 H.k).cell]
    exact (hN _ _ H.k rfl trivial)
   ·intro Lk ak ww H _ _ hN
    simp [go_sem,H.f.g rfl s2]
    exact (hN _ _ H.k rfl trivial)
   ·intro Lk ak ww H _ _ hN
    simp [go_sem,(gS ak 49 (H.d 9 rfl rfl)),(b3.k0 H.k).cell]
    exact (hN _ _ H.k rfl trivial)
   ·intro Lk ak ww H _ _ hN
    simp [go_sem,(gS ak 50 (H.d 10 rfl rfl)),hml,em]
    exact (hN _ _ H.k rfl trivial)
   ·intro Lk ak ww H _ _ hN
    have hE:=fm.kp H.k (by simp)
    simp [go_sem,(gS ak 51 (H.d 11 rfl rfl)),(hE.at_ 0 (i:=2) (by omega) 0 (p:=om+2) (by omega) rfl)]
    exact (hN _ _ H.k rfl trivial)
   ·exact fun Lk ak ww H _ _ hN=>wp_mul rfl (ev (H.d 8 rfl rfl)) (ev (H.d 12 rfl rfl)) (by omega) (hN _ _ H.k rfl trivial)
   ·exact fun Lk ak ww H _ _ hN=>wp_add rfl (ev (H.d 6 rfl rfl)) (ev (H.d 13 rfl rfl)) (by omega) (hN _ _ H.k rfl trivial)
   ·exact fun Lk ak ww H _ _ hN=>wp_assign rfl (ev (H.d 14 rfl rfl)) (hN _ _ H.k rfl trivial)
   intro L a27 w28 hL hF hK hV hX;replace hz:=hF.Z hz;replace hdf:=hF.E hdf;replace s2:=hF.G s2;replace s3:=hF.G s3;replace s4:=hF.G s4;replace s8:=hF.G s8;replace s34:=hF.G s34;replace s35:=hF.G s35;replace s36:=hF.G s36;replace s10:=hF.G s10;have s11:=gS a27 11 (hV 15 _ rfl);replace b3:=b3.k0 hK;replace b4:=b4.k0 hK;replace b5:=b5.k0 hK;replace b16:=b16.k0 hK;replace b26:=b26.k0 hK
   replace fm:=fm.kp hK (by simp)
   replace N1:=N1.below hK.toBelow leR;replace N5:=N5.below hK.toBelow leR;replace hZ:=Nat.le_trans hZ hK.size;replace hB:=hK.below0 hB;clear hF hK hV hL hX
   obtain ⟨la,ela⟩:∃ z:Int,z=(hv.a*(r.map.getD 0 0))+(hv.b*(r.map.getD 2 0)):=⟨_,rfl⟩
   rw [← ela] at s11
   refine th_n ?_;refine wp_seq ?_
   refine wp_regJ (by kernel_rfl) [55,56,57,58,59,60,61,62,63,64,65,66,67,68,69,12] [some (.pointer (some ⟨g26,0,none⟩)),some (.int .i64 hv.a),some (.pointer (some ⟨w.heap.size,0,none⟩)),some (.slice ra.map.A r.map.length ra.map.c),some (.pointer (some ⟨bm,om+1,none⟩)),some (.int .i64 (r.map.getD 1 0)),some (.int .i64 (hv.a*(r.map.getD 1 0))),some (.pointer (some ⟨g26,1,none⟩)),some (.int .i64 hv.b),some (.pointer (some ⟨w.heap.size,0,none⟩)),some (.slice ra.map.A r.map.length ra.map.c),some (.pointer (some ⟨bm,om+3,none⟩)),some (.int .i64 (r.map.getD 3 0)),some (.int .i64 (hv.b*(r.map.getD 3 0))),some (.int .i64 ((hv.a*(r.map.getD 1 0))+(hv.b*(r.map.getD 3 0)))),some (.int .i64 ((hv.a*(r.map.getD 1 0))+(hv.b*(r.map.getD 3 0))))] ([[],[0],[],[2],[2,3],[2,3,4],[0,1,2,3,4,5],[],[7],[],[9],[9,10],[9,10,11],[7,8,9,10,11,12],[0,1,2,3,4,5,6,7,8,9,10,11,12,13],[0,1,2,3,4,5,6,7,8,9,10,11,12,13,14]]) [55,56,57,58,59,60,61,62,63,64,65,66,67,68,69,12] [0,1,2,3,4,5,6,7,8,9,10,11,12,13,14,15] [] (fun _ _ _=>True) (by kernel_rfl) (by rw [hz];decide) ?_ (en rfl ?_ (en rfl ?_ (en rfl ?_ (en rfl ?_ (en rfl ?_ (en rfl ?_ (en rfl ?_ (en rfl ?_ (en rfl ?_ (en rfl ?_ (en rfl ?_ (en rfl ?_ (en rfl ?_ (en rfl ?_ (en rfl ?_ (en rfl ?_ .nil)))))))))))))))) ?_
   ·exact fun _ _=>trivial
   ·intro Lk ak ww H _ _ hN
    simp [go_sem,H.f.g rfl s10]
    exact (hN _ _ H.k rfl trivial)
   ·intro Lk ak ww H _ _ hN
    simp [go_sem,(gS ak 55 (H.d 0 rfl rfl)),(b26.k0 H.k).cell]
    exact (hN _ _ H.k rfl trivial)
   ·intro Lk ak ww H _ _ hN
    simp [go_sem,H.f.g rfl s2]
    exact (hN _ _ H.k rfl trivial)
   ·intro Lk ak ww H _ _ hN
    simp [go_sem,(gS ak 57 (H.d 2 rfl rfl)),(b3.k0 H.k).cell]
    exact (hN _ _ H.k rfl trivial)
   ·intro Lk ak ww H _ _ hN
    simp [go_sem,(gS ak 58 (H.d 3 rfl rfl)),hml,em]
    exact (hN _ _ H.k rfl trivial)
   ·intro Lk ak ww H _ _ hN
    have hE:=fm.kp H.k (by simp)
    simp [go_sem,(gS ak 59 (H.d 4 rfl rfl)),(hE.at_ 0 (i:=1) (by omega) 0 (p:=om+1) (by omega) rfl)]
    exact (hN _ _ H.k rfl trivial)
   ·exact fun Lk ak ww H _ _ hN=>wp_mul rfl (ev (H.d 1 rfl rfl)) (ev (H.d 5 rfl rfl)) (by omega) (hN _ _ H.k rfl trivial)
   ·intro Lk ak ww H _ _ hN
    simp [go_sem,H.f.g rfl s10]
    exact (hN _ _ H.k rfl trivial)
   ·intro Lk ak ww H _ _ hN
    simp [go_sem,(gS ak 62 (H.d 7 rfl rfl)),(b26.k0 H.k).cell]
    exact (hN _ _ H.k rfl trivial)
   ·intro Lk ak ww H _ _ hN
    simp [go_sem,H.f.g rfl s2]
    exact (hN _ _ H.k rfl trivial)
   ·intro Lk ak ww H _ _ hN
    simp [go_sem,(gS ak 64 (H.d 9 rfl rfl)),(b3.k0 H.k).cell]
    exact (hN _ _ H.k rfl trivial)
   ·intro Lk ak ww H _ _ hN
    simp [go_sem,(gS ak 65 (H.d 10 rfl rfl)),hml,em]
    exact (hN _ _ H.k rfl trivial)
   ·intro Lk ak ww H _ _ hN
    have hE:=fm.kp H.k (by simp)
    simp [go_sem,(gS ak 66 (H.d 11 rfl rfl)),(hE.at_ 0 (i:=3) (by omega) 0 (p:=om+3) (by omega) rfl)]
    exact (hN _ _ H.k rfl trivial)
   ·exact fun Lk ak ww H _ _ hN=>wp_mul rfl (ev (H.d 8 rfl rfl)) (ev (H.d 12 rfl rfl)) (by omega) (hN _ _ H.k rfl trivial)
   ·exact fun Lk ak ww H _ _ hN=>wp_add rfl (ev (H.d 6 rfl rfl)) (ev (H.d 13 rfl rfl)) (by omega) (hN _ _ H.k rfl trivial)
   ·exact fun Lk ak ww H _ _ hN=>wp_assign rfl (ev (H.d 14 rfl rfl)) (hN _ _ H.k rfl trivial)
   intro L a29 w30 hL hF hK hV hX;replace hz:=hF.Z hz;replace hdf:=hF.E hdf;replace s2:=hF.G s2;replace s3:=hF.G s3;replace s4:=hF.G s4;replace s8:=hF.G s8;replace s34:=hF.G s34;replace s35:=hF.G s35;replace s36:=hF.G s36;replace s10:=hF.G s10;replace s11:=hF.G s11;have s12:=gS a29 12 (hV 15 _ rfl);replace b3:=b3.k0 hK;replace b4:=b4.k0 hK;replace b5:=b5.k0 hK;replace b16:=b16.k0 hK;replace b26:=b26.k0 hK
   replace fm:=fm.kp hK (by simp)
   replace N1:=N1.below hK.toBelow leR;replace N5:=N5.below hK.toBelow leR;replace hZ:=Nat.le_trans hZ hK.size;replace hB:=hK.below0 hB;clear hF hK hV hL hX
   obtain ⟨lb,elb⟩:∃ z:Int,z=(hv.a*(r.map.getD 1 0))+(hv.b*(r.map.getD 3 0)):=⟨_,rfl⟩
   rw [← elb] at s12
   refine th_n ?_;refine wp_seq ?_
   refine wp_regJ (by kernel_rfl) [70,71,72,73,74,13] [some (.pointer (some ⟨g26,2,none⟩)),some (.int .i64 hv.c),some (.pointer (some ⟨w.heap.size,1,none⟩)),some (.int .i64 r.div),some (.int .i64 (hv.c*r.div)),some (.int .i64 (hv.c*r.div))] (dlR 6) [70,71,72,73,74,13] [0,1,2,3,4,5] [] (fun _ _ _=>True) (by kernel_rfl) (by rw [hz];decide) ?_ (en rfl ?_ (en rfl ?_ (en rfl ?_ (en rfl ?_ (en rfl ?_ (en rfl ?_ .nil)))))) ?_
   ·exact fun _ _=>trivial
   ·intro Lk ak ww H _ _ hN
    simp [go_sem,H.f.g rfl s10]
    exact (hN _ _ H.k rfl trivial)
   ·intro Lk ak ww H _ _ hN
    simp [go_sem,(gS ak 70 (H.d 0 rfl rfl)),(b26.k0 H.k).cell]
    exact (hN _ _ H.k rfl trivial)
   ·intro Lk ak ww H _ _ hN
    simp [go_sem,H.f.g rfl s2]
    exact (hN _ _ H.k rfl trivial)
   ·intro Lk ak ww H _ _ hN
    simp [go_sem,(gS ak 72 (H.d 2 rfl rfl)),(b3.k0 H.k).cell]
    exact (hN _ _ H.k rfl trivial)
   ·exact fun Lk ak ww H _ _ hN=>wp_mul rfl (ev (H.d 1 rfl rfl)) (ev (H.d 3 rfl rfl)) (by omega) (hN _ _ H.k rfl trivial)
   ·exact fun Lk ak ww H _ _ hN=>wp_assign rfl (ev (H.d 4 rfl rfl)) (hN _ _ H.k rfl trivial)
   intro L a31 w32 hL hF hK hV hX;replace hz:=hF.Z hz;replace hdf:=hF.E hdf;replace s2:=hF.G s2;replace s3:=hF.G s3;replace s4:=hF.G s4;replace s8:=hF.G s8;replace s34:=hF.G s34;replace s35:=hF.G s35;replace s36:=hF.G s36;replace s10:=hF.G s10;replace s11:=hF.G s11;replace s12:=hF.G s12;have s13:=gS a31 13 (hV 5 _ rfl);replace b3:=b3.k0 hK;replace b4:=b4.k0 hK;replace b5:=b5.k0 hK;replace b16:=b16.k0 hK;replace b26:=b26.k0 hK;replace N1:=N1.below hK.toBelow leR;replace N5:=N5.below hK.toBelow leR;replace hZ:=Nat.le_trans hZ hK.size;replace hB:=hK.below0 hB;clear hF hK hV hL hX fm
   obtain ⟨lc,elc⟩:∃ z:Int,z=hv.c*r.div:=⟨_,rfl⟩
   rw [← elc] at s13
   refine th_n ?_;refine wp_seq ?_
   refine wp_regJ (by kernel_rfl) [75,76,77,14] [some (roomV r ra),some (halfV hv),some (.int .i64 (slopeA r hv)),some (.int .i64 (slopeA r hv))] (dlR 4) [75,76,77,14] [0,1,2,3] [] (fun _ _ _=>True) (by kernel_rfl) (by rw [hz];decide) ?_ (en rfl ?_ (en rfl ?_ (en rfl ?_ (en rfl ?_ .nil)))) ?_
   ·exact fun _ _=>trivial
   ·intro Lk ak ww H _ _ hN
    simp [go_sem,H.f.g rfl s2,(b3.k0 H.k).cell]
    exact (hN _ _ H.k rfl trivial)
   ·intro Lk ak ww H _ _ hN
    simp [go_sem,H.f.g rfl s10,(b26.k0 H.k).cell]
    exact (hN _ _ H.k rfl trivial)
   ·intro Lk ak ww H _ _ hN
    simp [go_sem,(gS ak 75 (H.d 0 rfl rfl)),(gS ak 76 (H.d 1 rfl rfl))]
    refine (slope_c r ra hv ww hLB.sa hLB.sb).mono ?_
    rintro x wx ⟨rfl,hb⟩
    exact (hN _ _ (H.k.call hb) rfl trivial)
   ·exact fun Lk ak ww H _ _ hN=>wp_assign rfl (ev (H.d 2 rfl rfl)) (hN _ _ H.k rfl trivial)
   intro L a33 w34 hL hF hK hV hX;replace hz:=hF.Z hz;replace hdf:=hF.E hdf;replace s2:=hF.G s2;replace s3:=hF.G s3;replace s4:=hF.G s4;replace s8:=hF.G s8;replace s34:=hF.G s34;replace s35:=hF.G s35;replace s36:=hF.G s36;replace s11:=hF.G s11;replace s12:=hF.G s12;replace s13:=hF.G s13;have s14:=gS a33 14 (hV 3 _ rfl);replace b3:=b3.k0 hK;replace b4:=b4.k0 hK;replace b5:=b5.k0 hK;replace b16:=b16.k0 hK;replace N1:=N1.below hK.toBelow leR;replace N5:=N5.below hK.toBelow leR;replace hZ:=Nat.le_trans hZ hK.size;replace hB:=hK.below0 hB;clear hF hK hV hL hX s10 b26
   obtain ⟨nn,enn⟩:∃ z:Int,z=slopeA r hv:=⟨_,rfl⟩
   rw [← enn] at s14
   have enn2:nn=slopeA r hv:=enn
   have hnn : -10000000≤nn∧nn≤10000000:=by rw [enn2];exact hss
   have hds : -200000000≤r.div*nn∧r.div*nn≤200000000:=by rw [enn2];exact hds9
   refine th_n ?_;refine wp_block ?_;refine wp_seq ?_
   refine wp_regJ (by kernel_rfl) [79,80,78] [some (.int .i64 nn),some (.bool (decide (nn > 0))),some (.bool (decide (nn > 0)))] (dlR 3) [79,80,78] [0,1,2] [] (fun _ _ _=>True) (by kernel_rfl) (by rw [hz];decide) ?_ (en rfl ?_ (en rfl ?_ (en rfl ?_ .nil))) ?_
   ·exact fun _ _=>trivial
   ·exact fun Lk ak ww H _ _ hN=>wp_move rfl (ev (H.f.g rfl s14)) (hN _ _ H.k rfl trivial)
   ·exact fun Lk ak ww H _ _ hN=>wp_bin rfl (ev (H.d 0 rfl rfl)) rfl rfl rfl (hN _ _ H.k rfl trivial)
   ·exact fun Lk ak ww H _ _ hN=>wp_assign rfl (ev (H.d 1 rfl rfl)) (hN _ _ H.k rfl trivial)
   intro L a35 w36 hL hF hK hV hX;replace hz:=hF.Z hz;replace hdf:=hF.E hdf;replace s2:=hF.G s2;replace s3:=hF.G s3;replace s4:=hF.G s4;replace s8:=hF.G s8;replace s34:=hF.G s34;replace s35:=hF.G s35;replace s36:=hF.G s36;replace s11:=hF.G s11;replace s12:=hF.G s12;replace s13:=hF.G s13;replace s14:=hF.G s14;have s78:=gS a35 78 (hV 2 _ rfl);replace b3:=b3.k0 hK;replace b4:=b4.k0 hK;replace b5:=b5.k0 hK;replace b16:=b16.k0 hK;replace N1:=N1.below hK.toBelow leR;replace N5:=N5.below hK.toBelow leR;replace hZ:=Nat.le_trans hZ hK.size;replace hB:=hK.below0 hB;clear hF hK hV hL hX;refine th_n ?_
   rcases Bool.eq_false_or_eq_true (decide (nn > 0)) with q37|q37
   ·skip
    refine wp_cond_true (ev (vb s78 q37)) ?_
    obtain ⟨PC,ePC⟩:∃ z,z=pcM r hv:=⟨_,rfl⟩
    have hn0:slopeA r hv≠0:=by rw [← enn2];have:=dec_t q37;omega
    have hPC:PC=pieceM (-la) (-lb) lc (r.div*nn):=by rw [ePC,ela,elb,elc,enn2];rfl
    have hPB:PcB (-la) (-lb) lc (r.div*nn):=by rw [ela,elb,elc,enn2];exact hLB.p hn0
    have hXb:StaysX [93,94] (fun L aa ww=>(L 12=true→(fun ww v=>∃ g6,v=.slice (some ⟨g6,0,none⟩) 1 1∧HasT ww g6 109 [.int .i64 PC.a,.int .i64 PC.b,.int .i64 PC.c,.int .i64 PC.d]∧w36.heap.size≤g6) ww (aa.tmps[93]?.getD undef))∧(L 13=true→(fun ww v=>∃ A7 c7,v=.slice A7 ((hi++[PC]).length) c7∧LawNew ww w10.heap.size ⟨lo,(hi++[PC])⟩ ⟨a5.lows,⟨A7,c7⟩⟩) ww (aa.tmps[94]?.getD undef))∧PreX ww g16 32 [.slice a5.lows.A lo.length a5.lows.c,.slice a5.highs.A hi.length a5.highs.c] (L 15) (fun ww vs=>∃ A7 c7,vs=[.slice a5.lows.A lo.length a5.lows.c,.slice A7 ((hi++[PC]).length) c7]∧LawNew ww w10.heap.size ⟨lo,(hi++[PC])⟩ ⟨a5.lows,⟨A7,c7⟩⟩)∧(L 13=false→LawNew ww w10.heap.size ⟨lo,hi⟩ a5)):=by
     intro L aa ww w' kk vv hkk hb hX
     obtain ⟨x0,x1,x2,x3⟩:=hX
     exact ⟨(fun h=>by rw [put_ne' (hkk 93 (by simp))];obtain ⟨g6',e,f6'⟩:=x0 h;exact ⟨g6',e,⟨f6'.1.bel hb,f6'.2⟩⟩),(fun h=>by rw [put_ne' (hkk 94 (by simp))];obtain ⟨A7',c7',e,f7'⟩:=x1 h;exact ⟨A7',c7',e,f7'.below hb leR⟩),(x2.bel hb (fun _ ⟨A7',c7',e,f7'⟩=>⟨A7',c7',e,f7'.below hb leR⟩)),(fun h=>(x3 h).below hb leR)⟩
    refine wp_regK hXb (by kernel_rfl) [81,82,83,84,85,86,87,88,89,90,91,92,93,94,95,0] [some (.pointer (some ⟨g16,1,none⟩)),some (.slice a5.highs.A hi.length a5.highs.c),some (.int .i64 la),some (.int .i64 (-la)),some (.int .i64 lb),some (.int .i64 (-lb)),some (.int .i64 lc),some (.pointer (some ⟨w.heap.size,1,none⟩)),some (.int .i64 r.div),some (.int .i64 nn),some (.int .i64 (r.div*nn)),some (pieceV PC),none,none,some (.pointer (some ⟨g16,1,none⟩)),none] ([[],[0],[],[2],[],[4],[],[],[7],[],[7,8,9],[2,3,4,5,6,7,8,9,10],[2,3,4,5,6,7,8,9,10,11],[0,1,2,3,4,5,6,7,8,9,10,11,12],[0,1,2,3,4,5,6,7,8,9,10,11,12,13],[0,1,2,3,4,5,6,7,8,9,10,11,12,13,14]]) [81,82,83,84,85,86,87,88,89,90,91,92,93,94,95] [0,1,2,3,4,5,6,7,8,9,10,11,12,13,14,15] (blkL a5.highs.A++[g16]) (by kernel_rfl) (by rw [hz];decide) ?_ (en rfl ?_ (en rfl ?_ (en rfl ?_ (en rfl ?_ (en rfl ?_ (en rfl ?_ (en rfl ?_ (en rfl ?_ (en rfl ?_ (en rfl ?_ (en rfl ?_ (en rfl ?_ (en rfl ?_ (en rfl ?_ (en rfl ?_ (en rfl ?_ .nil)))))))))))))))) ?_
    ·exact fun _ h=>⟨(fun h=>by cases h),(fun h=>by cases h),(⟨fun _=>b16.kp h (by simp),(fun h=>by cases h)⟩),(fun _=>N5.below h.toBelow leR)⟩
    ·intro Lk ak ww H _ _ hN
     simp [go_sem,H.f.g rfl s8]
     exact (hN _ _ H.k rfl (hXb.q rfl H.x))
    ·intro Lk ak ww H _ _ hN
     obtain ⟨x0,x1,x2,x3⟩:=H.x
     have hb0:=x2.1 (H.t 15 rfl)
     simp [go_sem,(gS ak 81 (H.d 0 rfl rfl)),hb0.cell]
     exact (hN _ _ H.k rfl (hXb.q rfl H.x))
    ·exact fun Lk ak ww H _ _ hN=>wp_move rfl (ev (H.f.g rfl s11)) (hN _ _ H.k rfl (hXb.q rfl H.x))
    ·exact fun Lk ak ww H _ _ hN=>wp_neg rfl (ev (H.d 2 rfl rfl)) (by omega) (hN _ _ H.k rfl (hXb.q rfl H.x))
    ·exact fun Lk ak ww H _ _ hN=>wp_move rfl (ev (H.f.g rfl s12)) (hN _ _ H.k rfl (hXb.q rfl H.x))
    ·exact fun Lk ak ww H _ _ hN=>wp_neg rfl (ev (H.d 4 rfl rfl)) (by omega) (hN _ _ H.k rfl (hXb.q rfl H.x))
    ·exact fun Lk ak ww H _ _ hN=>wp_move rfl (ev (H.f.g rfl s13)) (hN _ _ H.k rfl (hXb.q rfl H.x))
    ·intro Lk ak ww H _ _ hN
     simp [go_sem,H.f.g rfl s2]
     exact (hN _ _ H.k rfl (hXb.q rfl H.x))
    ·intro Lk ak ww H _ _ hN
     simp [go_sem,(gS ak 88 (H.d 7 rfl rfl)),(b3.kp H.k (nin_app (blkL_nin (fun p hp=>by have q1:=N5.highs.blk p hp;have q2:=i5H p hp;omega)) (by simp<;>omega))).cell]
     exact (hN _ _ H.k rfl (hXb.q rfl H.x))
    ·exact fun Lk ak ww H _ _ hN=>wp_move rfl (ev (H.f.g rfl s14)) (hN _ _ H.k rfl (hXb.q rfl H.x))
    ·exact fun Lk ak ww H _ _ hN=>wp_mul rfl (ev (H.d 8 rfl rfl)) (ev (H.d 9 rfl rfl)) (by omega) (hN _ _ H.k rfl (hXb.q rfl H.x))
    ·intro Lk ak ww H _ _ hN
     simp [go_sem,(gS ak 84 (H.d 3 rfl rfl)),(gS ak 86 (H.d 5 rfl rfl)),(gS ak 87 (H.d 6 rfl rfl)),(gS ak 91 (H.d 10 rfl rfl))]
     refine (iPieceX_c hPC ww hPB).mono ?_
     rintro x wx ⟨rfl,hb⟩
     exact (hN _ _ (H.k.call hb) rfl (hXb.b rfl hb H.x))
    ·intro Lk ak ww H _ _ hN
     obtain ⟨x0,x1,x2,x3⟩:=H.x
     simp [go_sem,(gS ak 92 (H.d 11 rfl rfl))]
     have f6:HasT (ww.alloc (.cells #[.int .i64 PC.a,.int .i64 PC.b,.int .i64 PC.c,.int .i64 PC.d] 109)) ww.heap.size 109 [.int .i64 PC.a,.int .i64 PC.b,.int .i64 PC.c,.int .i64 PC.d]∧w36.heap.size≤ww.heap.size:=⟨HasT.new _ _ _,H.k.size⟩
     exact hN _ _ (H.k.alloc _) trivial ⟨(fun _=>by rw [put_get_self (H.f.lt (by rw [hz];decide))];exact ⟨_,rfl,f6⟩),(fun h=>by rw [put_ne' (by decide)];obtain ⟨A7',c7',e,f7'⟩:=x1 h;exact ⟨A7',c7',e,f7'.below (below_al bR _) leR⟩),(x2.bel (below_al bR _) (fun _ ⟨A7',c7',e,f7'⟩=>⟨A7',c7',e,f7'.below (below_al bR _) leR⟩)),(fun h=>(x3 h).below (below_al bR _) leR)⟩
    ·intro Lk ak ww H _ _ hN
     obtain ⟨x0,x1,x2,x3⟩:=H.x
     obtain ⟨g6,ee12,f6⟩:=x0 (H.r 12 rfl)
     refine wp_app1at (xs:=hi) pieceC_len rfl w10.heap.size i0p _ 32 Tryz.underlying30 hi0p hz0p hz1p hz2p rfl (by decide) (ev (H.d 1 rfl rfl)) (x3 H.n).highs (ev ee12) (y:=PC) f6.1 pieceC_one (by have:=H.k.size;omega) (by omega) (by decide) ?_
     intro A7 c7 wx f7 hG hat
     replace f7:=lawNew_appH (x3 H.n) f7 hG hat
     exact hN _ _ (H.k.trans2 hG (fun m h=>.inl (by simp [h]))) trivial ⟨(fun h=>by rw [put_ne' (by decide)];obtain ⟨g',e,f'⟩:=x0 h;exact ⟨g',e,f'.1.kp hG (blkL_nin (fun p hp=>by have q1:=N5.highs.blk p hp;have q2:=i5H p hp;have:=f'.2;omega)),f'.2⟩),(fun _=>by rw [put_get_self (H.f.lt (by rw [hz];decide))];exact ⟨A7,c7,rfl,f7⟩),(⟨fun h=>(x2.1 h).kp hG (blkL_nin (N5.highs.typ b16 (by decide))),fun h=>absurd ((H.t 15 rfl).symm.trans h) (by decide)⟩),(fun h=>by simp [upd] at h)⟩
    ·intro Lk ak ww H _ _ hN
     simp [go_sem,H.f.g rfl s8]
     exact (hN _ _ H.k rfl (hXb.q rfl H.x))
    ·intro Lk ak ww H _ _ hN
     obtain ⟨x0,x1,x2,x3⟩:=H.x
     obtain ⟨A7,c7,ee13,f7⟩:=x1 (H.r 13 rfl)
     have HT:=x2.1 H.n
     simp [go_sem,(gS ak 95 (H.d 14 rfl rfl)),ee13,HT.cell,HT.frz,-List.length_append]
     have f7:=f7.otherT HT (by decide) [.slice A7 ((hi++[PC]).length) c7] 1
     exact hN undef _ (H.k.store (.inr (by simp)) [.slice A7 ((hi++[PC]).length) c7] 1) trivial ⟨(fun h=>by obtain ⟨g6',e,f6'⟩:=x0 h;exact ⟨g6',e,⟨f6'.1.other (f6'.1.ne HT (by decide)) [.slice A7 ((hi++[PC]).length) c7] 1,f6'.2⟩⟩),(fun h=>by obtain ⟨A7',c7',e,f7'⟩:=x1 h;exact ⟨A7',c7',e,f7'.otherT HT (by decide) [.slice A7 ((hi++[PC]).length) c7] 1⟩),(⟨(fun q=>by cases q),fun _=>⟨_,(HT.set_ 1 _),⟨A7,c7,rfl,f7⟩⟩⟩),(fun h=>(x3 h).otherT HT (by decide) [.slice A7 ((hi++[PC]).length) c7] 1)⟩
    intro L a38 w39 hL hF hK hV hX
    obtain ⟨x0,x1,x2,x3⟩:=hX
    replace hz:=hF.Z hz;replace hdf:=hF.E hdf
    have hB9:=hK.below hB hB.size (fun m hm=>by rcases List.mem_append.1 hm with hm|hm;(obtain ⟨p,hp,rfl⟩:=blkL_in hm;have q1:=N5.highs.blk p hp;have q2:=i5H p hp;omega);(simp only [List.mem_singleton] at hm;omega))
    replace s2:=hF.G s2;replace s3:=hF.G s3;replace s4:=hF.G s4;replace s8:=hF.G s8;replace s34:=hF.G s34;replace s35:=hF.G s35;replace s36:=hF.G s36
    replace b3:=b3.kp hK (nin_app (blkL_nin (fun p hp=>by have q1:=N5.highs.blk p hp;have q2:=i5H p hp;omega)) (by simp<;>omega))
    replace b4:=b4.kp hK (nin_app (blkL_nin (fun p hp=>by have q1:=N5.highs.blk p hp;have q2:=i5H p hp;omega)) (by simp<;>omega))
    replace b5:=b5.kp hK (nin_app (blkL_nin (fun p hp=>by have q1:=N5.highs.blk p hp;have q2:=i5H p hp;omega)) (by simp<;>omega))
    clear b16
    obtain ⟨_,b16,A7,c7,rfl,N7⟩:=x2.2 (hL 15 (by decide))
    replace N1:=N1.kp hK i1 (by omega) (fun m hm=>by rcases List.mem_append.1 hm with hm|hm;(obtain ⟨p,hp,rfl⟩:=blkL_in hm;have q1:=N5.highs.blk p hp;have q2:=i5H p hp;omega);(simp only [List.mem_singleton] at hm;omega))
    have zw36:=hZ;have zw39:=hK.size;replace hZ:=Nat.le_refl w39.heap.size;replace hB:=hB9;clear hF hK hV hL x0 x1 x2 x3 hXb s11 s12 s13 s14 s78;refine ib_n (ib_n (th_n ?_))
    refine wp_regJ (by kernel_rfl) [122,36] [some (.int .i64 ((k:Int)+1)),some (.int .i64 ((k:Int)+1))] (dlR 2) [122,36] [0,1] [] (fun L aa ww=>(L 1=false→aa.tmps[36]?.getD undef=.int .i64 (k:Int))) (by kernel_rfl) (by rw [hz];decide) ?_ (en rfl ?_ (en rfl ?_ .nil)) ?_
    ·exact fun _ h=>(fun _=>s36)
    ·intro Lk ak ww H _ _ hN
     have x0:=H.x
     exact wp_add rfl (ev (x0 (H.t 1 rfl))) rfl (by omega) (hN _ _ H.k rfl (fun h=>(put_ne' (by decide) _).trans (x0 h)))
    ·intro Lk ak ww H _ _ hN
     have x0:=H.x
     exact wp_move rfl (ev (H.d 0 rfl rfl)) (hN _ _ H.k rfl (fun h=>by simp [upd] at h))
    intro L a40 w41 hL hF hK hV hX;have x0:=hX;replace hz:=hF.Z hz;replace hdf:=hF.E hdf;replace s2:=hF.G s2;replace s3:=hF.G s3;replace s4:=hF.G s4;replace s8:=hF.G s8;replace s34:=hF.G s34;replace s35:=hF.G s35;have s36:=gS a40 36 (hV 1 _ rfl);replace b3:=b3.k0 hK;replace b4:=b4.k0 hK;replace b5:=b5.k0 hK;replace b16:=b16.k0 hK;replace N1:=N1.below hK.toBelow leR;replace N7:=N7.below hK.toBelow leR;replace hZ:=Nat.le_trans hZ hK.size;replace hB:=hK.below0 hB;clear hF hK hV hL x0;refine th_n ?_
    refine ⟨?_, ?_⟩
    ·exact ⟨hz,hdf,(k+1),(lo),((hi++[PC])),(⟨a5.lows,⟨A7,c7⟩⟩),(by omega),(by rw [lwA_next hkl,hlw,← ehv,ePC];exact lwF_hi (by rw [← enn2];exact dec_t q37)),(by (try rw [List.length_append]);(try simp only [List.length_cons,List.length_nil]);omega),s2,s3,s4,s8,s34,s35,s36,b3,b4,b5,b16,N1,(N7),hB,(by omega)⟩
    ·show ((rpR r p).length-(intOf (a40.tmps[36]?.getD undef)).toNat)<_
     rw [s36,hmu];simp only [intOf];omega
   ·skip
    refine wp_cond_false (ev (vb s78 q37)) ?_
    refine wp_seq ?_
    refine wp_regJ (by kernel_rfl) [97,98,96] [some (.int .i64 nn),some (.bool (decide (nn<0))),some (.bool (decide (nn<0)))] (dlR 3) [97,98,96] [0,1,2] [] (fun _ _ _=>True) (by kernel_rfl) (by rw [hz];decide) ?_ (en rfl ?_ (en rfl ?_ (en rfl ?_ .nil))) ?_
    ·exact fun _ _=>trivial
    ·exact fun Lk ak ww H _ _ hN=>wp_move rfl (ev (H.f.g rfl s14)) (hN _ _ H.k rfl trivial)
    ·exact fun Lk ak ww H _ _ hN=>wp_bin rfl (ev (H.d 0 rfl rfl)) rfl rfl rfl (hN _ _ H.k rfl trivial)
    ·exact fun Lk ak ww H _ _ hN=>wp_assign rfl (ev (H.d 1 rfl rfl)) (hN _ _ H.k rfl trivial)
    intro L a42 w43 hL hF hK hV hX;replace hz:=hF.Z hz;replace hdf:=hF.E hdf;replace s2:=hF.G s2;replace s3:=hF.G s3;replace s4:=hF.G s4;replace s8:=hF.G s8;replace s34:=hF.G s34;replace s35:=hF.G s35;replace s36:=hF.G s36;replace s11:=hF.G s11;replace s12:=hF.G s12;replace s13:=hF.G s13;replace s14:=hF.G s14;have s96:=gS a42 96 (hV 2 _ rfl);replace b3:=b3.k0 hK;replace b4:=b4.k0 hK;replace b5:=b5.k0 hK;replace b16:=b16.k0 hK;replace N1:=N1.below hK.toBelow leR;replace N5:=N5.below hK.toBelow leR;replace hZ:=Nat.le_trans hZ hK.size;replace hB:=hK.below0 hB;clear hF hK hV hL hX s78;refine th_n ?_
    rcases Bool.eq_false_or_eq_true (decide (nn<0)) with q44|q44
    ·skip
     refine wp_cond_true (ev (vb s96 q44)) ?_
     obtain ⟨PC,ePC⟩:∃ z,z=pcM r hv:=⟨_,rfl⟩
     have hn0:slopeA r hv≠0:=by rw [← enn2];have:=dec_t q44;omega
     have hPC:PC=pieceM (-la) (-lb) lc (r.div*nn):=by rw [ePC,ela,elb,elc,enn2];rfl
     have hPB:PcB (-la) (-lb) lc (r.div*nn):=by rw [ela,elb,elc,enn2];exact hLB.p hn0
     have hXb:StaysX [111,112] (fun L aa ww=>(L 12=true→(fun ww v=>∃ g8,v=.slice (some ⟨g8,0,none⟩) 1 1∧HasT ww g8 109 [.int .i64 PC.a,.int .i64 PC.b,.int .i64 PC.c,.int .i64 PC.d]∧w43.heap.size≤g8) ww (aa.tmps[111]?.getD undef))∧(L 13=true→(fun ww v=>∃ A9 c9,v=.slice A9 ((lo++[PC]).length) c9∧LawNew ww w10.heap.size ⟨(lo++[PC]),hi⟩ ⟨⟨A9,c9⟩,a5.highs⟩) ww (aa.tmps[112]?.getD undef))∧PreX ww g16 32 [.slice a5.lows.A lo.length a5.lows.c,.slice a5.highs.A hi.length a5.highs.c] (L 15) (fun ww vs=>∃ A9 c9,vs=[.slice A9 ((lo++[PC]).length) c9,.slice a5.highs.A hi.length a5.highs.c]∧LawNew ww w10.heap.size ⟨(lo++[PC]),hi⟩ ⟨⟨A9,c9⟩,a5.highs⟩)∧(L 13=false→LawNew ww w10.heap.size ⟨lo,hi⟩ a5)):=by
      intro L aa ww w' kk vv hkk hb hX
      obtain ⟨x0,x1,x2,x3⟩:=hX
      exact ⟨(fun h=>by rw [put_ne' (hkk 111 (by simp))];obtain ⟨g8',e,f8'⟩:=x0 h;exact ⟨g8',e,⟨f8'.1.bel hb,f8'.2⟩⟩),(fun h=>by rw [put_ne' (hkk 112 (by simp))];obtain ⟨A9',c9',e,f9'⟩:=x1 h;exact ⟨A9',c9',e,f9'.below hb leR⟩),(x2.bel hb (fun _ ⟨A9',c9',e,f9'⟩=>⟨A9',c9',e,f9'.below hb leR⟩)),(fun h=>(x3 h).below hb leR)⟩
     refine wp_regK hXb (by kernel_rfl) [99,100,101,102,103,104,105,106,107,108,109,110,111,112,113,0] [some (.pointer (some ⟨g16,0,none⟩)),some (.slice a5.lows.A lo.length a5.lows.c),some (.int .i64 la),some (.int .i64 (-la)),some (.int .i64 lb),some (.int .i64 (-lb)),some (.int .i64 lc),some (.pointer (some ⟨w.heap.size,1,none⟩)),some (.int .i64 r.div),some (.int .i64 nn),some (.int .i64 (r.div*nn)),some (pieceV PC),none,none,some (.pointer (some ⟨g16,0,none⟩)),none] ([[],[0],[],[2],[],[4],[],[],[7],[],[7,8,9],[2,3,4,5,6,7,8,9,10],[2,3,4,5,6,7,8,9,10,11],[0,1,2,3,4,5,6,7,8,9,10,11,12],[0,1,2,3,4,5,6,7,8,9,10,11,12,13],[0,1,2,3,4,5,6,7,8,9,10,11,12,13,14]]) [99,100,101,102,103,104,105,106,107,108,109,110,111,112,113] [0,1,2,3,4,5,6,7,8,9,10,11,12,13,14,15] (blkL a5.lows.A++[g16]) (by kernel_rfl) (by rw [hz];decide) ?_ (en rfl ?_ (en rfl ?_ (en rfl ?_ (en rfl ?_ (en rfl ?_ (en rfl ?_ (en rfl ?_ (en rfl ?_ (en rfl ?_ (en rfl ?_ (en rfl ?_ (en rfl ?_ (en rfl ?_ (en rfl ?_ (en rfl ?_ (en rfl ?_ .nil)))))))))))))))) ?_
     ·exact fun _ h=>⟨(fun h=>by cases h),(fun h=>by cases h),(⟨fun _=>b16.kp h (by simp),(fun h=>by cases h)⟩),(fun _=>N5.below h.toBelow leR)⟩
     ·intro Lk ak ww H _ _ hN
      simp [go_sem,H.f.g rfl s8]
      exact (hN _ _ H.k rfl (hXb.q rfl H.x))
     ·intro Lk ak ww H _ _ hN
      obtain ⟨x0,x1,x2,x3⟩:=H.x
      have hb0:=x2.1 (H.t 15 rfl)
      simp [go_sem,(gS ak 99 (H.d 0 rfl rfl)),hb0.cell]
      exact (hN _ _ H.k rfl (hXb.q rfl H.x))
     ·exact fun Lk ak ww H _ _ hN=>wp_move rfl (ev (H.f.g rfl s11)) (hN _ _ H.k rfl (hXb.q rfl H.x))
     ·exact fun Lk ak ww H _ _ hN=>wp_neg rfl (ev (H.d 2 rfl rfl)) (by omega) (hN _ _ H.k rfl (hXb.q rfl H.x))
     ·exact fun Lk ak ww H _ _ hN=>wp_move rfl (ev (H.f.g rfl s12)) (hN _ _ H.k rfl (hXb.q rfl H.x))
     ·exact fun Lk ak ww H _ _ hN=>wp_neg rfl (ev (H.d 4 rfl rfl)) (by omega) (hN _ _ H.k rfl (hXb.q rfl H.x))
     ·exact fun Lk ak ww H _ _ hN=>wp_move rfl (ev (H.f.g rfl s13)) (hN _ _ H.k rfl (hXb.q rfl H.x))
     ·intro Lk ak ww H _ _ hN
      simp [go_sem,H.f.g rfl s2]
      exact (hN _ _ H.k rfl (hXb.q rfl H.x))
     ·intro Lk ak ww H _ _ hN
      simp [go_sem,(gS ak 106 (H.d 7 rfl rfl)),(b3.kp H.k (nin_app (blkL_nin (fun p hp=>by have q1:=N5.lows.blk p hp;have q2:=i5L p hp;omega)) (by simp<;>omega))).cell]
      exact (hN _ _ H.k rfl (hXb.q rfl H.x))
     ·exact fun Lk ak ww H _ _ hN=>wp_move rfl (ev (H.f.g rfl s14)) (hN _ _ H.k rfl (hXb.q rfl H.x))
     ·exact fun Lk ak ww H _ _ hN=>wp_mul rfl (ev (H.d 8 rfl rfl)) (ev (H.d 9 rfl rfl)) (by omega) (hN _ _ H.k rfl (hXb.q rfl H.x))
     ·intro Lk ak ww H _ _ hN
      simp [go_sem,(gS ak 102 (H.d 3 rfl rfl)),(gS ak 104 (H.d 5 rfl rfl)),(gS ak 105 (H.d 6 rfl rfl)),(gS ak 109 (H.d 10 rfl rfl))]
      refine (iPieceX_c hPC ww hPB).mono ?_
      rintro x wx ⟨rfl,hb⟩
      exact (hN _ _ (H.k.call hb) rfl (hXb.b rfl hb H.x))
     ·intro Lk ak ww H _ _ hN
      obtain ⟨x0,x1,x2,x3⟩:=H.x
      simp [go_sem,(gS ak 110 (H.d 11 rfl rfl))]
      have f8:HasT (ww.alloc (.cells #[.int .i64 PC.a,.int .i64 PC.b,.int .i64 PC.c,.int .i64 PC.d] 109)) ww.heap.size 109 [.int .i64 PC.a,.int .i64 PC.b,.int .i64 PC.c,.int .i64 PC.d]∧w43.heap.size≤ww.heap.size:=⟨HasT.new _ _ _,H.k.size⟩
      exact hN _ _ (H.k.alloc _) trivial ⟨(fun _=>by rw [put_get_self (H.f.lt (by rw [hz];decide))];exact ⟨_,rfl,f8⟩),(fun h=>by rw [put_ne' (by decide)];obtain ⟨A9',c9',e,f9'⟩:=x1 h;exact ⟨A9',c9',e,f9'.below (below_al bR _) leR⟩),(x2.bel (below_al bR _) (fun _ ⟨A9',c9',e,f9'⟩=>⟨A9',c9',e,f9'.below (below_al bR _) leR⟩)),(fun h=>(x3 h).below (below_al bR _) leR)⟩
     ·intro Lk ak ww H _ _ hN
      obtain ⟨x0,x1,x2,x3⟩:=H.x
      obtain ⟨g8,ee12,f8⟩:=x0 (H.r 12 rfl)
      refine wp_app1at (xs:=lo) pieceC_len rfl w10.heap.size i0p _ 32 Tryz.underlying30 hi0p hz0p hz1p hz2p rfl (by decide) (ev (H.d 1 rfl rfl)) (x3 H.n).lows (ev ee12) (y:=PC) f8.1 pieceC_one (by have:=H.k.size;omega) (by omega) (by decide) ?_
      intro A9 c9 wx f9 hG hat
      replace f9:=lawNew_appL (x3 H.n) f9 hG hat
      exact hN _ _ (H.k.trans2 hG (fun m h=>.inl (by simp [h]))) trivial ⟨(fun h=>by rw [put_ne' (by decide)];obtain ⟨g',e,f'⟩:=x0 h;exact ⟨g',e,f'.1.kp hG (blkL_nin (fun p hp=>by have q1:=N5.lows.blk p hp;have q2:=i5L p hp;have:=f'.2;omega)),f'.2⟩),(fun _=>by rw [put_get_self (H.f.lt (by rw [hz];decide))];exact ⟨A9,c9,rfl,f9⟩),(⟨fun h=>(x2.1 h).kp hG (blkL_nin (N5.lows.typ b16 (by decide))),fun h=>absurd ((H.t 15 rfl).symm.trans h) (by decide)⟩),(fun h=>by simp [upd] at h)⟩
     ·intro Lk ak ww H _ _ hN
      simp [go_sem,H.f.g rfl s8]
      exact (hN _ _ H.k rfl (hXb.q rfl H.x))
     ·intro Lk ak ww H _ _ hN
      obtain ⟨x0,x1,x2,x3⟩:=H.x
      obtain ⟨A9,c9,ee13,f9⟩:=x1 (H.r 13 rfl)
      have HT:=x2.1 H.n
      simp [go_sem,(gS ak 113 (H.d 14 rfl rfl)),ee13,HT.cell,HT.frz,-List.length_append]
      have f9:=f9.otherT HT (by decide) [.slice A9 ((lo++[PC]).length) c9] 0
      exact hN undef _ (H.k.store (.inr (by simp)) [.slice A9 ((lo++[PC]).length) c9] 0) trivial ⟨(fun h=>by obtain ⟨g8',e,f8'⟩:=x0 h;exact ⟨g8',e,⟨f8'.1.other (f8'.1.ne HT (by decide)) [.slice A9 ((lo++[PC]).length) c9] 0,f8'.2⟩⟩),(fun h=>by obtain ⟨A9',c9',e,f9'⟩:=x1 h;exact ⟨A9',c9',e,f9'.otherT HT (by decide) [.slice A9 ((lo++[PC]).length) c9] 0⟩),(⟨(fun q=>by cases q),fun _=>⟨_,(HT.set_ 0 _),⟨A9,c9,rfl,f9⟩⟩⟩),(fun h=>(x3 h).otherT HT (by decide) [.slice A9 ((lo++[PC]).length) c9] 0)⟩
     intro L a45 w46 hL hF hK hV hX
     obtain ⟨x0,x1,x2,x3⟩:=hX
     replace hz:=hF.Z hz;replace hdf:=hF.E hdf
     have hB9:=hK.below hB hB.size (fun m hm=>by rcases List.mem_append.1 hm with hm|hm;(obtain ⟨p,hp,rfl⟩:=blkL_in hm;have q1:=N5.lows.blk p hp;have q2:=i5L p hp;omega);(simp only [List.mem_singleton] at hm;omega))
     replace s2:=hF.G s2;replace s3:=hF.G s3;replace s4:=hF.G s4;replace s8:=hF.G s8;replace s34:=hF.G s34;replace s35:=hF.G s35;replace s36:=hF.G s36
     replace b3:=b3.kp hK (nin_app (blkL_nin (fun p hp=>by have q1:=N5.lows.blk p hp;have q2:=i5L p hp;omega)) (by simp<;>omega))
     replace b4:=b4.kp hK (nin_app (blkL_nin (fun p hp=>by have q1:=N5.lows.blk p hp;have q2:=i5L p hp;omega)) (by simp<;>omega))
     replace b5:=b5.kp hK (nin_app (blkL_nin (fun p hp=>by have q1:=N5.lows.blk p hp;have q2:=i5L p hp;omega)) (by simp<;>omega))
     clear b16
     obtain ⟨_,b16,A9,c9,rfl,N9⟩:=x2.2 (hL 15 (by decide))
     replace N1:=N1.kp hK i1 (by omega) (fun m hm=>by rcases List.mem_append.1 hm with hm|hm;(obtain ⟨p,hp,rfl⟩:=blkL_in hm;have q1:=N5.lows.blk p hp;have q2:=i5L p hp;omega);(simp only [List.mem_singleton] at hm;omega))
     have zw43:=hZ;have zw46:=hK.size;replace hZ:=Nat.le_refl w46.heap.size;replace hB:=hB9;clear hF hK hV hL x0 x1 x2 x3 hXb s11 s12 s13 s14 s96;refine ib_n (ib_n (th_n ?_))
     refine wp_regJ (by kernel_rfl) [122,36] [some (.int .i64 ((k:Int)+1)),some (.int .i64 ((k:Int)+1))] (dlR 2) [122,36] [0,1] [] (fun L aa ww=>(L 1=false→aa.tmps[36]?.getD undef=.int .i64 (k:Int))) (by kernel_rfl) (by rw [hz];decide) ?_ (en rfl ?_ (en rfl ?_ .nil)) ?_
     ·exact fun _ h=>(fun _=>s36)
     ·intro Lk ak ww H _ _ hN
      have x0:=H.x
      exact wp_add rfl (ev (x0 (H.t 1 rfl))) rfl (by omega) (hN _ _ H.k rfl (fun h=>(put_ne' (by decide) _).trans (x0 h)))
     ·intro Lk ak ww H _ _ hN
      have x0:=H.x
      exact wp_move rfl (ev (H.d 0 rfl rfl)) (hN _ _ H.k rfl (fun h=>by simp [upd] at h))
     intro L a47 w48 hL hF hK hV hX;have x0:=hX;replace hz:=hF.Z hz;replace hdf:=hF.E hdf;replace s2:=hF.G s2;replace s3:=hF.G s3;replace s4:=hF.G s4;replace s8:=hF.G s8;replace s34:=hF.G s34;replace s35:=hF.G s35;have s36:=gS a47 36 (hV 1 _ rfl);replace b3:=b3.k0 hK;replace b4:=b4.k0 hK;replace b5:=b5.k0 hK;replace b16:=b16.k0 hK;replace N1:=N1.below hK.toBelow leR;replace N9:=N9.below hK.toBelow leR;replace hZ:=Nat.le_trans hZ hK.size;replace hB:=hK.below0 hB;clear hF hK hV hL x0;refine th_n ?_
     refine ⟨?_, ?_⟩
     ·exact ⟨hz,hdf,(k+1),((lo++[PC])),(hi),(⟨⟨A9,c9⟩,a5.highs⟩),(by omega),(by rw [lwA_next hkl,hlw,← ehv,ePC];exact lwF_lo (by rw [← enn2];exact dec_t q44)),(by (try rw [List.length_append]);(try simp only [List.length_cons,List.length_nil]);omega),s2,s3,s4,s8,s34,s35,s36,b3,b4,b5,b16,N1,(N9),hB,(by omega)⟩
     ·show ((rpR r p).length-(intOf (a47.tmps[36]?.getD undef)).toNat)<_
      rw [s36,hmu];simp only [intOf];omega
    ·skip
     refine wp_cond_false (ev (vb s96 q44)) ?_
     refine wp_seq ?_
     have hce:halfOf la lb lc=pulH r.map r.div hv:=by rw [ela,elb,elc];rfl
     have hcv:=fun W h=>iCovers_c p la lb lc b W hrp.2 ⟨by omega,by omega⟩ ⟨by omega,by omega⟩ ⟨by omega,by omega⟩ h
     rw [hce] at hcv
     refine wp_regJ (by kernel_rfl) [115,116,117,118,119,120,114] [some (.agg #[.slice b.A p.length b.c]),some (.int .i64 la),some (.int .i64 lb),some (.int .i64 lc),some (.bool (covB p (pulH r.map r.div hv))),some (.bool (!(covB p (pulH r.map r.div hv)))),some (.bool (!(covB p (pulH r.map r.div hv))))] (dlR 7) [115,116,117,118,119,120,114] [0,1,2,3,4,5,6] [] (fun _ _ _=>True) (by kernel_rfl) (by rw [hz];decide) ?_ (en rfl ?_ (en rfl ?_ (en rfl ?_ (en rfl ?_ (en rfl ?_ (en rfl ?_ (en rfl ?_ .nil))))))) ?_
     ·exact fun _ _=>trivial
     ·intro Lk ak ww H _ _ hN
      simp [go_sem,H.f.g rfl s3,(b4.k0 H.k).cell]
      exact (hN _ _ H.k rfl trivial)
     ·exact fun Lk ak ww H _ _ hN=>wp_move rfl (ev (H.f.g rfl s11)) (hN _ _ H.k rfl trivial)
     ·exact fun Lk ak ww H _ _ hN=>wp_move rfl (ev (H.f.g rfl s12)) (hN _ _ H.k rfl trivial)
     ·exact fun Lk ak ww H _ _ hN=>wp_move rfl (ev (H.f.g rfl s13)) (hN _ _ H.k rfl trivial)
     ·intro Lk ak ww H _ _ hN
      simp [go_sem,(gS ak 115 (H.d 0 rfl rfl)),(gS ak 116 (H.d 1 rfl rfl)),(gS ak 117 (H.d 2 rfl rfl)),(gS ak 118 (H.d 3 rfl rfl))]
      have hBi:=H.k.below0 hB
      refine (hcv ww (hsp.below hBi)).mono ?_
      rintro x wx ⟨rfl,hb⟩
      exact (hN _ _ (H.k.call hb) rfl trivial)
     ·exact fun Lk ak ww H _ _ hN=>wp_not rfl (ev (H.d 4 rfl rfl)) (hN _ _ H.k rfl trivial)
     ·exact fun Lk ak ww H _ _ hN=>wp_assign rfl (ev (H.d 5 rfl rfl)) (hN _ _ H.k rfl trivial)
     intro L a49 w50 hL hF hK hV hX;replace hz:=hF.Z hz;replace hdf:=hF.E hdf;replace s2:=hF.G s2;replace s3:=hF.G s3;replace s4:=hF.G s4;replace s8:=hF.G s8;replace s34:=hF.G s34;replace s35:=hF.G s35;replace s36:=hF.G s36;have s114:=gS a49 114 (hV 6 _ rfl);replace b3:=b3.k0 hK;replace b4:=b4.k0 hK;replace b5:=b5.k0 hK;replace b16:=b16.k0 hK;replace N1:=N1.below hK.toBelow leR;replace N5:=N5.below hK.toBelow leR;replace hZ:=Nat.le_trans hZ hK.size;replace hB:=hK.below0 hB;clear hF hK hV hL hX s11 s12 s13 s14 s96;refine th_n ?_
     rcases Bool.eq_false_or_eq_true (!(covB p (pulH r.map r.div hv))) with q51|q51
     ·skip
      refine wp_cond_true (ev (vb s114 q51)) ?_
      refine wp_seq ?_
      have hXb:StaysX [] (fun L aa ww=>PreX ww (w.heap.size+2) 32 [.slice none 0 0,.slice none 0 0] (L 1) (fun _ vs=>vs=[.slice none 0 0,.slice none 0 0])):=by
       intro L aa ww w' kk vv hkk hb hX
       have x0:=hX
       exact (x0.bel hb (fun _ h=>h))
      refine wp_regK hXb (by kernel_rfl) [121,0,5] [some (.agg #[.slice none 0 0,.slice none 0 0]),none,some (.bool false)] (dlR 3) [121,5] [0,1,2] [(w.heap.size+2)] (by kernel_rfl) (by rw [hz];decide) ?_ (en rfl ?_ (en rfl ?_ (en rfl ?_ .nil))) ?_
      ·exact fun _ h=>(⟨fun _=>b5.kp h (by simp),(fun h=>by cases h)⟩)
      ·intro Lk ak ww H _ _ hN
       simp [go_sem]
       exact (hN _ _ H.k rfl H.x)
      ·intro Lk ak ww H _ _ hN
       have x0:=H.x
       have HT:=x0.1 H.n
       simp [go_sem,(gS ak 121 (H.d 0 rfl rfl)),H.f.g rfl s4,HT.cell,HT.frz]
       exact hN undef _ (H.k.store (.inr (by simp)) [.slice none 0 0,.slice none 0 0] 0) trivial (PreX.set HT (us:=[.slice none 0 0,.slice none 0 0]) rfl rfl)
      ·exact fun Lk ak ww H _ _ hN=>wp_assign rfl rfl (hN _ _ H.k rfl H.x)
      intro L a52 w53 hL hF hK hV hX;have x0:=hX;replace hz:=hF.Z hz;replace hdf:=hF.E hdf;replace s4:=hF.G s4;have s5:=gS a52 5 (hV 2 _ rfl);clear b5
      obtain ⟨_,b5,rfl⟩:=x0.2 (hL 1 (by decide))
      replace hZ:=Nat.le_trans hZ hK.size
      replace hB:=hK.below hB hB.size (by simp<;>omega)
      clear hF hK hV hL x0 hXb s2 s3 s8 s34 s35 s36 s114 b3 b4 b16 N1 i1 N5;refine th_n ?_
      refine wp_ret ?_
      refine ib_r (ib_r (th_r (th_r (ib_r (th_r ?_)))))
      refine bodyPost_ret (v:=.tuple #[.agg #[.slice none 0 0,.slice none 0 0],.bool false]) (by simp [results,Tryz.results16,go_sem,s4,b5.cell,s5]) hdf ?_
      have h0:=law_none hrob (lwA_stop hkl (by rw [hlw,← ehv];exact lwF_no (by rw [← enn2];exact dec_f q37) (by rw [← enn2];exact dec_f q44) (not_t q51)))
      exact ⟨⟨⟨none,0⟩,⟨none,0⟩⟩,by rw [h0.1,h0.2];rfl,by rw [h0.2];exact LawNew.nil _ _,hB⟩
     ·skip
      refine wp_cond_false (ev (vb s114 q51)) ?_
      refine wp_skip ?_;refine ib_n (ib_n (th_n ?_))
      refine wp_regJ (by kernel_rfl) [122,36] [some (.int .i64 ((k:Int)+1)),some (.int .i64 ((k:Int)+1))] (dlR 2) [122,36] [0,1] [] (fun L aa ww=>(L 1=false→aa.tmps[36]?.getD undef=.int .i64 (k:Int))) (by kernel_rfl) (by rw [hz];decide) ?_ (en rfl ?_ (en rfl ?_ .nil)) ?_
      ·exact fun _ h=>(fun _=>s36)
      ·intro Lk ak ww H _ _ hN
       have x0:=H.x
       exact wp_add rfl (ev (x0 (H.t 1 rfl))) rfl (by omega) (hN _ _ H.k rfl (fun h=>(put_ne' (by decide) _).trans (x0 h)))
      ·intro Lk ak ww H _ _ hN
       have x0:=H.x
       exact wp_move rfl (ev (H.d 0 rfl rfl)) (hN _ _ H.k rfl (fun h=>by simp [upd] at h))
      intro L a54 w55 hL hF hK hV hX;have x0:=hX;replace hz:=hF.Z hz;replace hdf:=hF.E hdf;replace s2:=hF.G s2;replace s3:=hF.G s3;replace s4:=hF.G s4;replace s8:=hF.G s8;replace s34:=hF.G s34;replace s35:=hF.G s35;have s36:=gS a54 36 (hV 1 _ rfl);replace b3:=b3.k0 hK;replace b4:=b4.k0 hK;replace b5:=b5.k0 hK;replace b16:=b16.k0 hK;replace N1:=N1.below hK.toBelow leR;replace N5:=N5.below hK.toBelow leR;replace hZ:=Nat.le_trans hZ hK.size;replace hB:=hK.below0 hB;clear hF hK hV hL x0 s114;refine th_n ?_
      refine ⟨?_, ?_⟩
      ·exact ⟨hz,hdf,(k+1),(lo),(hi),(a5),(by omega),(by rw [lwA_next hkl,hlw,← ehv];exact lwF_eq (by rw [← enn2];exact dec_f q37) (by rw [← enn2];exact dec_f q44) (not_f q51)),(by (try rw [List.length_append]);(try simp only [List.length_cons,List.length_nil]);omega),s2,s3,s4,s8,s34,s35,s36,b3,b4,b5,b16,N1,(N5),hB,(by omega)⟩
      ·show ((rpR r p).length-(intOf (a54.tmps[36]?.getD undef)).toNat)<_
       rw [s36,hmu];simp only [intOf];omega
  ·skip
   have ek:k=(rpR r p).length:=by have:=dec_f q23;omega
   rw [ek,List.take_length] at hlw
   refine wp_cond_false (ev (vb s37 q23)) ?_
   refine wp_exit ?_
   refine th_e (th_e (ib_x (th_n ?_)));refine wp_seq ?_
   have hXb:StaysX [] (fun L aa ww=>PreX ww (w.heap.size+2) 32 [.slice none 0 0,.slice none 0 0] (L 1) (fun _ vs=>vs=[.slice a5.lows.A lo.length a5.lows.c,.slice a5.highs.A hi.length a5.highs.c])):=by
    intro L aa ww w' kk vv hkk hb hX
    have x0:=hX
    exact (x0.bel hb (fun _ h=>h))
   refine wp_regK hXb (by kernel_rfl) [123,0,5] [some (.agg #[.slice a5.lows.A lo.length a5.lows.c,.slice a5.highs.A hi.length a5.highs.c]),none,some (.bool true)] (dlR 3) [123,5] [0,1,2] [(w.heap.size+2)] (by kernel_rfl) (by rw [hz];decide) ?_ (en rfl ?_ (en rfl ?_ (en rfl ?_ .nil))) ?_
   ·exact fun _ h=>(⟨fun _=>b5.kp h (by simp),(fun h=>by cases h)⟩)
   ·intro Lk ak ww H _ _ hN
    simp [go_sem,H.f.g rfl s8,(b16.kp H.k (by simp<;>omega)).cell]
    exact (hN _ _ H.k rfl H.x)
   ·intro Lk ak ww H _ _ hN
    have x0:=H.x
    have HT:=x0.1 H.n
    simp [go_sem,(gS ak 123 (H.d 0 rfl rfl)),H.f.g rfl s4,HT.cell,HT.frz]
    exact hN undef _ (H.k.store (.inr (by simp)) [.slice a5.lows.A lo.length a5.lows.c,.slice a5.highs.A hi.length a5.highs.c] 0) trivial (PreX.set HT (us:=[.slice a5.lows.A lo.length a5.lows.c,.slice a5.highs.A hi.length a5.highs.c]) rfl rfl)
   ·exact fun Lk ak ww H _ _ hN=>wp_assign rfl rfl (hN _ _ H.k rfl H.x)
   intro L a56 w57 hL hF hK hV hX;have x0:=hX;replace hz:=hF.Z hz;replace hdf:=hF.E hdf;replace s4:=hF.G s4;have s5:=gS a56 5 (hV 2 _ rfl);clear b5
   obtain ⟨_,b5,rfl⟩:=x0.2 (hL 1 (by decide))
   replace N5:=N5.kpLo hK (by simp<;>omega)
   replace hZ:=Nat.le_trans hZ hK.size
   replace hB:=hK.below hB hB.size (by simp<;>omega)
   clear hF hK hV hL x0 hXb s2 s3 s8 s34 s35 s36 s37 b3 b4 b16 N1 i1;refine th_n ?_
   refine wp_ret ?_
   refine bodyPost_ret (v:=.tuple #[.agg #[.slice a5.lows.A lo.length a5.lows.c,.slice a5.highs.A hi.length a5.highs.c],.bool true]) (by simp [results,Tryz.results16,go_sem,s4,b5.cell,s5]) hdf ?_
   have h0:=law_some hrob hlw
   exact ⟨a5,by rw [h0.1,h0.2],by rw [h0.2];exact N5.mono (by omega),hB⟩
set_option maxRecDepth 100000 in
set_option maxHeartbeats 6000000 in
theorem sLawOf_c (r:Room) (p:List Half) (ra:RoomA) (b:SlA) (w:World) (hn:roomLen r≤1048576) (hin:RoomIn r) (hs:RoomSl w r ra) (hnl:RoomNil ra) (hlp:p.length≤1048576) (hpi:∀ h∈p,h.In) (hsp:Sl 3 halfC w b.A p) (hnb:b.A=none→b.c=0) :
 Calls Tryz.prog 13 #[roomV r ra,.agg #[.slice b.A p.length b.c]] w fun x w'=>∃ b',x=.returned (.tuple #[lawV (lofR r p) b',.bool (lofOk r p)])∧LawNew w' w.heap.size (lofR r p) b'∧Below w.heap.size w w':=by
 obtain ⟨i0p,hi0p,hz0p,hz1p,hz2p⟩:=info_parts (show (Tryz.prog.info? 109).map (fun i=>(i.zero,i.size,i.bytes))=some (some (.agg #[.int .i64 0,.int .i64 0,.int .i64 0,.int .i64 0]),4,32) by kernel_rfl)
 refine calls_v Tryz.func13 rfl (n:=89) Tryz.ntmps13 (by simp) ?_
 intro a0 hz hdf ha
 have s0:a0.tmps[0]?.getD undef=roomV r ra:=ha 0 _ rfl;have s1:a0.tmps[1]?.getD undef=.agg #[.slice b.A p.length b.c]:=ha 1 _ rfl;clear ha
 have hB:=Below.refl w.heap.size w
 have hZ:=Nat.le_refl w.heap.size
 refine wp_seq ?_
 refine wp_entry [2,3,4,5] [.pointer (some ⟨w.heap.size,0,none⟩),.pointer (some ⟨(w.heap.size+1),0,none⟩),.pointer (some ⟨(w.heap.size+2),0,none⟩),.bool false] [some (.cells (roomC r ra).toArray 39),some (.cells [.slice b.A p.length b.c].toArray 37),some (.cells [.slice none 0 0,.slice none 0 0].toArray 32),none] [0,1,2,3] [2,3,4,5] [0,1,2,3] (by kernel_rfl) (by rw [hz];decide) (ec ?_ (ec ?_ (ec ?_ (ec ?_ .nil)))) ?_
 ·intro a w' hF hs N Q hN;simp [go_sem,hF.g rfl s0];rw [hs];exact hN
 ·intro a w' hF hs N Q hN;simp [go_sem,hF.g rfl s1];rw [hs];exact hN
 ·intro a w' hF hs N Q hN;simp [go_sem];rw [hs];exact hN
 ·intro a w' hF hs N Q hN;simp [go_sem];exact hN
 intro a1 w2 hF hV hb hO
 replace hz:=hF.size.trans hz;replace hdf:=hF.defers.trans hdf
 have s2:a1.tmps[2]?.getD undef=.pointer (some ⟨w.heap.size,0,none⟩):=hV 0 (by decide)
 have s3:a1.tmps[3]?.getD undef=.pointer (some ⟨(w.heap.size+1),0,none⟩):=hV 1 (by decide)
 have s4:a1.tmps[4]?.getD undef=.pointer (some ⟨(w.heap.size+2),0,none⟩):=hV 2 (by decide)
 have b3:HasT w2 w.heap.size 39 (roomC r ra):=hO 0 _ rfl
 have b4:HasT w2 (w.heap.size+1) 37 [.slice b.A p.length b.c]:=hO 1 _ rfl
 have b5:HasT w2 (w.heap.size+2) 32 [.slice none 0 0,.slice none 0 0]:=hO 2 _ rfl
 have hG:=b5.lt
 replace hB:=below_tr hB hb;have zw2:=Nat.le_trans hZ hb.size;replace hZ:=Nat.le_refl w2.heap.size;clear hF hV hb hO s0 s1;refine th_n ?_;refine wp_seq ?_
 have hXb:StaysX [6,12,15,16] (fun L aa ww=>(L 2=true→(fun ww v=>∃ A1 c1,v=.tuple #[.agg #[.slice A1 ((rpR r p).length) c1],.bool (rpOk r p)]∧New 111 3 halfC ww w2.heap.size (.slice A1 (rpR r p).length c1) (rpR r p)) ww (aa.tmps[15]?.getD undef))∧(L 3=true→(fun ww v=>∃ A1 c1,v=.tuple #[.agg #[.slice A1 ((rpR r p).length) c1],.bool (rpOk r p)]∧New 111 3 halfC ww w2.heap.size (.slice A1 (rpR r p).length c1) (rpR r p)) ww (aa.tmps[12]?.getD undef))∧(L 4=true→(fun ww v=>∃ A1 c1,v=.agg #[.slice A1 ((rpR r p).length) c1]∧New 111 3 halfC ww w2.heap.size (.slice A1 (rpR r p).length c1) (rpR r p)) ww (aa.tmps[16]?.getD undef))∧(L 6=true→BoxX w2 aa ww 6 37 [.slice none 0 0] (L 7) (fun ww vs=>∃ A1 c1,vs=[.slice A1 ((rpR r p).length) c1]∧New 111 3 halfC ww w2.heap.size (.slice A1 (rpR r p).length c1) (rpR r p)))):=by
  intro L aa ww w' kk vv hkk hb hX
  obtain ⟨x0,x1,x2,x3⟩:=hX
  exact ⟨(fun h=>by rw [put_ne' (hkk 15 (by simp))];obtain ⟨A1',c1',e,f1'⟩:=x0 h;exact ⟨A1',c1',e,f1'.below hb leR⟩),(fun h=>by rw [put_ne' (hkk 12 (by simp))];obtain ⟨A1',c1',e,f1'⟩:=x1 h;exact ⟨A1',c1',e,f1'.below hb leR⟩),(fun h=>by rw [put_ne' (hkk 16 (by simp))];obtain ⟨A1',c1',e,f1'⟩:=x2 h;exact ⟨A1',c1',e,f1'.below hb leR⟩),(fun h=>((x3 h).bel hb (fun _ ⟨A1',c1',e,f1'⟩=>⟨A1',c1',e,f1'.below hb leR⟩)).put (hkk 6 (by simp)) _)⟩
 refine wp_regK hXb (by kernel_rfl) [13,14,15,12,16,17,6,0,7] [some (roomV r ra),some (.agg #[.slice b.A p.length b.c]),none,none,none,some (.bool (rpOk r p)),none,none,some (.bool (rpOk r p))] (dlR 9) [13,14,15,12,16,17,6,7] [0,1,2,3,4,5,6,7,8] [] (by kernel_rfl) (by rw [hz];decide) ?_ (en rfl ?_ (en rfl ?_ (en rfl ?_ (en rfl ?_ (en rfl ?_ (en rfl ?_ (en rfl ?_ (en rfl ?_ (en rfl ?_ .nil))))))))) ?_
 ·exact fun _ h=>⟨(fun h=>by cases h),(fun h=>by cases h),(fun h=>by cases h),(fun h=>by cases h)⟩
 ·intro Lk ak ww H _ _ hN
  simp [go_sem,H.f.g rfl s2,(b3.k0 H.k).cell]
  exact (hN _ _ H.k rfl (hXb.q rfl H.x))
 ·intro Lk ak ww H _ _ hN
  simp [go_sem,H.f.g rfl s3,(b4.k0 H.k).cell]
  exact (hN _ _ H.k rfl (hXb.q rfl H.x))
 ·intro Lk ak ww H _ _ hN
  obtain ⟨x0,x1,x2,x3⟩:=H.x
  simp [go_sem,(gS ak 13 (H.d 0 rfl rfl)),(gS ak 14 (H.d 1 rfl rfl))]
  have hBi:=H.k.below0 hB
  refine (sRob_c r p ra b ww hn hin (hs.below hBi) hnl hlp hpi (hsp.below hBi) hnb).mono ?_
  rintro x wx ⟨_,rfl,⟨A1,c1,rfl,f0⟩,hb⟩
  have f1:=New.mono (show New 111 3 halfC wx ww.heap.size (.slice A1 (rpR r p).length c1) (rpR r p) from ⟨_,_,rfl,f0⟩) H.k.size
  exact (hN _ _ (H.k.call hb) trivial ⟨(fun _=>by rw [put_get_self (H.f.lt (by rw [hz];decide))];exact ⟨A1,c1,rfl,f1⟩),(fun h=>by rw [put_ne' (by decide)];obtain ⟨A1',c1',e,f1'⟩:=x1 h;exact ⟨A1',c1',e,f1'.below hb leR⟩),(fun h=>by rw [put_ne' (by decide)];obtain ⟨A1',c1',e,f1'⟩:=x2 h;exact ⟨A1',c1',e,f1'.below hb leR⟩),(fun h=>((x3 h).bel hb (fun _ ⟨A1',c1',e,f1'⟩=>⟨A1',c1',e,f1'.below hb leR⟩)).put (by decide) _)⟩)
 ·intro Lk ak ww H _ _ hN
  obtain ⟨x0,x1,x2,x3⟩:=H.x
  obtain ⟨A1,c1,ee2,f1⟩:=x0 (H.r 2 rfl)
  exact wp_move rfl (ev ee2) (hN _ _ H.k trivial ⟨(fun h=>by rw [put_ne' (by decide)];obtain ⟨A1',c1',e,f1'⟩:=x0 h;exact ⟨A1',c1',e,f1'.below bR leR⟩),(fun _=>by rw [put_get_self (H.f.lt (by rw [hz];decide))];exact ⟨A1,c1,rfl,f1⟩),(fun h=>by rw [put_ne' (by decide)];obtain ⟨A1',c1',e,f1'⟩:=x2 h;exact ⟨A1',c1',e,f1'.below bR leR⟩),(fun h=>((x3 h).bel bR (fun _ ⟨A1',c1',e,f1'⟩=>⟨A1',c1',e,f1'.below bR leR⟩)).put (by decide) _)⟩)
 ·intro Lk ak ww H _ _ hN
  obtain ⟨x0,x1,x2,x3⟩:=H.x
  obtain ⟨A1,c1,ee3,f1⟩:=x1 (H.r 3 rfl)
  exact wp_extract rfl (ev ee3) rfl (hN _ _ H.k trivial ⟨(fun h=>by rw [put_ne' (by decide)];obtain ⟨A1',c1',e,f1'⟩:=x0 h;exact ⟨A1',c1',e,f1'.below bR leR⟩),(fun h=>by rw [put_ne' (by decide)];obtain ⟨A1',c1',e,f1'⟩:=x1 h;exact ⟨A1',c1',e,f1'.below bR leR⟩),(fun _=>by rw [put_get_self (H.f.lt (by rw [hz];decide))];exact ⟨A1,c1,rfl,f1⟩),(fun h=>((x3 h).bel bR (fun _ ⟨A1',c1',e,f1'⟩=>⟨A1',c1',e,f1'.below bR leR⟩)).put (by decide) _)⟩)
 ·intro Lk ak ww H _ _ hN
  obtain ⟨x0,x1,x2,x3⟩:=H.x
  obtain ⟨A1,c1,ee3,f1⟩:=x1 (H.r 3 rfl)
  exact wp_extract rfl (ev ee3) rfl (hN _ _ H.k rfl (hXb.q rfl H.x))
 ·intro Lk ak ww H _ _ hN
  obtain ⟨x0,x1,x2,x3⟩:=H.x
  simp [go_sem]
  exact hN _ _ (H.k.alloc _) trivial ⟨(fun h=>by rw [put_ne' (by decide)];obtain ⟨A1',c1',e,f1'⟩:=x0 h;exact ⟨A1',c1',e,f1'.below (below_al bR _) leR⟩),(fun h=>by rw [put_ne' (by decide)];obtain ⟨A1',c1',e,f1'⟩:=x1 h;exact ⟨A1',c1',e,f1'.below (below_al bR _) leR⟩),(fun h=>by rw [put_ne' (by decide)];obtain ⟨A1',c1',e,f1'⟩:=x2 h;exact ⟨A1',c1',e,f1'.below (below_al bR _) leR⟩),(fun _=>by rw [show upd Lk 6 7=false from H.t 7 rfl];exact BoxX.new (s:=6) (H.f.lt (by rw [hz];decide)) H.k.size [.slice none 0 0])⟩
 ·intro Lk ak ww H _ _ hN
  obtain ⟨x0,x1,x2,x3⟩:=H.x
  obtain ⟨A1,c1,ee4,f1⟩:=x2 (H.r 4 rfl)
  obtain ⟨g,eg,hg,y,_⟩:=x3 (H.r 6 rfl)
  have HT:=y H.n
  simp [go_sem,ee4,eg,HT.cell,HT.frz]
  have f1:=f1.otherC (f1.typ HT (by decide)) [.slice A1 ((rpR r p).length) c1] 0
  exact hN undef _ (H.k.store (.inl hg) [.slice A1 ((rpR r p).length) c1] 0) trivial ⟨(fun h=>by obtain ⟨A1',c1',e,f1'⟩:=x0 h;exact ⟨A1',c1',e,f1'.otherC (f1'.typ HT (by decide)) [.slice A1 ((rpR r p).length) c1] 0⟩),(fun h=>by obtain ⟨A1',c1',e,f1'⟩:=x1 h;exact ⟨A1',c1',e,f1'.otherC (f1'.typ HT (by decide)) [.slice A1 ((rpR r p).length) c1] 0⟩),(fun h=>by obtain ⟨A1',c1',e,f1'⟩:=x2 h;exact ⟨A1',c1',e,f1'.otherC (f1'.typ HT (by decide)) [.slice A1 ((rpR r p).length) c1] 0⟩),(fun _=>BoxX.set eg hg HT (us:=[.slice A1 ((rpR r p).length) c1]) rfl ⟨A1,c1,rfl,f1⟩)⟩
 ·exact fun Lk ak ww H _ _ hN=>wp_assign rfl (ev (H.d 5 rfl rfl)) (hN _ _ H.k rfl (hXb.q rfl H.x))
 intro L a6 w7 hL hF hK hV hX
 obtain ⟨x0,x1,x2,x3⟩:=hX
 replace hz:=hF.Z hz;replace hdf:=hF.E hdf;replace s2:=hF.G s2;replace s3:=hF.G s3;replace s4:=hF.G s4;have s7:=gS a6 7 (hV 8 _ rfl);replace b3:=b3.k0 hK;replace b4:=b4.k0 hK;replace b5:=b5.k0 hK
 obtain ⟨g8,s6,lg8,-,b8⟩:=x3 (hL 6 (by decide))
 obtain ⟨_,b8,A1,c1,rfl,N1⟩:=b8 (hL 7 (by decide))
 have i1:∀ p,A1=some p→p.block<w7.heap.size:=fun p hp=>(N1.blk p hp).2
 have ug8:=b8.lt
 have zw7:=hK.size;replace hZ:=Nat.le_refl w7.heap.size;replace hB:=hK.below0 hB;clear hF hK hV hL x0 x1 x2 x3 hXb;refine th_n ?_;refine wp_seq ?_;refine wp_seq ?_
 refine wp_regJ (by kernel_rfl) [18,19,20,21,22,23,24,25,26,27] [some (.bool (rpOk r p)),some (.bool (!(rpOk r p))),some (.bool (!(rpOk r p))),some ((bif !(rpOk r p) then undef else (.agg #[.slice b.A p.length b.c]:Value))),some ((bif !(rpOk r p) then undef else (.bool (decide (p.length=0)):Value))),some (.bool (!(rpOk r p)||decide (p.length=0))),some (.bool (!(rpOk r p)||decide (p.length=0))),some ((bif (!(rpOk r p)||decide (p.length=0)) then undef else (.agg #[.slice A1 ((rpR r p).length) c1]:Value))),some ((bif (!(rpOk r p)||decide (p.length=0)) then undef else (.bool (decide ((rpR r p).length=0)):Value))),some (.bool ((!(rpOk r p)||decide (p.length=0))||decide ((rpR r p).length=0)))] (dlR 10) [18,19,20,21,22,23,24,25,26,27] [0,1,2,3,4,5,6,7,8,9] [] (fun _ _ _=>True) (by kernel_rfl) (by rw [hz];decide) ?_ (en rfl ?_ (en rfl ?_ (en rfl ?_ (eg ?_ (eg ?_ (en rfl ?_ (en rfl ?_ (eg ?_ (eg ?_ (en rfl ?_ .nil)))))))))) ?_
 ·exact fun _ _=>trivial
 ·exact fun Lk ak ww H _ _ hN=>wp_move rfl (ev (H.f.g rfl s7)) (hN _ _ H.k rfl trivial)
 ·exact fun Lk ak ww H _ _ hN=>wp_not rfl (ev (H.d 0 rfl rfl)) (hN _ _ H.k rfl trivial)
 ·exact fun Lk ak ww H _ _ hN=>wp_move rfl (ev (H.d 1 rfl rfl)) (hN _ _ H.k rfl trivial)
 ·intro Lk ak ww H _ _ hN
  refine wgf rfl rfl rfl (H.d 2 rfl rfl) (fun qg=>hN _ _ H.k (bif_t qg).symm trivial) fun qg=>?_
  simp [go_sem,H.f.g rfl s3,(b4.k0 H.k).cell]
  exact (hN _ _ H.k (bif_f qg).symm trivial)
 ·intro Lk ak ww H _ _ hN
  refine wgf rfl rfl rfl (H.d 2 rfl rfl) (fun qg=>hN _ _ H.k (bif_t qg).symm trivial) fun qg=>?_
  simp [go_sem,(show ak.tmps[21]?.getD undef=_ from (H.d 3 rfl rfl).trans (bif_f qg))]
  refine (sIsVoid_c p b ww).mono ?_
  rintro x wx ⟨rfl,hb⟩
  exact (hN _ _ (H.k.call hb) (bif_f qg).symm trivial)
 ·exact fun Lk ak ww H _ _ hN=>wp_pick rfl (ev (H.d 2 rfl rfl)) (fun h=>vor_t h) (fun h=>(ev ((H.d 4 rfl rfl).trans (bif_f h))).trans (vor_f h)) (hN _ _ H.k rfl trivial)
 ·exact fun Lk ak ww H _ _ hN=>wp_move rfl (ev (H.d 5 rfl rfl)) (hN _ _ H.k rfl trivial)
 ·intro Lk ak ww H _ _ hN
  refine wgf rfl rfl rfl (H.d 6 rfl rfl) (fun qg=>hN _ _ H.k (bif_t qg).symm trivial) fun qg=>?_
  simp [go_sem,H.f.g rfl s6,(b8.k0 H.k).cell]
  exact (hN _ _ H.k (bif_f qg).symm trivial)
 ·intro Lk ak ww H _ _ hN
  refine wgf rfl rfl rfl (H.d 6 rfl rfl) (fun qg=>hN _ _ H.k (bif_t qg).symm trivial) fun qg=>?_
  simp [go_sem,(show ak.tmps[25]?.getD undef=_ from (H.d 7 rfl rfl).trans (bif_f qg))]
  refine (sIsVoid_c (rpR r p) ⟨A1,c1⟩ ww).mono ?_
  rintro x wx ⟨rfl,hb⟩
  exact (hN _ _ (H.k.call hb) (bif_f qg).symm trivial)
 ·exact fun Lk ak ww H _ _ hN=>wp_pick rfl (ev (H.d 6 rfl rfl)) (fun h=>vor_t h) (fun h=>(ev ((H.d 8 rfl rfl).trans (bif_f h))).trans (vor_f h)) (hN _ _ H.k rfl trivial)
 intro L a9 w10 hL hF hK hV hX;replace hz:=hF.Z hz;replace hdf:=hF.E hdf;replace s2:=hF.G s2;replace s3:=hF.G s3;replace s4:=hF.G s4;replace s6:=hF.G s6;have s27:=gS a9 27 (hV 9 _ rfl);replace b3:=b3.k0 hK;replace b4:=b4.k0 hK;replace b5:=b5.k0 hK;replace b8:=b8.k0 hK;replace N1:=N1.below hK.toBelow leR;replace hZ:=Nat.le_trans hZ hK.size;replace hB:=hK.below0 hB;clear hF hK hV hL hX s7;refine th_n ?_
 rcases Bool.eq_false_or_eq_true ((!(rpOk r p)||decide (p.length=0))||decide ((rpR r p).length=0)) with q11|q11
 ·skip
  refine wp_cond_true (ev (vb s27 q11)) ?_
  refine wp_seq ?_
  have hXb:StaysX [] (fun L aa ww=>PreX ww (w.heap.size+2) 32 [.slice none 0 0,.slice none 0 0] (L 1) (fun _ vs=>vs=[.slice none 0 0,.slice none 0 0])):=by
   intro L aa ww w' kk vv hkk hb hX
   have x0:=hX
   exact (x0.bel hb (fun _ h=>h))
  refine wp_regK hXb (by kernel_rfl) [28,0,5] [some (.agg #[.slice none 0 0,.slice none 0 0]),none,some (.bool false)] (dlR 3) [28,5] [0,1,2] [(w.heap.size+2)] (by kernel_rfl) (by rw [hz];decide) ?_ (en rfl ?_ (en rfl ?_ (en rfl ?_ .nil))) ?_
  ·exact fun _ h=>(⟨fun _=>b5.kp h (by simp),(fun h=>by cases h)⟩)
  ·intro Lk ak ww H _ _ hN
   simp [go_sem]
   exact (hN _ _ H.k rfl H.x)
  ·intro Lk ak ww H _ _ hN
   have x0:=H.x
   have HT:=x0.1 H.n
   simp [go_sem,(gS ak 28 (H.d 0 rfl rfl)),H.f.g rfl s4,HT.cell,HT.frz]
   exact hN undef _ (H.k.store (.inr (by simp)) [.slice none 0 0,.slice none 0 0] 0) trivial (PreX.set HT (us:=[.slice none 0 0,.slice none 0 0]) rfl rfl)
  ·exact fun Lk ak ww H _ _ hN=>wp_assign rfl rfl (hN _ _ H.k rfl H.x)
  intro L a12 w13 hL hF hK hV hX;have x0:=hX;replace hz:=hF.Z hz;replace hdf:=hF.E hdf;replace s4:=hF.G s4;have s5:=gS a12 5 (hV 2 _ rfl);clear b5
  obtain ⟨_,b5,rfl⟩:=x0.2 (hL 1 (by decide))
  replace hZ:=Nat.le_trans hZ hK.size
  replace hB:=hK.below hB hB.size (by simp<;>omega)
  clear hF hK hV hL x0 hXb s2 s3 s6 s27 b3 b4 b8 N1 i1;refine th_n ?_
  refine wp_ret ?_
  refine th_r ?_
  refine bodyPost_ret (v:=.tuple #[.agg #[.slice none 0 0,.slice none 0 0],.bool false]) (by simp [results,Tryz.results13,go_sem,s4,b5.cell,s5]) hdf ?_
  have h0:=law_no (rob_void q11)
  exact ⟨⟨⟨none,0⟩,⟨none,0⟩⟩,by rw [h0.1,h0.2];rfl,by rw [h0.2];exact LawNew.nil _ _,hB⟩
 ·skip
  have hrob:=rob_yes q11
  have hrp:=rob_parts hrob
  have hle:=rob_len r p
  have hdv:=(roomB hrp.1).div
  refine wp_cond_false (ev (vb s27 q11)) ?_
  refine wp_skip ?_;refine th_n ?_;refine wp_seq ?_
  have hXb:StaysX [8,32,36,37] (fun L aa ww=>(L 3=true→(fun ww v=>∃ g2,v=.slice (some ⟨g2,0,none⟩) 1 1∧HasT ww g2 109 [.int .i64 0,.int .i64 0,.int .i64 r.low,.int .i64 1]∧w10.heap.size≤g2) ww (aa.tmps[32]?.getD undef))∧(L 7=true→(fun ww v=>∃ g3,v=.slice (some ⟨g3,0,none⟩) 1 1∧HasT ww g3 109 [.int .i64 0,.int .i64 0,.int .i64 r.high,.int .i64 1]∧w10.heap.size≤g3) ww (aa.tmps[36]?.getD undef))∧(L 8=true→(fun ww v=>∃ a4,v=.agg #[.slice a4.lows.A ([(⟨0,0,r.low,1⟩:Piece)].length) a4.lows.c,.slice a4.highs.A ([(⟨0,0,r.high,1⟩:Piece)].length) a4.highs.c]∧LawNew ww w10.heap.size ⟨[(⟨0,0,r.low,1⟩:Piece)],[(⟨0,0,r.high,1⟩:Piece)]⟩ a4) ww (aa.tmps[37]?.getD undef))∧(L 9=true→BoxX w10 aa ww 8 32 [.slice none 0 0,.slice none 0 0] (L 10) (fun ww vs=>∃ a4,vs=[.slice a4.lows.A ([(⟨0,0,r.low,1⟩:Piece)].length) a4.lows.c,.slice a4.highs.A ([(⟨0,0,r.high,1⟩:Piece)].length) a4.highs.c]∧LawNew ww w10.heap.size ⟨[(⟨0,0,r.low,1⟩:Piece)],[(⟨0,0,r.high,1⟩:Piece)]⟩ a4))∧(L 3=true→L 7=true→aa.tmps[32]?.getD undef≠aa.tmps[36]?.getD undef)):=by
   intro L aa ww w' kk vv hkk hb hX
   obtain ⟨x0,x1,x2,x3,x4⟩:=hX
   exact ⟨(fun h=>by rw [put_ne' (hkk 32 (by simp))];obtain ⟨g2',e,f2'⟩:=x0 h;exact ⟨g2',e,⟨f2'.1.bel hb,f2'.2⟩⟩),(fun h=>by rw [put_ne' (hkk 36 (by simp))];obtain ⟨g3',e,f3'⟩:=x1 h;exact ⟨g3',e,⟨f3'.1.bel hb,f3'.2⟩⟩),(fun h=>by rw [put_ne' (hkk 37 (by simp))];obtain ⟨a4',e,f4'⟩:=x2 h;exact ⟨a4',e,f4'.below hb leR⟩),(fun h=>((x3 h).bel hb (fun _ ⟨a4',e,f4'⟩=>⟨a4',e,f4'.below hb leR⟩)).put (hkk 8 (by simp)) _),(fun h1 h2 e=>x4 h1 h2 ((put_ne' (hkk 32 (by simp)) vv).symm.trans (e.trans (put_ne' (hkk 36 (by simp)) vv))))⟩
  refine wp_regK hXb (by kernel_rfl) [29,30,31,32,33,34,35,36,37,8,0] [some (.pointer (some ⟨w.heap.size,4,none⟩)),some (.int .i64 r.low),some (.agg #[.int .i64 0,.int .i64 0,.int .i64 r.low,.int .i64 1]),none,some (.pointer (some ⟨w.heap.size,5,none⟩)),some (.int .i64 r.high),some (.agg #[.int .i64 0,.int .i64 0,.int .i64 r.high,.int .i64 1]),none,none,none,none] (dlR 11) [29,30,31,32,33,34,35,36,37,8] [0,1,2,3,4,5,6,7,8,9,10] [] (by kernel_rfl) (by rw [hz];decide) ?_ (en rfl ?_ (en rfl ?_ (en rfl ?_ (en rfl ?_ (en rfl ?_ (en rfl ?_ (en rfl ?_ (en rfl ?_ (en rfl ?_ (en rfl ?_ (en rfl ?_ .nil))))))))))) ?_
  ·exact fun _ h=>⟨(fun h=>by cases h),(fun h=>by cases h),(fun h=>by cases h),(fun h=>by cases h),(fun h=>by cases h)⟩
  ·intro Lk ak ww H _ _ hN
   simp [go_sem,H.f.g rfl s2]
   exact (hN _ _ H.k rfl (hXb.q rfl H.x))
  ·intro Lk ak ww H _ _ hN
   simp [go_sem,(gS ak 29 (H.d 0 rfl rfl)),(b3.k0 H.k).cell]
   exact (hN _ _ H.k rfl (hXb.q rfl H.x))
  ·intro Lk ak ww H _ _ hN
   simp [go_sem,(gS ak 30 (H.d 1 rfl rfl))]
   exact (hN _ _ H.k rfl (hXb.q rfl H.x))
  ·intro Lk ak ww H _ _ hN
   obtain ⟨x0,x1,x2,x3,x4⟩:=H.x
   simp [go_sem,(gS ak 31 (H.d 2 rfl rfl))]
   have f2:HasT (ww.alloc (.cells #[.int .i64 0,.int .i64 0,.int .i64 r.low,.int .i64 1] 109)) ww.heap.size 109 [.int .i64 0,.int .i64 0,.int .i64 r.low,.int .i64 1]∧w10.heap.size≤ww.heap.size:=⟨HasT.new _ _ _,H.k.size⟩
   exact hN _ _ (H.k.alloc _) trivial ⟨(fun _=>by rw [put_get_self (H.f.lt (by rw [hz];decide))];exact ⟨_,rfl,f2⟩),(fun h=>by rw [put_ne' (by decide)];obtain ⟨g3',e,f3'⟩:=x1 h;exact ⟨g3',e,⟨f3'.1.bel (below_al bR _),f3'.2⟩⟩),(fun h=>by rw [put_ne' (by decide)];obtain ⟨a4',e,f4'⟩:=x2 h;exact ⟨a4',e,f4'.below (below_al bR _) leR⟩),(fun h=>((x3 h).bel (below_al bR _) (fun _ ⟨a4',e,f4'⟩=>⟨a4',e,f4'.below (below_al bR _) leR⟩)).put (by decide) _),(fun h1 h2 e=>by obtain ⟨g2,e2,f2⟩:=x1 h2;rw [put_get_self (H.f.lt (by rw [hz];decide)),put_ne' (by decide),e2] at e;exact sl_ne (by have:=f2.1.lt;omega) e)⟩
  ·intro Lk ak ww H _ _ hN
   simp [go_sem,H.f.g rfl s2]
   exact (hN _ _ H.k rfl (hXb.q rfl H.x))
  ·intro Lk ak ww H _ _ hN
   simp [go_sem,(gS ak 33 (H.d 4 rfl rfl)),(b3.k0 H.k).cell]
   exact (hN _ _ H.k rfl (hXb.q rfl H.x))
  ·intro Lk ak ww H _ _ hN
   simp [go_sem,(gS ak 34 (H.d 5 rfl rfl))]
   exact (hN _ _ H.k rfl (hXb.q rfl H.x))
  ·intro Lk ak ww H _ _ hN
   obtain ⟨x0,x1,x2,x3,x4⟩:=H.x
   simp [go_sem,(gS ak 35 (H.d 6 rfl rfl))]
   have f3:HasT (ww.alloc (.cells #[.int .i64 0,.int .i64 0,.int .i64 r.high,.int .i64 1] 109)) ww.heap.size 109 [.int .i64 0,.int .i64 0,.int .i64 r.high,.int .i64 1]∧w10.heap.size≤ww.heap.size:=⟨HasT.new _ _ _,H.k.size⟩
   exact hN _ _ (H.k.alloc _) trivial ⟨(fun h=>by rw [put_ne' (by decide)];obtain ⟨g2',e,f2'⟩:=x0 h;exact ⟨g2',e,⟨f2'.1.bel (below_al bR _),f2'.2⟩⟩),(fun _=>by rw [put_get_self (H.f.lt (by rw [hz];decide))];exact ⟨_,rfl,f3⟩),(fun h=>by rw [put_ne' (by decide)];obtain ⟨a4',e,f4'⟩:=x2 h;exact ⟨a4',e,f4'.below (below_al bR _) leR⟩),(fun h=>((x3 h).bel (below_al bR _) (fun _ ⟨a4',e,f4'⟩=>⟨a4',e,f4'.below (below_al bR _) leR⟩)).put (by decide) _),(fun h1 h2 e=>by obtain ⟨g2,e2,f2⟩:=x0 h1;rw [put_get_self (H.f.lt (by rw [hz];decide)),put_ne' (by decide),e2] at e;exact sl_ne (by have:=f2.1.lt;omega) e)⟩
  ·intro Lk ak ww H _ _ hN
   obtain ⟨x0,x1,x2,x3,x4⟩:=H.x
   obtain ⟨g2,ee3,f2⟩:=x0 (H.r 3 rfl)
   obtain ⟨g3,ee7,f3⟩:=x1 (H.r 7 rfl)
   simp [go_sem,ee3,ee7]
   have f4:LawNew ww w10.heap.size ⟨[(⟨0,0,r.low,1⟩:Piece)],[(⟨0,0,r.high,1⟩:Piece)]⟩ ⟨⟨some ⟨g2,0,none⟩,1⟩,⟨some ⟨g3,0,none⟩,1⟩⟩:=LawNew.lits f2.1 f3.1 f2.2 f3.2 (fun e=>x4 (H.r 3 rfl) (H.r 7 rfl) (by rw [ee3,ee7,e]))
   exact hN _ _ H.k trivial ⟨(fun h=>by rw [put_ne' (by decide)];obtain ⟨g2',e,f2'⟩:=x0 h;exact ⟨g2',e,⟨f2'.1.bel bR,f2'.2⟩⟩),(fun h=>by rw [put_ne' (by decide)];obtain ⟨g3',e,f3'⟩:=x1 h;exact ⟨g3',e,⟨f3'.1.bel bR,f3'.2⟩⟩),(fun _=>by rw [put_get_self (H.f.lt (by rw [hz];decide))];exact ⟨_,rfl,f4⟩),(fun h=>((x3 h).bel bR (fun _ ⟨a4',e,f4'⟩=>⟨a4',e,f4'.below bR leR⟩)).put (by decide) _),(fun h1 h2 e=>x4 h1 h2 ((put_ne' (by decide) _).symm.trans (e.trans (put_ne' (by decide) _))))⟩
  ·intro Lk ak ww H _ _ hN
   obtain ⟨x0,x1,x2,x3,x4⟩:=H.x
   simp [go_sem]
   exact hN _ _ (H.k.alloc _) trivial ⟨(fun h=>by rw [put_ne' (by decide)];obtain ⟨g2',e,f2'⟩:=x0 h;exact ⟨g2',e,⟨f2'.1.bel (below_al bR _),f2'.2⟩⟩),(fun h=>by rw [put_ne' (by decide)];obtain ⟨g3',e,f3'⟩:=x1 h;exact ⟨g3',e,⟨f3'.1.bel (below_al bR _),f3'.2⟩⟩),(fun h=>by rw [put_ne' (by decide)];obtain ⟨a4',e,f4'⟩:=x2 h;exact ⟨a4',e,f4'.below (below_al bR _) leR⟩),(fun _=>by rw [show upd Lk 9 10=false from H.t 10 rfl];exact BoxX.new (s:=8) (H.f.lt (by rw [hz];decide)) H.k.size [.slice none 0 0,.slice none 0 0]),(fun h1 h2 e=>x4 h1 h2 ((put_ne' (by decide) _).symm.trans (e.trans (put_ne' (by decide) _))))⟩
  ·intro Lk ak ww H _ _ hN
   obtain ⟨x0,x1,x2,x3,x4⟩:=H.x
   obtain ⟨a4,ee8,f4⟩:=x2 (H.r 8 rfl)
   obtain ⟨g,eg,hg,y,_⟩:=x3 (H.r 9 rfl)
   have HT:=y H.n
   simp [go_sem,ee8,eg,HT.cell,HT.frz]
   have f4:=f4.otherT HT (by decide) [.slice a4.lows.A ([(⟨0,0,r.low,1⟩:Piece)].length) a4.lows.c,.slice a4.highs.A ([(⟨0,0,r.high,1⟩:Piece)].length) a4.highs.c] 0
   exact hN undef _ (H.k.store (.inl hg) [.slice a4.lows.A ([(⟨0,0,r.low,1⟩:Piece)].length) a4.lows.c,.slice a4.highs.A ([(⟨0,0,r.high,1⟩:Piece)].length) a4.highs.c] 0) trivial ⟨(fun h=>by obtain ⟨g2',e,f2'⟩:=x0 h;exact ⟨g2',e,⟨f2'.1.other (f2'.1.ne HT (by decide)) [.slice a4.lows.A ([(⟨0,0,r.low,1⟩:Piece)].length) a4.lows.c,.slice a4.highs.A ([(⟨0,0,r.high,1⟩:Piece)].length) a4.highs.c] 0,f2'.2⟩⟩),(fun h=>by obtain ⟨g3',e,f3'⟩:=x1 h;exact ⟨g3',e,⟨f3'.1.other (f3'.1.ne HT (by decide)) [.slice a4.lows.A ([(⟨0,0,r.low,1⟩:Piece)].length) a4.lows.c,.slice a4.highs.A ([(⟨0,0,r.high,1⟩:Piece)].length) a4.highs.c] 0,f3'.2⟩⟩),(fun h=>by obtain ⟨a4',e,f4'⟩:=x2 h;exact ⟨a4',e,f4'.otherT HT (by decide) [.slice a4.lows.A ([(⟨0,0,r.low,1⟩:Piece)].length) a4.lows.c,.slice a4.highs.A ([(⟨0,0,r.high,1⟩:Piece)].length) a4.highs.c] 0⟩),(fun _=>BoxX.set eg hg HT (us:=[.slice a4.lows.A ([(⟨0,0,r.low,1⟩:Piece)].length) a4.lows.c,.slice a4.highs.A ([(⟨0,0,r.high,1⟩:Piece)].length) a4.highs.c]) rfl ⟨a4,rfl,f4⟩),(x4)⟩
  intro L a14 w15 hL hF hK hV hX
  obtain ⟨x0,x1,x2,x3,x4⟩:=hX
  replace hz:=hF.Z hz;replace hdf:=hF.E hdf;replace s2:=hF.G s2;replace s3:=hF.G s3;replace s4:=hF.G s4;replace s6:=hF.G s6;replace b3:=b3.k0 hK;replace b4:=b4.k0 hK;replace b5:=b5.k0 hK;replace b8:=b8.k0 hK
  obtain ⟨g16,s8,lg16,-,b16⟩:=x3 (hL 9 (by decide))
  obtain ⟨_,b16,a4,rfl,N4⟩:=b16 (hL 10 (by decide))
  have ug16:=b16.lt
  replace N1:=N1.below hK.toBelow leR;have zw10:=hZ;have zw15:=hK.size;replace hZ:=Nat.le_refl w15.heap.size;replace hB:=hK.below0 hB;clear hF hK hV hL x0 x1 x2 x3 x4 hXb s27;refine th_n ?_;refine wp_seq ?_;refine wp_seq ?_
  refine wp_regJ (by kernel_rfl) [38,39,40,41] [some (.pointer (some ⟨g8,0,none⟩)),some (.slice A1 ((rpR r p).length) c1),some (.int .i64 (((rpR r p).length:Nat):Int)),some (.int .i64 0)] (dlR 4) [38,39,40,41] [0,1,2,3] [] (fun _ _ _=>True) (by kernel_rfl) (by rw [hz];decide) ?_ (en rfl ?_ (en rfl ?_ (en rfl ?_ (en rfl ?_ .nil)))) ?_
  ·exact fun _ _=>trivial
  ·intro Lk ak ww H _ _ hN
   simp [go_sem,H.f.g rfl s6]
   exact (hN _ _ H.k rfl trivial)
  ·intro Lk ak ww H _ _ hN
   simp [go_sem,(gS ak 38 (H.d 0 rfl rfl)),(b8.k0 H.k).cell]
   exact (hN _ _ H.k rfl trivial)
  ·intro Lk ak ww H _ _ hN
   simp [go_sem,(gS ak 39 (H.d 1 rfl rfl))]
   exact (hN _ _ H.k rfl trivial)
  ·exact fun Lk ak ww H _ _ hN=>wp_move rfl rfl (hN _ _ H.k rfl trivial)
  intro L a17 w18 hL hF hK hV hX;replace hz:=hF.Z hz;replace hdf:=hF.E hdf;replace s2:=hF.G s2;replace s3:=hF.G s3;replace s4:=hF.G s4;replace s8:=hF.G s8;have s39:=gS a17 39 (hV 1 _ rfl);have s40:=gS a17 40 (hV 2 _ rfl);have s41:=gS a17 41 (hV 3 _ rfl);replace b3:=b3.k0 hK;replace b4:=b4.k0 hK;replace b5:=b5.k0 hK;replace b16:=b16.k0 hK;replace N1:=N1.below hK.toBelow leR;replace N4:=N4.below hK.toBelow leR;replace hZ:=Nat.le_trans hZ hK.size;replace hB:=hK.below0 hB;clear hF hK hV hL hX s6 b8;refine th_n ?_;refine wp_block ?_
  refine wp_loop (fun al wl=>al.tmps.size=89∧al.defers=[]∧∃ (k:Nat) (lo:List Piece) (hi:List Piece) (a5:LawA),(k≤(rpR r p).length)∧(lwA r p ((rpR r p).take k)=some ⟨lo,hi⟩)∧(lo.length+hi.length≤k+2)∧al.tmps[2]?.getD undef=.pointer (some ⟨w.heap.size,0,none⟩)∧al.tmps[3]?.getD undef=.pointer (some ⟨(w.heap.size+1),0,none⟩)∧al.tmps[4]?.getD undef=.pointer (some ⟨(w.heap.size+2),0,none⟩)∧al.tmps[8]?.getD undef=.pointer (some ⟨g16,0,none⟩)∧al.tmps[39]?.getD undef=.slice A1 ((rpR r p).length) c1∧al.tmps[40]?.getD undef=.int .i64 (((rpR r p).length:Nat):Int)∧al.tmps[41]?.getD undef=.int .i64 (k:Int)∧HasT wl w.heap.size 39 (roomC r ra)∧HasT wl (w.heap.size+1) 37 [.slice b.A p.length b.c]∧HasT wl (w.heap.size+2) 32 [.slice none 0 0,.slice none 0 0]∧HasT wl g16 32 [.slice a5.lows.A lo.length a5.lows.c,.slice a5.highs.A hi.length a5.highs.c]∧New 111 3 halfC wl w2.heap.size (.slice A1 (rpR r p).length c1) (rpR r p)∧LawNew wl w10.heap.size ⟨lo,hi⟩ a5∧Below w.heap.size w wl∧w15.heap.size≤wl.heap.size) (fun al _=>((rpR r p).length-(intOf (al.tmps[41]?.getD undef)).toNat)) ?_ ?_
  ·exact ⟨hz,hdf,(0),([(⟨0,0,r.low,1⟩:Piece)]),([(⟨0,0,r.high,1⟩:Piece)]),(a4),(Nat.zero_le _),(rfl),leR,s2,s3,s4,s8,s39,s40,s41,b3,b4,b5,b16,N1,(N4),hB,(by omega)⟩
  clear hz hdf hB hZ s2 s3 s4 s8 s39 s40 s41 b3 b4 b5 b16 N1 N4
  rintro a19 w20 ⟨hz,hdf,k,lo,hi,a5,hk,hlw,hlen,s2,s3,s4,s8,s39,s40,s41,b3,b4,b5,b16,N1,N5,hB,hZ⟩
  have zw20:=hZ;replace hZ:=Nat.le_refl w20.heap.size
  have i5L:∀ p,a5.lows.A=some p→p.block<w20.heap.size:=fun p hp=>(N5.lows.blk p hp).2
  have i5H:∀ p,a5.highs.A=some p→p.block<w20.heap.size:=fun p hp=>(N5.highs.blk p hp).2
  have hmu:((rpR r p).length-(intOf (a19.tmps[41]?.getD undef)).toNat)=((rpR r p).length-(intOf ((.int .i64 (k:Int)))).toNat):=by rw [s41]
  refine wp_seq ?_
  refine wp_regJ (by kernel_rfl) [42] [some (.bool (decide ((k:Int)<(((rpR r p).length:Nat):Int))))] (dlR 1) [42] [0] [] (fun _ _ _=>True) (by kernel_rfl) (by rw [hz];decide) ?_ (en rfl ?_ .nil) ?_
  ·exact fun _ _=>trivial
  ·exact fun Lk ak ww H _ _ hN=>wp_bin rfl (ev (H.f.g rfl s41)) (ev (H.f.g rfl s40)) rfl rfl (hN _ _ H.k rfl trivial)
  intro L a21 w22 hL hF hK hV hX;replace hz:=hF.Z hz;replace hdf:=hF.E hdf;replace s2:=hF.G s2;replace s3:=hF.G s3;replace s4:=hF.G s4;replace s8:=hF.G s8;replace s39:=hF.G s39;replace s40:=hF.G s40;replace s41:=hF.G s41;have s42:=gS a21 42 (hV 0 _ rfl);replace b3:=b3.k0 hK;replace b4:=b4.k0 hK;replace b5:=b5.k0 hK;replace b16:=b16.k0 hK;replace N1:=N1.below hK.toBelow leR;replace N5:=N5.below hK.toBelow leR;replace hZ:=Nat.le_trans hZ hK.size;replace hB:=hK.below0 hB;clear hF hK hV hL hX;refine th_n ?_;refine wp_seq ?_
  rcases Bool.eq_false_or_eq_true (decide ((k:Int)<(((rpR r p).length:Nat):Int))) with q23|q23
  ·skip
   have hkl:k<(rpR r p).length:=by have:=dec_t q23;omega
   obtain ⟨be,oe,ee_,fe⟩:=ElS.open_ (N1.out halfC_len) (by omega)
   have tbe:be<w22.heap.size:=fe.lt
   have hh9:=getD_halfOk hkl (rpR_ok r p)
   refine wp_cond_true (ev (vb s42 q23)) ?_
   refine wp_skip ?_;refine th_n ?_;refine wp_seq ?_;refine wp_block ?_;refine wp_seq ?_
   have hXb:StaysX [10] (fun L aa ww=>(L 2=true→BoxX w22 aa ww 10 111 [.int .i64 0,.int .i64 0,.int .i64 0] (L 3) (fun _ vs=>vs=[.int .i64 (((rpR r p).getD k half0).a),.int .i64 (((rpR r p).getD k half0).b),.int .i64 (((rpR r p).getD k half0).c)]))):=by
    intro L aa ww w' kk vv hkk hb hX
    have x0:=hX
    exact (fun h=>((x0 h).bel hb (fun _ h=>h)).put (hkk 10 (by simp)) _)
   refine wp_regK hXb (by kernel_rfl) [43,44,10,0] [some (.pointer (some ⟨be,oe+k*3,none⟩)),some (halfV ((rpR r p).getD k half0)),none,none] (dlR 4) [43,44,10] [0,1,2,3] [] (by kernel_rfl) (by rw [hz];decide) ?_ (en rfl ?_ (en rfl ?_ (en rfl ?_ (en rfl ?_ .nil)))) ?_
   ·exact fun _ h=>(fun h=>by cases h)
   ·intro Lk ak ww H _ _ hN
    simp [go_sem,H.f.g rfl s39,H.f.g rfl s41,hkl,ee_]
    exact (hN _ _ H.k rfl (hXb.q rfl H.x))
   ·intro Lk ak ww H _ _ hN
    have hE:=fe.kp H.k (by simp)
    simp [go_sem,(gS ak 43 (H.d 0 rfl rfl)),(hE.at_ half0 (i:=k) (by omega) 0 (p:=oe+k*3) (by omega) rfl),(hE.at_ half0 (i:=k) (by omega) 1 (p:=oe+k*3+1) (by omega) rfl),(hE.at_ half0 (i:=k) (by omega) 2 (p:=oe+k*3+2) (by omega) rfl)]
    exact (hN _ _ H.k rfl (hXb.q rfl H.x))
   ·intro Lk ak ww H _ _ hN
    have x0:=H.x
    simp [go_sem]
    exact hN _ _ (H.k.alloc _) trivial (fun _=>by rw [show upd Lk 2 3=false from H.t 3 rfl];exact BoxX.new (s:=10) (H.f.lt (by rw [hz];decide)) H.k.size [.int .i64 0,.int .i64 0,.int .i64 0])
   ·intro Lk ak ww H _ _ hN
    have x0:=H.x
    obtain ⟨g,eg,hg,y,_⟩:=x0 (H.r 2 rfl)
    have HT:=y H.n
    simp [go_sem,(gS ak 44 (H.d 1 rfl rfl)),eg,HT.cell,HT.frz]
    exact hN undef _ (H.k.store (.inl hg) [.int .i64 (((rpR r p).getD k half0).a),.int .i64 (((rpR r p).getD k half0).b),.int .i64 (((rpR r p).getD k half0).c)] 0) trivial (fun _=>BoxX.set eg hg HT (us:=[.int .i64 (((rpR r p).getD k half0).a),.int .i64 (((rpR r p).getD k half0).b),.int .i64 (((rpR r p).getD k half0).c)]) rfl rfl)
   intro L a24 w25 hL hF hK hV hX;have x0:=hX;replace hz:=hF.Z hz;replace hdf:=hF.E hdf;replace s2:=hF.G s2;replace s3:=hF.G s3;replace s4:=hF.G s4;replace s8:=hF.G s8;replace s39:=hF.G s39;replace s40:=hF.G s40;replace s41:=hF.G s41;replace b3:=b3.k0 hK;replace b4:=b4.k0 hK;replace b5:=b5.k0 hK;replace b16:=b16.k0 hK
   obtain ⟨g26,s10,lg26,-,b26⟩:=x0 (hL 2 (by decide))
   obtain ⟨_,b26,rfl⟩:=b26 (hL 3 (by decide))
   have ug26:=b26.lt
   replace N1:=N1.below hK.toBelow leR;replace N5:=N5.below hK.toBelow leR;have zw22:=hZ;have zw25:=hK.size;replace hZ:=Nat.le_refl w25.heap.size;replace hB:=hK.below0 hB;clear hF hK hV hL x0 hXb s42 fe
   obtain ⟨hv,ehv⟩:∃ z,z=((rpR r p).getD k half0):=⟨_,rfl⟩
   rw [← ehv] at b26 hh9
   have hh:=hh9
   have hLB:=lwB hrp.1 hh
   obtain ⟨⟨k1,k2⟩,⟨k3,k4⟩,⟨k5,k6⟩,⟨k7,k8⟩,⟨k9,k10⟩⟩:=pulB (mapIn hrp.1) hh
   have hsa:=hLB.sa
   have hsb:=hLB.sb
   have hss:=hLB.s
   have hds9:=hLB.ds
   refine th_n ?_;refine wp_seq ?_
   refine wp_regJ (by kernel_rfl) [45,46,47,48,49,50,51,52,53,54,55,11] [some (.pointer (some ⟨g26,0,none⟩)),some (.int .i64 hv.a),some (.pointer (some ⟨w.heap.size,2,none⟩)),some (.int .i64 r.bx),some (.int .i64 (hv.a*r.bx)),some (.pointer (some ⟨g26,1,none⟩)),some (.int .i64 hv.b),some (.pointer (some ⟨w.heap.size,3,none⟩)),some (.int .i64 r.by_),some (.int .i64 (hv.b*r.by_)),some (.int .i64 ((hv.a*r.bx)+(hv.b*r.by_))),some (.int .i64 ((hv.a*r.bx)+(hv.b*r.by_)))] (dlR 12) [45,46,47,48,49,50,51,52,53,54,55,11] [0,1,2,3,4,5,6,7,8,9,10,11] [] (fun _ _ _=>True) (by kernel_rfl) (by rw [hz];decide) ?_ (en rfl ?_ (en rfl ?_ (en rfl ?_ (en rfl ?_ (en rfl ?_ (en rfl ?_ (en rfl ?_ (en rfl ?_ (en rfl ?_ (en rfl ?_ (en rfl ?_ (en rfl ?_ .nil)))))))))))) ?_
   ·exact fun _ _=>trivial
   ·intro Lk ak ww H _ _ hN
    simp [go_sem,H.f.g rfl s10]
    exact (hN _ _ H.k rfl trivial)
   ·intro Lk ak ww H _ _ hN
    simp [go_sem,(gS ak 45 (H.d 0 rfl rfl)),(b26.k0 H.k).cell]
    exact (hN _ _ H.k rfl trivial)
   ·intro Lk ak ww H _ _ hN
    simp [go_sem,H.f.g rfl s2]
    exact (hN _ _ H.k rfl trivial)
   ·intro Lk ak ww H _ _ hN
    simp [go_sem,(gS ak 47 (H.d 2 rfl rfl)),(b3.k0 H.k).cell]
    exact (hN _ _ H.k rfl trivial)
   ·exact fun Lk ak ww H _ _ hN=>wp_mul rfl (ev (H.d 1 rfl rfl)) (ev (H.d 3 rfl rfl)) (by omega) (hN _ _ H.k rfl trivial)
   ·intro Lk ak ww H _ _ hN
    simp [go_sem,H.f.g rfl s10]
    exact (hN _ _ H.k rfl trivial)
   ·intro Lk ak ww H _ _ hN
    simp [go_sem,(gS ak 50 (H.d 5 rfl rfl)),(b26.k0 H.k).cell]
    exact (hN _ _ H.k rfl trivial)
   ·intro Lk ak ww H _ _ hN
    simp [go_sem,H.f.g rfl s2]
    exact (hN _ _ H.k rfl trivial)
   ·intro Lk ak ww H _ _ hN
    simp [go_sem,(gS ak 52 (H.d 7 rfl rfl)),(b3.k0 H.k).cell]
    exact (hN _ _ H.k rfl trivial)
   ·exact fun Lk ak ww H _ _ hN=>wp_mul rfl (ev (H.d 6 rfl rfl)) (ev (H.d 8 rfl rfl)) (by omega) (hN _ _ H.k rfl trivial)
   ·exact fun Lk ak ww H _ _ hN=>wp_add rfl (ev (H.d 4 rfl rfl)) (ev (H.d 9 rfl rfl)) (by omega) (hN _ _ H.k rfl trivial)
   ·exact fun Lk ak ww H _ _ hN=>wp_assign rfl (ev (H.d 10 rfl rfl)) (hN _ _ H.k rfl trivial)
   intro L a27 w28 hL hF hK hV hX;replace hz:=hF.Z hz;replace hdf:=hF.E hdf;replace s2:=hF.G s2;replace s3:=hF.G s3;replace s4:=hF.G s4;replace s8:=hF.G s8;replace s39:=hF.G s39;replace s40:=hF.G s40;replace s41:=hF.G s41;replace s10:=hF.G s10;have s11:=gS a27 11 (hV 11 _ rfl);replace b3:=b3.k0 hK;replace b4:=b4.k0 hK;replace b5:=b5.k0 hK;replace b16:=b16.k0 hK;replace b26:=b26.k0 hK;replace N1:=N1.below hK.toBelow leR;replace N5:=N5.below hK.toBelow leR;replace hZ:=Nat.le_trans hZ hK.size;replace hB:=hK.below0 hB;clear hF hK hV hL hX
   obtain ⟨nn,enn⟩:∃ z:Int,z=(hv.a*r.bx)+(hv.b*r.by_):=⟨_,rfl⟩
   rw [← enn] at s11
   have enn2:nn=slopeA r hv:=enn
   have hnn : -10000000≤nn∧nn≤10000000:=by rw [enn2];exact hss
   have hds : -200000000≤r.div*nn∧r.div*nn≤200000000:=by rw [enn2];exact hds9
   refine th_n ?_;refine wp_block ?_;refine wp_seq ?_
   refine wp_regJ (by kernel_rfl) [57,58,56] [some (.int .i64 nn),some (.bool (decide (nn > 0))),some (.bool (decide (nn > 0)))] (dlR 3) [57,58,56] [0,1,2] [] (fun _ _ _=>True) (by kernel_rfl) (by rw [hz];decide) ?_ (en rfl ?_ (en rfl ?_ (en rfl ?_ .nil))) ?_
   ·exact fun _ _=>trivial
   ·exact fun Lk ak ww H _ _ hN=>wp_move rfl (ev (H.f.g rfl s11)) (hN _ _ H.k rfl trivial)
   ·exact fun Lk ak ww H _ _ hN=>wp_bin rfl (ev (H.d 0 rfl rfl)) rfl rfl rfl (hN _ _ H.k rfl trivial)
   ·exact fun Lk ak ww H _ _ hN=>wp_assign rfl (ev (H.d 1 rfl rfl)) (hN _ _ H.k rfl trivial)
   intro L a29 w30 hL hF hK hV hX;replace hz:=hF.Z hz;replace hdf:=hF.E hdf;replace s2:=hF.G s2;replace s3:=hF.G s3;replace s4:=hF.G s4;replace s8:=hF.G s8;replace s39:=hF.G s39;replace s40:=hF.G s40;replace s41:=hF.G s41;replace s10:=hF.G s10;replace s11:=hF.G s11;have s56:=gS a29 56 (hV 2 _ rfl);replace b3:=b3.k0 hK;replace b4:=b4.k0 hK;replace b5:=b5.k0 hK;replace b16:=b16.k0 hK;replace b26:=b26.k0 hK;replace N1:=N1.below hK.toBelow leR;replace N5:=N5.below hK.toBelow leR;replace hZ:=Nat.le_trans hZ hK.size;replace hB:=hK.below0 hB;clear hF hK hV hL hX;refine th_n ?_
   rcases Bool.eq_false_or_eq_true (decide (nn > 0)) with q31|q31
   ·skip
    refine wp_cond_true (ev (vb s56 q31)) ?_
    obtain ⟨PC,ePC⟩:∃ z,z=pcM r hv:=⟨_,rfl⟩
    have hn0:slopeA r hv≠0:=by rw [← enn2];have:=dec_t q31;omega
    have hPC:=ePC
    have hXb:StaysX [65,66] (fun L aa ww=>(L 6=true→(fun ww v=>∃ g6,v=.slice (some ⟨g6,0,none⟩) 1 1∧HasT ww g6 109 [.int .i64 PC.a,.int .i64 PC.b,.int .i64 PC.c,.int .i64 PC.d]∧w30.heap.size≤g6) ww (aa.tmps[65]?.getD undef))∧(L 7=true→(fun ww v=>∃ A7 c7,v=.slice A7 ((hi++[PC]).length) c7∧LawNew ww w10.heap.size ⟨lo,(hi++[PC])⟩ ⟨a5.lows,⟨A7,c7⟩⟩) ww (aa.tmps[66]?.getD undef))∧PreX ww g16 32 [.slice a5.lows.A lo.length a5.lows.c,.slice a5.highs.A hi.length a5.highs.c] (L 9) (fun ww vs=>∃ A7 c7,vs=[.slice a5.lows.A lo.length a5.lows.c,.slice A7 ((hi++[PC]).length) c7]∧LawNew ww w10.heap.size ⟨lo,(hi++[PC])⟩ ⟨a5.lows,⟨A7,c7⟩⟩)∧(L 7=false→LawNew ww w10.heap.size ⟨lo,hi⟩ a5)):=by
     intro L aa ww w' kk vv hkk hb hX
     obtain ⟨x0,x1,x2,x3⟩:=hX
     exact ⟨(fun h=>by rw [put_ne' (hkk 65 (by simp))];obtain ⟨g6',e,f6'⟩:=x0 h;exact ⟨g6',e,⟨f6'.1.bel hb,f6'.2⟩⟩),(fun h=>by rw [put_ne' (hkk 66 (by simp))];obtain ⟨A7',c7',e,f7'⟩:=x1 h;exact ⟨A7',c7',e,f7'.below hb leR⟩),(x2.bel hb (fun _ ⟨A7',c7',e,f7'⟩=>⟨A7',c7',e,f7'.below hb leR⟩)),(fun h=>(x3 h).below hb leR)⟩
    refine wp_regK hXb (by kernel_rfl) [59,60,61,62,63,64,65,66,67,0] [some (.pointer (some ⟨g16,1,none⟩)),some (.slice a5.highs.A hi.length a5.highs.c),some (roomV r ra),some (halfV hv),some (.int .i64 nn),some (pieceV PC),none,none,some (.pointer (some ⟨g16,1,none⟩)),none] ([[],[0],[],[],[],[2,3,4],[2,3,4,5],[0,1,2,3,4,5,6],[0,1,2,3,4,5,6,7],[0,1,2,3,4,5,6,7,8]]) [59,60,61,62,63,64,65,66,67] [0,1,2,3,4,5,6,7,8,9] (blkL a5.highs.A++[g16]) (by kernel_rfl) (by rw [hz];decide) ?_ (en rfl ?_ (en rfl ?_ (en rfl ?_ (en rfl ?_ (en rfl ?_ (en rfl ?_ (en rfl ?_ (en rfl ?_ (en rfl ?_ (en rfl ?_ .nil)))))))))) ?_
    ·exact fun _ h=>⟨(fun h=>by cases h),(fun h=>by cases h),(⟨fun _=>b16.kp h (by simp),(fun h=>by cases h)⟩),(fun _=>N5.below h.toBelow leR)⟩
    ·intro Lk ak ww H _ _ hN
     simp [go_sem,H.f.g rfl s8]
     exact (hN _ _ H.k rfl (hXb.q rfl H.x))
    ·intro Lk ak ww H _ _ hN
     obtain ⟨x0,x1,x2,x3⟩:=H.x
     have hb0:=x2.1 (H.t 9 rfl)
     simp [go_sem,(gS ak 59 (H.d 0 rfl rfl)),hb0.cell]
     exact (hN _ _ H.k rfl (hXb.q rfl H.x))
    ·intro Lk ak ww H _ _ hN
     simp [go_sem,H.f.g rfl s2,(b3.kp H.k (nin_app (blkL_nin (fun p hp=>by have q1:=N5.highs.blk p hp;have q2:=i5H p hp;omega)) (by simp<;>omega))).cell]
     exact (hN _ _ H.k rfl (hXb.q rfl H.x))
    ·intro Lk ak ww H _ _ hN
     simp [go_sem,H.f.g rfl s10,(b26.kp H.k (nin_app (blkL_nin (fun p hp=>by have q1:=N5.highs.blk p hp;have q2:=i5H p hp;omega)) (by simp<;>omega))).cell]
     exact (hN _ _ H.k rfl (hXb.q rfl H.x))
    ·exact fun Lk ak ww H _ _ hN=>wp_move rfl (ev (H.f.g rfl s11)) (hN _ _ H.k rfl (hXb.q rfl H.x))
    ·intro Lk ak ww H _ _ hN
     simp [go_sem,(gS ak 61 (H.d 2 rfl rfl)),(gS ak 62 (H.d 3 rfl rfl)),(gS ak 63 (H.d 4 rfl rfl))]
     have hBi:=H.k.below hB hB.size (fun m hm=>by rcases List.mem_append.1 hm with hm|hm;(obtain ⟨p,hp,rfl⟩:=blkL_in hm;have q1:=N5.highs.blk p hp;have q2:=i5H p hp;omega);(simp only [List.mem_singleton] at hm;omega))
     refine (sPieceX_c nn hPC enn2 ra ww (mapIn hrp.1) hh (hLB.p hn0) (hs.below hBi)).mono ?_
     rintro x wx ⟨rfl,hb⟩
     exact (hN _ _ (H.k.call hb) rfl (hXb.b rfl hb H.x))
    ·intro Lk ak ww H _ _ hN
     obtain ⟨x0,x1,x2,x3⟩:=H.x
     simp [go_sem,(gS ak 64 (H.d 5 rfl rfl))]
     have f6:HasT (ww.alloc (.cells #[.int .i64 PC.a,.int .i64 PC.b,.int .i64 PC.c,.int .i64 PC.d] 109)) ww.heap.size 109 [.int .i64 PC.a,.int .i64 PC.b,.int .i64 PC.c,.int .i64 PC.d]∧w30.heap.size≤ww.heap.size:=⟨HasT.new _ _ _,H.k.size⟩
     exact hN _ _ (H.k.alloc _) trivial ⟨(fun _=>by rw [put_get_self (H.f.lt (by rw [hz];decide))];exact ⟨_,rfl,f6⟩),(fun h=>by rw [put_ne' (by decide)];obtain ⟨A7',c7',e,f7'⟩:=x1 h;exact ⟨A7',c7',e,f7'.below (below_al bR _) leR⟩),(x2.bel (below_al bR _) (fun _ ⟨A7',c7',e,f7'⟩=>⟨A7',c7',e,f7'.below (below_al bR _) leR⟩)),(fun h=>(x3 h).below (below_al bR _) leR)⟩
    ·intro Lk ak ww H _ _ hN
     obtain ⟨x0,x1,x2,x3⟩:=H.x
     obtain ⟨g6,ee6,f6⟩:=x0 (H.r 6 rfl)
     refine wp_app1at (xs:=hi) pieceC_len rfl w10.heap.size i0p _ 32 Tryz.underlying30 hi0p hz0p hz1p hz2p rfl (by decide) (ev (H.d 1 rfl rfl)) (x3 H.n).highs (ev ee6) (y:=PC) f6.1 pieceC_one (by have:=H.k.size;omega) (by omega) (by decide) ?_
     intro A7 c7 wx f7 hG hat
     replace f7:=lawNew_appH (x3 H.n) f7 hG hat
     exact hN _ _ (H.k.trans2 hG (fun m h=>.inl (by simp [h]))) trivial ⟨(fun h=>by rw [put_ne' (by decide)];obtain ⟨g',e,f'⟩:=x0 h;exact ⟨g',e,f'.1.kp hG (blkL_nin (fun p hp=>by have q1:=N5.highs.blk p hp;have q2:=i5H p hp;have:=f'.2;omega)),f'.2⟩),(fun _=>by rw [put_get_self (H.f.lt (by rw [hz];decide))];exact ⟨A7,c7,rfl,f7⟩),(⟨fun h=>(x2.1 h).kp hG (blkL_nin (N5.highs.typ b16 (by decide))),fun h=>absurd ((H.t 9 rfl).symm.trans h) (by decide)⟩),(fun h=>by simp [upd] at h)⟩
    ·intro Lk ak ww H _ _ hN
     simp [go_sem,H.f.g rfl s8]
     exact (hN _ _ H.k rfl (hXb.q rfl H.x))
    ·intro Lk ak ww H _ _ hN
     obtain ⟨x0,x1,x2,x3⟩:=H.x
     obtain ⟨A7,c7,ee7,f7⟩:=x1 (H.r 7 rfl)
     have HT:=x2.1 H.n
     simp [go_sem,(gS ak 67 (H.d 8 rfl rfl)),ee7,HT.cell,HT.frz,-List.length_append]
     have f7:=f7.otherT HT (by decide) [.slice A7 ((hi++[PC]).length) c7] 1
     exact hN undef _ (H.k.store (.inr (by simp)) [.slice A7 ((hi++[PC]).length) c7] 1) trivial ⟨(fun h=>by obtain ⟨g6',e,f6'⟩:=x0 h;exact ⟨g6',e,⟨f6'.1.other (f6'.1.ne HT (by decide)) [.slice A7 ((hi++[PC]).length) c7] 1,f6'.2⟩⟩),(fun h=>by obtain ⟨A7',c7',e,f7'⟩:=x1 h;exact ⟨A7',c7',e,f7'.otherT HT (by decide) [.slice A7 ((hi++[PC]).length) c7] 1⟩),(⟨(fun q=>by cases q),fun _=>⟨_,(HT.set_ 1 _),⟨A7,c7,rfl,f7⟩⟩⟩),(fun h=>(x3 h).otherT HT (by decide) [.slice A7 ((hi++[PC]).length) c7] 1)⟩
    intro L a32 w33 hL hF hK hV hX
    obtain ⟨x0,x1,x2,x3⟩:=hX
    replace hz:=hF.Z hz;replace hdf:=hF.E hdf
    have hB9:=hK.below hB hB.size (fun m hm=>by rcases List.mem_append.1 hm with hm|hm;(obtain ⟨p,hp,rfl⟩:=blkL_in hm;have q1:=N5.highs.blk p hp;have q2:=i5H p hp;omega);(simp only [List.mem_singleton] at hm;omega))
    replace s2:=hF.G s2;replace s3:=hF.G s3;replace s4:=hF.G s4;replace s8:=hF.G s8;replace s39:=hF.G s39;replace s40:=hF.G s40;replace s41:=hF.G s41
    replace b3:=b3.kp hK (nin_app (blkL_nin (fun p hp=>by have q1:=N5.highs.blk p hp;have q2:=i5H p hp;omega)) (by simp<;>omega))
    replace b4:=b4.kp hK (nin_app (blkL_nin (fun p hp=>by have q1:=N5.highs.blk p hp;have q2:=i5H p hp;omega)) (by simp<;>omega))
    replace b5:=b5.kp hK (nin_app (blkL_nin (fun p hp=>by have q1:=N5.highs.blk p hp;have q2:=i5H p hp;omega)) (by simp<;>omega))
    clear b16
    obtain ⟨_,b16,A7,c7,rfl,N7⟩:=x2.2 (hL 9 (by decide))
    replace N1:=N1.kp hK i1 (by omega) (fun m hm=>by rcases List.mem_append.1 hm with hm|hm;(obtain ⟨p,hp,rfl⟩:=blkL_in hm;have q1:=N5.highs.blk p hp;have q2:=i5H p hp;omega);(simp only [List.mem_singleton] at hm;omega))
    have zw30:=hZ;have zw33:=hK.size;replace hZ:=Nat.le_refl w33.heap.size;replace hB:=hB9;clear hF hK hV hL x0 x1 x2 x3 hXb s10 s11 s56 b26;refine ib_n (ib_n (th_n ?_))
    refine wp_regJ (by kernel_rfl) [87,41] [some (.int .i64 ((k:Int)+1)),some (.int .i64 ((k:Int)+1))] (dlR 2) [87,41] [0,1] [] (fun L aa ww=>(L 1=false→aa.tmps[41]?.getD undef=.int .i64 (k:Int))) (by kernel_rfl) (by rw [hz];decide) ?_ (en rfl ?_ (en rfl ?_ .nil)) ?_
    ·exact fun _ h=>(fun _=>s41)
    ·intro Lk ak ww H _ _ hN
     have x0:=H.x
     exact wp_add rfl (ev (x0 (H.t 1 rfl))) rfl (by omega) (hN _ _ H.k rfl (fun h=>(put_ne' (by decide) _).trans (x0 h)))
    ·intro Lk ak ww H _ _ hN
     have x0:=H.x
     exact wp_move rfl (ev (H.d 0 rfl rfl)) (hN _ _ H.k rfl (fun h=>by simp [upd] at h))
    intro L a34 w35 hL hF hK hV hX;have x0:=hX;replace hz:=hF.Z hz;replace hdf:=hF.E hdf;replace s2:=hF.G s2;replace s3:=hF.G s3;replace s4:=hF.G s4;replace s8:=hF.G s8;replace s39:=hF.G s39;replace s40:=hF.G s40;have s41:=gS a34 41 (hV 1 _ rfl);replace b3:=b3.k0 hK;replace b4:=b4.k0 hK;replace b5:=b5.k0 hK;replace b16:=b16.k0 hK;replace N1:=N1.below hK.toBelow leR;replace N7:=N7.below hK.toBelow leR;replace hZ:=Nat.le_trans hZ hK.size;replace hB:=hK.below0 hB;clear hF hK hV hL x0;refine th_n ?_
    refine ⟨?_, ?_⟩
    ·exact ⟨hz,hdf,(k+1),(lo),((hi++[PC])),(⟨a5.lows,⟨A7,c7⟩⟩),(by omega),(by rw [lwA_next hkl,hlw,← ehv,ePC];exact lwF_hi (by rw [← enn2];exact dec_t q31)),(by (try rw [List.length_append]);(try simp only [List.length_cons,List.length_nil]);omega),s2,s3,s4,s8,s39,s40,s41,b3,b4,b5,b16,N1,(N7),hB,(by omega)⟩
    ·show ((rpR r p).length-(intOf (a34.tmps[41]?.getD undef)).toNat)<_
     rw [s41,hmu];simp only [intOf];omega
   ·skip
    refine wp_cond_false (ev (vb s56 q31)) ?_
    refine wp_seq ?_
    refine wp_regJ (by kernel_rfl) [69,70,68] [some (.int .i64 nn),some (.bool (decide (nn<0))),some (.bool (decide (nn<0)))] (dlR 3) [69,70,68] [0,1,2] [] (fun _ _ _=>True) (by kernel_rfl) (by rw [hz];decide) ?_ (en rfl ?_ (en rfl ?_ (en rfl ?_ .nil))) ?_
    ·exact fun _ _=>trivial
    ·exact fun Lk ak ww H _ _ hN=>wp_move rfl (ev (H.f.g rfl s11)) (hN _ _ H.k rfl trivial)
    ·exact fun Lk ak ww H _ _ hN=>wp_bin rfl (ev (H.d 0 rfl rfl)) rfl rfl rfl (hN _ _ H.k rfl trivial)
    ·exact fun Lk ak ww H _ _ hN=>wp_assign rfl (ev (H.d 1 rfl rfl)) (hN _ _ H.k rfl trivial)
    intro L a36 w37 hL hF hK hV hX;replace hz:=hF.Z hz;replace hdf:=hF.E hdf;replace s2:=hF.G s2;replace s3:=hF.G s3;replace s4:=hF.G s4;replace s8:=hF.G s8;replace s39:=hF.G s39;replace s40:=hF.G s40;replace s41:=hF.G s41;replace s10:=hF.G s10;replace s11:=hF.G s11;have s68:=gS a36 68 (hV 2 _ rfl);replace b3:=b3.k0 hK;replace b4:=b4.k0 hK;replace b5:=b5.k0 hK;replace b16:=b16.k0 hK;replace b26:=b26.k0 hK;replace N1:=N1.below hK.toBelow leR;replace N5:=N5.below hK.toBelow leR;replace hZ:=Nat.le_trans hZ hK.size;replace hB:=hK.below0 hB;clear hF hK hV hL hX s56;refine th_n ?_
    rcases Bool.eq_false_or_eq_true (decide (nn<0)) with q38|q38
    ·skip
     refine wp_cond_true (ev (vb s68 q38)) ?_
     obtain ⟨PC,ePC⟩:∃ z,z=pcM r hv:=⟨_,rfl⟩
     have hn0:slopeA r hv≠0:=by rw [← enn2];have:=dec_t q38;omega
     have hPC:=ePC
     have hXb:StaysX [77,78] (fun L aa ww=>(L 6=true→(fun ww v=>∃ g8,v=.slice (some ⟨g8,0,none⟩) 1 1∧HasT ww g8 109 [.int .i64 PC.a,.int .i64 PC.b,.int .i64 PC.c,.int .i64 PC.d]∧w37.heap.size≤g8) ww (aa.tmps[77]?.getD undef))∧(L 7=true→(fun ww v=>∃ A9 c9,v=.slice A9 ((lo++[PC]).length) c9∧LawNew ww w10.heap.size ⟨(lo++[PC]),hi⟩ ⟨⟨A9,c9⟩,a5.highs⟩) ww (aa.tmps[78]?.getD undef))∧PreX ww g16 32 [.slice a5.lows.A lo.length a5.lows.c,.slice a5.highs.A hi.length a5.highs.c] (L 9) (fun ww vs=>∃ A9 c9,vs=[.slice A9 ((lo++[PC]).length) c9,.slice a5.highs.A hi.length a5.highs.c]∧LawNew ww w10.heap.size ⟨(lo++[PC]),hi⟩ ⟨⟨A9,c9⟩,a5.highs⟩)∧(L 7=false→LawNew ww w10.heap.size ⟨lo,hi⟩ a5)):=by
      intro L aa ww w' kk vv hkk hb hX
      obtain ⟨x0,x1,x2,x3⟩:=hX
      exact ⟨(fun h=>by rw [put_ne' (hkk 77 (by simp))];obtain ⟨g8',e,f8'⟩:=x0 h;exact ⟨g8',e,⟨f8'.1.bel hb,f8'.2⟩⟩),(fun h=>by rw [put_ne' (hkk 78 (by simp))];obtain ⟨A9',c9',e,f9'⟩:=x1 h;exact ⟨A9',c9',e,f9'.below hb leR⟩),(x2.bel hb (fun _ ⟨A9',c9',e,f9'⟩=>⟨A9',c9',e,f9'.below hb leR⟩)),(fun h=>(x3 h).below hb leR)⟩
     refine wp_regK hXb (by kernel_rfl) [71,72,73,74,75,76,77,78,79,0] [some (.pointer (some ⟨g16,0,none⟩)),some (.slice a5.lows.A lo.length a5.lows.c),some (roomV r ra),some (halfV hv),some (.int .i64 nn),some (pieceV PC),none,none,some (.pointer (some ⟨g16,0,none⟩)),none] ([[],[0],[],[],[],[2,3,4],[2,3,4,5],[0,1,2,3,4,5,6],[0,1,2,3,4,5,6,7],[0,1,2,3,4,5,6,7,8]]) [71,72,73,74,75,76,77,78,79] [0,1,2,3,4,5,6,7,8,9] (blkL a5.lows.A++[g16]) (by kernel_rfl) (by rw [hz];decide) ?_ (en rfl ?_ (en rfl ?_ (en rfl ?_ (en rfl ?_ (en rfl ?_ (en rfl ?_ (en rfl ?_ (en rfl ?_ (en rfl ?_ (en rfl ?_ .nil)))))))))) ?_
     ·exact fun _ h=>⟨(fun h=>by cases h),(fun h=>by cases h),(⟨fun _=>b16.kp h (by simp),(fun h=>by cases h)⟩),(fun _=>N5.below h.toBelow leR)⟩
     ·intro Lk ak ww H _ _ hN
      simp [go_sem,H.f.g rfl s8]
      exact (hN _ _ H.k rfl (hXb.q rfl H.x))
     ·intro Lk ak ww H _ _ hN
      obtain ⟨x0,x1,x2,x3⟩:=H.x
      have hb0:=x2.1 (H.t 9 rfl)
      simp [go_sem,(gS ak 71 (H.d 0 rfl rfl)),hb0.cell]
      exact (hN _ _ H.k rfl (hXb.q rfl H.x))
     ·intro Lk ak ww H _ _ hN
      simp [go_sem,H.f.g rfl s2,(b3.kp H.k (nin_app (blkL_nin (fun p hp=>by have q1:=N5.lows.blk p hp;have q2:=i5L p hp;omega)) (by simp<;>omega))).cell]
      exact (hN _ _ H.k rfl (hXb.q rfl H.x))
     ·intro Lk ak ww H _ _ hN
      simp [go_sem,H.f.g rfl s10,(b26.kp H.k (nin_app (blkL_nin (fun p hp=>by have q1:=N5.lows.blk p hp;have q2:=i5L p hp;omega)) (by simp<;>omega))).cell]
      exact (hN _ _ H.k rfl (hXb.q rfl H.x))
     ·exact fun Lk ak ww H _ _ hN=>wp_move rfl (ev (H.f.g rfl s11)) (hN _ _ H.k rfl (hXb.q rfl H.x))
     ·intro Lk ak ww H _ _ hN
      simp [go_sem,(gS ak 73 (H.d 2 rfl rfl)),(gS ak 74 (H.d 3 rfl rfl)),(gS ak 75 (H.d 4 rfl rfl))]
      have hBi:=H.k.below hB hB.size (fun m hm=>by rcases List.mem_append.1 hm with hm|hm;(obtain ⟨p,hp,rfl⟩:=blkL_in hm;have q1:=N5.lows.blk p hp;have q2:=i5L p hp;omega);(simp only [List.mem_singleton] at hm;omega))
      refine (sPieceX_c nn hPC enn2 ra ww (mapIn hrp.1) hh (hLB.p hn0) (hs.below hBi)).mono ?_
      rintro x wx ⟨rfl,hb⟩
      exact (hN _ _ (H.k.call hb) rfl (hXb.b rfl hb H.x))
     ·intro Lk ak ww H _ _ hN
      obtain ⟨x0,x1,x2,x3⟩:=H.x
      simp [go_sem,(gS ak 76 (H.d 5 rfl rfl))]
      have f8:HasT (ww.alloc (.cells #[.int .i64 PC.a,.int .i64 PC.b,.int .i64 PC.c,.int .i64 PC.d] 109)) ww.heap.size 109 [.int .i64 PC.a,.int .i64 PC.b,.int .i64 PC.c,.int .i64 PC.d]∧w37.heap.size≤ww.heap.size:=⟨HasT.new _ _ _,H.k.size⟩
      exact hN _ _ (H.k.alloc _) trivial ⟨(fun _=>by rw [put_get_self (H.f.lt (by rw [hz];decide))];exact ⟨_,rfl,f8⟩),(fun h=>by rw [put_ne' (by decide)];obtain ⟨A9',c9',e,f9'⟩:=x1 h;exact ⟨A9',c9',e,f9'.below (below_al bR _) leR⟩),(x2.bel (below_al bR _) (fun _ ⟨A9',c9',e,f9'⟩=>⟨A9',c9',e,f9'.below (below_al bR _) leR⟩)),(fun h=>(x3 h).below (below_al bR _) leR)⟩
     ·intro Lk ak ww H _ _ hN
      obtain ⟨x0,x1,x2,x3⟩:=H.x
      obtain ⟨g8,ee6,f8⟩:=x0 (H.r 6 rfl)
      refine wp_app1at (xs:=lo) pieceC_len rfl w10.heap.size i0p _ 32 Tryz.underlying30 hi0p hz0p hz1p hz2p rfl (by decide) (ev (H.d 1 rfl rfl)) (x3 H.n).lows (ev ee6) (y:=PC) f8.1 pieceC_one (by have:=H.k.size;omega) (by omega) (by decide) ?_
      intro A9 c9 wx f9 hG hat
      replace f9:=lawNew_appL (x3 H.n) f9 hG hat
      exact hN _ _ (H.k.trans2 hG (fun m h=>.inl (by simp [h]))) trivial ⟨(fun h=>by rw [put_ne' (by decide)];obtain ⟨g',e,f'⟩:=x0 h;exact ⟨g',e,f'.1.kp hG (blkL_nin (fun p hp=>by have q1:=N5.lows.blk p hp;have q2:=i5L p hp;have:=f'.2;omega)),f'.2⟩),(fun _=>by rw [put_get_self (H.f.lt (by rw [hz];decide))];exact ⟨A9,c9,rfl,f9⟩),(⟨fun h=>(x2.1 h).kp hG (blkL_nin (N5.lows.typ b16 (by decide))),fun h=>absurd ((H.t 9 rfl).symm.trans h) (by decide)⟩),(fun h=>by simp [upd] at h)⟩
     ·intro Lk ak ww H _ _ hN
      simp [go_sem,H.f.g rfl s8]
      exact (hN _ _ H.k rfl (hXb.q rfl H.x))
     ·intro Lk ak ww H _ _ hN
      obtain ⟨x0,x1,x2,x3⟩:=H.x
      obtain ⟨A9,c9,ee7,f9⟩:=x1 (H.r 7 rfl)
      have HT:=x2.1 H.n
      simp [go_sem,(gS ak 79 (H.d 8 rfl rfl)),ee7,HT.cell,HT.frz,-List.length_append]
      have f9:=f9.otherT HT (by decide) [.slice A9 ((lo++[PC]).length) c9] 0
      exact hN undef _ (H.k.store (.inr (by simp)) [.slice A9 ((lo++[PC]).length) c9] 0) trivial ⟨(fun h=>by obtain ⟨g8',e,f8'⟩:=x0 h;exact ⟨g8',e,⟨f8'.1.other (f8'.1.ne HT (by decide)) [.slice A9 ((lo++[PC]).length) c9] 0,f8'.2⟩⟩),(fun h=>by obtain ⟨A9',c9',e,f9'⟩:=x1 h;exact ⟨A9',c9',e,f9'.otherT HT (by decide) [.slice A9 ((lo++[PC]).length) c9] 0⟩),(⟨(fun q=>by cases q),fun _=>⟨_,(HT.set_ 0 _),⟨A9,c9,rfl,f9⟩⟩⟩),(fun h=>(x3 h).otherT HT (by decide) [.slice A9 ((lo++[PC]).length) c9] 0)⟩
     intro L a39 w40 hL hF hK hV hX
     obtain ⟨x0,x1,x2,x3⟩:=hX
     replace hz:=hF.Z hz;replace hdf:=hF.E hdf
     have hB9:=hK.below hB hB.size (fun m hm=>by rcases List.mem_append.1 hm with hm|hm;(obtain ⟨p,hp,rfl⟩:=blkL_in hm;have q1:=N5.lows.blk p hp;have q2:=i5L p hp;omega);(simp only [List.mem_singleton] at hm;omega))
     replace s2:=hF.G s2;replace s3:=hF.G s3;replace s4:=hF.G s4;replace s8:=hF.G s8;replace s39:=hF.G s39;replace s40:=hF.G s40;replace s41:=hF.G s41
     replace b3:=b3.kp hK (nin_app (blkL_nin (fun p hp=>by have q1:=N5.lows.blk p hp;have q2:=i5L p hp;omega)) (by simp<;>omega))
     replace b4:=b4.kp hK (nin_app (blkL_nin (fun p hp=>by have q1:=N5.lows.blk p hp;have q2:=i5L p hp;omega)) (by simp<;>omega))
     replace b5:=b5.kp hK (nin_app (blkL_nin (fun p hp=>by have q1:=N5.lows.blk p hp;have q2:=i5L p hp;omega)) (by simp<;>omega))
     clear b16
     obtain ⟨_,b16,A9,c9,rfl,N9⟩:=x2.2 (hL 9 (by decide))
     replace N1:=N1.kp hK i1 (by omega) (fun m hm=>by rcases List.mem_append.1 hm with hm|hm;(obtain ⟨p,hp,rfl⟩:=blkL_in hm;have q1:=N5.lows.blk p hp;have q2:=i5L p hp;omega);(simp only [List.mem_singleton] at hm;omega))
     have zw37:=hZ;have zw40:=hK.size;replace hZ:=Nat.le_refl w40.heap.size;replace hB:=hB9;clear hF hK hV hL x0 x1 x2 x3 hXb s10 s11 s68 b26;refine ib_n (ib_n (th_n ?_))
     refine wp_regJ (by kernel_rfl) [87,41] [some (.int .i64 ((k:Int)+1)),some (.int .i64 ((k:Int)+1))] (dlR 2) [87,41] [0,1] [] (fun L aa ww=>(L 1=false→aa.tmps[41]?.getD undef=.int .i64 (k:Int))) (by kernel_rfl) (by rw [hz];decide) ?_ (en rfl ?_ (en rfl ?_ .nil)) ?_
     ·exact fun _ h=>(fun _=>s41)
     ·intro Lk ak ww H _ _ hN
      have x0:=H.x
      exact wp_add rfl (ev (x0 (H.t 1 rfl))) rfl (by omega) (hN _ _ H.k rfl (fun h=>(put_ne' (by decide) _).trans (x0 h)))
     ·intro Lk ak ww H _ _ hN
      have x0:=H.x
      exact wp_move rfl (ev (H.d 0 rfl rfl)) (hN _ _ H.k rfl (fun h=>by simp [upd] at h))
     intro L a41 w42 hL hF hK hV hX;have x0:=hX;replace hz:=hF.Z hz;replace hdf:=hF.E hdf;replace s2:=hF.G s2;replace s3:=hF.G s3;replace s4:=hF.G s4;replace s8:=hF.G s8;replace s39:=hF.G s39;replace s40:=hF.G s40;have s41:=gS a41 41 (hV 1 _ rfl);replace b3:=b3.k0 hK;replace b4:=b4.k0 hK;replace b5:=b5.k0 hK;replace b16:=b16.k0 hK;replace N1:=N1.below hK.toBelow leR;replace N9:=N9.below hK.toBelow leR;replace hZ:=Nat.le_trans hZ hK.size;replace hB:=hK.below0 hB;clear hF hK hV hL x0;refine th_n ?_
     refine ⟨?_, ?_⟩
     ·exact ⟨hz,hdf,(k+1),((lo++[PC])),(hi),(⟨⟨A9,c9⟩,a5.highs⟩),(by omega),(by rw [lwA_next hkl,hlw,← ehv,ePC];exact lwF_lo (by rw [← enn2];exact dec_t q38)),(by (try rw [List.length_append]);(try simp only [List.length_cons,List.length_nil]);omega),s2,s3,s4,s8,s39,s40,s41,b3,b4,b5,b16,N1,(N9),hB,(by omega)⟩
     ·show ((rpR r p).length-(intOf (a41.tmps[41]?.getD undef)).toNat)<_
      rw [s41,hmu];simp only [intOf];omega
    ·skip
     refine wp_cond_false (ev (vb s68 q38)) ?_
     refine wp_seq ?_
     refine wp_regJ (by kernel_rfl) [81,82,83,84,85,80] [some (roomV r ra),some (.agg #[.slice b.A p.length b.c]),some (halfV hv),some (.bool (covB p (pulH r.map r.div hv))),some (.bool (!(covB p (pulH r.map r.div hv)))),some (.bool (!(covB p (pulH r.map r.div hv))))] (dlR 6) [81,82,83,84,85,80] [0,1,2,3,4,5] [] (fun _ _ _=>True) (by kernel_rfl) (by rw [hz];decide) ?_ (en rfl ?_ (en rfl ?_ (en rfl ?_ (en rfl ?_ (en rfl ?_ (en rfl ?_ .nil)))))) ?_
     ·exact fun _ _=>trivial
     ·intro Lk ak ww H _ _ hN
      simp [go_sem,H.f.g rfl s2,(b3.k0 H.k).cell]
      exact (hN _ _ H.k rfl trivial)
     ·intro Lk ak ww H _ _ hN
      simp [go_sem,H.f.g rfl s3,(b4.k0 H.k).cell]
      exact (hN _ _ H.k rfl trivial)
     ·intro Lk ak ww H _ _ hN
      simp [go_sem,H.f.g rfl s10,(b26.k0 H.k).cell]
      exact (hN _ _ H.k rfl trivial)
     ·intro Lk ak ww H _ _ hN
      simp [go_sem,(gS ak 81 (H.d 0 rfl rfl)),(gS ak 82 (H.d 1 rfl rfl)),(gS ak 83 (H.d 2 rfl rfl))]
      have hBi:=H.k.below0 hB
      refine (sFree_c r p hv ra b ww (mapIn hrp.1) hrp.2 hh (hs.below hBi) (hsp.below hBi)).mono ?_
      rintro x wx ⟨rfl,hb⟩
      exact (hN _ _ (H.k.call hb) rfl trivial)
     ·exact fun Lk ak ww H _ _ hN=>wp_not rfl (ev (H.d 3 rfl rfl)) (hN _ _ H.k rfl trivial)
     ·exact fun Lk ak ww H _ _ hN=>wp_assign rfl (ev (H.d 4 rfl rfl)) (hN _ _ H.k rfl trivial)
     intro L a43 w44 hL hF hK hV hX;replace hz:=hF.Z hz;replace hdf:=hF.E hdf;replace s2:=hF.G s2;replace s3:=hF.G s3;replace s4:=hF.G s4;replace s8:=hF.G s8;replace s39:=hF.G s39;replace s40:=hF.G s40;replace s41:=hF.G s41;have s80:=gS a43 80 (hV 5 _ rfl);replace b3:=b3.k0 hK;replace b4:=b4.k0 hK;replace b5:=b5.k0 hK;replace b16:=b16.k0 hK;replace N1:=N1.below hK.toBelow leR;replace N5:=N5.below hK.toBelow leR;replace hZ:=Nat.le_trans hZ hK.size;replace hB:=hK.below0 hB;clear hF hK hV hL hX s10 s11 s68 b26;refine th_n ?_
     rcases Bool.eq_false_or_eq_true (!(covB p (pulH r.map r.div hv))) with q45|q45
     ·skip
      refine wp_cond_true (ev (vb s80 q45)) ?_
      refine wp_seq ?_
      have hXb:StaysX [] (fun L aa ww=>PreX ww (w.heap.size+2) 32 [.slice none 0 0,.slice none 0 0] (L 1) (fun _ vs=>vs=[.slice none 0 0,.slice none 0 0])):=by
       intro L aa ww w' kk vv hkk hb hX
       have x0:=hX
       exact (x0.bel hb (fun _ h=>h))
      refine wp_regK hXb (by kernel_rfl) [86,0,5] [some (.agg #[.slice none 0 0,.slice none 0 0]),none,some (.bool false)] (dlR 3) [86,5] [0,1,2] [(w.heap.size+2)] (by kernel_rfl) (by rw [hz];decide) ?_ (en rfl ?_ (en rfl ?_ (en rfl ?_ .nil))) ?_
      ·exact fun _ h=>(⟨fun _=>b5.kp h (by simp),(fun h=>by cases h)⟩)
      ·intro Lk ak ww H _ _ hN
       simp [go_sem]
       exact (hN _ _ H.k rfl H.x)
      ·intro Lk ak ww H _ _ hN
       have x0:=H.x
       have HT:=x0.1 H.n
       simp [go_sem,(gS ak 86 (H.d 0 rfl rfl)),H.f.g rfl s4,HT.cell,HT.frz]
       exact hN undef _ (H.k.store (.inr (by simp)) [.slice none 0 0,.slice none 0 0] 0) trivial (PreX.set HT (us:=[.slice none 0 0,.slice none 0 0]) rfl rfl)
      ·exact fun Lk ak ww H _ _ hN=>wp_assign rfl rfl (hN _ _ H.k rfl H.x)
      intro L a46 w47 hL hF hK hV hX;have x0:=hX;replace hz:=hF.Z hz;replace hdf:=hF.E hdf;replace s4:=hF.G s4;have s5:=gS a46 5 (hV 2 _ rfl);clear b5
      obtain ⟨_,b5,rfl⟩:=x0.2 (hL 1 (by decide))
      replace hZ:=Nat.le_trans hZ hK.size
      replace hB:=hK.below hB hB.size (by simp<;>omega)
      clear hF hK hV hL x0 hXb s2 s3 s8 s39 s40 s41 s80 b3 b4 b16 N1 i1 N5;refine th_n ?_
      refine wp_ret ?_
      refine ib_r (ib_r (th_r (th_r (ib_r (th_r ?_)))))
      refine bodyPost_ret (v:=.tuple #[.agg #[.slice none 0 0,.slice none 0 0],.bool false]) (by simp [results,Tryz.results13,go_sem,s4,b5.cell,s5]) hdf ?_
      have h0:=law_none hrob (lwA_stop hkl (by rw [hlw,← ehv];exact lwF_no (by rw [← enn2];exact dec_f q31) (by rw [← enn2];exact dec_f q38) (not_t q45)))
      exact ⟨⟨⟨none,0⟩,⟨none,0⟩⟩,by rw [h0.1,h0.2];rfl,by rw [h0.2];exact LawNew.nil _ _,hB⟩
     ·skip
      refine wp_cond_false (ev (vb s80 q45)) ?_
      refine wp_skip ?_;refine ib_n (ib_n (th_n ?_))
      refine wp_regJ (by kernel_rfl) [87,41] [some (.int .i64 ((k:Int)+1)),some (.int .i64 ((k:Int)+1))] (dlR 2) [87,41] [0,1] [] (fun L aa ww=>(L 1=false→aa.tmps[41]?.getD undef=.int .i64 (k:Int))) (by kernel_rfl) (by rw [hz];decide) ?_ (en rfl ?_ (en rfl ?_ .nil)) ?_
      ·exact fun _ h=>(fun _=>s41)
      ·intro Lk ak ww H _ _ hN
       have x0:=H.x
       exact wp_add rfl (ev (x0 (H.t 1 rfl))) rfl (by omega) (hN _ _ H.k rfl (fun h=>(put_ne' (by decide) _).trans (x0 h)))
      ·intro Lk ak ww H _ _ hN
       have x0:=H.x
       exact wp_move rfl (ev (H.d 0 rfl rfl)) (hN _ _ H.k rfl (fun h=>by simp [upd] at h))
      intro L a48 w49 hL hF hK hV hX;have x0:=hX;replace hz:=hF.Z hz;replace hdf:=hF.E hdf;replace s2:=hF.G s2;replace s3:=hF.G s3;replace s4:=hF.G s4;replace s8:=hF.G s8;replace s39:=hF.G s39;replace s40:=hF.G s40;have s41:=gS a48 41 (hV 1 _ rfl);replace b3:=b3.k0 hK;replace b4:=b4.k0 hK;replace b5:=b5.k0 hK;replace b16:=b16.k0 hK;replace N1:=N1.below hK.toBelow leR;replace N5:=N5.below hK.toBelow leR;replace hZ:=Nat.le_trans hZ hK.size;replace hB:=hK.below0 hB;clear hF hK hV hL x0 s80;refine th_n ?_
      refine ⟨?_, ?_⟩
      ·exact ⟨hz,hdf,(k+1),(lo),(hi),(a5),(by omega),(by rw [lwA_next hkl,hlw,← ehv];exact lwF_eq (by rw [← enn2];exact dec_f q31) (by rw [← enn2];exact dec_f q38) (not_f q45)),(by (try rw [List.length_append]);(try simp only [List.length_cons,List.length_nil]);omega),s2,s3,s4,s8,s39,s40,s41,b3,b4,b5,b16,N1,(N5),hB,(by omega)⟩
      ·show ((rpR r p).length-(intOf (a48.tmps[41]?.getD undef)).toNat)<_
       rw [s41,hmu];simp only [intOf];omega
  ·skip
   have ek:k=(rpR r p).length:=by have:=dec_f q23;omega
   rw [ek,List.take_length] at hlw
   refine wp_cond_false (ev (vb s42 q23)) ?_
   refine wp_exit ?_
   refine th_e (th_e (ib_x (th_n ?_)));refine wp_seq ?_
   have hXb:StaysX [] (fun L aa ww=>PreX ww (w.heap.size+2) 32 [.slice none 0 0,.slice none 0 0] (L 1) (fun _ vs=>vs=[.slice a5.lows.A lo.length a5.lows.c,.slice a5.highs.A hi.length a5.highs.c])):=by
    intro L aa ww w' kk vv hkk hb hX
    have x0:=hX
    exact (x0.bel hb (fun _ h=>h))
   refine wp_regK hXb (by kernel_rfl) [88,0,5] [some (.agg #[.slice a5.lows.A lo.length a5.lows.c,.slice a5.highs.A hi.length a5.highs.c]),none,some (.bool true)] (dlR 3) [88,5] [0,1,2] [(w.heap.size+2)] (by kernel_rfl) (by rw [hz];decide) ?_ (en rfl ?_ (en rfl ?_ (en rfl ?_ .nil))) ?_
   ·exact fun _ h=>(⟨fun _=>b5.kp h (by simp),(fun h=>by cases h)⟩)
   ·intro Lk ak ww H _ _ hN
    simp [go_sem,H.f.g rfl s8,(b16.kp H.k (by simp<;>omega)).cell]
    exact (hN _ _ H.k rfl H.x)
   ·intro Lk ak ww H _ _ hN
    have x0:=H.x
    have HT:=x0.1 H.n
    simp [go_sem,(gS ak 88 (H.d 0 rfl rfl)),H.f.g rfl s4,HT.cell,HT.frz]
    exact hN undef _ (H.k.store (.inr (by simp)) [.slice a5.lows.A lo.length a5.lows.c,.slice a5.highs.A hi.length a5.highs.c] 0) trivial (PreX.set HT (us:=[.slice a5.lows.A lo.length a5.lows.c,.slice a5.highs.A hi.length a5.highs.c]) rfl rfl)
   ·exact fun Lk ak ww H _ _ hN=>wp_assign rfl rfl (hN _ _ H.k rfl H.x)
   intro L a50 w51 hL hF hK hV hX;have x0:=hX;replace hz:=hF.Z hz;replace hdf:=hF.E hdf;replace s4:=hF.G s4;have s5:=gS a50 5 (hV 2 _ rfl);clear b5
   obtain ⟨_,b5,rfl⟩:=x0.2 (hL 1 (by decide))
   replace N5:=N5.kpLo hK (by simp<;>omega)
   replace hZ:=Nat.le_trans hZ hK.size
   replace hB:=hK.below hB hB.size (by simp<;>omega)
   clear hF hK hV hL x0 hXb s2 s3 s8 s39 s40 s41 s42 b3 b4 b16 N1 i1;refine th_n ?_
   refine wp_ret ?_
   refine bodyPost_ret (v:=.tuple #[.agg #[.slice a5.lows.A lo.length a5.lows.c,.slice a5.highs.A hi.length a5.highs.c],.bool true]) (by simp [results,Tryz.results13,go_sem,s4,b5.cell,s5]) hdf ?_
   have h0:=law_some hrob hlw
   exact ⟨a5,by rw [h0.1,h0.2],by rw [h0.2];exact N5.mono (by omega),hB⟩
end Go.Proofs.YtdncnhcffbgjhaaGreat
