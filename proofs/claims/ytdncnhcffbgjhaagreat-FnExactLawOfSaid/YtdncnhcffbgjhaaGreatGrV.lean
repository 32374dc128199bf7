/-
 The inputs that a region admits. No program is named here.
 Conditions: none.
-/
import Derived.Test.YtdncnhcffbgjhaaGreatEroM
import Derived.Test.YtdncnhcffbgjhaaGreatRoom
import Derived.Test.YtdncnhcffbgjhaaGreatGrZ
import Derived.Test.YtdncnhcffbgjhaaGreatGrG
import Derived.Test.YtdncnhcffbgjhaaGreatGrXc
import Derived.Test.YtdncnhcffbgjhaaGreatGrQ
section
namespace Go.Proofs.YtdncnhcffbgjhaaGreat
open Go.RowKit
def slopeA (r:Room) (h:Half):Int:=h.a*r.bx+h.b*r.by_
def mapX (r:Room) (s:Spot):Int:=r.map.getD 0 0*s.x+r.map.getD 1 0*s.y
def mapY (r:Room) (s:Spot):Int:=r.map.getD 2 0*s.x+r.map.getD 3 0*s.y
def mapD (r:Room) (s:Spot):Int:=r.div*s.d
def topA (r:Room) (s:Spot) (h:Half):Int:=h.c*mapD r s-h.a*mapX r s-h.b*mapY r s
def admStep (r:Room) (s:Spot) (w:Span) (h:Half):Option Span :=
 if 0<slopeA r h then some ⟨w.low,ratioMin w.high (ratioOf (topA r s h) (mapD r s*slopeA r h))⟩
 else if slopeA r h<0 then some ⟨ratioMax w.low (ratioOf (-(topA r s h)) (-(mapD r s)*slopeA r h)),w.high⟩
 else if topA r s h<0 then none else some w
def admL (r:Room) (s:Spot) (l:List Half):Option Span:=l.foldl (fun o h=>o.bind fun w=>admStep r s w h) (some ⟨⟨r.low,1⟩,⟨r.high,1⟩⟩)
def admit (r:Room) (e:List Half) (s:Spot):Option Span :=
 if 100000<s.d then none else (admL r s e).bind fun w=>if spanOk w=true then some w else none
def meetSp (a b:Span):Option Span:=if spanOk a=true∧spanOk b=true∧spanOk ⟨ratioMax a.low b.low,ratioMin a.high b.high⟩=true then some ⟨ratioMax a.low b.low,ratioMin a.high b.high⟩ else none
/-! ### Bounds -/
structure AdmB (r:Room) (s:Spot) (h:Half):Prop where
 n : -10000000≤slopeA r h∧slopeA r h≤10000000
 d:1≤mapD r s∧mapD r s≤2000000
 t : -1000000000000000≤topA r s h∧topA r s h≤1000000000000000
structure RoomB (r:Room):Prop where
 len:r.map.length=4
 m:∀ i,-20≤r.map.getD i 0∧r.map.getD i 0≤20
 div:1≤r.div∧r.div≤20
 bx : -100≤r.bx∧r.bx≤100
 by_ : -100≤r.by_∧r.by_≤100
 low : -1000≤r.low∧r.low≤1000
 high:r.low≤r.high∧r.high≤1000
theorem roomB {r:Room} (h:roomOk r=true):RoomB r:=by
 simp only [roomOk,turnOk,Bool.and_eq_true] at h
 obtain ⟨⟨⟨⟨⟨⟨⟨⟨h1,_⟩,h2⟩,h3⟩,h4,h5⟩,_⟩,_⟩,_⟩,_⟩:=h
 have hq:=h1
 simp only [mapOk,Bool.and_eq_true] at hq
 obtain ⟨a,b,c,d,e,ha,hb,hc,hd⟩:=map_four h1
 refine ⟨by rw [e];rfl,fun i=>?_,inR_iff.1 hq.1.2,inR_iff.1 h2,inR_iff.1 h3,inR_iff.1 h4,inR_iff.1 h5⟩
 rw [e]
 match i with
 | 0=>simpa using ha
 | 1=>simpa using hb
 | 2=>simpa using hc
 | 3=>simpa using hd
 | _+4=>simp
structure MapB (r:Room) (s:Spot):Prop where
 x0 : -2000000000≤r.map.getD 0 0*s.x∧r.map.getD 0 0*s.x≤2000000000
 x1 : -2000000000≤r.map.getD 1 0*s.y∧r.map.getD 1 0*s.y≤2000000000
 y0 : -2000000000≤r.map.getD 2 0*s.x∧r.map.getD 2 0*s.x≤2000000000
 y1 : -2000000000≤r.map.getD 3 0*s.y∧r.map.getD 3 0*s.y≤2000000000
 d:1≤mapD r s∧mapD r s≤2000000
/-- The products of one round, in their bounds. -/
structure AdmP (r:Room) (s:Spot) (h:Half):Prop where
 a : -5000000≤h.a*r.bx∧h.a*r.bx≤5000000
 b : -5000000≤h.b*r.by_∧h.b*r.by_≤5000000
 c : -200000000000000≤h.c*mapD r s∧h.c*mapD r s≤200000000000000
 x : -200000000000000≤h.a*mapX r s∧h.a*mapX r s≤200000000000000
 y : -200000000000000≤h.b*mapY r s∧h.b*mapY r s≤200000000000000
 n : -20000000000000≤mapD r s*slopeA r h∧mapD r s*slopeA r h≤20000000000000
/-! ### The robust part, and what a drift admits -/
def rpOk (r:Room) (p:List Half):Bool:=roomOk r&&regionOk p&&movOk (eroH r.noise) p
def rpR (r:Room) (p:List Half):List Half:=if roomOk r=true∧regionOk p=true then movR (eroH r.noise) p else []
def robOk (r:Room) (p:List Half):Bool:=!decide (p.length=0)&&rpOk r p && !decide ((rpR r p).length=0)
theorem rpR_ok (r:Room) (p:List Half):regionOk (rpR r p)=true:=by
 unfold rpR
 split
 ·exact movR_ok (fun h _ g e=>eroH_ok e)
 ·rfl
/-- AdmitAt: the inputs that are admitted at a state. -/
def admAt (r:Room) (p:List Half) (s:Spot):Option Span:=if robOk r p=true∧spotOk s=true then admit r (rpR r p) s else none
def accS (A:Spot→Option Span) (l:List Spot):Nat→Option Span
 | 0=>some span0
 | k+1=>(accS A l k).bind fun w=>(A (l.getD k sp0)).bind fun v=>if k=0 then some v else meetSp w v
def admDrift (r:Room) (p:List Half) (s:Spot) (dx dy:Int):Option Span:=(possStates s dx dy).bind fun l=>accS (admAt r p) l l.length
def optSpanV:Option Span→Value
 | some w=>.tuple #[spanV w,.bool true]
 | none=>.tuple #[spanV span0,.bool false]
end Go.Proofs.YtdncnhcffbgjhaaGreat
end
section
namespace Go.Proofs.YtdncnhcffbgjhaaGreat
open Go.RowKit
theorem room_noise {r:Room} (h:roomOk r=true):regionOk r.noise=true∧r.noise≠[]:=by
 simp only [roomOk,Bool.and_eq_true] at h
 obtain ⟨⟨⟨⟨_,h1⟩,_⟩,h2⟩,_⟩:=h
 refine ⟨h2,fun e=>?_⟩
 rw [e] at h1
 simp at h1
theorem rp_no {r:Room} {p:List Half} (h:roomOk r=false∨regionOk p=false):rpOk r p=false∧rpR r p=[]:=by
 unfold rpOk rpR
 rcases h with h|h
 ·rw [h,if_neg (by simp)];exact ⟨rfl,rfl⟩
 ·rw [h,if_neg (by simp),Bool.and_false];exact ⟨rfl,rfl⟩
theorem rp_yes {r:Room} {p:List Half} (h:roomOk r=true) (h2:regionOk p=true):rpOk r p=movOk (eroH r.noise) p∧rpR r p=movR (eroH r.noise) p:=by
 unfold rpOk rpR
 rw [h,h2,if_pos ⟨rfl,rfl⟩];exact ⟨rfl,rfl⟩
--% spec.ErodeRegion
set_option maxRecDepth 100000 in
set_option maxHeartbeats 4000000 in
theorem sErodeNo_c (p q:List Half) (a b:SlA) (w:World) (hl:p.length≤1048576) (hin:∀ h∈p,h.In) (hp:regionOk p=false) (hsp:Sl 3 halfC w a.A p) (hna:a.A=none→a.c=0) :
 Calls Tryz.prog 126 #[regionV p a,regionV q b] w fun e w'=>e=.returned (.tuple #[.agg #[.slice none 0 0],.bool false])∧Below w.heap.size w w':=by
 have k1:=fun W h=>sRegionOk_c p a W hl hin h hna
 rw [hp] at k1
 obtain ⟨W,hW⟩:∃ W,W=((w.alloc (.cells #[.slice a.A p.length a.c] 37)).alloc (.cells #[.slice b.A q.length b.c] 37)).alloc (.cells #[.slice none 0 0] 37):=⟨_,rfl⟩
 have HA:Has W w.heap.size [.slice a.A p.length a.c]:=by rw [hW];exact hasA
 have HR:Has W (w.heap.size+1+1) [.slice none 0 0]:=by rw [hW];exact hasA
 have b0:Below w.heap.size w W:=by rw [hW];exact belA
 have sp:=hsp.below b0
 have hW':=Lib.hid hW
 clear hW hsp hp
 obtain ⟨cHA_0,fHA_0⟩:=HA.2 0 _ rfl
 have lA:=HA.1
 go_enter Tryz.func126,Tryz.ntmps126
 go_upto_region 1 with fail
 rw [← hW'.out]
 clear hW'
 go_wp2_with (fail)
 refine (k1 _ sp).mono ?_
 rintro e w1 ⟨rfl,hb1⟩
 have R1:=HR.below hb1
 have b1:=below_tr b0 hb1
 obtain ⟨cR1_0,fR1_0⟩:=R1.2 0 _ rfl
 have lR:=R1.1
 go_wp2
 refine bodyPost_ret (v:=.tuple #[.agg #[.slice none 0 0],.bool false]) (by simp [results,Tryz.results126,go_sem, *]) rfl ⟨rfl,below_st b1 (by simp only;omega) _⟩
set_option maxRecDepth 100000 in
set_option maxHeartbeats 8000000 in
theorem iRob_c (r:Room) (p:List Half) (a:RoomA) (b:SlA) (w:World) (hn:roomLen r≤1048576) (hin:RoomIn r) (hs:RoomSl w r a) (hnl:RoomNil a) (hlp:p.length≤1048576) (hpi:∀ h∈p,h.In) (hsp:Sl 3 halfC w b.A p) (hnb:b.A=none→b.c=0) :
 Calls Tryz.prog 132 #[roomV r a,regionV p b] w fun e w'=>∃ v,e=.returned (.tuple #[.agg #[v],.bool (rpOk r p)])∧New 111 3 halfC w' w.heap.size v (rpR r p)∧Below w.heap.size w w':=by
 have c1:=fun W h=>iRoomOk_c r a W hn hin h hnl
 have c2:=fun W h=>iRegionOk_c p b W hlp hpi h hnb
 obtain ⟨W,hW⟩:∃ W,W=((w.alloc (.cells #[.slice a.map.A (List.length r.map) a.map.c,.int .i64 r.div,.int .i64 r.bx,.int .i64 r.by_,.int .i64 r.low,.int .i64 r.high,.slice a.noise.A (List.length r.noise) a.noise.c,.slice a.limits.A (List.length r.limits) a.limits.c] 39)).alloc (.cells #[.slice b.A p.length b.c] 37)).alloc (.cells #[.slice none 0 0] 37):=⟨_,rfl⟩
 have HA:Has W w.heap.size [.slice a.map.A (List.length r.map) a.map.c,.int .i64 r.div,.int .i64 r.bx,.int .i64 r.by_,.int .i64 r.low,.int .i64 r.high,.slice a.noise.A (List.length r.noise) a.noise.c,.slice a.limits.A (List.length r.limits) a.limits.c]:=by
  rw [hW]
  exact hasA
 have HB:Has W (w.heap.size+1) [.slice b.A p.length b.c]:=by
  rw [hW]
  exact hasA
 have HR:Has W (w.heap.size+1+1) [.slice none 0 0]:=by
  rw [hW]
  exact hasA
 have b0:Below w.heap.size w W:=by
  rw [hW]
  exact belA
 have zW:w.heap.size+1+1<W.heap.size:=HR.1
 have hs0:=hs.below b0
 have sp:=hsp.below b0
 have hW':=Lib.hid hW
 clear hW hs hsp
 obtain ⟨cHA_0,fHA_0⟩:=HA.2 0 _ rfl
 obtain ⟨cHA_1,fHA_1⟩:=HA.2 1 _ rfl
 obtain ⟨cHA_2,fHA_2⟩:=HA.2 2 _ rfl
 obtain ⟨cHA_3,fHA_3⟩:=HA.2 3 _ rfl
 obtain ⟨cHA_4,fHA_4⟩:=HA.2 4 _ rfl
 obtain ⟨cHA_5,fHA_5⟩:=HA.2 5 _ rfl
 obtain ⟨cHA_6,fHA_6⟩:=HA.2 6 _ rfl
 obtain ⟨cHA_7,fHA_7⟩:=HA.2 7 _ rfl
 obtain ⟨cHB_0,fHB_0⟩:=HB.2 0 _ rfl
 have lA:=HA.1
 have lB:=HB.1
 cases e1:roomOk r
 ·have hF:=Lib.hid (rp_no (r:=r) (p:=p) (.inl e1))
  rw [e1] at c1
  go_enter Tryz.func132,Tryz.ntmps132
  go_upto_region 1 with fail
  rw [← hW'.out]
  clear hW'
  go_wp2_with (fail)
  refine (c1 _ hs0).mono ?_
  rintro e w1 ⟨rfl,hb1⟩
  have R9:=HR.below hb1
  have b9:=below_tr b0 hb1
  obtain ⟨cR9_0,fR9_0⟩:=R9.2 0 _ rfl
  have lR:=R9.1
  go_wp2
  refine bodyPost_ret (v:=.tuple #[.agg #[.slice none 0 0],.bool false]) (by simp [results,Tryz.results132,go_sem,cR9_0]) rfl ⟨.slice none 0 0,by rw [hF.out.1], ?_,below_st b9 (by simp only;omega) _⟩
  rw [hF.out.2];exact ⟨none,0,rfl,World.ownsRow_nil _ _ _ _⟩
 rw [e1] at c1
 cases e2:regionOk p
 ·have hF:=Lib.hid (rp_no (r:=r) (p:=p) (.inr e2))
  rw [e2] at c2
  go_enter Tryz.func132,Tryz.ntmps132
  go_upto_region 1 with fail
  rw [← hW'.out]
  clear hW'
  go_wp2_with (fail)
  refine (c1 _ hs0).mono ?_
  rintro e w1 ⟨rfl,hb1⟩
  have l2:=blt hb1 lB
  have r1:=bcell1 hb1
  go_wp2_with (fail)
  refine (c2 _ (sp.below hb1)).mono ?_
  rintro e w2 ⟨rfl,hb2⟩
  have R9:=(HR.below hb1).below hb2
  have b9:=below_tr (below_tr b0 hb1) hb2
  obtain ⟨cR9_0,fR9_0⟩:=R9.2 0 _ rfl
  have lR:=R9.1
  go_wp2
  refine bodyPost_ret (v:=.tuple #[.agg #[.slice none 0 0],.bool false]) (by simp [results,Tryz.results132,go_sem,cR9_0]) rfl ⟨.slice none 0 0,by rw [hF.out.1], ?_,below_st b9 (by simp only;omega) _⟩
  rw [hF.out.2];exact ⟨none,0,rfl,World.ownsRow_nil _ _ _ _⟩
 rw [e2] at c2
 have hF:=Lib.hid (rp_yes e1 e2)
 have hq:=room_noise e1
 have c4:=fun W h1 h2=>iErode_c p r.noise b a.noise W e2 hq.1 hq.2 h1 h2
 generalize hok:movOk (eroH r.noise) p=ok at *
 generalize hR:movR (eroH r.noise) p=R at *
 clear hok hR hq
 go_enter Tryz.func132,Tryz.ntmps132
 go_upto_region 1 with fail
 rw [← hW'.out]
 clear hW'
 go_wp2_with (fail)
 refine (c1 _ hs0).mono ?_
 rintro e w1 ⟨rfl,hb1⟩
 have l1:=blt hb1 lA
 have l2:=blt hb1 lB
 have r1:=bcell1 hb1
 go_wp2_with (fail)
 refine (c2 _ (sp.below hb1)).mono ?_
 rintro e w2 ⟨rfl,hb2⟩
 have l3:=blt hb2 l1
 have l4:=blt hb2 l2
 have r2:=bcell1 hb2
 have z4:=Nat.lt_of_lt_of_le zW (Nat.le_trans hb1.size hb2.size)
 go_wp2_with (fail)
 refine (c4 _ ((sp.below hb1).below hb2) ((hs0.below hb1).below hb2).noise.halves).mono ?_
 rintro e w4 ⟨v4,rfl,N4,hb4⟩
 have R9:=((HR.below hb1).below hb2).below hb4
 have b9:=below_tr (below_tr (below_tr b0 hb1) hb2) hb4
 obtain ⟨cR9_0,fR9_0⟩:=R9.2 0 _ rfl
 have lR:=R9.1
 obtain ⟨Av,cv,rfl,o3⟩:=N4
 have N5:New 111 3 halfC w4 w2.heap.size (.slice Av R.length cv) R:=⟨Av,cv,rfl,o3⟩
 go_wp2
 refine bodyPost_ret (v:=.tuple #[.agg #[.slice Av R.length cv],.bool ok]) (by simp [results,Tryz.results132,go_sem, *]) rfl ⟨.slice Av R.length cv,by rw [hF.out.1], ?_,below_st b9 (by simp only;omega) _⟩
 rw [hF.out.2];exact (N5.lowC (q:=⟨w.heap.size+1+1,0,none⟩) (by simp only;omega) [.slice Av R.length cv]).mono (by omega)
set_option maxRecDepth 100000 in
set_option maxHeartbeats 8000000 in
theorem sRob_c (r:Room) (p:List Half) (a:RoomA) (b:SlA) (w:World) (hn:roomLen r≤1048576) (hin:RoomIn r) (hs:RoomSl w r a) (hnl:RoomNil a) (hlp:p.length≤1048576) (hpi:∀ h∈p,h.In) (hsp:Sl 3 halfC w b.A p) (hnb:b.A=none→b.c=0) :
 Calls Tryz.prog 61 #[roomV r a,regionV p b] w fun e w'=>∃ v,e=.returned (.tuple #[.agg #[v],.bool (rpOk r p)])∧New 111 3 halfC w' w.heap.size v (rpR r p)∧Below w.heap.size w w':=by
 have c1:=fun W h=>sRoomOk_c r a W hn hin h hnl
 obtain ⟨W,hW⟩:∃ W,W=((w.alloc (.cells #[.slice a.map.A (List.length r.map) a.map.c,.int .i64 r.div,.int .i64 r.bx,.int .i64 r.by_,.int .i64 r.low,.int .i64 r.high,.slice a.noise.A (List.length r.noise) a.noise.c,.slice a.limits.A (List.length r.limits) a.limits.c] 39)).alloc (.cells #[.slice b.A p.length b.c] 37)).alloc (.cells #[.slice none 0 0] 37):=⟨_,rfl⟩
 have HA:Has W w.heap.size [.slice a.map.A (List.length r.map) a.map.c,.int .i64 r.div,.int .i64 r.bx,.int .i64 r.by_,.int .i64 r.low,.int .i64 r.high,.slice a.noise.A (List.length r.noise) a.noise.c,.slice a.limits.A (List.length r.limits) a.limits.c]:=by
  rw [hW]
  exact hasA
 have HB:Has W (w.heap.size+1) [.slice b.A p.length b.c]:=by
  rw [hW]
  exact hasA
 have HR:Has W (w.heap.size+1+1) [.slice none 0 0]:=by
  rw [hW]
  exact hasA
 have b0:Below w.heap.size w W:=by
  rw [hW]
  exact belA
 have zW:w.heap.size+1+1<W.heap.size:=HR.1
 have hs0:=hs.below b0
 have sp:=hsp.below b0
 have hW':=Lib.hid hW
 clear hW hs hsp
 obtain ⟨cHA_0,fHA_0⟩:=HA.2 0 _ rfl
 obtain ⟨cHA_1,fHA_1⟩:=HA.2 1 _ rfl
 obtain ⟨cHA_2,fHA_2⟩:=HA.2 2 _ rfl
 obtain ⟨cHA_3,fHA_3⟩:=HA.2 3 _ rfl
 obtain ⟨cHA_4,fHA_4⟩:=HA.2 4 _ rfl
 obtain ⟨cHA_5,fHA_5⟩:=HA.2 5 _ rfl
 obtain ⟨cHA_6,fHA_6⟩:=HA.2 6 _ rfl
 obtain ⟨cHA_7,fHA_7⟩:=HA.2 7 _ rfl
 obtain ⟨cHB_0,fHB_0⟩:=HB.2 0 _ rfl
 have lA:=HA.1
 have lB:=HB.1
 cases e1:roomOk r
 ·have hF:=Lib.hid (rp_no (r:=r) (p:=p) (.inl e1))
  rw [e1] at c1
  go_enter Tryz.func61,Tryz.ntmps61
  go_upto_region 1 with fail
  rw [← hW'.out]
  clear hW'
  go_wp2_with (fail)
  refine (c1 _ hs0).mono ?_
  rintro e w1 ⟨rfl,hb1⟩
  have R9:=HR.below hb1
  have b9:=below_tr b0 hb1
  obtain ⟨cR9_0,fR9_0⟩:=R9.2 0 _ rfl
  have lR:=R9.1
  go_wp2
  refine bodyPost_ret (v:=.tuple #[.agg #[.slice none 0 0],.bool false]) (by simp [results,Tryz.results61,go_sem,cR9_0]) rfl ⟨.slice none 0 0,by rw [hF.out.1], ?_,below_st b9 (by simp only;omega) _⟩
  rw [hF.out.2];exact ⟨none,0,rfl,World.ownsRow_nil _ _ _ _⟩
 rw [e1] at c1
 cases e2:regionOk p
 ·have hF:=Lib.hid (rp_no (r:=r) (p:=p) (.inr e2))
  have c3:=fun W h=>sErodeNo_c p r.noise b a.noise W hlp hpi e2 h hnb
  go_enter Tryz.func61,Tryz.ntmps61
  go_upto_region 1 with fail
  rw [← hW'.out]
  clear hW'
  go_wp2_with (fail)
  refine (c1 _ hs0).mono ?_
  rintro e w1 ⟨rfl,hb1⟩
  have l1:=blt hb1 lA
  have l2:=blt hb1 lB
  have r1:=bcell1 hb1
  go_wp2_with (fail)
  refine (c3 _ (sp.below hb1)).mono ?_
  rintro e w2 ⟨rfl,hb2⟩
  have R9:=(HR.below hb1).below hb2
  have b9:=below_tr (below_tr b0 hb1) hb2
  obtain ⟨cR9_0,fR9_0⟩:=R9.2 0 _ rfl
  have lR:=R9.1
  go_wp2
  refine bodyPost_ret (v:=.tuple #[.agg #[.slice none 0 0],.bool false]) (by simp [results,Tryz.results61,go_sem, *]) rfl ⟨.slice none 0 0,by rw [hF.out.1], ?_,below_st b9 (by simp only;omega) _⟩
  rw [hF.out.2];exact ⟨none,0,rfl,World.ownsRow_nil _ _ _ _⟩
 have hF:=Lib.hid (rp_yes e1 e2)
 have hq:=room_noise e1
 have c4:=fun W h1 h2=>sErode_c p r.noise b a.noise W e2 hq.1 hq.2 h1 h2 hnb hnl.noise
 generalize hok:movOk (eroH r.noise) p=ok at *
 generalize hR:movR (eroH r.noise) p=R at *
 clear hok hR hq
 go_enter Tryz.func61,Tryz.ntmps61
 go_upto_region 1 with fail
 rw [← hW'.out]
 clear hW'
 go_wp2_with (fail)
 refine (c1 _ hs0).mono ?_
 rintro e w1 ⟨rfl,hb1⟩
 have l1:=blt hb1 lA
 have l2:=blt hb1 lB
 have r1:=bcell1 hb1
 have z4:=Nat.lt_of_lt_of_le zW hb1.size
 go_wp2_with (fail)
 refine (c4 _ (sp.below hb1) (hs0.below hb1).noise.halves).mono ?_
 rintro e w4 ⟨v4,rfl,N4,hb4⟩
 have R9:=(HR.below hb1).below hb4
 have b9:=below_tr (below_tr b0 hb1) hb4
 obtain ⟨cR9_0,fR9_0⟩:=R9.2 0 _ rfl
 have lR:=R9.1
 obtain ⟨Av,cv,rfl,o3⟩:=N4
 have N5:New 111 3 halfC w4 w1.heap.size (.slice Av R.length cv) R:=⟨Av,cv,rfl,o3⟩
 go_wp2
 refine bodyPost_ret (v:=.tuple #[.agg #[.slice Av R.length cv],.bool ok]) (by simp [results,Tryz.results61,go_sem, *]) rfl ⟨.slice Av R.length cv,by rw [hF.out.1], ?_,below_st b9 (by simp only;omega) _⟩
 rw [hF.out.2];exact (N5.lowC (q:=⟨w.heap.size+1+1,0,none⟩) (by simp only;omega) [.slice Av R.length cv]).mono (by omega)
end Go.Proofs.YtdncnhcffbgjhaaGreat
end
