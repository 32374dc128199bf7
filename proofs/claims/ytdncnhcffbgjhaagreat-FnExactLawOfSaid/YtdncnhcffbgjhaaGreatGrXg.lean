/-
 Parts of the inputs that a region admits: of the program and of the reference.
 Conditions: valid rooms, half planes and states.
-/
import Derived.Test.YtdncnhcffbgjhaaGreatGrV
import Derived.Test.YtdncnhcffbgjhaaGreatGrG
import Derived.Test.YtdncnhcffbgjhaaGreatGrX
import Derived.Test.YtdncnhcffbgjhaaGreatNewR
section
namespace Go.Proofs.YtdncnhcffbgjhaaGreat
open Go.RowKit
theorem slope_c (r:Room) (a:RoomA) (h:Half) (w:World) (ha : -5000000≤h.a*r.bx∧h.a*r.bx≤5000000) (hb : -5000000≤h.b*r.by_∧h.b*r.by_≤5000000) :
 Calls Tryz.prog 68 #[roomV r a,halfV h] w fun e w'=>e=.returned (.int .i64 (slopeA r h))∧Below w.heap.size w w':=by
 go_enter Tryz.func68,Tryz.ntmps68
 go_wp2
 go_ret
 refine ⟨rfl, ?_⟩
 exact belA
end Go.Proofs.YtdncnhcffbgjhaaGreat
end
section
namespace Go.Proofs.YtdncnhcffbgjhaaGreat
open Go.RowKit
end Go.Proofs.YtdncnhcffbgjhaaGreat
end
section
namespace Go.Proofs.YtdncnhcffbgjhaaGreat
open Go.RowKit
set_option maxRecDepth 100000 in
set_option maxHeartbeats 8000000 in
theorem iRobustOf_c (r:Room) (p:List Half) (ra:RoomA) (b:SlA) (w:World) (hn:roomLen r≤1048576) (hin:RoomIn r) (hs:RoomSl w r ra) (hnl:RoomNil ra) (hlp:p.length≤1048576) (hpi:∀ h∈p,h.In) (hsp:Sl 3 halfC w b.A p) (hnb:b.A=none→b.c=0) :
 Calls Tryz.prog 67 #[roomV r ra,regionV p b] w fun e w'=>∃ v R,e=.returned (.tuple #[.agg #[v],.bool (robOk r p)])∧(robOk r p=true→R=rpR r p)∧R.length≤40∧New 111 3 halfC w' w.heap.size v R∧Below w.heap.size w w':=by
 obtain ⟨W,hW⟩:∃ W,W=((w.alloc (.cells #[.slice ra.map.A (List.length r.map) ra.map.c,.int .i64 r.div,.int .i64 r.bx,.int .i64 r.by_,.int .i64 r.low,.int .i64 r.high,.slice ra.noise.A (List.length r.noise) ra.noise.c,.slice ra.limits.A (List.length r.limits) ra.limits.c] 39)).alloc (.cells #[.slice b.A p.length b.c] 37)).alloc (.cells #[.slice none 0 0] 37):=⟨_,rfl⟩
 have HA:HasT W w.heap.size 39 [.slice ra.map.A (List.length r.map) ra.map.c,.int .i64 r.div,.int .i64 r.bx,.int .i64 r.by_,.int .i64 r.low,.int .i64 r.high,.slice ra.noise.A (List.length r.noise) ra.noise.c,.slice ra.limits.A (List.length r.limits) ra.limits.c]:=by
  rw [hW];exact ((HasT.new w [.slice ra.map.A (List.length r.map) ra.map.c,.int .i64 r.div,.int .i64 r.bx,.int .i64 r.by_,.int .i64 r.low,.int .i64 r.high,.slice ra.noise.A (List.length r.noise) ra.noise.c,.slice ra.limits.A (List.length r.limits) ra.limits.c] 39).alloc _).alloc _
 have HB:HasT W (w.heap.size+1) 37 [.slice b.A p.length b.c]:=by
  have h1:=(HasT.new (w.alloc (.cells #[.slice ra.map.A (List.length r.map) ra.map.c,.int .i64 r.div,.int .i64 r.bx,.int .i64 r.by_,.int .i64 r.low,.int .i64 r.high,.slice ra.noise.A (List.length r.noise) ra.noise.c,.slice ra.limits.A (List.length r.limits) ra.limits.c] 39)) [.slice b.A p.length b.c] 37).alloc (.cells #[.slice none 0 0] 37)
  simp only [World.size_alloc] at h1;rw [hW];exact h1
 have HR:HasT W (w.heap.size+1+1) 37 [.slice none 0 0]:=by
  have h1:=HasT.new ((w.alloc (.cells #[.slice ra.map.A (List.length r.map) ra.map.c,.int .i64 r.div,.int .i64 r.bx,.int .i64 r.by_,.int .i64 r.low,.int .i64 r.high,.slice ra.noise.A (List.length r.noise) ra.noise.c,.slice ra.limits.A (List.length r.limits) ra.limits.c] 39)).alloc (.cells #[.slice b.A p.length b.c] 37)) [.slice none 0 0] 37
  simp only [World.size_alloc] at h1;rw [hW];exact h1
 have b0:Below w.heap.size w W:=by
  rw [hW]
  exact belA
 have zW:=lt_of_heap HR
 have hs0:=hs.below b0
 have sp:=hsp.below b0
 have hW':=Lib.hid hW
 clear hW hs hsp
 have HA_:=HA.has
 have HB_:=HB.has
 obtain ⟨cHA__0,fHA__0⟩:=HA_.2 0 _ rfl
 obtain ⟨cHA__1,fHA__1⟩:=HA_.2 1 _ rfl
 obtain ⟨cHA__2,fHA__2⟩:=HA_.2 2 _ rfl
 obtain ⟨cHA__3,fHA__3⟩:=HA_.2 3 _ rfl
 obtain ⟨cHA__4,fHA__4⟩:=HA_.2 4 _ rfl
 obtain ⟨cHA__5,fHA__5⟩:=HA_.2 5 _ rfl
 obtain ⟨cHA__6,fHA__6⟩:=HA_.2 6 _ rfl
 obtain ⟨cHA__7,fHA__7⟩:=HA_.2 7 _ rfl
 obtain ⟨cHB__0,fHB__0⟩:=HB_.2 0 _ rfl
 have lA:=HA_.1
 have lB:=HB_.1
 have cv:=fun W=>iIsVoid_c p b W
 have hdef:=Lib.hid (show robOk r p=(!decide (p.length=0)&&rpOk r p && !decide ((rpR r p).length=0)) from rfl)
 by_cases h0:p.length=0
 ·have hF:=Lib.hid (show robOk r p=false by rw [hdef.out,decide_eq_true h0];rfl)
  rw [decide_eq_true h0] at cv
  clear h0
  go_enter Tryz.func67,Tryz.ntmps67
  go_upto_region 1 with fail
  rw [← hW'.out]
  clear hW'
  go_wp2_with (fail)
  refine (cv _).mono ?_
  rintro e w1 ⟨rfl,hb1⟩
  have R1:=(HR.below hb1).has
  have b1:=below_tr b0 hb1
  obtain ⟨cR1_0,fR1_0⟩:=R1.2 0 _ rfl
  have lR:=R1.1
  go_wp2
  refine bodyPost_ret (v:=.tuple #[.agg #[.slice none 0 0],.bool false]) (by simp [results,Tryz.results67,go_sem,cR1_0]) rfl ⟨.slice none 0 0,[],by rw [hF.out],(fun h=>by rw [hF.out] at h;cases h),by simp,⟨none,0,rfl,World.ownsRow_nil _ _ _ _⟩,below_st b1 (by simp only;omega) _⟩
 have hp0:=Lib.hid h0
 rw [decide_eq_false h0] at cv
 clear h0
 have cr:=fun W h1 h2=>iRob_c r p ra b W hn hin h1 hnl hlp hpi h2 hnb
 have hro:=reg_len (rpR_ok r p)
 go_enter Tryz.func67,Tryz.ntmps67
 go_upto_region 1 with fail
 rw [← hW'.out]
 clear hW'
 go_wp2_with (fail)
 refine (cv _).mono ?_
 rintro e w1 ⟨rfl,hb1⟩
 have r1:=bcell1 hb1
 have l1:=blt hb1 lA
 have l2:=blt hb1 lB
 go_wp2_with (fail)
 refine (cr _ (hs0.below hb1) (sp.below hb1)).mono ?_
 rintro e w2 ⟨v2,rfl,N2,hb2⟩
 obtain ⟨Av,cv2,rfl,o3⟩:=N2
 obtain ⟨R,hR⟩:∃ R,R=rpR r p:=⟨_,rfl⟩
 obtain ⟨ok,hok⟩:∃ ok,ok=rpOk r p:=⟨_,rfl⟩
 rw [← hR] at o3 hro
 rw [← hR,← hok]
 have N2:New 111 3 halfC w2 w1.heap.size (.slice Av R.length cv2) R:=⟨Av,cv2,rfl,o3⟩
 have hR':=Lib.hid hR
 have hok':=Lib.hid hok
 clear hR hok o3
 have T3:HasT (w2.alloc (.cells #[.slice Av R.length cv2] 37)) w2.heap.size 37 [.slice Av R.length cv2]:=HasT.new w2 [.slice Av R.length cv2] 37
 have R3:=((HR.below hb1).below hb2).alloc (.cells #[.slice Av R.length cv2] 37)
 have N3:=N2.alloc (.cells #[.slice Av R.length cv2] 37)
 have b3:=below_al (below_tr (below_tr b0 hb1) hb2) (.cells #[.slice Av R.length cv2] 37)
 have z3:=Nat.lt_of_lt_of_le zW (Nat.le_trans hb1.size hb2.size);have z1:=hb1.size;clear HA_ HB_ cHA__0 cHA__1 cHA__2 cHA__3 cHA__4 cHA__5 cHA__6 cHA__7 fHA__0 fHA__1 fHA__2 fHA__3 fHA__4 fHA__5 fHA__6 fHA__7 cHB__0 fHB__0 lA lB HA HB HR b0 hs0 sp r1 l1 l2 hb1 hb2 N2 cv cr
 go_upto_region 4 with fail
 generalize w2.alloc (.cells #[.slice Av R.length cv2] 37)=w3 at *
 generalize w2.heap.size=g2 at *
 have cv:=fun W=>iIsVoid_c R ⟨Av,cv2⟩ W
 obtain ⟨vd,hvd⟩:∃ vd,vd=decide (R.length=0):=⟨_,rfl⟩
 rw [← hvd] at cv
 have hvd':=Lib.hid hvd
 have hBWA:w.heap.size+1+1≤w3.heap.size:=by have:=lt_of_heap R3;omega
 have hTA_0:=T3
 have hTA_1:=R3
 have lT:=lt_of_heap T3
 have lR:=lt_of_heap R3
 clear hvd
 cases ok
 ·have hF:=Lib.hid (show robOk r p=false by rw [hdef.out,← hok'.out];simp)
  have hKA_0:=N3
  obtain ⟨IA,hIA⟩:∃ I:Act→(Nat→Bool)→Act→World→Prop,I=(fun a0 L a w'=>FrameOf a0 a [17,18,19,20,21,22,23,5]∧Below (w.heap.size+1+1) w3 w'∧(L 0=true→a.tmps[17]?.getD undef=.agg #[.slice Av R.length cv2])∧(L 1=true→a.tmps[18]?.getD undef=.bool false)∧(L 2=true→a.tmps[19]?.getD undef=.bool false)∧(L 3=true→a.tmps[20]?.getD undef=undef)∧(L 4=true→a.tmps[21]?.getD undef=undef)∧(L 5=true→a.tmps[22]?.getD undef=undef)∧(L 6=true→a.tmps[23]?.getD undef=.bool false)∧(L 8=true→a.tmps[5]?.getD undef=.bool false)∧(L 2=true→L 1=true)∧(L 6=true→L 2=true)∧(L 7=true→L 0=true)∧(L 8=true→L 6=true)∧HasT w' (g2) 37 [.slice Av R.length cv2]∧(L 7=false→HasT w' (w.heap.size+1+1) 37 [.slice none 0 0])∧(L 7=true→HasT w' (w.heap.size+1+1) 37 [.slice Av R.length cv2])∧(New 111 3 halfC w' w1.heap.size (.slice Av R.length cv2) R)):=⟨_,rfl⟩
  refine wp_region_I0 (by kernel_rfl) (by kernel_rfl) IA ?h0 ?hs ?he
  case h0 =>
   rw [hIA]
   exact ⟨FrameOf.refl _ _,bR.drew,fun h=>absurd h (by simp),fun h=>absurd h (by simp),fun h=>absurd h (by simp),fun h=>absurd h (by simp),fun h=>absurd h (by simp),fun h=>absurd h (by simp),fun h=>absurd h (by simp),fun h=>absurd h (by simp),fun h=>absurd h (by simp),fun h=>absurd h (by simp),fun h=>absurd h (by simp),fun h=>absurd h (by simp),hTA_0,fun _=>hTA_1,fun h=>absurd h (by simp),hKA_0⟩
  case hs =>
   intro L a w' i o ho hLi hd hI'
   rw [hIA] at hI'
   obtain ⟨hF,hB,ci0,ci1,ci2,ci3,ci4,ci5,ci6,ci8,cp2_1,cp6_2,cp7_0,cp8_6,cy0,cy1,cz1,ck0⟩:=hI'
   have hi:i<9:=by
    rcases Nat.lt_or_ge i 9 with h|h
    ·exact h
    ·rw [List.getElem?_eq_none (by simpa using h)] at ho;cases ho
   have zB:=hB.size
   have hBw:w.heap.size+1+1≤w'.heap.size:=Nat.le_trans hBWA zB
   obtain rfl|rfl|rfl|rfl|rfl|rfl|rfl|rfl|rfl:i=0∨i=1∨i=2∨i=3∨i=4∨i=5∨i=6∨i=7∨i=8:=by omega
   ·simp only [List.getElem?_cons_zero,Option.some.injEq] at ho
    subst ho
    rw [if_pos (by simp [Region.wanted])]
    have e0:a.tmps[6]?.getD undef=.pointer (some ⟨g2,0,none⟩):=hF.get (by decide)
    have HT0:=cy0
    have HH0:=HT0.has
    have lH0:=HH0.1
    obtain ⟨cH0_0,fH0_0⟩:=HH0.2 0 _ rfl
    simp [go_sem,Array.getD_eq_getD_getElem?,e0,cH0_0]
    rw [hIA]
    exact ⟨hF.put (by decide) _,hB,fun _=>put_get_self (hF.lt (by simp)) _,pgK ci1 (by decide) rfl,pgK ci2 (by decide) rfl,pgK ci3 (by decide) rfl,pgK ci4 (by decide) rfl,pgK ci5 (by decide) rfl,pgK ci6 (by decide) rfl,pgK ci8 (by decide) rfl,prK cp2_1 rfl,prK cp6_2 rfl,fun _=>by simp,prK cp8_6 rfl,cy0,knK cy1 rfl,fun h=>cz1 (by simpa using h),ck0⟩
   ·simp only [List.getElem?_cons_zero,List.getElem?_cons_succ,Option.some.injEq] at ho
    subst ho
    rw [if_pos (by simp [Region.wanted])]
    have e0:a.tmps[7]?.getD undef=.bool false:=hF.get (by decide)
    simp [go_sem,Array.getD_eq_getD_getElem?,e0]
    rw [hIA]
    exact ⟨hF.put (by decide) _,hB,pgK ci0 (by decide) rfl,fun _=>put_get_self (hF.lt (by simp)) _,pgK ci2 (by decide) rfl,pgK ci3 (by decide) rfl,pgK ci4 (by decide) rfl,pgK ci5 (by decide) rfl,pgK ci6 (by decide) rfl,pgK ci8 (by decide) rfl,fun _=>by simp,prK cp6_2 rfl,prK cp7_0 rfl,prK cp8_6 rfl,cy0,knK cy1 rfl,fun h=>cz1 (by simpa using h),ck0⟩
   ·simp only [List.getElem?_cons_zero,List.getElem?_cons_succ,Option.some.injEq] at ho
    subst ho
    rw [if_pos (by simp [Region.wanted])]
    have d1:=hd { on:=1,ground:=.data } (by simp) (by decide)
    have v1:=ci1 d1
    simp [go_sem,Array.getD_eq_getD_getElem?,v1]
    rw [hIA]
    exact ⟨hF.put (by decide) _,hB,pgK ci0 (by decide) rfl,pgK ci1 (by decide) rfl,fun _=>put_get_self (hF.lt (by simp)) _,pgK ci3 (by decide) rfl,pgK ci4 (by decide) rfl,pgK ci5 (by decide) rfl,pgK ci6 (by decide) rfl,pgK ci8 (by decide) rfl,fun _=>by simp [d1],fun _=>by simp,prK cp7_0 rfl,prK cp8_6 rfl,cy0,knK cy1 rfl,fun h=>cz1 (by simpa using h),ck0⟩
   ·simp only [List.getElem?_cons_zero,List.getElem?_cons_succ,Option.some.injEq] at ho
    subst ho
    have dg:=hd { on:=2,ground:=.guard } (by simp) (by decide)
    have vg:=ci2 dg
    rw [if_neg (unwanted_of rfl rfl rfl vg (by decide))]
    rw [hIA]
    exact ⟨hF.put (by decide) _,hB,pgK ci0 (by decide) rfl,pgK ci1 (by decide) rfl,pgK ci2 (by decide) rfl,fun _=>put_get_self (hF.lt (by simp)) _,pgK ci4 (by decide) rfl,pgK ci5 (by decide) rfl,pgK ci6 (by decide) rfl,pgK ci8 (by decide) rfl,prK cp2_1 rfl,prK cp6_2 rfl,prK cp7_0 rfl,prK cp8_6 rfl,cy0,knK cy1 rfl,fun h=>cz1 (by simpa using h),ck0⟩
   ·simp only [List.getElem?_cons_zero,List.getElem?_cons_succ,Option.some.injEq] at ho
    subst ho
    have dg:=hd { on:=2,ground:=.guard } (by simp) (by decide)
    have vg:=ci2 dg
    rw [if_neg (unwanted_of rfl rfl rfl vg (by decide))]
    rw [hIA]
    exact ⟨hF.put (by decide) _,hB,pgK ci0 (by decide) rfl,pgK ci1 (by decide) rfl,pgK ci2 (by decide) rfl,pgK ci3 (by decide) rfl,fun _=>put_get_self (hF.lt (by simp)) _,pgK ci5 (by decide) rfl,pgK ci6 (by decide) rfl,pgK ci8 (by decide) rfl,prK cp2_1 rfl,prK cp6_2 rfl,prK cp7_0 rfl,prK cp8_6 rfl,cy0,knK cy1 rfl,fun h=>cz1 (by simpa using h),ck0⟩
   ·simp only [List.getElem?_cons_zero,List.getElem?_cons_succ,Option.some.injEq] at ho
    subst ho
    have dg:=hd { on:=2,ground:=.guard } (by simp) (by decide)
    have vg:=ci2 dg
    rw [if_neg (unwanted_of rfl rfl rfl vg (by decide))]
    rw [hIA]
    exact ⟨hF.put (by decide) _,hB,pgK ci0 (by decide) rfl,pgK ci1 (by decide) rfl,pgK ci2 (by decide) rfl,pgK ci3 (by decide) rfl,pgK ci4 (by decide) rfl,fun _=>put_get_self (hF.lt (by simp)) _,pgK ci6 (by decide) rfl,pgK ci8 (by decide) rfl,prK cp2_1 rfl,prK cp6_2 rfl,prK cp7_0 rfl,prK cp8_6 rfl,cy0,knK cy1 rfl,fun h=>cz1 (by simpa using h),ck0⟩
   ·simp only [List.getElem?_cons_zero,List.getElem?_cons_succ,Option.some.injEq] at ho
    subst ho
    rw [if_pos (by simp [Region.wanted])]
    have d2:=hd { on:=2,ground:=.data } (by simp) (by decide)
    have v2:=ci2 d2
    simp [go_sem,Array.getD_eq_getD_getElem?,v2]
    rw [hIA]
    exact ⟨hF.put (by decide) _,hB,pgK ci0 (by decide) rfl,pgK ci1 (by decide) rfl,pgK ci2 (by decide) rfl,pgK ci3 (by decide) rfl,pgK ci4 (by decide) rfl,pgK ci5 (by decide) rfl,fun _=>put_get_self (hF.lt (by simp)) _,pgK ci8 (by decide) rfl,prK cp2_1 rfl,fun _=>by simp [d2],prK cp7_0 rfl,fun _=>by simp,cy0,knK cy1 rfl,fun h=>cz1 (by simpa using h),ck0⟩
   ·simp only [List.getElem?_cons_zero,List.getElem?_cons_succ,Option.some.injEq] at ho
    subst ho
    rw [if_pos (by simp [Region.wanted])]
    have e0:a.tmps[4]?.getD undef=.pointer (some ⟨w.heap.size+1+1,0,none⟩):=hF.get (by decide)
    have d0:=hd { on:=0,ground:=.data } (by simp) (by decide)
    have v0:=ci0 d0
    have HT1:=cy1 hLi
    have HH1:=HT1.has
    have lH1:=HH1.1
    obtain ⟨cH1_0,fH1_0⟩:=HH1.2 0 _ rfl
    simp [go_sem,Array.getD_eq_getD_getElem?,e0,v0,cH1_0,fH1_0]
    rw [hIA]
    exact ⟨hF,below_setCells_at (by omega) [_] 0 _ hB,kpK ci0 rfl,kpK ci1 rfl,kpK ci2 rfl,kpK ci3 rfl,kpK ci4 rfl,kpK ci5 rfl,kpK ci6 rfl,kpK ci8 rfl,prK cp2_1 rfl,prK cp6_2 rfl,fun _=>by simp [d0],prK cp8_6 rfl,(cy0).other (g':=w.heap.size+1+1) (by omega) [.slice Av R.length cv2] 0,fun h=>by simp at h,fun _=>HT1.store (us:=[.slice Av R.length cv2]) rfl,(ck0).otherC ((ck0).typ HT1 (by decide)) [.slice Av R.length cv2] 0⟩
   ·simp only [List.getElem?_cons_zero,List.getElem?_cons_succ,Option.some.injEq] at ho
    subst ho
    rw [if_pos (by simp [Region.wanted])]
    have d6:=hd { on:=6,ground:=.data } (by simp) (by decide)
    have v6:=ci6 d6
    simp [go_sem,Array.getD_eq_getD_getElem?,v6]
    rw [hIA]
    exact ⟨hF.put (by decide) _,hB,pgK ci0 (by decide) rfl,pgK ci1 (by decide) rfl,pgK ci2 (by decide) rfl,pgK ci3 (by decide) rfl,pgK ci4 (by decide) rfl,pgK ci5 (by decide) rfl,pgK ci6 (by decide) rfl,fun _=>put_get_self (hF.lt (by simp)) _,prK cp2_1 rfl,prK cp6_2 rfl,prK cp7_0 rfl,fun _=>by simp [d6],cy0,knK cy1 rfl,fun h=>cz1 (by simpa using h),ck0⟩
  case he =>
   intro L a' wA hL hI'
   rw [hIA] at hI'
   obtain ⟨hF,hbA,ci0,ci1,ci2,ci3,ci4,ci5,ci6,ci8,cp2_1,cp6_2,cp7_0,cp8_6,cy0,cy1,cz1,ck0⟩:=hI'
   have eA_8:=ci8 (hL 8 (by decide))
   have HTA_0:=cy0
   have HTA_1:=cz1 (hL 7 (by decide))
   have NKA_0:=ck0
   have hout:=hF.outG (by simp)
   simp only [List.foldl_cons,List.foldl_nil,eA_8] at hout
   rw [hout]
   generalize a'.tmps[17]?.getD undef=xA_17
   generalize a'.tmps[18]?.getD undef=xA_18
   generalize a'.tmps[19]?.getD undef=xA_19
   generalize a'.tmps[20]?.getD undef=xA_20
   generalize a'.tmps[21]?.getD undef=xA_21
   generalize a'.tmps[22]?.getD undef=xA_22
   generalize a'.tmps[23]?.getD undef=xA_23
   clear hout hIA hF hL ci0 ci1 ci2 ci3 ci4 ci5 ci6 ci8 cp2_1 cp6_2 cp7_0 cp8_6 cy0 cy1 cz1 ck0
   go_simp
   have HF:=HTA_1.has
   obtain ⟨cHF_0,fHF_0⟩:=HF.2 0 _ rfl
   have lF:=HF.1
   go_wp2
   refine bodyPost_ret (v:=.tuple #[.agg #[.slice Av R.length cv2],.bool false]) (by simp [results,Tryz.results67,go_sem, *]) rfl ⟨.slice Av R.length cv2,R,by rw [hF.out],fun _=>hR'.out,hro, ?_,b3.trans (hbA.mono (by omega))⟩
   exact NKA_0.mono (by omega)
 ·have hF:=Lib.hid (show robOk r p = !vd by rw [hdef.out,← hok'.out,← hR'.out,decide_eq_false hp0.out,← hvd'.out];simp)
  have hKA_0:=N3
  obtain ⟨IA,hIA⟩:∃ I:Act→(Nat→Bool)→Act→World→Prop,I=(fun a0 L a w'=>FrameOf a0 a [17,18,19,20,21,22,23,5]∧Below (w.heap.size+1+1) w3 w'∧(L 0=true→a.tmps[17]?.getD undef=.agg #[.slice Av R.length cv2])∧(L 1=true→a.tmps[18]?.getD undef=.bool true)∧(L 2=true→a.tmps[19]?.getD undef=.bool true)∧(L 3=true→a.tmps[20]?.getD undef=.agg #[.slice Av R.length cv2])∧(L 4=true→a.tmps[21]?.getD undef=.bool (vd))∧(L 5=true→a.tmps[22]?.getD undef=.bool (!vd))∧(L 6=true→a.tmps[23]?.getD undef=.bool (!vd))∧(L 8=true→a.tmps[5]?.getD undef=.bool (!vd))∧(L 2=true→L 1=true)∧(L 4=true→L 3=true)∧(L 5=true→L 4=true)∧(L 6=true→L 2=true)∧(L 6=true→L 5=true)∧(L 7=true→L 0=true)∧(L 8=true→L 6=true)∧HasT w' (g2) 37 [.slice Av R.length cv2]∧(L 7=false→HasT w' (w.heap.size+1+1) 37 [.slice none 0 0])∧(L 7=true→HasT w' (w.heap.size+1+1) 37 [.slice Av R.length cv2])∧(New 111 3 halfC w' w1.heap.size (.slice Av R.length cv2) R)):=⟨_,rfl⟩
  refine wp_region_I0 (by kernel_rfl) (by kernel_rfl) IA ?h0 ?hs ?he
  case h0 =>
   rw [hIA]
   exact ⟨FrameOf.refl _ _,bR.drew,fun h=>absurd h (by simp),fun h=>absurd h (by simp),fun h=>absurd h (by simp),fun h=>absurd h (by simp),fun h=>absurd h (by simp),fun h=>absurd h (by simp),fun h=>absurd h (by simp),fun h=>absurd h (by simp),fun h=>absurd h (by simp),fun h=>absurd h (by simp),fun h=>absurd h (by simp),fun h=>absurd h (by simp),fun h=>absurd h (by simp),fun h=>absurd h (by simp),fun h=>absurd h (by simp),hTA_0,fun _=>hTA_1,fun h=>absurd h (by simp),hKA_0⟩
  case hs =>
   intro L a w' i o ho hLi hd hI'
   rw [hIA] at hI'
   obtain ⟨hF,hB,ci0,ci1,ci2,ci3,ci4,ci5,ci6,ci8,cp2_1,cp4_3,cp5_4,cp6_2,cp6_5,cp7_0,cp8_6,cy0,cy1,cz1,ck0⟩:=hI'
   have hi:i<9:=by
    rcases Nat.lt_or_ge i 9 with h|h
    ·exact h
    ·rw [List.getElem?_eq_none (by simpa using h)] at ho;cases ho
   have zB:=hB.size
   have hBw:w.heap.size+1+1≤w'.heap.size:=Nat.le_trans hBWA zB
   obtain rfl|rfl|rfl|rfl|rfl|rfl|rfl|rfl|rfl:i=0∨i=1∨i=2∨i=3∨i=4∨i=5∨i=6∨i=7∨i=8:=by omega
   ·simp only [List.getElem?_cons_zero,Option.some.injEq] at ho
    subst ho
    rw [if_pos (by simp [Region.wanted])]
    have e0:a.tmps[6]?.getD undef=.pointer (some ⟨g2,0,none⟩):=hF.get (by decide)
    have HT0:=cy0
    have HH0:=HT0.has
    have lH0:=HH0.1
    obtain ⟨cH0_0,fH0_0⟩:=HH0.2 0 _ rfl
    simp [go_sem,Array.getD_eq_getD_getElem?,e0,cH0_0]
    rw [hIA]
    exact ⟨hF.put (by decide) _,hB,fun _=>put_get_self (hF.lt (by simp)) _,pgK ci1 (by decide) rfl,pgK ci2 (by decide) rfl,pgK ci3 (by decide) rfl,pgK ci4 (by decide) rfl,pgK ci5 (by decide) rfl,pgK ci6 (by decide) rfl,pgK ci8 (by decide) rfl,prK cp2_1 rfl,prK cp4_3 rfl,prK cp5_4 rfl,prK cp6_2 rfl,prK cp6_5 rfl,fun _=>by simp,prK cp8_6 rfl,cy0,knK cy1 rfl,fun h=>cz1 (by simpa using h),ck0⟩
   ·simp only [List.getElem?_cons_zero,List.getElem?_cons_succ,Option.some.injEq] at ho
    subst ho
    rw [if_pos (by simp [Region.wanted])]
    have e0:a.tmps[7]?.getD undef=.bool true:=hF.get (by decide)
    simp [go_sem,Array.getD_eq_getD_getElem?,e0]
    rw [hIA]
    exact ⟨hF.put (by decide) _,hB,pgK ci0 (by decide) rfl,fun _=>put_get_self (hF.lt (by simp)) _,pgK ci2 (by decide) rfl,pgK ci3 (by decide) rfl,pgK ci4 (by decide) rfl,pgK ci5 (by decide) rfl,pgK ci6 (by decide) rfl,pgK ci8 (by decide) rfl,fun _=>by simp,prK cp4_3 rfl,prK cp5_4 rfl,prK cp6_2 rfl,prK cp6_5 rfl,prK cp7_0 rfl,prK cp8_6 rfl,cy0,knK cy1 rfl,fun h=>cz1 (by simpa using h),ck0⟩
   ·simp only [List.getElem?_cons_zero,List.getElem?_cons_succ,Option.some.injEq] at ho
    subst ho
    rw [if_pos (by simp [Region.wanted])]
    have d1:=hd { on:=1,ground:=.data } (by simp) (by decide)
    have v1:=ci1 d1
    simp [go_sem,Array.getD_eq_getD_getElem?,v1]
    rw [hIA]
    exact ⟨hF.put (by decide) _,hB,pgK ci0 (by decide) rfl,pgK ci1 (by decide) rfl,fun _=>put_get_self (hF.lt (by simp)) _,pgK ci3 (by decide) rfl,pgK ci4 (by decide) rfl,pgK ci5 (by decide) rfl,pgK ci6 (by decide) rfl,pgK ci8 (by decide) rfl,fun _=>by simp [d1],prK cp4_3 rfl,prK cp5_4 rfl,fun _=>by simp,prK cp6_5 rfl,prK cp7_0 rfl,prK cp8_6 rfl,cy0,knK cy1 rfl,fun h=>cz1 (by simpa using h),ck0⟩
   ·simp only [List.getElem?_cons_zero,List.getElem?_cons_succ,Option.some.injEq] at ho
    subst ho
    have dg:=hd { on:=2,ground:=.guard } (by simp) (by decide)
    have vg:=ci2 dg
    rw [if_pos (wanted_of rfl rfl rfl vg)]
    have e0:a.tmps[6]?.getD undef=.pointer (some ⟨g2,0,none⟩):=hF.get (by decide)
    have HT0:=cy0
    have HH0:=HT0.has
    have lH0:=HH0.1
    obtain ⟨cH0_0,fH0_0⟩:=HH0.2 0 _ rfl
    simp [go_sem,Array.getD_eq_getD_getElem?,e0,cH0_0]
    rw [hIA]
    exact ⟨hF.put (by decide) _,hB,pgK ci0 (by decide) rfl,pgK ci1 (by decide) rfl,pgK ci2 (by decide) rfl,fun _=>put_get_self (hF.lt (by simp)) _,pgK ci4 (by decide) rfl,pgK ci5 (by decide) rfl,pgK ci6 (by decide) rfl,pgK ci8 (by decide) rfl,prK cp2_1 rfl,fun _=>by simp,prK cp5_4 rfl,prK cp6_2 rfl,prK cp6_5 rfl,prK cp7_0 rfl,prK cp8_6 rfl,cy0,knK cy1 rfl,fun h=>cz1 (by simpa using h),ck0⟩
   ·simp only [List.getElem?_cons_zero,List.getElem?_cons_succ,Option.some.injEq] at ho
    subst ho
    have dg:=hd { on:=2,ground:=.guard } (by simp) (by decide)
    have vg:=ci2 dg
    rw [if_pos (wanted_of rfl rfl rfl vg)]
    have d3:=hd { on:=3,ground:=.data } (by simp) (by decide)
    have v3:=ci3 d3
    simp [go_sem,Array.getD_eq_getD_getElem?,v3]
    refine (cv _).mono ?_
    rintro e wx ⟨rfl,hbx⟩
    rw [hIA]
    exact ⟨hF.put (by decide) _,hB.trans (hbx.mono hBw),pgK ci0 (by decide) rfl,pgK ci1 (by decide) rfl,pgK ci2 (by decide) rfl,pgK ci3 (by decide) rfl,fun _=>put_get_self (hF.lt (by simp)) _,pgK ci5 (by decide) rfl,pgK ci6 (by decide) rfl,pgK ci8 (by decide) rfl,prK cp2_1 rfl,fun _=>by simp [d3],fun _=>by simp,prK cp6_2 rfl,prK cp6_5 rfl,prK cp7_0 rfl,prK cp8_6 rfl,(cy0).below hbx,fun h=>(cy1 (by simpa using h)).below hbx,fun h=>(cz1 (by simpa using h)).below hbx,(ck0).below hbx leR⟩
   ·simp only [List.getElem?_cons_zero,List.getElem?_cons_succ,Option.some.injEq] at ho
    subst ho
    have dg:=hd { on:=2,ground:=.guard } (by simp) (by decide)
    have vg:=ci2 dg
    rw [if_pos (wanted_of rfl rfl rfl vg)]
    have d4:=hd { on:=4,ground:=.data } (by simp) (by decide)
    have v4:=ci4 d4
    simp [go_sem,Array.getD_eq_getD_getElem?,v4]
    rw [hIA]
    exact ⟨hF.put (by decide) _,hB,pgK ci0 (by decide) rfl,pgK ci1 (by decide) rfl,pgK ci2 (by decide) rfl,pgK ci3 (by decide) rfl,pgK ci4 (by decide) rfl,fun _=>put_get_self (hF.lt (by simp)) _,pgK ci6 (by decide) rfl,pgK ci8 (by decide) rfl,prK cp2_1 rfl,prK cp4_3 rfl,fun _=>by simp [d4],prK cp6_2 rfl,fun _=>by simp,prK cp7_0 rfl,prK cp8_6 rfl,cy0,knK cy1 rfl,fun h=>cz1 (by simpa using h),ck0⟩
   ·simp only [List.getElem?_cons_zero,List.getElem?_cons_succ,Option.some.injEq] at ho
    subst ho
    rw [if_pos (by simp [Region.wanted])]
    have d2:=hd { on:=2,ground:=.data } (by simp) (by decide)
    have v2:=ci2 d2
    have d5:=hd { on:=5,ground:=.data } (by simp) (by decide)
    have v5:=ci5 d5
    simp [go_sem,Array.getD_eq_getD_getElem?,v2,v5]
    rw [hIA]
    exact ⟨hF.put (by decide) _,hB,pgK ci0 (by decide) rfl,pgK ci1 (by decide) rfl,pgK ci2 (by decide) rfl,pgK ci3 (by decide) rfl,pgK ci4 (by decide) rfl,pgK ci5 (by decide) rfl,fun _=>put_get_self (hF.lt (by simp)) _,pgK ci8 (by decide) rfl,prK cp2_1 rfl,prK cp4_3 rfl,prK cp5_4 rfl,fun _=>by simp [d2],fun _=>by simp [d5],prK cp7_0 rfl,fun _=>by simp,cy0,knK cy1 rfl,fun h=>cz1 (by simpa using h),ck0⟩
   ·simp only [List.getElem?_cons_zero,List.getElem?_cons_succ,Option.some.injEq] at ho
    subst ho
    rw [if_pos (by simp [Region.wanted])]
    have e0:a.tmps[4]?.getD undef=.pointer (some ⟨w.heap.size+1+1,0,none⟩):=hF.get (by decide)
    have d0:=hd { on:=0,ground:=.data } (by simp) (by decide)
    have v0:=ci0 d0
    have HT1:=cy1 hLi
    have HH1:=HT1.has
    have lH1:=HH1.1
    obtain ⟨cH1_0,fH1_0⟩:=HH1.2 0 _ rfl
    simp [go_sem,Array.getD_eq_getD_getElem?,e0,v0,cH1_0,fH1_0]
    rw [hIA]
    exact ⟨hF,below_setCells_at (by omega) [_] 0 _ hB,kpK ci0 rfl,kpK ci1 rfl,kpK ci2 rfl,kpK ci3 rfl,kpK ci4 rfl,kpK ci5 rfl,kpK ci6 rfl,kpK ci8 rfl,prK cp2_1 rfl,prK cp4_3 rfl,prK cp5_4 rfl,prK cp6_2 rfl,prK cp6_5 rfl,fun _=>by simp [d0],prK cp8_6 rfl,(cy0).other (g':=w.heap.size+1+1) (by omega) [.slice Av R.length cv2] 0,fun h=>by simp at h,fun _=>HT1.store (us:=[.slice Av R.length cv2]) rfl,(ck0).otherC ((ck0).typ HT1 (by decide)) [.slice Av R.length cv2] 0⟩
   ·simp only [List.getElem?_cons_zero,List.getElem?_cons_succ,Option.some.injEq] at ho
    subst ho
    rw [if_pos (by simp [Region.wanted])]
    have d6:=hd { on:=6,ground:=.data } (by simp) (by decide)
    have v6:=ci6 d6
    simp [go_sem,Array.getD_eq_getD_getElem?,v6]
    rw [hIA]
    exact ⟨hF.put (by decide) _,hB,pgK ci0 (by decide) rfl,pgK ci1 (by decide) rfl,pgK ci2 (by decide) rfl,pgK ci3 (by decide) rfl,pgK ci4 (by decide) rfl,pgK ci5 (by decide) rfl,pgK ci6 (by decide) rfl,fun _=>put_get_self (hF.lt (by simp)) _,prK cp2_1 rfl,prK cp4_3 rfl,prK cp5_4 rfl,prK cp6_2 rfl,prK cp6_5 rfl,prK cp7_0 rfl,fun _=>by simp [d6],cy0,knK cy1 rfl,fun h=>cz1 (by simpa using h),ck0⟩
  case he =>
   intro L a' wA hL hI'
   rw [hIA] at hI'
   obtain ⟨hF,hbA,ci0,ci1,ci2,ci3,ci4,ci5,ci6,ci8,cp2_1,cp4_3,cp5_4,cp6_2,cp6_5,cp7_0,cp8_6,cy0,cy1,cz1,ck0⟩:=hI'
   have eA_8:=ci8 (hL 8 (by decide))
   have HTA_0:=cy0
   have HTA_1:=cz1 (hL 7 (by decide))
   have NKA_0:=ck0
   have hout:=hF.outG (by simp)
   simp only [List.foldl_cons,List.foldl_nil,eA_8] at hout
   rw [hout]
   generalize a'.tmps[17]?.getD undef=xA_17
   generalize a'.tmps[18]?.getD undef=xA_18
   generalize a'.tmps[19]?.getD undef=xA_19
   generalize a'.tmps[20]?.getD undef=xA_20
   generalize a'.tmps[21]?.getD undef=xA_21
   generalize a'.tmps[22]?.getD undef=xA_22
   generalize a'.tmps[23]?.getD undef=xA_23
   clear hout hIA hF hL ci0 ci1 ci2 ci3 ci4 ci5 ci6 ci8 cp2_1 cp4_3 cp5_4 cp6_2 cp6_5 cp7_0 cp8_6 cy0 cy1 cz1 ck0
   go_simp
   have HF:=HTA_1.has
   obtain ⟨cHF_0,fHF_0⟩:=HF.2 0 _ rfl
   have lF:=HF.1
   go_wp2
   refine bodyPost_ret (v:=.tuple #[.agg #[.slice Av R.length cv2],.bool (!vd)]) (by simp [results,Tryz.results67,go_sem, *]) rfl ⟨.slice Av R.length cv2,R,by rw [hF.out],fun _=>hR'.out,hro, ?_,b3.trans (hbA.mono (by omega))⟩
   exact NKA_0.mono (by omega)
end Go.Proofs.YtdncnhcffbgjhaaGreat
end
section
namespace Go.Proofs.YtdncnhcffbgjhaaGreat
open Go.RowKit
end Go.Proofs.YtdncnhcffbgjhaaGreat
end
