/-
 Rooms whose limits are narrowed by a drift: of the program and of the reference.
 Conditions: the slices hold at most 2^20 elements.
-/
import Derived.Test.YtabfdkpdppemaaaGreatGrXeQb
import Derived.Test.YtabfdkpdppemaaaGreatDrift
set_option maxHeartbeats 8000000
set_option maxRecDepth 100000
namespace Go.Proofs.YtabfdkpdppemaaaGreat
open Go.RowKit
def setLim (x:XH) (l:List Half):XH:=⟨x.map,x.div,x.bx,x.by_,x.low,x.high,x.noise,l⟩
def Ki (x:XH) (dx dy:Int):Bool:=ZH dx 0 100&&ZH dy 0 100&&(decide (dx=0) == decide (dy=0))&&XT x
def Ya (x:XH) (dx dy:Int):Bool:=Ki x dx dy&&(decide (dx=0)||(Ju (Zj (Yw dx dy)) x.limits && !decide ((KF (Zj (Yw dx dy)) x.limits).length=0)))
def Xm (x:XH) (dx dy:Int):XH:=if Ya x dx dy=true then (if dx=0 then x else setLim x (KF (Zj (Yw dx dy)) x.limits)) else room0
theorem drift_no {x:XH} {dx dy:Int} (h:Ki x dx dy=false):Ya x dx dy=false/\Xm x dx dy=room0:=by
 have h1:Ya x dx dy=false:=by unfold Ya;rw [h,Bool.false_and]
 exact ⟨h1,by unfold Xm;rw [h1];rfl⟩
theorem drift_zero {x:XH} {dx dy:Int} (h:Ki x dx dy=true) (h0:dx=0):Ya x dx dy=true/\Xm x dx dy=x:=by
 have h1:Ya x dx dy=true:=by unfold Ya;rw [h,decide_eq_true h0];rfl
 exact ⟨h1,by unfold Xm;rw [h1,if_pos rfl,if_pos h0]⟩
theorem drift_bad {x:XH} {dx dy:Int} (h0:dx≠0) (h:Ju (Zj (Yw dx dy)) x.limits=false∨(KF (Zj (Yw dx dy)) x.limits).length=0):Ya x dx dy=false/\Xm x dx dy=room0:=by
 have h1:Ya x dx dy=false:=by
  unfold Ya;rw [decide_eq_false h0,Bool.false_or];rcases h with h|h
  ·rw [h,Bool.false_and,Bool.and_false]
  ·rw [decide_eq_true h];simp
 exact ⟨h1,by unfold Xm;rw [h1];rfl⟩
theorem drift_yes {x:XH} {dx dy:Int} (hp:Ki x dx dy=true) (h0:dx≠0) (h:Ju (Zj (Yw dx dy)) x.limits=true) (h2:(KF (Zj (Yw dx dy)) x.limits).length≠0):Ya x dx dy=true/\Xm x dx dy=setLim x (KF (Zj (Yw dx dy)) x.limits):=by
 have h1:Ya x dx dy=true:=by unfold Ya;rw [hp,h,decide_eq_false h2];simp
 exact ⟨h1,by unfold Xm;rw [h1,if_pos rfl,if_neg h0]⟩
theorem pre_no {x:XH} {dx dy:Int} (h:ZH dx 0 100=false∨ZH dy 0 100=false∨((decide (dx=0) == decide (dy=0))=false)∨XT x=false):Ki x dx dy=false:=by
 unfold Ki;rcases h with h|h|h|h<;>rw [h]<;>simp
theorem room_limits {x:XH} (h:XT x=true):Xl x.limits=true:=by
 simp only [XT,Bool.and_eq_true] at h;exact h.2
theorem movR_len {f:Half->Option Half} {p:List Half} (hf:∀ h∈p,∀ g,f h=some g->Xn g=true):(KF f p).length<=40:=ZM (movR_ok hf)
theorem driftRoom_le (x:XH) (dx dy:Int) (h:ZF x<=1048576):ZF (Xm x dx dy)<=1048576:=by
 unfold Xm;split
 ·rename_i hok
  split
  ·exact h
  ·have hro:XT x=true:=by
    unfold Ya Ki at hok;simp only [Bool.and_eq_true] at hok;exact hok.1.2
   have h1:=movR_len (f:=Zj (Yw dx dy)) (p:=x.limits) (λ h _ g e=>eroH_ok e);have h2:=roomOk_map hro;have h3:x.noise.length<=40:=by
    simp only [XT,Bool.and_eq_true] at hro;exact ZM hro.1.2
   simp only [ZF,setLim];omega
 ·decide
theorem areBounds_c (a b:Int) (w:World) (_ : -1000000<=a/\b<=1000000) :
 Calls Tryz.prog 203 #[.int .i64 a,.int .i64 b] w λ e w'=>e=.returned (.bool (decide (-1000<=a/\a<b/\b<=1000)))/\w=w':=by
 by_cases h1 : -1000<=a
 ·by_cases h2:a<b
  ·by_cases h3:b<=1000
   all_goals
    go_enter Tryz.func203,Tryz.ntmps203
    go_wp2
    go_ret
    exact ⟨Xg (by first|(rw [decide_eq_true (by omega)];done)|(rw [decide_eq_false (by omega)];done)),rfl⟩
  ·go_enter Tryz.func203,Tryz.ntmps203
   go_wp2
   go_ret
   exact ⟨Xg (by rw [decide_eq_false (by omega)];rfl),rfl⟩
 ·go_enter Tryz.func203,Tryz.ntmps203
  go_wp2
  go_ret
  exact ⟨Xg (by rw [decide_eq_false (by omega)];rfl),rfl⟩
theorem iBox_c (x y:Int) (w:World) (hx:1<=x/\x<=100) (hy:1<=y/\y<=100) :
 Calls Tryz.prog 134 #[.int .i64 (-x),.int .i64 (-y),.int .i64 x,.int .i64 y] w λ e w'=>∃ v,e=.returned (.tuple #[.agg #[v],.bool true])/\XI 174 3 Xh w' w.heap.size v (Yw x y)/\Below w.heap.size w w':=by
 have hok:=JU hx hy;have hrf:=boxHs_rf hx hy;have H0:Xr (w.alloc (.cells #[.slice none 0 0] 26)) w.heap.size 26 [.slice none 0 0]:=Xr.new w [.slice none 0 0] 26;have b0:Below w.heap.size w (w.alloc (.cells #[.slice none 0 0] 26)):=Xc bR _;have z0:w.heap.size<(w.alloc (.cells #[.slice none 0 0] 26)).heap.size:=by simp
 generalize hW:w.alloc (.cells #[.slice none 0 0] 26)=W at *;have hW':=Lib.hid hW;clear hW;have SB:Sl 3 Xh (W.alloc (.cells #[.int .i64 1,.int .i64 0,.int .i64 x,.int .i64 0,.int .i64 1,.int .i64 y,.int .i64 (-1),.int .i64 0,.int .i64 x,.int .i64 0,.int .i64 (-1),.int .i64 y] 174)) (some ⟨W.heap.size,0,none⟩) (YK x y):=K9 Xu W (YK x y) #[.int .i64 1,.int .i64 0,.int .i64 x,.int .i64 0,.int .i64 1,.int .i64 y,.int .i64 (-1),.int .i64 0,.int .i64 x,.int .i64 0,.int .i64 (-1),.int .i64 y] rfl rfl;have b1:=Xc b0 (.cells #[.int .i64 1,.int .i64 0,.int .i64 x,.int .i64 0,.int .i64 1,.int .i64 y,.int .i64 (-1),.int .i64 0,.int .i64 x,.int .i64 0,.int .i64 (-1),.int .i64 y] 174);have R1:=H0.alloc (.cells #[.int .i64 1,.int .i64 0,.int .i64 x,.int .i64 0,.int .i64 1,.int .i64 y,.int .i64 (-1),.int .i64 0,.int .i64 x,.int .i64 0,.int .i64 (-1),.int .i64 y] 174);have k1:=iRegionFrom_c (some ⟨W.heap.size,0,none⟩) (YK x y) 4 _ (by simp [YK]) (λ h hh=>hIn (KE (hok h hh))) SB (λ e=>by cases e);rw [hrf.1,hrf.2] at k1;clear hok hrf;go_enter Tryz.func134,Tryz.ntmps134
 go_upto_region 1 with fail
 rw [hW'.out];clear hW';have ab:=λ W=>areBounds_c (-x) x W ⟨by omega,by omega⟩;have ab2:=λ W=>areBounds_c (-y) y W ⟨by omega,by omega⟩;rw [show (decide (-1000<=-x/\-x<x/\x<=1000))=true from decide_eq_true ⟨by omega,by omega,by omega⟩] at ab;rw [show (decide (-1000<=-y/\-y<y/\y<=1000))=true from decide_eq_true ⟨by omega,by omega,by omega⟩] at ab2;go_wp2_with (fail)
 refine (ab _).mono ?_;rintro e w' ⟨rfl,rfl⟩;go_wp2_with (fail)
 refine (ab2 _).mono ?_;rintro e w' ⟨rfl,rfl⟩;go_wp2_with (fail)
 refine k1.mono ?_;rintro e w3 ⟨v,rfl,N3,hb3⟩;obtain ⟨Av,cv,rfl,o3⟩:=N3;have N3:XI 174 3 Xh w3 (W.alloc (.cells #[.int .i64 1,.int .i64 0,.int .i64 x,.int .i64 0,.int .i64 1,.int .i64 y,.int .i64 (-1),.int .i64 0,.int .i64 x,.int .i64 0,.int .i64 (-1),.int .i64 y] 174)).heap.size (.slice Av (Yw x y).length cv) (Yw x y):=⟨Av,cv,rfl,o3⟩;have R3:=(R1.below hb3).has;have b3:=Xf b1 hb3;have z3:w.heap.size<w3.heap.size:=R3.1;clear o3 k1 R1 b1 hb3 H0 SB;obtain ⟨cR3_0,fR3_0⟩:=R3.2 0 _ rfl;go_wp2
 refine bodyPost_ret (v:=.tuple #[.agg #[.slice Av (Yw x y).length cv],.bool true]) (by simp [results,Tryz.results134,go_sem, *]) rfl ⟨.slice Av (Yw x y).length cv,rfl, ?_,Yt b3 (by simp only;omega) _⟩;exact (N3.lowC (q:=⟨w.heap.size,0,none⟩) (by simp only [World.size_alloc];omega) [.slice Av (Yw x y).length cv]).mono (base':=w.heap.size) (by simp only [World.size_alloc];omega)
theorem iDrift_c (x:XH) (a:Y7) (dx dy:Int) (w:World) (hn:ZF x<=1048576) (hin:RoomIn x) (hs:Ke w x a) (hnl:JC a) :
 Calls Tryz.prog 47 #[Ye x a,.int .i64 dx,.int .i64 dy] w λ e w'=>∃ b,e=.returned (.tuple #[Ye (Xm x dx dy) b,.bool (Ya x dx dy)])/\Yb w' w.heap.size (Xm x dx dy) b/\Below w.heap.size w w':=by
 have c1:=λ W h=>iRoomOk_c x a W hn hin h hnl;have cx:=λ W=>Je dx W;have cy:=λ W=>Je dy W;obtain ⟨W,hW⟩:∃ W,W=(w.alloc (.cells #[.slice a.map.A (List.length x.map) a.map.c,.int .i64 x.div,.int .i64 x.bx,.int .i64 x.by_,.int .i64 x.low,.int .i64 x.high,.slice a.noise.A (List.length x.noise) a.noise.c,.slice a.limits.A (List.length x.limits) a.limits.c] 28)).alloc (.cells #[.slice none 0 0,.int .i64 0,.int .i64 0,.int .i64 0,.int .i64 0,.int .i64 0,.slice none 0 0,.slice none 0 0] 28):=⟨_,rfl⟩;have HR:Xr W (w.heap.size+1) 28 [.slice none 0 0,.int .i64 0,.int .i64 0,.int .i64 0,.int .i64 0,.int .i64 0,.slice none 0 0,.slice none 0 0]:=by
  have h1:=Xr.new (w.alloc (.cells #[.slice a.map.A (List.length x.map) a.map.c,.int .i64 x.div,.int .i64 x.bx,.int .i64 x.by_,.int .i64 x.low,.int .i64 x.high,.slice a.noise.A (List.length x.noise) a.noise.c,.slice a.limits.A (List.length x.limits) a.limits.c] 28)) [.slice none 0 0,.int .i64 0,.int .i64 0,.int .i64 0,.int .i64 0,.int .i64 0,.slice none 0 0,.slice none 0 0] 28;simp only [World.size_alloc] at h1;rw [hW];exact h1
 have HB:XR W w.heap.size [.slice a.map.A (List.length x.map) a.map.c,.int .i64 x.div,.int .i64 x.bx,.int .i64 x.by_,.int .i64 x.low,.int .i64 x.high,.slice a.noise.A (List.length x.noise) a.noise.c,.slice a.limits.A (List.length x.limits) a.limits.c]:=by
  rw [hW];exact YX
 have b0:Below w.heap.size w W:=by
  rw [hW];exact Xi
 have XL:W.heap.size=w.heap.size+1+1:=by rw [hW];simp
 have lB:w.heap.size<W.heap.size:=by omega
 have hW':=Lib.hid hW;have hs0:=hs.below b0;have zW:w.heap.size+1<W.heap.size:=by omega
 clear hW hs XL;cases e1:ZH dx 0 100
 ·rw [e1] at cx;have hF:=Lib.hid (drift_no (x:=x) (dx:=dx) (dy:=dy) (pre_no (.inl e1)));go_enter Tryz.func47,Tryz.ntmps47
  go_upto_region 1 with fail
  rw [<- hW'.out];clear hW';obtain ⟨cHB_0,fHB_0⟩:=HB.2 0 _ rfl;obtain ⟨cHB_1,fHB_1⟩:=HB.2 1 _ rfl;obtain ⟨cHB_2,fHB_2⟩:=HB.2 2 _ rfl;obtain ⟨cHB_3,fHB_3⟩:=HB.2 3 _ rfl;obtain ⟨cHB_4,fHB_4⟩:=HB.2 4 _ rfl;obtain ⟨cHB_5,fHB_5⟩:=HB.2 5 _ rfl;obtain ⟨cHB_6,fHB_6⟩:=HB.2 6 _ rfl;obtain ⟨cHB_7,fHB_7⟩:=HB.2 7 _ rfl;go_wp2_with (fail)
  refine (cx _).mono ?_;rintro e w' ⟨rfl,rfl⟩;have HZ:=(HR).has;obtain ⟨cHZ_0,fHZ_0⟩:=HZ.2 0 _ rfl;obtain ⟨cHZ_1,fHZ_1⟩:=HZ.2 1 _ rfl;obtain ⟨cHZ_2,fHZ_2⟩:=HZ.2 2 _ rfl;obtain ⟨cHZ_3,fHZ_3⟩:=HZ.2 3 _ rfl;obtain ⟨cHZ_4,fHZ_4⟩:=HZ.2 4 _ rfl;obtain ⟨cHZ_5,fHZ_5⟩:=HZ.2 5 _ rfl;obtain ⟨cHZ_6,fHZ_6⟩:=HZ.2 6 _ rfl;obtain ⟨cHZ_7,fHZ_7⟩:=HZ.2 7 _ rfl;have lZ:=HZ.1;have BZ:=b0;go_wp2
  refine bodyPost_ret (v:=.tuple #[.agg #[.slice none 0 0,.int .i64 0,.int .i64 0,.int .i64 0,.int .i64 0,.int .i64 0,.slice none 0 0,.slice none 0 0],.bool false]) (by simp [results,Tryz.results47,go_sem,cHZ_0,cHZ_1,cHZ_2,cHZ_3,cHZ_4,cHZ_5,cHZ_6,cHZ_7]) rfl ⟨⟨⟨none,0⟩,⟨none,0⟩,⟨none,0⟩⟩,by rw [hF.out.1,hF.out.2];rfl, ?_, ?_⟩
  ·rw [hF.out.2];exact ⟨⟨none,0,rfl,World.ownsRow_nil _ _ _ _⟩,⟨⟨none,0,rfl,World.ownsRow_nil _ _ _ _⟩⟩,⟨⟨none,0,rfl,World.ownsRow_nil _ _ _ _⟩⟩,by simp [Z4]⟩
  ·exact Yf BZ (by omega) (o:=0) [_,_,_,_,_,_,_,_]
 rw [e1] at cx;cases e2:ZH dy 0 100
 ·rw [e2] at cy;have hF:=Lib.hid (drift_no (x:=x) (dx:=dx) (dy:=dy) (pre_no (.inr (.inl e2))));go_enter Tryz.func47,Tryz.ntmps47
  go_upto_region 1 with fail
  rw [<- hW'.out];clear hW';obtain ⟨cHB_0,fHB_0⟩:=HB.2 0 _ rfl;obtain ⟨cHB_1,fHB_1⟩:=HB.2 1 _ rfl;obtain ⟨cHB_2,fHB_2⟩:=HB.2 2 _ rfl;obtain ⟨cHB_3,fHB_3⟩:=HB.2 3 _ rfl;obtain ⟨cHB_4,fHB_4⟩:=HB.2 4 _ rfl;obtain ⟨cHB_5,fHB_5⟩:=HB.2 5 _ rfl;obtain ⟨cHB_6,fHB_6⟩:=HB.2 6 _ rfl;obtain ⟨cHB_7,fHB_7⟩:=HB.2 7 _ rfl;go_wp2_with (fail)
  refine (cx _).mono ?_;rintro e w' ⟨rfl,rfl⟩;go_wp2_with (fail)
  refine (cy _).mono ?_;rintro e w' ⟨rfl,rfl⟩;have HZ:=(HR).has;obtain ⟨cHZ_0,fHZ_0⟩:=HZ.2 0 _ rfl;obtain ⟨cHZ_1,fHZ_1⟩:=HZ.2 1 _ rfl;obtain ⟨cHZ_2,fHZ_2⟩:=HZ.2 2 _ rfl;obtain ⟨cHZ_3,fHZ_3⟩:=HZ.2 3 _ rfl;obtain ⟨cHZ_4,fHZ_4⟩:=HZ.2 4 _ rfl;obtain ⟨cHZ_5,fHZ_5⟩:=HZ.2 5 _ rfl;obtain ⟨cHZ_6,fHZ_6⟩:=HZ.2 6 _ rfl;obtain ⟨cHZ_7,fHZ_7⟩:=HZ.2 7 _ rfl;have lZ:=HZ.1;have BZ:=b0;go_wp2
  refine bodyPost_ret (v:=.tuple #[.agg #[.slice none 0 0,.int .i64 0,.int .i64 0,.int .i64 0,.int .i64 0,.int .i64 0,.slice none 0 0,.slice none 0 0],.bool false]) (by simp [results,Tryz.results47,go_sem,cHZ_0,cHZ_1,cHZ_2,cHZ_3,cHZ_4,cHZ_5,cHZ_6,cHZ_7]) rfl ⟨⟨⟨none,0⟩,⟨none,0⟩,⟨none,0⟩⟩,by rw [hF.out.1,hF.out.2];rfl, ?_, ?_⟩
  ·rw [hF.out.2];exact ⟨⟨none,0,rfl,World.ownsRow_nil _ _ _ _⟩,⟨⟨none,0,rfl,World.ownsRow_nil _ _ _ _⟩⟩,⟨⟨none,0,rfl,World.ownsRow_nil _ _ _ _⟩⟩,by simp [Z4]⟩
  ·exact Yf BZ (by omega) (o:=0) [_,_,_,_,_,_,_,_]
 rw [e2] at cy;cases hz:(decide (dx=0) == decide (dy=0))
 ·by_cases hx:dx=0
  ·by_cases hy:dy=0
   ·rw [decide_eq_true hx,decide_eq_true hy] at hz;cases hz
   ·have hxe:(dx == 0)=true:=by rw [beq_iff_eq];exact hx
    have hye:(dy == 0)=false:=by rw [beq_eq_false_iff_ne];exact hy
    clear hx hy;have hF:=Lib.hid (drift_no (x:=x) (dx:=dx) (dy:=dy) (pre_no (.inr (.inr (.inl hz)))));go_enter Tryz.func47,Tryz.ntmps47
    go_upto_region 1 with fail
    rw [<- hW'.out];clear hW';obtain ⟨cHB_0,fHB_0⟩:=HB.2 0 _ rfl;obtain ⟨cHB_1,fHB_1⟩:=HB.2 1 _ rfl;obtain ⟨cHB_2,fHB_2⟩:=HB.2 2 _ rfl;obtain ⟨cHB_3,fHB_3⟩:=HB.2 3 _ rfl;obtain ⟨cHB_4,fHB_4⟩:=HB.2 4 _ rfl;obtain ⟨cHB_5,fHB_5⟩:=HB.2 5 _ rfl;obtain ⟨cHB_6,fHB_6⟩:=HB.2 6 _ rfl;obtain ⟨cHB_7,fHB_7⟩:=HB.2 7 _ rfl;go_wp2_with (fail)
    refine (cx _).mono ?_;rintro e w' ⟨rfl,rfl⟩;go_wp2_with (fail)
    refine (cy _).mono ?_;rintro e w' ⟨rfl,rfl⟩;have HZ:=(HR).has;obtain ⟨cHZ_0,fHZ_0⟩:=HZ.2 0 _ rfl;obtain ⟨cHZ_1,fHZ_1⟩:=HZ.2 1 _ rfl;obtain ⟨cHZ_2,fHZ_2⟩:=HZ.2 2 _ rfl;obtain ⟨cHZ_3,fHZ_3⟩:=HZ.2 3 _ rfl;obtain ⟨cHZ_4,fHZ_4⟩:=HZ.2 4 _ rfl;obtain ⟨cHZ_5,fHZ_5⟩:=HZ.2 5 _ rfl;obtain ⟨cHZ_6,fHZ_6⟩:=HZ.2 6 _ rfl;obtain ⟨cHZ_7,fHZ_7⟩:=HZ.2 7 _ rfl;have lZ:=HZ.1;have BZ:=b0;go_wp2
    refine bodyPost_ret (v:=.tuple #[.agg #[.slice none 0 0,.int .i64 0,.int .i64 0,.int .i64 0,.int .i64 0,.int .i64 0,.slice none 0 0,.slice none 0 0],.bool false]) (by simp [results,Tryz.results47,go_sem,cHZ_0,cHZ_1,cHZ_2,cHZ_3,cHZ_4,cHZ_5,cHZ_6,cHZ_7]) rfl ⟨⟨⟨none,0⟩,⟨none,0⟩,⟨none,0⟩⟩,by rw [hF.out.1,hF.out.2];rfl, ?_, ?_⟩
    ·rw [hF.out.2];exact ⟨⟨none,0,rfl,World.ownsRow_nil _ _ _ _⟩,⟨⟨none,0,rfl,World.ownsRow_nil _ _ _ _⟩⟩,⟨⟨none,0,rfl,World.ownsRow_nil _ _ _ _⟩⟩,by simp [Z4]⟩
    ·exact Yf BZ (by omega) (o:=0) [_,_,_,_,_,_,_,_]
  ·by_cases hy:dy=0
   ·have hxe:(dx == 0)=false:=by rw [beq_eq_false_iff_ne];exact hx
    have hye:(dy == 0)=true:=by rw [beq_iff_eq];exact hy
    clear hx hy;have hF:=Lib.hid (drift_no (x:=x) (dx:=dx) (dy:=dy) (pre_no (.inr (.inr (.inl hz)))));go_enter Tryz.func47,Tryz.ntmps47
    go_upto_region 1 with fail
    rw [<- hW'.out];clear hW';obtain ⟨cHB_0,fHB_0⟩:=HB.2 0 _ rfl;obtain ⟨cHB_1,fHB_1⟩:=HB.2 1 _ rfl;obtain ⟨cHB_2,fHB_2⟩:=HB.2 2 _ rfl;obtain ⟨cHB_3,fHB_3⟩:=HB.2 3 _ rfl;obtain ⟨cHB_4,fHB_4⟩:=HB.2 4 _ rfl;obtain ⟨cHB_5,fHB_5⟩:=HB.2 5 _ rfl;obtain ⟨cHB_6,fHB_6⟩:=HB.2 6 _ rfl;obtain ⟨cHB_7,fHB_7⟩:=HB.2 7 _ rfl;go_wp2_with (fail)
    refine (cx _).mono ?_;rintro e w' ⟨rfl,rfl⟩;go_wp2_with (fail)
    refine (cy _).mono ?_;rintro e w' ⟨rfl,rfl⟩;have HZ:=(HR).has;obtain ⟨cHZ_0,fHZ_0⟩:=HZ.2 0 _ rfl;obtain ⟨cHZ_1,fHZ_1⟩:=HZ.2 1 _ rfl;obtain ⟨cHZ_2,fHZ_2⟩:=HZ.2 2 _ rfl;obtain ⟨cHZ_3,fHZ_3⟩:=HZ.2 3 _ rfl;obtain ⟨cHZ_4,fHZ_4⟩:=HZ.2 4 _ rfl;obtain ⟨cHZ_5,fHZ_5⟩:=HZ.2 5 _ rfl;obtain ⟨cHZ_6,fHZ_6⟩:=HZ.2 6 _ rfl;obtain ⟨cHZ_7,fHZ_7⟩:=HZ.2 7 _ rfl;have lZ:=HZ.1;have BZ:=b0;go_wp2
    refine bodyPost_ret (v:=.tuple #[.agg #[.slice none 0 0,.int .i64 0,.int .i64 0,.int .i64 0,.int .i64 0,.int .i64 0,.slice none 0 0,.slice none 0 0],.bool false]) (by simp [results,Tryz.results47,go_sem,cHZ_0,cHZ_1,cHZ_2,cHZ_3,cHZ_4,cHZ_5,cHZ_6,cHZ_7]) rfl ⟨⟨⟨none,0⟩,⟨none,0⟩,⟨none,0⟩⟩,by rw [hF.out.1,hF.out.2];rfl, ?_, ?_⟩
    ·rw [hF.out.2];exact ⟨⟨none,0,rfl,World.ownsRow_nil _ _ _ _⟩,⟨⟨none,0,rfl,World.ownsRow_nil _ _ _ _⟩⟩,⟨⟨none,0,rfl,World.ownsRow_nil _ _ _ _⟩⟩,by simp [Z4]⟩
    ·exact Yf BZ (by omega) (o:=0) [_,_,_,_,_,_,_,_]
   ·rw [decide_eq_false hx,decide_eq_false hy] at hz;cases hz
 by_cases hx:dx=0
 ·have hxe:(dx == 0)=true:=by rw [beq_iff_eq];exact hx
  have hye:(dy == 0)=true:=by
   rw [beq_iff_eq];apply Classical.byContradiction;intro h;rw [decide_eq_true hx,decide_eq_false h] at hz;cases hz
  have hx0:=Lib.hid hx;clear hx;cases e3:XT x
  ·rw [e3] at c1;have hF:=Lib.hid (drift_no (x:=x) (dx:=dx) (dy:=dy) (pre_no (.inr (.inr (.inr e3)))));go_enter Tryz.func47,Tryz.ntmps47
   go_upto_region 1 with fail
   rw [<- hW'.out];clear hW';obtain ⟨cHB_0,fHB_0⟩:=HB.2 0 _ rfl;obtain ⟨cHB_1,fHB_1⟩:=HB.2 1 _ rfl;obtain ⟨cHB_2,fHB_2⟩:=HB.2 2 _ rfl;obtain ⟨cHB_3,fHB_3⟩:=HB.2 3 _ rfl;obtain ⟨cHB_4,fHB_4⟩:=HB.2 4 _ rfl;obtain ⟨cHB_5,fHB_5⟩:=HB.2 5 _ rfl;obtain ⟨cHB_6,fHB_6⟩:=HB.2 6 _ rfl;obtain ⟨cHB_7,fHB_7⟩:=HB.2 7 _ rfl;go_wp2_with (fail)
   refine (cx _).mono ?_;rintro e w' ⟨rfl,rfl⟩;go_wp2_with (fail)
   refine (cy _).mono ?_;rintro e w' ⟨rfl,rfl⟩;go_wp2_with (fail)
   refine (c1 _ hs0).mono ?_;rintro e w1 ⟨rfl,hb1⟩;have HZ:=(HR.below hb1).has;obtain ⟨cHZ_0,fHZ_0⟩:=HZ.2 0 _ rfl;obtain ⟨cHZ_1,fHZ_1⟩:=HZ.2 1 _ rfl;obtain ⟨cHZ_2,fHZ_2⟩:=HZ.2 2 _ rfl;obtain ⟨cHZ_3,fHZ_3⟩:=HZ.2 3 _ rfl;obtain ⟨cHZ_4,fHZ_4⟩:=HZ.2 4 _ rfl;obtain ⟨cHZ_5,fHZ_5⟩:=HZ.2 5 _ rfl;obtain ⟨cHZ_6,fHZ_6⟩:=HZ.2 6 _ rfl;obtain ⟨cHZ_7,fHZ_7⟩:=HZ.2 7 _ rfl;have lZ:=HZ.1;have BZ:=Xf b0 hb1;go_wp2
   refine bodyPost_ret (v:=.tuple #[.agg #[.slice none 0 0,.int .i64 0,.int .i64 0,.int .i64 0,.int .i64 0,.int .i64 0,.slice none 0 0,.slice none 0 0],.bool false]) (by simp [results,Tryz.results47,go_sem,cHZ_0,cHZ_1,cHZ_2,cHZ_3,cHZ_4,cHZ_5,cHZ_6,cHZ_7]) rfl ⟨⟨⟨none,0⟩,⟨none,0⟩,⟨none,0⟩⟩,by rw [hF.out.1,hF.out.2];rfl, ?_, ?_⟩
   ·rw [hF.out.2];exact ⟨⟨none,0,rfl,World.ownsRow_nil _ _ _ _⟩,⟨⟨none,0,rfl,World.ownsRow_nil _ _ _ _⟩⟩,⟨⟨none,0,rfl,World.ownsRow_nil _ _ _ _⟩⟩,by simp [Z4]⟩
   ·exact Yf BZ (by omega) (o:=0) [_,_,_,_,_,_,_,_]
  rw [e3] at c1;have hx:=hx0.out;have hpre:Ki x dx dy=true:=by unfold Ki;rw [e1,e2,e3,hz];rfl
  have hmn:=Lib.hid (show a.map.A=none->a.map.c=0 from hs0.map.some_ (by rw [roomOk_map e3];decide));have c2:=λ W h=>iCopyRoom_c x a W hn h;have hli:=room_limits e3;have hF:=Lib.hid (drift_zero hpre hx);clear hx;go_enter Tryz.func47,Tryz.ntmps47
  go_upto_region 1 with fail
  rw [<- hW'.out];clear hW';obtain ⟨cHB_0,fHB_0⟩:=HB.2 0 _ rfl;obtain ⟨cHB_1,fHB_1⟩:=HB.2 1 _ rfl;obtain ⟨cHB_2,fHB_2⟩:=HB.2 2 _ rfl;obtain ⟨cHB_3,fHB_3⟩:=HB.2 3 _ rfl;obtain ⟨cHB_4,fHB_4⟩:=HB.2 4 _ rfl;obtain ⟨cHB_5,fHB_5⟩:=HB.2 5 _ rfl;obtain ⟨cHB_6,fHB_6⟩:=HB.2 6 _ rfl;obtain ⟨cHB_7,fHB_7⟩:=HB.2 7 _ rfl;go_wp2_with (fail)
  refine (cx _).mono ?_;rintro e w' ⟨rfl,rfl⟩;go_wp2_with (fail)
  refine (cy _).mono ?_;rintro e w' ⟨rfl,rfl⟩;go_wp2_with (fail)
  refine (c1 _ hs0).mono ?_;rintro e w1 ⟨rfl,hb1⟩;have HB1:=HB.below hb1;have HR1:=HR.below hb1;have b1:=Xf b0 hb1;have hs1:=hs0.below hb1;have z1:w.heap.size+1<w1.heap.size:=Nat.lt_of_lt_of_le zW hb1.size;clear cHB_0 cHB_1 cHB_2 cHB_3 cHB_4 cHB_5 cHB_6 cHB_7 fHB_0 fHB_1 fHB_2 fHB_3 fHB_4 fHB_5 fHB_6 fHB_7 HB HR b0 hs0 hb1 lB zW c1 cx cy;obtain ⟨cHB1_0,fHB1_0⟩:=HB1.2 0 _ rfl;obtain ⟨cHB1_1,fHB1_1⟩:=HB1.2 1 _ rfl;obtain ⟨cHB1_2,fHB1_2⟩:=HB1.2 2 _ rfl;obtain ⟨cHB1_3,fHB1_3⟩:=HB1.2 3 _ rfl;obtain ⟨cHB1_4,fHB1_4⟩:=HB1.2 4 _ rfl;obtain ⟨cHB1_5,fHB1_5⟩:=HB1.2 5 _ rfl;obtain ⟨cHB1_6,fHB1_6⟩:=HB1.2 6 _ rfl;obtain ⟨cHB1_7,fHB1_7⟩:=HB1.2 7 _ rfl;have lB:=HB1.1;go_wp2_with (fail)
  refine (c2 _ hs1).mono ?_;rintro e w2 ⟨b,rfl,N2,hb2⟩;have TT:Xr (w2.alloc (.cells #[.slice b.map.A (List.length x.map) b.map.c,.int .i64 x.div,.int .i64 x.bx,.int .i64 x.by_,.int .i64 x.low,.int .i64 x.high,.slice b.noise.A (List.length x.noise) b.noise.c,.slice b.limits.A (List.length x.limits) b.limits.c] 28)) w2.heap.size 28 [.slice b.map.A (List.length x.map) b.map.c,.int .i64 x.div,.int .i64 x.bx,.int .i64 x.by_,.int .i64 x.low,.int .i64 x.high,.slice b.noise.A (List.length x.noise) b.noise.c,.slice b.limits.A (List.length x.limits) b.limits.c]:=Xr.new w2 [.slice b.map.A (List.length x.map) b.map.c,.int .i64 x.div,.int .i64 x.bx,.int .i64 x.by_,.int .i64 x.low,.int .i64 x.high,.slice b.noise.A (List.length x.noise) b.noise.c,.slice b.limits.A (List.length x.limits) b.limits.c] 28;have HR3:=(HR1.below hb2).alloc (.cells #[.slice b.map.A (List.length x.map) b.map.c,.int .i64 x.div,.int .i64 x.bx,.int .i64 x.by_,.int .i64 x.low,.int .i64 x.high,.slice b.noise.A (List.length x.noise) b.noise.c,.slice b.limits.A (List.length x.limits) b.limits.c] 28);have HB3:=(HB1.below hb2).alloc (.cells #[.slice b.map.A (List.length x.map) b.map.c,.int .i64 x.div,.int .i64 x.bx,.int .i64 x.by_,.int .i64 x.low,.int .i64 x.high,.slice b.noise.A (List.length x.noise) b.noise.c,.slice b.limits.A (List.length x.limits) b.limits.c] 28);have hs3:=(hs1.below hb2).below (Xc bR (.cells #[.slice b.map.A (List.length x.map) b.map.c,.int .i64 x.div,.int .i64 x.bx,.int .i64 x.by_,.int .i64 x.low,.int .i64 x.high,.slice b.noise.A (List.length x.noise) b.noise.c,.slice b.limits.A (List.length x.limits) b.limits.c] 28));have b3:=Xc (Xf b1 hb2) (.cells #[.slice b.map.A (List.length x.map) b.map.c,.int .i64 x.div,.int .i64 x.bx,.int .i64 x.by_,.int .i64 x.low,.int .i64 x.high,.slice b.noise.A (List.length x.noise) b.noise.c,.slice b.limits.A (List.length x.limits) b.limits.c] 28);have N3:=N2.below (Xc bR (.cells #[.slice b.map.A (List.length x.map) b.map.c,.int .i64 x.div,.int .i64 x.bx,.int .i64 x.by_,.int .i64 x.low,.int .i64 x.high,.slice b.noise.A (List.length x.noise) b.noise.c,.slice b.limits.A (List.length x.limits) b.limits.c] 28)) Xt;have BK:=N2.blk;have z2:=hb2.size;have z3:w2.heap.size<(w2.alloc (.cells #[.slice b.map.A (List.length x.map) b.map.c,.int .i64 x.div,.int .i64 x.bx,.int .i64 x.by_,.int .i64 x.low,.int .i64 x.high,.slice b.noise.A (List.length x.noise) b.noise.c,.slice b.limits.A (List.length x.limits) b.limits.c] 28)).heap.size:=by simp
  clear cHB1_0 cHB1_1 cHB1_2 cHB1_3 cHB1_4 cHB1_5 cHB1_6 cHB1_7 fHB1_0 fHB1_1 fHB1_2 fHB1_3 fHB1_4 fHB1_5 fHB1_6 fHB1_7 lB HB1 HR1 hs1 b1 N2 hb2 c2;go_upto_region 4 with fail
  generalize w2.alloc (.cells #[.slice b.map.A (List.length x.map) b.map.c,.int .i64 x.div,.int .i64 x.bx,.int .i64 x.by_,.int .i64 x.low,.int .i64 x.high,.slice b.noise.A (List.length x.noise) b.noise.c,.slice b.limits.A (List.length x.limits) b.limits.c] 28)=w3 at *;have HT:=TT.has;obtain ⟨cHT_0,fHT_0⟩:=HT.2 0 _ rfl;obtain ⟨cHT_1,fHT_1⟩:=HT.2 1 _ rfl;obtain ⟨cHT_2,fHT_2⟩:=HT.2 2 _ rfl;obtain ⟨cHT_3,fHT_3⟩:=HT.2 3 _ rfl;obtain ⟨cHT_4,fHT_4⟩:=HT.2 4 _ rfl;obtain ⟨cHT_5,fHT_5⟩:=HT.2 5 _ rfl;obtain ⟨cHT_6,fHT_6⟩:=HT.2 6 _ rfl;obtain ⟨cHT_7,fHT_7⟩:=HT.2 7 _ rfl;have lT:=HT.1;have HZ:=(HR3).has;obtain ⟨cHZ_0,fHZ_0⟩:=HZ.2 0 _ rfl;obtain ⟨cHZ_1,fHZ_1⟩:=HZ.2 1 _ rfl;obtain ⟨cHZ_2,fHZ_2⟩:=HZ.2 2 _ rfl;obtain ⟨cHZ_3,fHZ_3⟩:=HZ.2 3 _ rfl;obtain ⟨cHZ_4,fHZ_4⟩:=HZ.2 4 _ rfl;obtain ⟨cHZ_5,fHZ_5⟩:=HZ.2 5 _ rfl;obtain ⟨cHZ_6,fHZ_6⟩:=HZ.2 6 _ rfl;obtain ⟨cHZ_7,fHZ_7⟩:=HZ.2 7 _ rfl;have lZ:=HZ.1;go_wp2
  refine bodyPost_ret (v:=.tuple #[.agg #[.slice b.map.A (List.length x.map) b.map.c,.int .i64 x.div,.int .i64 x.bx,.int .i64 x.by_,.int .i64 x.low,.int .i64 x.high,.slice b.noise.A (List.length x.noise) b.noise.c,.slice b.limits.A (List.length x.limits) b.limits.c],.bool true]) (by simp [results,Tryz.results47,go_sem, *]) rfl ⟨b,by rw [hF.out.1,hF.out.2], ?_, ?_⟩
  ·rw [hF.out.2];exact ⟨(N3.map.lowC (q:=⟨w.heap.size+1,0,none⟩) (by simp only;omega) [_,_,_,_,_,_,_,_]).mono (by omega),⟨(N3.noise.halves.lowC (q:=⟨w.heap.size+1,0,none⟩) (by simp only;omega) [_,_,_,_,_,_,_,_]).mono (by omega)⟩,⟨(N3.limits.halves.lowC (q:=⟨w.heap.size+1,0,none⟩) (by simp only;omega) [_,_,_,_,_,_,_,_]).mono (by omega)⟩,N3.apart⟩
  ·exact Yf b3 (by omega) (o:=0) [_,_,_,_,_,_,_,_]
 have hxe:(dx == 0)=false:=by rw [beq_eq_false_iff_ne];exact hx
 have hyn:dy≠0:=by intro h;rw [decide_eq_false hx,decide_eq_true h] at hz;cases hz
 have hye:(dy == 0)=false:=by rw [beq_eq_false_iff_ne];exact hyn
 have hx0:=Lib.hid hx;have hy0:=Lib.hid hyn;clear hx hyn;cases e3:XT x
 ·rw [e3] at c1;have hF:=Lib.hid (drift_no (x:=x) (dx:=dx) (dy:=dy) (pre_no (.inr (.inr (.inr e3)))));go_enter Tryz.func47,Tryz.ntmps47
  go_upto_region 1 with fail
  rw [<- hW'.out];clear hW';obtain ⟨cHB_0,fHB_0⟩:=HB.2 0 _ rfl;obtain ⟨cHB_1,fHB_1⟩:=HB.2 1 _ rfl;obtain ⟨cHB_2,fHB_2⟩:=HB.2 2 _ rfl;obtain ⟨cHB_3,fHB_3⟩:=HB.2 3 _ rfl;obtain ⟨cHB_4,fHB_4⟩:=HB.2 4 _ rfl;obtain ⟨cHB_5,fHB_5⟩:=HB.2 5 _ rfl;obtain ⟨cHB_6,fHB_6⟩:=HB.2 6 _ rfl;obtain ⟨cHB_7,fHB_7⟩:=HB.2 7 _ rfl;go_wp2_with (fail)
  refine (cx _).mono ?_;rintro e w' ⟨rfl,rfl⟩;go_wp2_with (fail)
  refine (cy _).mono ?_;rintro e w' ⟨rfl,rfl⟩;go_wp2_with (fail)
  refine (c1 _ hs0).mono ?_;rintro e w1 ⟨rfl,hb1⟩;have HZ:=(HR.below hb1).has;obtain ⟨cHZ_0,fHZ_0⟩:=HZ.2 0 _ rfl;obtain ⟨cHZ_1,fHZ_1⟩:=HZ.2 1 _ rfl;obtain ⟨cHZ_2,fHZ_2⟩:=HZ.2 2 _ rfl;obtain ⟨cHZ_3,fHZ_3⟩:=HZ.2 3 _ rfl;obtain ⟨cHZ_4,fHZ_4⟩:=HZ.2 4 _ rfl;obtain ⟨cHZ_5,fHZ_5⟩:=HZ.2 5 _ rfl;obtain ⟨cHZ_6,fHZ_6⟩:=HZ.2 6 _ rfl;obtain ⟨cHZ_7,fHZ_7⟩:=HZ.2 7 _ rfl;have lZ:=HZ.1;have BZ:=Xf b0 hb1;go_wp2
  refine bodyPost_ret (v:=.tuple #[.agg #[.slice none 0 0,.int .i64 0,.int .i64 0,.int .i64 0,.int .i64 0,.int .i64 0,.slice none 0 0,.slice none 0 0],.bool false]) (by simp [results,Tryz.results47,go_sem,cHZ_0,cHZ_1,cHZ_2,cHZ_3,cHZ_4,cHZ_5,cHZ_6,cHZ_7]) rfl ⟨⟨⟨none,0⟩,⟨none,0⟩,⟨none,0⟩⟩,by rw [hF.out.1,hF.out.2];rfl, ?_, ?_⟩
  ·rw [hF.out.2];exact ⟨⟨none,0,rfl,World.ownsRow_nil _ _ _ _⟩,⟨⟨none,0,rfl,World.ownsRow_nil _ _ _ _⟩⟩,⟨⟨none,0,rfl,World.ownsRow_nil _ _ _ _⟩⟩,by simp [Z4]⟩
  ·exact Yf BZ (by omega) (o:=0) [_,_,_,_,_,_,_,_]
 rw [e3] at c1;have hx:=hx0.out;have hyn:=hy0.out;have hpre:Ki x dx dy=true:=by unfold Ki;rw [e1,e2,e3,hz];rfl
 have hmn:=Lib.hid (show a.map.A=none->a.map.c=0 from hs0.map.some_ (by rw [roomOk_map e3];decide));have c2:=λ W h=>iCopyRoom_c x a W hn h;have hli:=room_limits e3;obtain ⟨x1,x2⟩:=XY.1 e1;obtain ⟨y1,y2⟩:=XY.1 e2;have hxr:1<=dx/\dx<=100:=⟨by omega,by omega⟩;have hyr:1<=dy/\dy<=100:=⟨by omega,by omega⟩;have hbn:=Lib.hid (λ h=>drift_bad (x:=x) (dx:=dx) (dy:=dy) hx h);have hyes:=Lib.hid (λ h h2=>drift_yes hpre hx h h2);have c3:=λ W=>iBox_c dx dy W hxr hyr;have c4:=λ W B h1 h2=>iErode_c x.limits (Yw dx dy) a.limits B W hli (boxR_ok hxr hyr) (boxR_ne hxr hyr) h1 h2;clear hpre hmn hx;go_enter Tryz.func47,Tryz.ntmps47
 go_upto_region 1 with fail
 rw [<- hW'.out];clear hW';obtain ⟨cHB_0,fHB_0⟩:=HB.2 0 _ rfl;obtain ⟨cHB_1,fHB_1⟩:=HB.2 1 _ rfl;obtain ⟨cHB_2,fHB_2⟩:=HB.2 2 _ rfl;obtain ⟨cHB_3,fHB_3⟩:=HB.2 3 _ rfl;obtain ⟨cHB_4,fHB_4⟩:=HB.2 4 _ rfl;obtain ⟨cHB_5,fHB_5⟩:=HB.2 5 _ rfl;obtain ⟨cHB_6,fHB_6⟩:=HB.2 6 _ rfl;obtain ⟨cHB_7,fHB_7⟩:=HB.2 7 _ rfl;go_wp2_with (fail)
 refine (cx _).mono ?_;rintro e w' ⟨rfl,rfl⟩;go_wp2_with (fail)
 refine (cy _).mono ?_;rintro e w' ⟨rfl,rfl⟩;go_wp2_with (fail)
 refine (c1 _ hs0).mono ?_;rintro e w1 ⟨rfl,hb1⟩;have HB1:=HB.below hb1;have HR1:=HR.below hb1;have b1:=Xf b0 hb1;have hs1:=hs0.below hb1;have z1:w.heap.size+1<w1.heap.size:=Nat.lt_of_lt_of_le zW hb1.size;clear cHB_0 cHB_1 cHB_2 cHB_3 cHB_4 cHB_5 cHB_6 cHB_7 fHB_0 fHB_1 fHB_2 fHB_3 fHB_4 fHB_5 fHB_6 fHB_7 HB HR b0 hs0 hb1 lB zW c1 cx cy;obtain ⟨cHB1_0,fHB1_0⟩:=HB1.2 0 _ rfl;obtain ⟨cHB1_1,fHB1_1⟩:=HB1.2 1 _ rfl;obtain ⟨cHB1_2,fHB1_2⟩:=HB1.2 2 _ rfl;obtain ⟨cHB1_3,fHB1_3⟩:=HB1.2 3 _ rfl;obtain ⟨cHB1_4,fHB1_4⟩:=HB1.2 4 _ rfl;obtain ⟨cHB1_5,fHB1_5⟩:=HB1.2 5 _ rfl;obtain ⟨cHB1_6,fHB1_6⟩:=HB1.2 6 _ rfl;obtain ⟨cHB1_7,fHB1_7⟩:=HB1.2 7 _ rfl;have lB:=HB1.1;go_wp2_with (fail)
 refine (c2 _ hs1).mono ?_;rintro e w2 ⟨b,rfl,N2,hb2⟩;have TT:Xr (w2.alloc (.cells #[.slice b.map.A (List.length x.map) b.map.c,.int .i64 x.div,.int .i64 x.bx,.int .i64 x.by_,.int .i64 x.low,.int .i64 x.high,.slice b.noise.A (List.length x.noise) b.noise.c,.slice b.limits.A (List.length x.limits) b.limits.c] 28)) w2.heap.size 28 [.slice b.map.A (List.length x.map) b.map.c,.int .i64 x.div,.int .i64 x.bx,.int .i64 x.by_,.int .i64 x.low,.int .i64 x.high,.slice b.noise.A (List.length x.noise) b.noise.c,.slice b.limits.A (List.length x.limits) b.limits.c]:=Xr.new w2 [.slice b.map.A (List.length x.map) b.map.c,.int .i64 x.div,.int .i64 x.bx,.int .i64 x.by_,.int .i64 x.low,.int .i64 x.high,.slice b.noise.A (List.length x.noise) b.noise.c,.slice b.limits.A (List.length x.limits) b.limits.c] 28;have HR3:=(HR1.below hb2).alloc (.cells #[.slice b.map.A (List.length x.map) b.map.c,.int .i64 x.div,.int .i64 x.bx,.int .i64 x.by_,.int .i64 x.low,.int .i64 x.high,.slice b.noise.A (List.length x.noise) b.noise.c,.slice b.limits.A (List.length x.limits) b.limits.c] 28);have HB3:=(HB1.below hb2).alloc (.cells #[.slice b.map.A (List.length x.map) b.map.c,.int .i64 x.div,.int .i64 x.bx,.int .i64 x.by_,.int .i64 x.low,.int .i64 x.high,.slice b.noise.A (List.length x.noise) b.noise.c,.slice b.limits.A (List.length x.limits) b.limits.c] 28);have hs3:=(hs1.below hb2).below (Xc bR (.cells #[.slice b.map.A (List.length x.map) b.map.c,.int .i64 x.div,.int .i64 x.bx,.int .i64 x.by_,.int .i64 x.low,.int .i64 x.high,.slice b.noise.A (List.length x.noise) b.noise.c,.slice b.limits.A (List.length x.limits) b.limits.c] 28));have b3:=Xc (Xf b1 hb2) (.cells #[.slice b.map.A (List.length x.map) b.map.c,.int .i64 x.div,.int .i64 x.bx,.int .i64 x.by_,.int .i64 x.low,.int .i64 x.high,.slice b.noise.A (List.length x.noise) b.noise.c,.slice b.limits.A (List.length x.limits) b.limits.c] 28);have N3:=N2.below (Xc bR (.cells #[.slice b.map.A (List.length x.map) b.map.c,.int .i64 x.div,.int .i64 x.bx,.int .i64 x.by_,.int .i64 x.low,.int .i64 x.high,.slice b.noise.A (List.length x.noise) b.noise.c,.slice b.limits.A (List.length x.limits) b.limits.c] 28)) Xt;have BK:=N2.blk;have z2:=hb2.size;have z3:w2.heap.size<(w2.alloc (.cells #[.slice b.map.A (List.length x.map) b.map.c,.int .i64 x.div,.int .i64 x.bx,.int .i64 x.by_,.int .i64 x.low,.int .i64 x.high,.slice b.noise.A (List.length x.noise) b.noise.c,.slice b.limits.A (List.length x.limits) b.limits.c] 28)).heap.size:=by simp
 clear cHB1_0 cHB1_1 cHB1_2 cHB1_3 cHB1_4 cHB1_5 cHB1_6 cHB1_7 fHB1_0 fHB1_1 fHB1_2 fHB1_3 fHB1_4 fHB1_5 fHB1_6 fHB1_7 lB HB1 HR1 hs1 b1 N2 hb2 c2;go_upto_region 4 with fail
 generalize w2.alloc (.cells #[.slice b.map.A (List.length x.map) b.map.c,.int .i64 x.div,.int .i64 x.bx,.int .i64 x.by_,.int .i64 x.low,.int .i64 x.high,.slice b.noise.A (List.length x.noise) b.noise.c,.slice b.limits.A (List.length x.limits) b.limits.c] 28)=w3 at *;go_wp2_with (fail)
 refine (c3 _).mono ?_;rintro e w4 ⟨v4,rfl,N4,hb4⟩;obtain ⟨A4,c4c,rfl,o4⟩:=N4;have N4:XI 174 3 Xh w4 w3.heap.size (.slice A4 (Yw dx dy).length c4c) (Yw dx dy):=⟨A4,c4c,rfl,o4⟩;have G5:Xr (w4.alloc (.cells #[.slice A4 (Yw dx dy).length c4c] 26)) w4.heap.size 26 [.slice A4 (Yw dx dy).length c4c]:=Xr.new w4 [.slice A4 (Yw dx dy).length c4c] 26;have bb:=Xc hb4 (.cells #[.slice A4 (Yw dx dy).length c4c] 26);have HR5:=HR3.below bb;have HB5:=HB3.below bb;have T5:=TT.below bb;have hs5:=hs3.below bb;have N5:=N3.below bb Xt;have b5:=b3.trans (bb.mono b3.size);have S4:=(N4.out Xu).alloc (.cells #[.slice A4 (Yw dx dy).length c4c] 26);have z5:=bb.size;clear N4 o4 HR3 HB3 TT hs3 N3 b3 bb hb4 c3;go_upto_region 7 with fail
 generalize w4.alloc (.cells #[.slice A4 (Yw dx dy).length c4c] 26)=w5 at *;generalize w4.heap.size=g4 at *;obtain ⟨cHB5_0,fHB5_0⟩:=HB5.2 0 _ rfl;obtain ⟨cHB5_1,fHB5_1⟩:=HB5.2 1 _ rfl;obtain ⟨cHB5_2,fHB5_2⟩:=HB5.2 2 _ rfl;obtain ⟨cHB5_3,fHB5_3⟩:=HB5.2 3 _ rfl;obtain ⟨cHB5_4,fHB5_4⟩:=HB5.2 4 _ rfl;obtain ⟨cHB5_5,fHB5_5⟩:=HB5.2 5 _ rfl;obtain ⟨cHB5_6,fHB5_6⟩:=HB5.2 6 _ rfl;obtain ⟨cHB5_7,fHB5_7⟩:=HB5.2 7 _ rfl;have lB:=HB5.1;have HG:=G5.has;obtain ⟨cHG_0,fHG_0⟩:=HG.2 0 _ rfl;have lG:=HG.1;go_wp2_with (fail)
 refine (c4 _ ⟨A4,c4c⟩ hs5.limits.halves S4).mono ?_;rintro e w6 ⟨v6,rfl,N6,hb6⟩;have hlen:=Lib.hid (movR_len (f:=Zj (Yw dx dy)) (p:=x.limits) (λ h _ g e=>eroH_ok e));obtain ⟨A6,c6,rfl,o6⟩:=N6;obtain ⟨ok,hok⟩:∃ ok,ok=Ju (Zj (Yw dx dy)) x.limits:=⟨_,rfl⟩;obtain ⟨R,hR⟩:∃ R,R=KF (Zj (Yw dx dy)) x.limits:=⟨_,rfl⟩;have N6:XI 174 3 Xh w6 w5.heap.size (.slice A6 R.length c6) R:=by rw [hR];exact ⟨A6,c6,rfl,o6⟩
 rw [<- hok,<- hR];have hok':=Lib.hid hok;have hR':=Lib.hid hR;clear hok hR;have G7:Xr (w6.alloc (.cells #[.slice A6 R.length c6] 26)) w6.heap.size 26 [.slice A6 R.length c6]:=Xr.new w6 [.slice A6 R.length c6] 26;have bb:=Xc hb6 (.cells #[.slice A6 R.length c6] 26);have HR7:=HR5.below bb;have T7:=T5.below bb;have N7:=N5.below bb Xt;have b7:=b5.trans (bb.mono b5.size);have N8:=N6.alloc (.cells #[.slice A6 R.length c6] 26);have BK6:=N6.blk;have z7:=bb.size;clear o6 HR5 HB5 T5 hs5 N5 b5 bb hb6 c4 N6 S4 G5 HG cHG_0 fHG_0 lG lB cHB5_0 cHB5_1 cHB5_2 cHB5_3 cHB5_4 cHB5_5 cHB5_6 cHB5_7 fHB5_0 fHB5_1 fHB5_2 fHB5_3 fHB5_4 fHB5_5 fHB5_6 fHB5_7;go_upto_region 10 with fail
 generalize w6.alloc (.cells #[.slice A6 R.length c6] 26)=w7 at *;generalize w6.heap.size=g6 at *;have HG:=G7.has;obtain ⟨cHG_0,fHG_0⟩:=HG.2 0 _ rfl;have lG:=HG.1;cases ok
 ·have hF:=Lib.hid (hbn.out (.inl hok'.out.symm));have HZ:=(HR7).has;obtain ⟨cHZ_0,fHZ_0⟩:=HZ.2 0 _ rfl;obtain ⟨cHZ_1,fHZ_1⟩:=HZ.2 1 _ rfl;obtain ⟨cHZ_2,fHZ_2⟩:=HZ.2 2 _ rfl;obtain ⟨cHZ_3,fHZ_3⟩:=HZ.2 3 _ rfl;obtain ⟨cHZ_4,fHZ_4⟩:=HZ.2 4 _ rfl;obtain ⟨cHZ_5,fHZ_5⟩:=HZ.2 5 _ rfl;obtain ⟨cHZ_6,fHZ_6⟩:=HZ.2 6 _ rfl;obtain ⟨cHZ_7,fHZ_7⟩:=HZ.2 7 _ rfl;have lZ:=HZ.1;have BZ:=b7;go_wp2
  refine bodyPost_ret (v:=.tuple #[.agg #[.slice none 0 0,.int .i64 0,.int .i64 0,.int .i64 0,.int .i64 0,.int .i64 0,.slice none 0 0,.slice none 0 0],.bool false]) (by simp [results,Tryz.results47,go_sem,cHZ_0,cHZ_1,cHZ_2,cHZ_3,cHZ_4,cHZ_5,cHZ_6,cHZ_7]) rfl ⟨⟨⟨none,0⟩,⟨none,0⟩,⟨none,0⟩⟩,by rw [hF.out.1,hF.out.2];rfl, ?_, ?_⟩
  ·rw [hF.out.2];exact ⟨⟨none,0,rfl,World.ownsRow_nil _ _ _ _⟩,⟨⟨none,0,rfl,World.ownsRow_nil _ _ _ _⟩⟩,⟨⟨none,0,rfl,World.ownsRow_nil _ _ _ _⟩⟩,by simp [Z4]⟩
  ·exact Yf BZ (by omega) (o:=0) [_,_,_,_,_,_,_,_]
 have cv:=λ W=>KD R ⟨A6,c6⟩ W;by_cases h0:R.length=0
 ·have hF:=Lib.hid (hbn.out (.inr (by rw [<- hR'.out];exact h0)));rw [decide_eq_true h0] at cv;clear h0;go_wp2_with (fail)
  refine (cv _).mono ?_;rintro e w8 ⟨rfl,hb8⟩;have HZ:=(HR7.below hb8).has;obtain ⟨cHZ_0,fHZ_0⟩:=HZ.2 0 _ rfl;obtain ⟨cHZ_1,fHZ_1⟩:=HZ.2 1 _ rfl;obtain ⟨cHZ_2,fHZ_2⟩:=HZ.2 2 _ rfl;obtain ⟨cHZ_3,fHZ_3⟩:=HZ.2 3 _ rfl;obtain ⟨cHZ_4,fHZ_4⟩:=HZ.2 4 _ rfl;obtain ⟨cHZ_5,fHZ_5⟩:=HZ.2 5 _ rfl;obtain ⟨cHZ_6,fHZ_6⟩:=HZ.2 6 _ rfl;obtain ⟨cHZ_7,fHZ_7⟩:=HZ.2 7 _ rfl;have lZ:=HZ.1;have BZ:=Xf b7 hb8;go_wp2
  refine bodyPost_ret (v:=.tuple #[.agg #[.slice none 0 0,.int .i64 0,.int .i64 0,.int .i64 0,.int .i64 0,.int .i64 0,.slice none 0 0,.slice none 0 0],.bool false]) (by simp [results,Tryz.results47,go_sem,cHZ_0,cHZ_1,cHZ_2,cHZ_3,cHZ_4,cHZ_5,cHZ_6,cHZ_7]) rfl ⟨⟨⟨none,0⟩,⟨none,0⟩,⟨none,0⟩⟩,by rw [hF.out.1,hF.out.2];rfl, ?_, ?_⟩
  ·rw [hF.out.2];exact ⟨⟨none,0,rfl,World.ownsRow_nil _ _ _ _⟩,⟨⟨none,0,rfl,World.ownsRow_nil _ _ _ _⟩⟩,⟨⟨none,0,rfl,World.ownsRow_nil _ _ _ _⟩⟩,by simp [Z4]⟩
  ·exact Yf BZ (by omega) (o:=0) [_,_,_,_,_,_,_,_]
 have hF:=Lib.hid (hyes.out hok'.out.symm (by rw [<- hR'.out];exact h0));rw [decide_eq_false h0] at cv;rw [<- hR'.out] at hF;go_wp2_with (fail)
 refine (cv _).mono ?_;rintro e w8 ⟨rfl,hb8⟩;have T8:=T7.below hb8;have HR8:=HR7.below hb8;have G8:=(G7.below hb8).has;have N9:=N7.below hb8 Xt;have NL:=N8.below hb8 Xt;have b8:=Xf b7 hb8;clear HG cHG_0 fHG_0 lG G7 HR7 T7 N7 N8 b7 hb8 cv h0;obtain ⟨cG8_0,fG8_0⟩:=G8.2 0 _ rfl;have lG:=G8.1;have HT:=T8.has;obtain ⟨cHT_0,fHT_0⟩:=HT.2 0 _ rfl;obtain ⟨cHT_1,fHT_1⟩:=HT.2 1 _ rfl;obtain ⟨cHT_2,fHT_2⟩:=HT.2 2 _ rfl;obtain ⟨cHT_3,fHT_3⟩:=HT.2 3 _ rfl;obtain ⟨cHT_4,fHT_4⟩:=HT.2 4 _ rfl;obtain ⟨cHT_5,fHT_5⟩:=HT.2 5 _ rfl;obtain ⟨cHT_6,fHT_6⟩:=HT.2 6 _ rfl;obtain ⟨cHT_7,fHT_7⟩:=HT.2 7 _ rfl;have lT:=HT.1;go_upto_region 13 with fail
 have TU:=T8.set_ 7 (.slice A6 R.length c6);simp only [List.set_cons_succ,List.set_cons_zero] at TU;have HRU:=HR8.other (g':=w2.heap.size) (by omega) [.slice A6 R.length c6] 7;have NU:=N9.otherT T8 (by decide) (by decide) [.slice A6 R.length c6] 7;have NV:=NL.otherC (NL.typ T8 (by decide)) [.slice A6 R.length c6] 7;have bU:=b8.setCell (p:=⟨w2.heap.size,7,none⟩) (by simp only;omega) (.slice A6 R.length c6);simp only [World.setCells] at HRU NU NV;clear cG8_0 fG8_0 lG G8 cHT_0 cHT_1 cHT_2 cHT_3 cHT_4 cHT_5 cHT_6 cHT_7 fHT_0 fHT_1 fHT_2 fHT_3 fHT_4 fHT_5 fHT_6 fHT_7 lT HT T8 HR8 N9 NL b8;generalize w8.setCell ⟨w2.heap.size,7,none⟩ (.slice A6 R.length c6)=w9 at *;have HT:=TU.has;obtain ⟨cHT_0,fHT_0⟩:=HT.2 0 _ rfl;obtain ⟨cHT_1,fHT_1⟩:=HT.2 1 _ rfl;obtain ⟨cHT_2,fHT_2⟩:=HT.2 2 _ rfl;obtain ⟨cHT_3,fHT_3⟩:=HT.2 3 _ rfl;obtain ⟨cHT_4,fHT_4⟩:=HT.2 4 _ rfl;obtain ⟨cHT_5,fHT_5⟩:=HT.2 5 _ rfl;obtain ⟨cHT_6,fHT_6⟩:=HT.2 6 _ rfl;obtain ⟨cHT_7,fHT_7⟩:=HT.2 7 _ rfl;have lT:=HT.1;have ap:List.Pairwise Z4 [b.map,b.noise,⟨A6,c6⟩]:=by
  have h12:Z4 b.map b.noise:=(List.pairwise_cons.1 NU.apart).1 _ (by simp);have h13:Z4 b.map ⟨A6,c6⟩:=BK.1.apart BK6 (by omega);have h23:Z4 b.noise ⟨A6,c6⟩:=BK.2.1.apart BK6 (by omega);refine .cons (λ y hy=>?_) (.cons (λ y hy=>?_) (.cons (λ y hy=>absurd hy (List.not_mem_nil)) .nil))
  ·simp only [List.mem_cons,List.not_mem_nil,or_false] at hy;rcases hy with rfl|rfl
   ·exact h12
   ·exact h13
  ·rw [List.mem_singleton] at hy;rw [hy];exact h23
 have HZ:=(HRU).has;obtain ⟨cHZ_0,fHZ_0⟩:=HZ.2 0 _ rfl;obtain ⟨cHZ_1,fHZ_1⟩:=HZ.2 1 _ rfl;obtain ⟨cHZ_2,fHZ_2⟩:=HZ.2 2 _ rfl;obtain ⟨cHZ_3,fHZ_3⟩:=HZ.2 3 _ rfl;obtain ⟨cHZ_4,fHZ_4⟩:=HZ.2 4 _ rfl;obtain ⟨cHZ_5,fHZ_5⟩:=HZ.2 5 _ rfl;obtain ⟨cHZ_6,fHZ_6⟩:=HZ.2 6 _ rfl;obtain ⟨cHZ_7,fHZ_7⟩:=HZ.2 7 _ rfl;have lZ:=HZ.1;go_wp2
 refine bodyPost_ret (v:=.tuple #[.agg #[.slice b.map.A (List.length x.map) b.map.c,.int .i64 x.div,.int .i64 x.bx,.int .i64 x.by_,.int .i64 x.low,.int .i64 x.high,.slice b.noise.A (List.length x.noise) b.noise.c,.slice A6 R.length c6],.bool true]) (by simp [results,Tryz.results47,go_sem, *]) rfl ⟨⟨b.map,b.noise,⟨A6,c6⟩⟩,by rw [hF.out.1,hF.out.2];rfl, ?_, ?_⟩
 ·rw [hF.out.2];exact ⟨(NU.map.lowC (q:=⟨w.heap.size+1,0,none⟩) (by simp only;omega) [_,_,_,_,_,_,_,_]).mono (by omega),⟨(NU.noise.halves.lowC (q:=⟨w.heap.size+1,0,none⟩) (by simp only;omega) [_,_,_,_,_,_,_,_]).mono (by omega)⟩,⟨(NV.lowC (q:=⟨w.heap.size+1,0,none⟩) (by simp only;omega) [_,_,_,_,_,_,_,_]).mono (by omega)⟩,ap⟩
 ·exact Yf bU (by omega) (o:=0) [_,_,_,_,_,_,_,_]
end Go.Proofs.YtabfdkpdppemaaaGreat
