/-
 The inputs that a region admits. No program is named here.
 Conditions: none.
-/
import Derived.Test.YtbekjpkcicjcgaaGreatGrXc
import Derived.Test.YtbekjpkcicjcgaaGreatGrQ
set_option maxHeartbeats 8000000
set_option maxRecDepth 100000
namespace Go.Proofs.YtbekjpkcicjcgaaGreat
open Go.RowKit
def Ze (r:XU) (h:Half):Int:=h.a*r.bx+h.b*r.by_
def mapX (r:XU) (s:X9):Int:=r.map.getD 0 0*s.x+r.map.getD 1 0*s.y
def mapY (r:XU) (s:X9):Int:=r.map.getD 2 0*s.x+r.map.getD 3 0*s.y
def Yz (r:XU) (s:X9):Int:=r.div*s.d
def JT (r:XU) (s:X9) (h:Half):Int:=h.c*Yz r s-h.a*mapX r s-h.b*mapY r s
def KT (r:XU) (s:X9) (w:K4) (h:Half):Option K4 :=
 if 0<Ze r h then some ⟨w.low,Ye w.high (XD (JT r s h) (Yz r s*Ze r h))⟩
 else if Ze r h<0 then some ⟨Yf w.low (XD (-(JT r s h)) (-(Yz r s)*Ze r h)),w.high⟩
 else if JT r s h<0 then none else some w
def admL (r:XU) (s:X9) (l:List Half):Option K4:=l.foldl (λ o h=>o.bind λ w=>KT r s w h) (some ⟨⟨r.low,1⟩,⟨r.high,1⟩⟩)
def YL (r:XU) (e:List Half) (s:X9):Option K4 :=
 if 100000<s.d then none else (admL r s e).bind λ w=>if XQ w=true then some w else none
theorem admL_take {r:XU} {s:X9} {l:List Half} {k:Nat} (h:k<l.length):admL r s (l.take (k+1))=(admL r s (l.take k)).bind λ w=>KT r s w l[k]:=by
 unfold admL;rw [Zj l k h,List.foldl_append];rfl
theorem admL_none {r:XU} {s:X9}:∀ (l m:List Half),admL r s l=none->admL r s (l++m)=none:=by
 intro l m h;unfold admL at h ⊢;rw [List.foldl_append,h];clear h;induction m with
 | nil=>rfl
 | cons x t ih=>exact ih
theorem admL_no {r:XU} {s:X9} {l:List Half} {k:Nat} (_:k<l.length) (h1:admL r s (l.take (k+1))=none):admL r s l=none:=by
 have:=admL_none (l.take (k+1)) (l.drop (k+1)) h1;rwa [List.take_append_drop] at this
structure RoomB (r:XU):Prop where
 len:r.map.length=4
 m:∀ i,-20<=r.map.getD i 0/\r.map.getD i 0<=20
 div:1<=r.div/\r.div<=20
 bx : -100<=r.bx/\r.bx<=100
 by_ : -100<=r.by_/\r.by_<=100
 low : -1000<=r.low/\r.low<=1000
 high:r.low<=r.high/\r.high<=1000
theorem roomB {r:XU} (h:XM r=true):RoomB r:=by
 simp only [XM,Kl,Bool.and_eq_true] at h;obtain ⟨⟨⟨⟨⟨⟨⟨⟨h1,_⟩,h2⟩,h3⟩,h4,h5⟩,_⟩,_⟩,_⟩,_⟩:=h;have hq:=h1;simp only [YC,Bool.and_eq_true] at hq;obtain ⟨a,b,c,d,e,ha,hb,hc,hd⟩:=KF h1;refine ⟨by rw [e];rfl,λ i=>?_,Z3.1 hq.1.2,Z3.1 h2,Z3.1 h3,Z3.1 h4,Z3.1 h5⟩;rw [e];match i with
 | 0=>simpa using ha
 | 1=>simpa using hb
 | 2=>simpa using hc
 | 3=>simpa using hd
 | _+4=>simp
structure MapB (r:XU) (s:X9):Prop where
 x0 : -2000000000<=r.map.getD 0 0*s.x/\r.map.getD 0 0*s.x<=2000000000
 x1 : -2000000000<=r.map.getD 1 0*s.y/\r.map.getD 1 0*s.y<=2000000000
 y0 : -2000000000<=r.map.getD 2 0*s.x/\r.map.getD 2 0*s.x<=2000000000
 y1 : -2000000000<=r.map.getD 3 0*s.y/\r.map.getD 3 0*s.y<=2000000000
 d:1<=Yz r s/\Yz r s<=2000000
theorem mapB {r:XU} {s:X9} (B:RoomB r) (hs:X7 s=true) (hd:s.d<=100000):MapB r s:=by
 obtain ⟨h1,h2,h3,_⟩:=J0.1 hs;have p:=λ i (x:Int) (hx : -100000000<=x/\x<=100000000)=>Jd (a:=r.map.getD i 0) (b:=x) (A:=20) (B:=100000000) ⟨by have:=B.m i;omega,by have:=B.m i;omega⟩ ⟨Oz,Oz⟩;have q:=Jd (a:=r.div) (b:=s.d) (A:=20) (B:=100000) ⟨by have:=B.div;omega,by have:=B.div;omega⟩ ⟨Oz,Oz⟩;have q0:=Int.mul_pos (show 0<r.div by have:=B.div;omega) (show 0<s.d by omega);have a:=p 0 s.x ⟨Oz,Oz⟩;have b:=p 1 s.y ⟨Oz,Oz⟩;have c:=p 2 s.x ⟨Oz,Oz⟩;have d:=p 3 s.y ⟨Oz,Oz⟩;exact ⟨⟨Oz,Oz⟩,⟨Oz,Oz⟩,⟨Oz,Oz⟩,⟨Oz,Oz⟩,⟨by unfold Yz;omega,by unfold Yz;omega⟩⟩
structure AdmP (r:XU) (s:X9) (h:Half):Prop where
 a : -5000000<=h.a*r.bx/\h.a*r.bx<=5000000
 b : -5000000<=h.b*r.by_/\h.b*r.by_<=5000000
 c : -200000000000000<=h.c*Yz r s/\h.c*Yz r s<=200000000000000
 x : -200000000000000<=h.a*mapX r s/\h.a*mapX r s<=200000000000000
 y : -200000000000000<=h.b*mapY r s/\h.b*mapY r s<=200000000000000
 n : -20000000000000<=Yz r s*Ze r h/\Yz r s*Ze r h<=20000000000000
theorem admP {r:XU} {s:X9} {h:Half} (B:RoomB r) (M:MapB r s) (hh:Xt h=true):AdmP r s h:=by
 obtain ⟨a1,a2,a3,_⟩:=Y0.1 hh;have hd:=M.d;have h0:=M.x0;have h1:=M.x1;have h2:=M.y0;have h3:=M.y1;have p:=Jd (a:=h.a) (b:=r.bx) (A:=50000) (B:=100) ⟨Oz,Oz⟩ ⟨by have:=B.bx;omega,by have:=B.bx;omega⟩;have q:=Jd (a:=h.b) (b:=r.by_) (A:=50000) (B:=100) ⟨Oz,Oz⟩ ⟨by have:=B.by_;omega,by have:=B.by_;omega⟩;have c:=Jd (a:=h.c) (b:=Yz r s) (A:=100000000) (B:=2000000) ⟨Oz,Oz⟩ ⟨Oz,Oz⟩;have x:=Jd (a:=h.a) (b:=mapX r s) (A:=50000) (B:=4000000000) ⟨Oz,Oz⟩ ⟨by unfold mapX;omega,by unfold mapX;omega⟩;have y:=Jd (a:=h.b) (b:=mapY r s) (A:=50000) (B:=4000000000) ⟨Oz,Oz⟩ ⟨by unfold mapY;omega,by unfold mapY;omega⟩;have n:=Jd (a:=Yz r s) (b:=Ze r h) (A:=2000000) (B:=10000000) ⟨Oz,Oz⟩ ⟨by unfold Ze;omega,by unfold Ze;omega⟩;exact ⟨⟨Oz,Oz⟩,⟨Oz,Oz⟩,⟨Oz,Oz⟩,⟨Oz,Oz⟩,⟨Oz,Oz⟩,⟨Oz,Oz⟩⟩
theorem adm_high {r:XU} {s:X9} {h:Half} (P:AdmP r s h) (M:MapB r s) (hn:0<Ze r h):(-1000000000000000000<=JT r s h/\JT r s h<=1000000000000000000)/\(1<=Yz r s*Ze r h/\Yz r s*Ze r h<=1000000000000000):=by
 have:=Int.mul_pos (show 0<Yz r s by have:=M.d;omega) hn;have hc:=P.c;have hx:=P.x;have hy:=P.y;have hp:=P.n;unfold JT;exact ⟨⟨Oz,Oz⟩,⟨Oz,Oz⟩⟩
theorem adm_low {r:XU} {s:X9} {h:Half} (P:AdmP r s h) (M:MapB r s) (hn:Ze r h<0):(-1000000000000000000<=-(JT r s h)/\-(JT r s h)<=1000000000000000000)/\(1<=-(Yz r s)*Ze r h/\-(Yz r s)*Ze r h<=1000000000000000):=by
 have:=Int.mul_pos (show 0<Yz r s by have:=M.d;omega) (show 0 < -(Ze r h) by omega);rw [Int.mul_neg] at this;have hc:=P.c;have hx:=P.x;have hy:=P.y;have hp:=P.n;rw [Int.neg_mul];unfold JT;exact ⟨⟨Oz,Oz⟩,⟨Oz,Oz⟩⟩
theorem one_ok {n:Int} (h : -1000<=n/\n<=1000):Xn ⟨n,1⟩=true:=by
 refine Z6.2 ⟨⟨Sz,Sz⟩,⟨by simp only;omega,by simp only;omega⟩, ?_⟩;simp
theorem admL_ok {r:XU} {s:X9} {l:List Half} (B:RoomB r) (M:MapB r s) (hl:∀ h∈l,Xt h=true):∀ k,k<=l.length->∀ w,admL r s (l.take k)=some w->Xn w.low=true/\Xn w.high=true
 | 0,_,w,h=>by
  have:=B.low;have:=B.high;cases h;exact ⟨one_ok ⟨Oz,Oz⟩,one_ok ⟨Oz,Oz⟩⟩
 | k+1,hk,w,h=>by
  rw [admL_take Oz] at h;cases e:admL r s (l.take k) with
  | none=>rw [e] at h;cases h
  | some v =>
   rw [e] at h;obtain ⟨h1,h2⟩:=admL_ok B M hl k Oz v e;simp only [Option.bind_some] at h;have P:=admP B M (hl _ (List.getElem_mem (show k<l.length by omega)));unfold KT at h;split at h
   ·rename_i hn
    cases h;obtain ⟨t,d⟩:=adm_high P M hn;exact ⟨h1,ratioMin_ok h2 (YP t d).1⟩
   split at h
   ·rename_i hn
    cases h;obtain ⟨t,d⟩:=adm_low P M hn;exact ⟨ratioMax_ok h1 (YP t d).1,h2⟩
   split at h
   ·cases h
   ·cases h;exact ⟨h1,h2⟩
theorem Kg {r:Yk} (h:Xn r=true):r.In:=by
 obtain ⟨⟨a,b⟩,⟨c,d⟩,_⟩:=Z6.1 h;exact ⟨⟨Oz,Oz⟩,⟨Oz,Oz⟩⟩
def Jn (r:XU) (p:List Half):Bool:=XM r&&Xb p&&Yv (YG r.noise) p
def Kb (r:XU) (p:List Half):List Half:=if XM r=true/\Xb p=true then YR (YG r.noise) p else []
def Z9 (r:XU) (p:List Half):Bool:=!decide (p.length=0)&&Jn r p && !decide ((Kb r p).length=0)
theorem rpR_ok (r:XU) (p:List Half):Xb (Kb r p)=true:=by
 unfold Kb;split
 ·exact movR_ok (λ h _ g e=>eroH_ok e)
 ·rfl
def XH (r:XU) (p:List Half) (s:X9):Option K4:=if Z9 r p=true/\X7 s=true then YL r (Kb r p) s else none
def optSpanV:Option K4->Value
 | some w=>.tuple #[Z8 w,.bool true]
 | none=>.tuple #[Z8 XF,.bool false]
theorem room_noise {r:XU} (h:XM r=true):Xb r.noise=true/\r.noise≠[]:=by
 simp only [XM,Bool.and_eq_true] at h;obtain ⟨⟨⟨⟨_,h1⟩,_⟩,h2⟩,_⟩:=h;refine ⟨h2,λ e=>?_⟩;rw [e] at h1;simp at h1
theorem rp_no {r:XU} {p:List Half} (h:XM r=false∨Xb p=false):Jn r p=false/\Kb r p=[]:=by
 unfold Jn Kb;rcases h with h|h
 ·rw [h,if_neg Sz];exact ⟨rfl,rfl⟩
 ·rw [h,if_neg Sz,Bool.and_false];exact ⟨rfl,rfl⟩
theorem rp_yes {r:XU} {p:List Half} (h:XM r=true) (h2:Xb p=true):Jn r p=Yv (YG r.noise) p/\Kb r p=YR (YG r.noise) p:=by
 unfold Jn Kb;rw [h,h2,if_pos ⟨rfl,rfl⟩];exact ⟨rfl,rfl⟩
theorem sErodeNo_c (p q:List Half) (a b:Zi) (w:World) (hl:p.length<=1048576) (hin:∀ h∈p,h.In) (hp:Xb p=false) (hsp:Sl 3 Xd w a.A p) (hna:a.A=none->a.c=0) :
 Calls Tryz.prog 175 #[Yi p a,Yi q b] w λ e w'=>e=.returned (.tuple #[.agg #[.slice none 0 0],.bool false])/\Below w.heap.size w w':=by
 have k1:=λ W h=>XY p a W hl hin h hna;rw [hp] at k1;obtain ⟨W,hW⟩:∃ W,W=((w.alloc (.cells #[.slice a.A p.length a.c] 26)).alloc (.cells #[.slice b.A q.length b.c] 26)).alloc (.cells #[.slice none 0 0] 26):=⟨_,rfl⟩;have HA:XV W w.heap.size [.slice a.A p.length a.c]:=by rw [hW];exact Ys
 have HR:XV W (w.heap.size+1+1) [.slice none 0 0]:=by rw [hW];exact Ys
 have b0:Below w.heap.size w W:=by rw [hW];exact Xl
 have sp:=hsp.below b0;have hW':=Lib.hid hW;clear hW hsp hp;obtain ⟨cHA_0,fHA_0⟩:=HA.2 0 _ rfl;have lA:=HA.1;go_enter Tryz.func175,Tryz.ntmps175
 go_upto_region 1 with fail
 rw [<- hW'.out];clear hW';go_wp2_with (fail)
 refine (k1 _ sp).mono ?_;rintro e w1 ⟨rfl,hb1⟩;have R1:=HR.below hb1;have b1:=Xe b0 hb1;obtain ⟨cR1_0,fR1_0⟩:=R1.2 0 _ rfl;have lR:=R1.1;go_wp2
 refine bodyPost_ret (v:=.tuple #[.agg #[.slice none 0 0],.bool false]) (by simp [results,Tryz.results175,go_sem, *]) rfl ⟨rfl,Yp b1 (by simp only;omega) _⟩
theorem iRob_c (r:XU) (p:List Half) (a:Yn) (b:Zi) (w:World) (hn:Xy r<=1048576) (hin:Zh r) (hs:Ym w r a) (hnl:YJ a) (hlp:p.length<=1048576) (hpi:∀ h∈p,h.In) (hsp:Sl 3 Xd w b.A p) (hnb:b.A=none->b.c=0) :
 Calls Tryz.prog 102 #[Ya r a,Yi p b] w λ e w'=>∃ v,e=.returned (.tuple #[.agg #[v],.bool (Jn r p)])/\XI 136 3 Xd w' w.heap.size v (Kb r p)/\Below w.heap.size w w':=by
 have c1:=λ W h=>iRoomOk_c r a W hn hin h hnl;have c2:=λ W h=>iRegionOk_c p b W hlp hpi h hnb;obtain ⟨W,hW⟩:∃ W,W=((w.alloc (.cells #[.slice a.map.A (List.length r.map) a.map.c,.int .i64 r.div,.int .i64 r.bx,.int .i64 r.by_,.int .i64 r.low,.int .i64 r.high,.slice a.noise.A (List.length r.noise) a.noise.c,.slice a.limits.A (List.length r.limits) a.limits.c] 28)).alloc (.cells #[.slice b.A p.length b.c] 26)).alloc (.cells #[.slice none 0 0] 26):=⟨_,rfl⟩;have HA:XV W w.heap.size [.slice a.map.A (List.length r.map) a.map.c,.int .i64 r.div,.int .i64 r.bx,.int .i64 r.by_,.int .i64 r.low,.int .i64 r.high,.slice a.noise.A (List.length r.noise) a.noise.c,.slice a.limits.A (List.length r.limits) a.limits.c]:=by
  rw [hW];exact Ys
 have HB:XV W (w.heap.size+1) [.slice b.A p.length b.c]:=by
  rw [hW];exact Ys
 have HR:XV W (w.heap.size+1+1) [.slice none 0 0]:=by
  rw [hW];exact Ys
 have b0:Below w.heap.size w W:=by
  rw [hW];exact Xl
 have zW:w.heap.size+1+1<W.heap.size:=HR.1;have hs0:=hs.below b0;have sp:=hsp.below b0;have hW':=Lib.hid hW;clear hW hs hsp;obtain ⟨cHA_0,fHA_0⟩:=HA.2 0 _ rfl;obtain ⟨cHA_1,fHA_1⟩:=HA.2 1 _ rfl;obtain ⟨cHA_2,fHA_2⟩:=HA.2 2 _ rfl;obtain ⟨cHA_3,fHA_3⟩:=HA.2 3 _ rfl;obtain ⟨cHA_4,fHA_4⟩:=HA.2 4 _ rfl;obtain ⟨cHA_5,fHA_5⟩:=HA.2 5 _ rfl;obtain ⟨cHA_6,fHA_6⟩:=HA.2 6 _ rfl;obtain ⟨cHA_7,fHA_7⟩:=HA.2 7 _ rfl;obtain ⟨cHB_0,fHB_0⟩:=HB.2 0 _ rfl;have lA:=HA.1;have lB:=HB.1;cases e1:XM r
 ·have hF:=Lib.hid (rp_no (r:=r) (p:=p) (.inl e1));rw [e1] at c1;go_enter Tryz.func102,Tryz.ntmps102
  go_upto_region 1 with fail
  rw [<- hW'.out];clear hW';go_wp2_with (fail)
  refine (c1 _ hs0).mono ?_;rintro e w1 ⟨rfl,hb1⟩;have R9:=HR.below hb1;have b9:=Xe b0 hb1;obtain ⟨cR9_0,fR9_0⟩:=R9.2 0 _ rfl;have lR:=R9.1;go_wp2
  refine bodyPost_ret (v:=.tuple #[.agg #[.slice none 0 0],.bool false]) (by simp [results,Tryz.results102,go_sem,cR9_0]) rfl ⟨.slice none 0 0,by rw [hF.out.1], ?_,Yp b9 (by simp only;omega) _⟩;rw [hF.out.2];exact ⟨none,0,rfl,World.ownsRow_nil _ _ _ _⟩
 rw [e1] at c1;cases e2:Xb p
 ·have hF:=Lib.hid (rp_no (r:=r) (p:=p) (.inr e2));rw [e2] at c2;go_enter Tryz.func102,Tryz.ntmps102
  go_upto_region 1 with fail
  rw [<- hW'.out];clear hW';go_wp2_with (fail)
  refine (c1 _ hs0).mono ?_;rintro e w1 ⟨rfl,hb1⟩;have l2:=blt hb1 lB;have r1:=Xh hb1;go_wp2_with (fail)
  refine (c2 _ (sp.below hb1)).mono ?_;rintro e w2 ⟨rfl,hb2⟩;have R9:=(HR.below hb1).below hb2;have b9:=Xe (Xe b0 hb1) hb2;obtain ⟨cR9_0,fR9_0⟩:=R9.2 0 _ rfl;have lR:=R9.1;go_wp2
  refine bodyPost_ret (v:=.tuple #[.agg #[.slice none 0 0],.bool false]) (by simp [results,Tryz.results102,go_sem,cR9_0]) rfl ⟨.slice none 0 0,by rw [hF.out.1], ?_,Yp b9 (by simp only;omega) _⟩;rw [hF.out.2];exact ⟨none,0,rfl,World.ownsRow_nil _ _ _ _⟩
 rw [e2] at c2;have hF:=Lib.hid (rp_yes e1 e2);have hq:=room_noise e1;have c4:=λ W h1 h2=>iErode_c p r.noise b a.noise W e2 hq.1 hq.2 h1 h2;generalize hok:Yv (YG r.noise) p=ok at *;generalize hR:YR (YG r.noise) p=R at *;clear hok hR hq;go_enter Tryz.func102,Tryz.ntmps102
 go_upto_region 1 with fail
 rw [<- hW'.out];clear hW';go_wp2_with (fail)
 refine (c1 _ hs0).mono ?_;rintro e w1 ⟨rfl,hb1⟩;have l1:=blt hb1 lA;have l2:=blt hb1 lB;have r1:=Xh hb1;go_wp2_with (fail)
 refine (c2 _ (sp.below hb1)).mono ?_;rintro e w2 ⟨rfl,hb2⟩;have l3:=blt hb2 l1;have l4:=blt hb2 l2;have r2:=Xh hb2;have z4:=Nat.lt_of_lt_of_le zW (Nat.le_trans hb1.size hb2.size);go_wp2_with (fail)
 refine (c4 _ ((sp.below hb1).below hb2) ((hs0.below hb1).below hb2).noise.halves).mono ?_;rintro e w4 ⟨v4,rfl,N4,hb4⟩;have R9:=((HR.below hb1).below hb2).below hb4;have b9:=Xe (Xe (Xe b0 hb1) hb2) hb4;obtain ⟨cR9_0,fR9_0⟩:=R9.2 0 _ rfl;have lR:=R9.1;obtain ⟨Av,cv,rfl,o3⟩:=N4;have N5:XI 136 3 Xd w4 w2.heap.size (.slice Av R.length cv) R:=⟨Av,cv,rfl,o3⟩;go_wp2
 refine bodyPost_ret (v:=.tuple #[.agg #[.slice Av R.length cv],.bool ok]) (by simp [results,Tryz.results102,go_sem, *]) rfl ⟨.slice Av R.length cv,by rw [hF.out.1], ?_,Yp b9 (by simp only;omega) _⟩;rw [hF.out.2];exact (N5.lowC (q:=⟨w.heap.size+1+1,0,none⟩) (by simp only;omega) [.slice Av R.length cv]).mono Oz
theorem sRob_c (r:XU) (p:List Half) (a:Yn) (b:Zi) (w:World) (hn:Xy r<=1048576) (hin:Zh r) (hs:Ym w r a) (hnl:YJ a) (hlp:p.length<=1048576) (hpi:∀ h∈p,h.In) (hsp:Sl 3 Xd w b.A p) (hnb:b.A=none->b.c=0) :
 Calls Tryz.prog 153 #[Ya r a,Yi p b] w λ e w'=>∃ v,e=.returned (.tuple #[.agg #[v],.bool (Jn r p)])/\XI 136 3 Xd w' w.heap.size v (Kb r p)/\Below w.heap.size w w':=by
 have c1:=λ W h=>sRoomOk_c r a W hn hin h hnl;obtain ⟨W,hW⟩:∃ W,W=((w.alloc (.cells #[.slice a.map.A (List.length r.map) a.map.c,.int .i64 r.div,.int .i64 r.bx,.int .i64 r.by_,.int .i64 r.low,.int .i64 r.high,.slice a.noise.A (List.length r.noise) a.noise.c,.slice a.limits.A (List.length r.limits) a.limits.c] 28)).alloc (.cells #[.slice b.A p.length b.c] 26)).alloc (.cells #[.slice none 0 0] 26):=⟨_,rfl⟩;have HA:XV W w.heap.size [.slice a.map.A (List.length r.map) a.map.c,.int .i64 r.div,.int .i64 r.bx,.int .i64 r.by_,.int .i64 r.low,.int .i64 r.high,.slice a.noise.A (List.length r.noise) a.noise.c,.slice a.limits.A (List.length r.limits) a.limits.c]:=by
  rw [hW];exact Ys
 have HB:XV W (w.heap.size+1) [.slice b.A p.length b.c]:=by
  rw [hW];exact Ys
 have HR:XV W (w.heap.size+1+1) [.slice none 0 0]:=by
  rw [hW];exact Ys
 have b0:Below w.heap.size w W:=by
  rw [hW];exact Xl
 have zW:w.heap.size+1+1<W.heap.size:=HR.1;have hs0:=hs.below b0;have sp:=hsp.below b0;have hW':=Lib.hid hW;clear hW hs hsp;obtain ⟨cHA_0,fHA_0⟩:=HA.2 0 _ rfl;obtain ⟨cHA_1,fHA_1⟩:=HA.2 1 _ rfl;obtain ⟨cHA_2,fHA_2⟩:=HA.2 2 _ rfl;obtain ⟨cHA_3,fHA_3⟩:=HA.2 3 _ rfl;obtain ⟨cHA_4,fHA_4⟩:=HA.2 4 _ rfl;obtain ⟨cHA_5,fHA_5⟩:=HA.2 5 _ rfl;obtain ⟨cHA_6,fHA_6⟩:=HA.2 6 _ rfl;obtain ⟨cHA_7,fHA_7⟩:=HA.2 7 _ rfl;obtain ⟨cHB_0,fHB_0⟩:=HB.2 0 _ rfl;have lA:=HA.1;have lB:=HB.1;cases e1:XM r
 ·have hF:=Lib.hid (rp_no (r:=r) (p:=p) (.inl e1));rw [e1] at c1;go_enter Tryz.func153,Tryz.ntmps153
  go_upto_region 1 with fail
  rw [<- hW'.out];clear hW';go_wp2_with (fail)
  refine (c1 _ hs0).mono ?_;rintro e w1 ⟨rfl,hb1⟩;have R9:=HR.below hb1;have b9:=Xe b0 hb1;obtain ⟨cR9_0,fR9_0⟩:=R9.2 0 _ rfl;have lR:=R9.1;go_wp2
  refine bodyPost_ret (v:=.tuple #[.agg #[.slice none 0 0],.bool false]) (by simp [results,Tryz.results153,go_sem,cR9_0]) rfl ⟨.slice none 0 0,by rw [hF.out.1], ?_,Yp b9 (by simp only;omega) _⟩;rw [hF.out.2];exact ⟨none,0,rfl,World.ownsRow_nil _ _ _ _⟩
 rw [e1] at c1;cases e2:Xb p
 ·have hF:=Lib.hid (rp_no (r:=r) (p:=p) (.inr e2));have c3:=λ W h=>sErodeNo_c p r.noise b a.noise W hlp hpi e2 h hnb;go_enter Tryz.func153,Tryz.ntmps153
  go_upto_region 1 with fail
  rw [<- hW'.out];clear hW';go_wp2_with (fail)
  refine (c1 _ hs0).mono ?_;rintro e w1 ⟨rfl,hb1⟩;have l1:=blt hb1 lA;have l2:=blt hb1 lB;have r1:=Xh hb1;go_wp2_with (fail)
  refine (c3 _ (sp.below hb1)).mono ?_;rintro e w2 ⟨rfl,hb2⟩;have R9:=(HR.below hb1).below hb2;have b9:=Xe (Xe b0 hb1) hb2;obtain ⟨cR9_0,fR9_0⟩:=R9.2 0 _ rfl;have lR:=R9.1;go_wp2
  refine bodyPost_ret (v:=.tuple #[.agg #[.slice none 0 0],.bool false]) (by simp [results,Tryz.results153,go_sem, *]) rfl ⟨.slice none 0 0,by rw [hF.out.1], ?_,Yp b9 (by simp only;omega) _⟩;rw [hF.out.2];exact ⟨none,0,rfl,World.ownsRow_nil _ _ _ _⟩
 have hF:=Lib.hid (rp_yes e1 e2);have hq:=room_noise e1;have c4:=λ W h1 h2=>sErode_c p r.noise b a.noise W e2 hq.1 hq.2 h1 h2 hnb hnl.noise;generalize hok:Yv (YG r.noise) p=ok at *;generalize hR:YR (YG r.noise) p=R at *;clear hok hR hq;go_enter Tryz.func153,Tryz.ntmps153
 go_upto_region 1 with fail
 rw [<- hW'.out];clear hW';go_wp2_with (fail)
 refine (c1 _ hs0).mono ?_;rintro e w1 ⟨rfl,hb1⟩;have l1:=blt hb1 lA;have l2:=blt hb1 lB;have r1:=Xh hb1;have z4:=Nat.lt_of_lt_of_le zW hb1.size;go_wp2_with (fail)
 refine (c4 _ (sp.below hb1) (hs0.below hb1).noise.halves).mono ?_;rintro e w4 ⟨v4,rfl,N4,hb4⟩;have R9:=(HR.below hb1).below hb4;have b9:=Xe (Xe b0 hb1) hb4;obtain ⟨cR9_0,fR9_0⟩:=R9.2 0 _ rfl;have lR:=R9.1;obtain ⟨Av,cv,rfl,o3⟩:=N4;have N5:XI 136 3 Xd w4 w1.heap.size (.slice Av R.length cv) R:=⟨Av,cv,rfl,o3⟩;go_wp2
 refine bodyPost_ret (v:=.tuple #[.agg #[.slice Av R.length cv],.bool ok]) (by simp [results,Tryz.results153,go_sem, *]) rfl ⟨.slice Av R.length cv,by rw [hF.out.1], ?_,Yp b9 (by simp only;omega) _⟩;rw [hF.out.2];exact (N5.lowC (q:=⟨w.heap.size+1+1,0,none⟩) (by simp only;omega) [.slice Av R.length cv]).mono Oz
end Go.Proofs.YtbekjpkcicjcgaaGreat
