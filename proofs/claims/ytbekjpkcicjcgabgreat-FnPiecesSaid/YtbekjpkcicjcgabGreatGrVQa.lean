/-
 The inputs that a region admits. No program is named here.
 Conditions: none.
-/
import Derived.Deep.RegionHeld3
import Derived.Deep.DeepMust
import Derived.Deep.DeepCutAuto
import Derived.Test.YtbekjpkcicjcgabGreatGrXc
set_option maxHeartbeats 8000000
set_option maxRecDepth 100000
namespace Go.Proofs.YtbekjpkcicjcgabGreat
open Go.RowKit
theorem room_noise {r:XK} (h:XG r=true):Xc r.noise=true/\r.noise≠[]:=by
 simp only [XG,Bool.and_eq_true] at h;obtain ⟨⟨⟨⟨_,h1⟩,_⟩,h2⟩,_⟩:=h;refine ⟨h2,λ e=>?_⟩;rw [e] at h1;simp at h1
theorem rp_no {r:XK} {p:List Half} (h:XG r=false∨Xc p=false):rpOk r p=false/\KP r p=[]:=by
 unfold rpOk KP;rcases h with h|h
 ·rw [h,if_neg (by simp)];exact ⟨rfl,rfl⟩
 ·rw [h,if_neg (by simp),Bool.and_false];exact ⟨rfl,rfl⟩
theorem rp_yes {r:XK} {p:List Half} (h:XG r=true) (h2:Xc p=true):rpOk r p=movOk (KC r.noise) p/\KP r p=movR (KC r.noise) p:=by
 unfold rpOk KP;rw [h,h2,if_pos ⟨rfl,rfl⟩];exact ⟨rfl,rfl⟩
theorem iRob_c (r:XK) (p:List Half) (a:Yq) (b:ZC) (w:World) (hn:XA r<=1048576) (hin:ZR r) (hs:Y4 w r a) (hnl:Zq a) (hlp:p.length<=1048576) (hpi:∀ h∈p,h.In) (hsp:Sl 3 Xe w b.A p) (hnb:b.A=none->b.c=0) :
 Calls Tryz.prog 80 #[Ye r a,Yr p b] w λ e w'=>∃ v,e=.returned (.tuple #[.agg #[v],.bool (rpOk r p)])/\XI 85 3 Xe w' w.heap.size v (KP r p)/\Below w.heap.size w w':=by
 have c1:=λ W h=>iRoomOk_c r a W hn hin h hnl;have c2:=λ W h=>KL p b W hlp hpi h hnb;obtain ⟨W,hW⟩:∃ W,W=((w.alloc (.cells #[.slice a.map.A (List.length r.map) a.map.c,.int .i64 r.div,.int .i64 r.bx,.int .i64 r.by_,.int .i64 r.low,.int .i64 r.high,.slice a.noise.A (List.length r.noise) a.noise.c,.slice a.limits.A (List.length r.limits) a.limits.c] 28)).alloc (.cells #[.slice b.A p.length b.c] 26)).alloc (.cells #[.slice none 0 0] 26):=⟨_,rfl⟩;have HA:X0 W w.heap.size [.slice a.map.A (List.length r.map) a.map.c,.int .i64 r.div,.int .i64 r.bx,.int .i64 r.by_,.int .i64 r.low,.int .i64 r.high,.slice a.noise.A (List.length r.noise) a.noise.c,.slice a.limits.A (List.length r.limits) a.limits.c]:=by
  rw [hW];exact ZQ
 have HB:X0 W (w.heap.size+1) [.slice b.A p.length b.c]:=by
  rw [hW];exact ZQ
 have HR:X0 W (w.heap.size+1+1) [.slice none 0 0]:=by
  rw [hW];exact ZQ
 have b0:Below w.heap.size w W:=by
  rw [hW];exact Xn
 have zW:w.heap.size+1+1<W.heap.size:=HR.1;have hs0:=hs.below b0;have sp:=hsp.below b0;have hW':=Lib.hid hW;clear hW hs hsp;obtain ⟨cHA_0,fHA_0⟩:=HA.2 0 _ rfl;obtain ⟨cHA_1,fHA_1⟩:=HA.2 1 _ rfl;obtain ⟨cHA_2,fHA_2⟩:=HA.2 2 _ rfl;obtain ⟨cHA_3,fHA_3⟩:=HA.2 3 _ rfl;obtain ⟨cHA_4,fHA_4⟩:=HA.2 4 _ rfl;obtain ⟨cHA_5,fHA_5⟩:=HA.2 5 _ rfl;obtain ⟨cHA_6,fHA_6⟩:=HA.2 6 _ rfl;obtain ⟨cHA_7,fHA_7⟩:=HA.2 7 _ rfl;obtain ⟨cHB_0,fHB_0⟩:=HB.2 0 _ rfl;have lA:=HA.1;have lB:=HB.1;cases e1:XG r
 ·have hF:=Lib.hid (rp_no (r:=r) (p:=p) (.inl e1));rw [e1] at c1;go_enter Tryz.func80,Tryz.ntmps80
  go_upto_region 1 with fail
  rw [<- hW'.out];clear hW';go_wp2_with (fail)
  refine (c1 _ hs0).mono ?_;rintro e w1 ⟨rfl,hb1⟩;have R9:=HR.below hb1;have b9:=Xg b0 hb1;obtain ⟨cR9_0,fR9_0⟩:=R9.2 0 _ rfl;have lR:=R9.1;go_wp2
  refine bodyPost_ret (v:=.tuple #[.agg #[.slice none 0 0],.bool false]) (by simp [results,Tryz.results80,go_sem,cR9_0]) rfl ⟨.slice none 0 0,by rw [hF.out.1], ?_,YV b9 (by simp only;omega) _⟩;rw [hF.out.2];exact ⟨none,0,rfl,World.ownsRow_nil _ _ _ _⟩
 rw [e1] at c1;cases e2:Xc p
 ·have hF:=Lib.hid (rp_no (r:=r) (p:=p) (.inr e2));rw [e2] at c2;go_enter Tryz.func80,Tryz.ntmps80
  go_upto_region 1 with fail
  rw [<- hW'.out];clear hW';go_wp2_with (fail)
  refine (c1 _ hs0).mono ?_;rintro e w1 ⟨rfl,hb1⟩;have l2:=blt hb1 lB;have r1:=Xt hb1;go_wp2_with (fail)
  refine (c2 _ (sp.below hb1)).mono ?_;rintro e w2 ⟨rfl,hb2⟩;have R9:=(HR.below hb1).below hb2;have b9:=Xg (Xg b0 hb1) hb2;obtain ⟨cR9_0,fR9_0⟩:=R9.2 0 _ rfl;have lR:=R9.1;go_wp2
  refine bodyPost_ret (v:=.tuple #[.agg #[.slice none 0 0],.bool false]) (by simp [results,Tryz.results80,go_sem,cR9_0]) rfl ⟨.slice none 0 0,by rw [hF.out.1], ?_,YV b9 (by simp only;omega) _⟩;rw [hF.out.2];exact ⟨none,0,rfl,World.ownsRow_nil _ _ _ _⟩
 rw [e2] at c2;have hF:=Lib.hid (rp_yes e1 e2);have hq:=room_noise e1;have c4:=λ W h1 h2=>iErode_c p r.noise b a.noise W e2 hq.1 hq.2 h1 h2;generalize hok:movOk (KC r.noise) p=ok at *;generalize hR:movR (KC r.noise) p=R at *;clear hok hR hq;go_enter Tryz.func80,Tryz.ntmps80
 go_upto_region 1 with fail
 rw [<- hW'.out];clear hW';go_wp2_with (fail)
 refine (c1 _ hs0).mono ?_;rintro e w1 ⟨rfl,hb1⟩;have l1:=blt hb1 lA;have l2:=blt hb1 lB;have r1:=Xt hb1;go_wp2_with (fail)
 refine (c2 _ (sp.below hb1)).mono ?_;rintro e w2 ⟨rfl,hb2⟩;have l3:=blt hb2 l1;have l4:=blt hb2 l2;have r2:=Xt hb2;have z4:=Nat.lt_of_lt_of_le zW (Nat.le_trans hb1.size hb2.size);go_wp2_with (fail)
 refine (c4 _ ((sp.below hb1).below hb2) ((hs0.below hb1).below hb2).noise.halves).mono ?_;rintro e w4 ⟨v4,rfl,N4,hb4⟩;have R9:=((HR.below hb1).below hb2).below hb4;have b9:=Xg (Xg (Xg b0 hb1) hb2) hb4;obtain ⟨cR9_0,fR9_0⟩:=R9.2 0 _ rfl;have lR:=R9.1;obtain ⟨Av,cv,rfl,o3⟩:=N4;have N5:XI 85 3 Xe w4 w2.heap.size (.slice Av R.length cv) R:=⟨Av,cv,rfl,o3⟩;go_wp2
 refine bodyPost_ret (v:=.tuple #[.agg #[.slice Av R.length cv],.bool ok]) (by simp [results,Tryz.results80,go_sem, *]) rfl ⟨.slice Av R.length cv,by rw [hF.out.1], ?_,YV b9 (by simp only;omega) _⟩;rw [hF.out.2];exact (N5.lowC (q:=⟨w.heap.size+1+1,0,none⟩) (by simp only;omega) [.slice Av R.length cv]).mono (by omega)
section
variable {W w w':World} {a:Act} {s T g g':Nat} {z:List Value} {b:Bool} {C:World->List Value->Prop} {k:Option Nat} {v:Value}
end
section
variable {P:Program} {o:Oper} {a:Act} {w:World} {N:Act->World->Prop} {Q:Exit->Act->World->Prop}
end
theorem Ys.othT {W w:World} {a:Act} {s T T' g':Nat} {z vs':List Value} {b:Bool} {C:World->List Value->Prop} (h:Ys W a w s T z b C) (hg:Xv w g' T' vs') (hT:T≠T') (us:List Value) (o:Nat) (hC:∀ vs,C w vs->C (w.setCells g' o us) vs):Ys W a (w.setCells g' o us) s T z b C:=by
 obtain ⟨g,e,hg2,y,n⟩:=h;have hq:g'≠g:=by
  cases b
  ·exact (y rfl).ne hg hT
  ·obtain ⟨vs,h1,_⟩:=n rfl;exact h1.ne hg hT
 exact ⟨g,e,hg2,λ h=>(y h).other hq us o,λ h=>by obtain ⟨vs,h1,h2⟩:=n h;exact ⟨vs,h1.other hq us o,hC vs h2⟩⟩
section
variable {K:Act->World->Prop} {Q:Exit->Act->World->Prop} {a:Act} {w:World} {i k:Nat}
end
theorem wp_quo {P:Program} {o:Oper} {a:Act} {w:World} {N:Act->World->Prop} {Q:Exit->Act->World->Prop} {T T':TypeId} {x y:Operand} {m n:Int} (h:o.op=.binOp .quo T x y T') (ex:a.eval x=.int .i64 m) (ey:a.eval y=.int .i64 n) (h0:n≠0) (hw : -9223372036854775808<=m.tdiv n/\m.tdiv n<=9223372036854775807) (hn:N (a.put o.dst (.int .i64 (m.tdiv n))) w):o.wp P a w N Q:=by
 refine X3 (v:=.int .i64 (m.tdiv n)) h ex ey rfl ?_ hn;show Op.intDiv .quo .i64 m n=_;simp [Op.intDiv,h0,wrp hw]
theorem XV.G2 {a0 a:Act} {D:List Nat} (h:XV a0 a D) {k l:Nat} {v u:Value} (e:a0.tmps[k]?.getD undef=v) (f:a0.tmps[l]?.getD undef=u) (t0:D.contains k=false:=by rfl) (t1:D.contains l=false:=by rfl):a.tmps[k]?.getD undef=v/\a.tmps[l]?.getD undef=u:=⟨h.g t0 e,h.g t1 f⟩
theorem oMCX {P:Program} {a0:Act} {w0:World} {D M ss:List Nat} {dl:List (List Nat)} {vs:List (Option Value)} {X:(Nat->Bool)->Act->World->Prop} {o:Oper} {i:Nat} {v:Value} (h:o.op=.move (.const v)) (hv:Zt vs[i]? v) (hx:∀ L a w v,X L a w->X (Yb L i) (a.put o.dst v) w) :
 ∀ (Lk:Nat->Bool) (a:Act) (w:World),OX a0 w0 D M ss dl vs X i Lk a w->∀ (N:Act->World->Prop) (Q:Exit->Act->World->Prop),(∀ v w',Kp M w0 w'->Zt vs[i]? v->X (Yb Lk i) (a.put o.dst v) w'->N (a.put o.dst v) w')->o.wp P a w N Q :=
 λ _ _ _ H _ _ hN=>Xy h (rfl) (hN _ _ H.k hv (hx _ _ _ _ H.x))
theorem pieceC_one (x:Xm):∀ u∈Yy x,u.oneCell'=true:=by
 intro u hu;simp only [Yy,List.mem_cons,List.not_mem_nil,or_false] at hu;rcases hu with rfl|rfl|rfl|rfl<;>rfl
def pulH (m:List Int) (d:Int) (h:Half):Option Half:=XO (h.a*m.getD 0 0+h.b*m.getD 2 0) (h.a*m.getD 1 0+h.b*m.getD 3 0) (h.c*d)
structure MapIn (m:List Int) (d:Int):Prop where
 len:m.length=4
 m:∀ i,-20<=m.getD i 0/\m.getD i 0<=20
 d:1<=d/\d<=20
theorem mapIn {r:XK} (h:XG r=true):MapIn r.map r.div:=⟨(roomB h).len,(roomB h).m,(roomB h).div⟩
structure PulB (m:List Int) (d:Int) (h:Half):Prop where
 a0 : -1000000<=h.a*m.getD 0 0/\h.a*m.getD 0 0<=1000000
 b2 : -1000000<=h.b*m.getD 2 0/\h.b*m.getD 2 0<=1000000
 a1 : -1000000<=h.a*m.getD 1 0/\h.a*m.getD 1 0<=1000000
 b3 : -1000000<=h.b*m.getD 3 0/\h.b*m.getD 3 0<=1000000
 c : -2000000000<=h.c*d/\h.c*d<=2000000000
theorem pulB {m:List Int} {d:Int} {h:Half} (hM:MapIn m d) (hh:Xq h=true):PulB m d h:=by
 obtain ⟨a1,a2,a3,_⟩:=Zm.1 hh;have p:=λ i=>JE (a:=h.a) (b:=m.getD i 0) (A:=50000) (B:=20) a1 (hM.m i);have q:=λ i=>JE (a:=h.b) (b:=m.getD i 0) (A:=50000) (B:=20) a2 (hM.m i);have c:=JE (a:=h.c) (b:=d) (A:=100000000) (B:=20) a3 (by have:=hM.d;omega);exact ⟨by have:=p 0;omega,by have:=q 2;omega,by have:=p 1;omega,by have:=q 3;omega,by omega⟩
end Go.Proofs.YtbekjpkcicjcgabGreat
