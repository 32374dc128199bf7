/-
 The inputs that a region admits. No program is named here.
 Conditions: none.
-/
import Derived.Test.YtbekjpkcicjcgaaGreatNewR
namespace Go.Proofs.YtbekjpkcicjcgaaGreat
open Go.RowKit
def YO (r:XD) (h:Half):Int:=h.a*r.bx+h.b*r.by_
def KM (r:XD) (s:XH):Int:=r.map.getD 0 0*s.x+r.map.getD 1 0*s.y
def KT (r:XD) (s:XH):Int:=r.map.getD 2 0*s.x+r.map.getD 3 0*s.y
def Ya (r:XD) (s:XH):Int:=r.div*s.d
def topA (r:XD) (s:XH) (h:Half):Int:=h.c*Ya r s-h.a*KM r s-h.b*KT r s
def Kc (r:XD) (s:XH) (w:YQ) (h:Half):Option YQ :=
 if 0<YO r h then some ⟨w.low,Yr w.high (XT (topA r s h) (Ya r s*YO r h))⟩
 else if YO r h<0 then some ⟨Ys w.low (XT (-(topA r s h)) (-(Ya r s)*YO r h)),w.high⟩
 else if topA r s h<0 then none else some w
def admL (r:XD) (s:XH) (l:List Half):Option YQ:=l.foldl (λ o h=>o.bind λ w=>Kc r s w h) (some ⟨⟨r.low,1⟩,⟨r.high,1⟩⟩)
def Ym (r:XD) (e:List Half) (s:XH):Option YQ :=
 if 100000<s.d then none else (admL r s e).bind λ w=>if XN w=true then some w else none
def JM (a b:YQ):Option YQ:=if XN a=true/\XN b=true/\XN ⟨Ys a.low b.low,Yr a.high b.high⟩=true then some ⟨Ys a.low b.low,Yr a.high b.high⟩ else none
theorem admL_take {r:XD} {s:XH} {l:List Half} {k:Nat} (h:k<l.length):admL r s (l.take (k+1))=(admL r s (l.take k)).bind λ w=>Kc r s w l[k]:=by
 unfold admL;rw [Zx l k h,List.foldl_append];rfl
theorem admL_none {r:XD} {s:XH}:∀ (l m:List Half),admL r s l=none->admL r s (l++m)=none:=by
 intro l m h;unfold admL at h ⊢;rw [List.foldl_append,h];clear h;induction m with
 | nil=>rfl
 | cons x t ih=>exact ih
theorem admL_no {r:XD} {s:XH} {l:List Half} {k:Nat} (_:k<l.length) (h1:admL r s (l.take (k+1))=none):admL r s l=none:=by
 have:=admL_none (l.take (k+1)) (l.drop (k+1)) h1;rwa [List.take_append_drop] at this
structure RoomB (r:XD):Prop where
 len:r.map.length=4
 m:∀ i,-20<=r.map.getD i 0/\r.map.getD i 0<=20
 div:1<=r.div/\r.div<=20
 bx : -100<=r.bx/\r.bx<=100
 by_ : -100<=r.by_/\r.by_<=100
 low : -1000<=r.low/\r.low<=1000
 high:r.low<=r.high/\r.high<=1000
theorem JX {r:XD} (h:XJ r=true):RoomB r:=by
 simp only [XJ,turnOk,Bool.and_eq_true] at h;obtain ⟨⟨⟨⟨⟨⟨⟨⟨h1,_⟩,h2⟩,h3⟩,h4,h5⟩,_⟩,_⟩,_⟩,_⟩:=h;have hq:=h1;simp only [mapOk,Bool.and_eq_true] at hq;obtain ⟨a,b,c,d,e,ha,hb,hc,hd⟩:=map_four h1;refine ⟨by rw [e];rfl,λ i=>?_,Y3.1 hq.1.2,Y3.1 h2,Y3.1 h3,Y3.1 h4,Y3.1 h5⟩;rw [e];match i with
 | 0=>simpa using ha
 | 1=>simpa using hb
 | 2=>simpa using hc
 | 3=>simpa using hd
 | _+4=>simp
structure MapB (r:XD) (s:XH):Prop where
 x0 : -2000000000<=r.map.getD 0 0*s.x/\r.map.getD 0 0*s.x<=2000000000
 x1 : -2000000000<=r.map.getD 1 0*s.y/\r.map.getD 1 0*s.y<=2000000000
 y0 : -2000000000<=r.map.getD 2 0*s.x/\r.map.getD 2 0*s.x<=2000000000
 y1 : -2000000000<=r.map.getD 3 0*s.y/\r.map.getD 3 0*s.y<=2000000000
 d:1<=Ya r s/\Ya r s<=2000000
theorem mapB {r:XD} {s:XH} (B:RoomB r) (hs:Xo s=true) (hd:s.d<=100000):MapB r s:=by
 obtain ⟨h1,h2,h3,_⟩:=ZF.1 hs;have p:=λ i (x:Int) (hx : -100000000<=x/\x<=100000000)=>JE (a:=r.map.getD i 0) (b:=x) (A:=20) (B:=100000000) ⟨by have:=B.m i;omega,by have:=B.m i;omega⟩ ⟨Oz,Oz⟩;have q:=JE (a:=r.div) (b:=s.d) (A:=20) (B:=100000) ⟨by have:=B.div;omega,by have:=B.div;omega⟩ ⟨Oz,Oz⟩;have q0:=Int.mul_pos (show 0<r.div by have:=B.div;omega) (show 0<s.d by omega);have a:=p 0 s.x ⟨Oz,Oz⟩;have b:=p 1 s.y ⟨Oz,Oz⟩;have c:=p 2 s.x ⟨Oz,Oz⟩;have d:=p 3 s.y ⟨Oz,Oz⟩;exact ⟨⟨Oz,Oz⟩,⟨Oz,Oz⟩,⟨Oz,Oz⟩,⟨Oz,Oz⟩,⟨by unfold Ya;omega,by unfold Ya;omega⟩⟩
structure AdmP (r:XD) (s:XH) (h:Half):Prop where
 a : -5000000<=h.a*r.bx/\h.a*r.bx<=5000000
 b : -5000000<=h.b*r.by_/\h.b*r.by_<=5000000
 c : -200000000000000<=h.c*Ya r s/\h.c*Ya r s<=200000000000000
 x : -200000000000000<=h.a*KM r s/\h.a*KM r s<=200000000000000
 y : -200000000000000<=h.b*KT r s/\h.b*KT r s<=200000000000000
 n : -20000000000000<=Ya r s*YO r h/\Ya r s*YO r h<=20000000000000
theorem admP {r:XD} {s:XH} {h:Half} (B:RoomB r) (M:MapB r s) (hh:Xs h=true):AdmP r s h:=by
 obtain ⟨a1,a2,a3,_⟩:=Zk.1 hh;have hd:=M.d;have h0:=M.x0;have h1:=M.x1;have h2:=M.y0;have h3:=M.y1;have p:=JE (a:=h.a) (b:=r.bx) (A:=50000) (B:=100) ⟨Oz,Oz⟩ ⟨by have:=B.bx;omega,by have:=B.bx;omega⟩;have q:=JE (a:=h.b) (b:=r.by_) (A:=50000) (B:=100) ⟨Oz,Oz⟩ ⟨by have:=B.by_;omega,by have:=B.by_;omega⟩;have c:=JE (a:=h.c) (b:=Ya r s) (A:=100000000) (B:=2000000) ⟨Oz,Oz⟩ ⟨Oz,Oz⟩;have x:=JE (a:=h.a) (b:=KM r s) (A:=50000) (B:=4000000000) ⟨Oz,Oz⟩ ⟨by unfold KM;omega,by unfold KM;omega⟩;have y:=JE (a:=h.b) (b:=KT r s) (A:=50000) (B:=4000000000) ⟨Oz,Oz⟩ ⟨by unfold KT;omega,by unfold KT;omega⟩;have n:=JE (a:=Ya r s) (b:=YO r h) (A:=2000000) (B:=10000000) ⟨Oz,Oz⟩ ⟨by unfold YO;omega,by unfold YO;omega⟩;exact ⟨⟨Oz,Oz⟩,⟨Oz,Oz⟩,⟨Oz,Oz⟩,⟨Oz,Oz⟩,⟨Oz,Oz⟩,⟨Oz,Oz⟩⟩
theorem adm_high {r:XD} {s:XH} {h:Half} (P:AdmP r s h) (M:MapB r s) (hn:0<YO r h):(-1000000000000000000<=topA r s h/\topA r s h<=1000000000000000000)/\(1<=Ya r s*YO r h/\Ya r s*YO r h<=1000000000000000):=by
 have:=Int.mul_pos (show 0<Ya r s by have:=M.d;omega) hn;have hc:=P.c;have hx:=P.x;have hy:=P.y;have hp:=P.n;unfold topA;exact ⟨⟨Oz,Oz⟩,⟨Oz,Oz⟩⟩
theorem adm_low {r:XD} {s:XH} {h:Half} (P:AdmP r s h) (M:MapB r s) (hn:YO r h<0):(-1000000000000000000<=-(topA r s h)/\-(topA r s h)<=1000000000000000000)/\(1<=-(Ya r s)*YO r h/\-(Ya r s)*YO r h<=1000000000000000):=by
 have:=Int.mul_pos (show 0<Ya r s by have:=M.d;omega) (show 0 < -(YO r h) by omega);rw [Int.mul_neg] at this;have hc:=P.c;have hx:=P.x;have hy:=P.y;have hp:=P.n;rw [Int.neg_mul];unfold topA;exact ⟨⟨Oz,Oz⟩,⟨Oz,Oz⟩⟩
theorem one_ok {n:Int} (h : -1000<=n/\n<=1000):Xh ⟨n,1⟩=true:=by
 refine Km.2 ⟨⟨Sz,Sz⟩,⟨by simp only;omega,by simp only;omega⟩, ?_⟩;simp
theorem admL_ok {r:XD} {s:XH} {l:List Half} (B:RoomB r) (M:MapB r s) (hl:∀ h∈l,Xs h=true):∀ k,k<=l.length->∀ w,admL r s (l.take k)=some w->Xh w.low=true/\Xh w.high=true
 | 0,_,w,h=>by
  have:=B.low;have:=B.high;cases h;exact ⟨one_ok ⟨Oz,Oz⟩,one_ok ⟨Oz,Oz⟩⟩
 | k+1,hk,w,h=>by
  rw [admL_take Oz] at h;cases e:admL r s (l.take k) with
  | none=>rw [e] at h;cases h
  | some v =>
   rw [e] at h;obtain ⟨h1,h2⟩:=admL_ok B M hl k Oz v e;simp only [Option.bind_some] at h;have P:=admP B M (hl _ (List.getElem_mem (show k<l.length by omega)));unfold Kc at h;split at h
   ·rename_i hn
    cases h;obtain ⟨t,d⟩:=adm_high P M hn;exact ⟨h1,ratioMin_ok h2 (ZE t d).1⟩
   split at h
   ·rename_i hn
    cases h;obtain ⟨t,d⟩:=adm_low P M hn;exact ⟨ratioMax_ok h1 (ZE t d).1,h2⟩
   split at h
   ·cases h
   ·cases h;exact ⟨h1,h2⟩
theorem ratio_In {r:XW} (h:Xh r=true):r.In:=by
 obtain ⟨⟨a,b⟩,⟨c,d⟩,_⟩:=Km.1 h;exact ⟨⟨Oz,Oz⟩,⟨Oz,Oz⟩⟩
def rpOk (r:XD) (p:List Half):Bool:=XJ r&&Xc p&&Zw (Z3 r.noise) p
def Jl (r:XD) (p:List Half):List Half:=if XJ r=true/\Xc p=true then ZD (Z3 r.noise) p else []
def Yh (r:XD) (p:List Half):Bool:=!decide (p.length=0)&&rpOk r p && !decide ((Jl r p).length=0)
theorem rpR_ok (r:XD) (p:List Half):Xc (Jl r p)=true:=by
 unfold Jl;split
 ·exact movR_ok (λ h _ g e=>eroH_ok e)
 ·rfl
def XL (r:XD) (p:List Half) (s:XH):Option YQ:=if Yh r p=true/\Xo s=true then Ym r (Jl r p) s else none
def Ky (A:XH->Option YQ) (l:List XH):Nat->Option YQ
 | 0=>some Xu
 | k+1=>(Ky A l k).bind λ w=>(A (l.getD k Yi)).bind λ v=>if k=0 then some v else JM w v
theorem accS_none {A:XH->Option YQ} {l:List XH} {k:Nat} (h:Ky A l k=none):∀ m,Ky A l (k+m)=none
 | 0=>h
 | m+1=>by
  have:=accS_none h m;show (Ky A l (k+m)).bind _=none;rw [this];rfl
theorem accS_no {A:XH->Option YQ} {l:List XH} {k n:Nat} (h:Ky A l k=none) (hk:k<=n):Ky A l n=none:=by
 obtain ⟨m,rfl⟩:=Nat.le.dest hk;exact accS_none h m
def Je:Option YQ->Value
 | some w=>.tuple #[ZC w,.bool true]
 | none=>.tuple #[ZC Xu,.bool false]
theorem room_noise {r:XD} (h:XJ r=true):Xc r.noise=true/\r.noise≠[]:=by
 simp only [XJ,Bool.and_eq_true] at h;obtain ⟨⟨⟨⟨_,h1⟩,_⟩,h2⟩,_⟩:=h;refine ⟨h2,λ e=>?_⟩;rw [e] at h1;simp at h1
theorem rp_no {r:XD} {p:List Half} (h:XJ r=false∨Xc p=false):rpOk r p=false/\Jl r p=[]:=by
 unfold rpOk Jl;rcases h with h|h
 ·rw [h,if_neg Sz];exact ⟨rfl,rfl⟩
 ·rw [h,if_neg Sz,Bool.and_false];exact ⟨rfl,rfl⟩
theorem rp_yes {r:XD} {p:List Half} (h:XJ r=true) (h2:Xc p=true):rpOk r p=Zw (Z3 r.noise) p/\Jl r p=ZD (Z3 r.noise) p:=by
 unfold rpOk Jl;rw [h,h2,if_pos ⟨rfl,rfl⟩];exact ⟨rfl,rfl⟩
set_option maxRecDepth 100000 in
set_option maxHeartbeats 8000000 in
theorem iRob_c (r:XD) (p:List Half) (a:Y7) (b:Kw) (w:World) (hn:Kt r<=1048576) (hin:JO r) (hs:ZX w r a) (hnl:Jk a) (hlp:p.length<=1048576) (hpi:∀ h∈p,h.In) (hsp:Sl 3 Xe w b.A p) (hnb:b.A=none->b.c=0) :
 Calls Tryz.prog 102 #[X7 r a,Zl p b] w λ e w'=>∃ v,e=.returned (.tuple #[.agg #[v],.bool (rpOk r p)])/\XG 136 3 Xe w' w.heap.size v (Jl r p)/\Below w.heap.size w w':=by
 have c1:=λ W h=>iRoomOk_c r a W hn hin h hnl;have c2:=λ W h=>KE p b W hlp hpi h hnb;obtain ⟨W,hW⟩:∃ W,W=((w.alloc (.cells #[.slice a.map.A (List.length r.map) a.map.c,.int .i64 r.div,.int .i64 r.bx,.int .i64 r.by_,.int .i64 r.low,.int .i64 r.high,.slice a.noise.A (List.length r.noise) a.noise.c,.slice a.limits.A (List.length r.limits) a.limits.c] 28)).alloc (.cells #[.slice b.A p.length b.c] 26)).alloc (.cells #[.slice none 0 0] 26):=⟨_,rfl⟩;have HA:Yd W w.heap.size [.slice a.map.A (List.length r.map) a.map.c,.int .i64 r.div,.int .i64 r.bx,.int .i64 r.by_,.int .i64 r.low,.int .i64 r.high,.slice a.noise.A (List.length r.noise) a.noise.c,.slice a.limits.A (List.length r.limits) a.limits.c]:=by
  rw [hW];exact ZK
 have HB:Yd W (w.heap.size+1) [.slice b.A p.length b.c]:=by
  rw [hW];exact ZK
 have HR:Yd W (w.heap.size+1+1) [.slice none 0 0]:=by
  rw [hW];exact ZK
 have b0:Below w.heap.size w W:=by
  rw [hW];exact Xw
 have zW:w.heap.size+1+1<W.heap.size:=HR.1;have hs0:=hs.below b0;have sp:=hsp.below b0;have hW':=Lib.hid hW;clear hW hs hsp;obtain ⟨cHA_0,fHA_0⟩:=HA.2 0 _ rfl;obtain ⟨cHA_1,fHA_1⟩:=HA.2 1 _ rfl;obtain ⟨cHA_2,fHA_2⟩:=HA.2 2 _ rfl;obtain ⟨cHA_3,fHA_3⟩:=HA.2 3 _ rfl;obtain ⟨cHA_4,fHA_4⟩:=HA.2 4 _ rfl;obtain ⟨cHA_5,fHA_5⟩:=HA.2 5 _ rfl;obtain ⟨cHA_6,fHA_6⟩:=HA.2 6 _ rfl;obtain ⟨cHA_7,fHA_7⟩:=HA.2 7 _ rfl;obtain ⟨cHB_0,fHB_0⟩:=HB.2 0 _ rfl;have lA:=HA.1;have lB:=HB.1;cases e1:XJ r
 ·have hF:=Lib.hid (rp_no (r:=r) (p:=p) (.inl e1));rw [e1] at c1;go_enter Tryz.func102,Tryz.ntmps102
  go_upto_region 1 with fail
  rw [<- hW'.out];clear hW';go_wp2_with (fail)
  refine (c1 _ hs0).mono ?_;rintro e w1 ⟨rfl,hb1⟩;have R9:=HR.below hb1;have b9:=Xf b0 hb1;obtain ⟨cR9_0,fR9_0⟩:=R9.2 0 _ rfl;have lR:=R9.1;go_wp2
  refine bodyPost_ret (v:=.tuple #[.agg #[.slice none 0 0],.bool false]) (by simp [results,Tryz.results102,go_sem,cR9_0]) rfl ⟨.slice none 0 0,by rw [hF.out.1], ?_,YY b9 (by simp only;omega) _⟩;rw [hF.out.2];exact ⟨none,0,rfl,World.ownsRow_nil _ _ _ _⟩
 rw [e1] at c1;cases e2:Xc p
 ·have hF:=Lib.hid (rp_no (r:=r) (p:=p) (.inr e2));rw [e2] at c2;go_enter Tryz.func102,Tryz.ntmps102
  go_upto_region 1 with fail
  rw [<- hW'.out];clear hW';go_wp2_with (fail)
  refine (c1 _ hs0).mono ?_;rintro e w1 ⟨rfl,hb1⟩;have l2:=blt hb1 lB;have r1:=XA hb1;go_wp2_with (fail)
  refine (c2 _ (sp.below hb1)).mono ?_;rintro e w2 ⟨rfl,hb2⟩;have R9:=(HR.below hb1).below hb2;have b9:=Xf (Xf b0 hb1) hb2;obtain ⟨cR9_0,fR9_0⟩:=R9.2 0 _ rfl;have lR:=R9.1;go_wp2
  refine bodyPost_ret (v:=.tuple #[.agg #[.slice none 0 0],.bool false]) (by simp [results,Tryz.results102,go_sem,cR9_0]) rfl ⟨.slice none 0 0,by rw [hF.out.1], ?_,YY b9 (by simp only;omega) _⟩;rw [hF.out.2];exact ⟨none,0,rfl,World.ownsRow_nil _ _ _ _⟩
 rw [e2] at c2;have hF:=Lib.hid (rp_yes e1 e2);have hq:=room_noise e1;have c4:=λ W h1 h2=>iErode_c p r.noise b a.noise W e2 hq.1 hq.2 h1 h2;generalize hok:Zw (Z3 r.noise) p=ok at *;generalize hR:ZD (Z3 r.noise) p=R at *;clear hok hR hq;go_enter Tryz.func102,Tryz.ntmps102
 go_upto_region 1 with fail
 rw [<- hW'.out];clear hW';go_wp2_with (fail)
 refine (c1 _ hs0).mono ?_;rintro e w1 ⟨rfl,hb1⟩;have l1:=blt hb1 lA;have l2:=blt hb1 lB;have r1:=XA hb1;go_wp2_with (fail)
 refine (c2 _ (sp.below hb1)).mono ?_;rintro e w2 ⟨rfl,hb2⟩;have l3:=blt hb2 l1;have l4:=blt hb2 l2;have r2:=XA hb2;have z4:=Nat.lt_of_lt_of_le zW (Nat.le_trans hb1.size hb2.size);go_wp2_with (fail)
 refine (c4 _ ((sp.below hb1).below hb2) ((hs0.below hb1).below hb2).noise.halves).mono ?_;rintro e w4 ⟨v4,rfl,N4,hb4⟩;have R9:=((HR.below hb1).below hb2).below hb4;have b9:=Xf (Xf (Xf b0 hb1) hb2) hb4;obtain ⟨cR9_0,fR9_0⟩:=R9.2 0 _ rfl;have lR:=R9.1;obtain ⟨Av,cv,rfl,o3⟩:=N4;have N5:XG 136 3 Xe w4 w2.heap.size (.slice Av R.length cv) R:=⟨Av,cv,rfl,o3⟩;go_wp2
 refine bodyPost_ret (v:=.tuple #[.agg #[.slice Av R.length cv],.bool ok]) (by simp [results,Tryz.results102,go_sem, *]) rfl ⟨.slice Av R.length cv,by rw [hF.out.1], ?_,YY b9 (by simp only;omega) _⟩;rw [hF.out.2];exact (N5.lowC (q:=⟨w.heap.size+1+1,0,none⟩) (by simp only;omega) [.slice Av R.length cv]).mono Oz
end Go.Proofs.YtbekjpkcicjcgaaGreat
