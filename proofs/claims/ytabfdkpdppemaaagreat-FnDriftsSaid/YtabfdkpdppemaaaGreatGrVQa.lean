/-
 The inputs that a region admits. No program is named here.
 Conditions: none.
-/
import Derived.Test.YtabfdkpdppemaaaGreatGrGQa
import Derived.Test.YtabfdkpdppemaaaGreatGrV
namespace Go.Proofs.YtabfdkpdppemaaaGreat
open Go.RowKit
def Yk (r:XH) (h:Half):Int:=h.a*r.bx+h.b*r.by_
def mapX (r:XH) (s:Xz):Int:=r.map.getD 0 0*s.x+r.map.getD 1 0*s.y
def mapY (r:XH) (s:Xz):Int:=r.map.getD 2 0*s.x+r.map.getD 3 0*s.y
def YM (r:XH) (s:Xz):Int:=r.div*s.d
def J6 (r:XH) (s:Xz) (h:Half):Int:=h.c*YM r s-h.a*mapX r s-h.b*mapY r s
def Zr (r:XH) (s:Xz) (w:YT) (h:Half):Option YT :=
 if 0<Yk r h then some ⟨w.low,X0 w.high (XG (J6 r s h) (YM r s*Yk r h))⟩
 else if Yk r h<0 then some ⟨X1 w.low (XG (-(J6 r s h)) (-(YM r s)*Yk r h)),w.high⟩
 else if J6 r s h<0 then none else some w
def JV (r:XH) (s:Xz) (l:List Half):Option YT:=l.foldl (λ o h=>o.bind λ w=>Zr r s w h) (some ⟨⟨r.low,1⟩,⟨r.high,1⟩⟩)
def X9 (r:XH) (e:List Half) (s:Xz):Option YT :=
 if 100000<s.d then none else (JV r s e).bind λ w=>if XQ w=true then some w else none
def KG (a b:YT):Option YT:=if XQ a=true/\XQ b=true/\XQ ⟨X1 a.low b.low,X0 a.high b.high⟩=true then some ⟨X1 a.low b.low,X0 a.high b.high⟩ else none
theorem admL_take {r:XH} {s:Xz} {l:List Half} {k:Nat} (h:k<l.length):JV r s (l.take (k+1))=(JV r s (l.take k)).bind λ w=>Zr r s w l[k]:=by
 unfold JV;rw [YY l k h,List.foldl_append];rfl
theorem admL_none {r:XH} {s:Xz}:∀ (l m:List Half),JV r s l=none->JV r s (l++m)=none:=by
 intro l m h;unfold JV at h ⊢;rw [List.foldl_append,h];clear h;induction m with
 | nil=>rfl
 | cons x t ih=>exact ih
theorem admL_no {r:XH} {s:Xz} {l:List Half} {k:Nat} (_:k<l.length) (h1:JV r s (l.take (k+1))=none):JV r s l=none:=by
 have:=admL_none (l.take (k+1)) (l.drop (k+1)) h1;rwa [List.take_append_drop] at this
structure MapB (r:XH) (s:Xz):Prop where
 x0 : -2000000000<=r.map.getD 0 0*s.x/\r.map.getD 0 0*s.x<=2000000000
 x1 : -2000000000<=r.map.getD 1 0*s.y/\r.map.getD 1 0*s.y<=2000000000
 y0 : -2000000000<=r.map.getD 2 0*s.x/\r.map.getD 2 0*s.x<=2000000000
 y1 : -2000000000<=r.map.getD 3 0*s.y/\r.map.getD 3 0*s.y<=2000000000
 d:1<=YM r s/\YM r s<=2000000
theorem mapB {r:XH} {s:Xz} (B:RoomB r) (hs:XA s=true) (hd:s.d<=100000):MapB r s:=by
 obtain ⟨h1,h2,h3,_⟩:=ZQ.1 hs;have p:=λ i (x:Int) (hx : -100000000<=x/\x<=100000000)=>mulB (a:=r.map.getD i 0) (b:=x) (A:=20) (B:=100000000) ⟨by have:=B.m i;omega,by have:=B.m i;omega⟩ ⟨by omega,by omega⟩;have q:=mulB (a:=r.div) (b:=s.d) (A:=20) (B:=100000) ⟨by have:=B.div;omega,by have:=B.div;omega⟩ ⟨by omega,by omega⟩;have q0:=Int.mul_pos (show 0<r.div by have:=B.div;omega) (show 0<s.d by omega);have a:=p 0 s.x ⟨by omega,by omega⟩;have b:=p 1 s.y ⟨by omega,by omega⟩;have c:=p 2 s.x ⟨by omega,by omega⟩;have d:=p 3 s.y ⟨by omega,by omega⟩;exact ⟨⟨by omega,by omega⟩,⟨by omega,by omega⟩,⟨by omega,by omega⟩,⟨by omega,by omega⟩,⟨by unfold YM;omega,by unfold YM;omega⟩⟩
structure AdmP (r:XH) (s:Xz) (h:Half):Prop where
 a : -5000000<=h.a*r.bx/\h.a*r.bx<=5000000
 b : -5000000<=h.b*r.by_/\h.b*r.by_<=5000000
 c : -200000000000000<=h.c*YM r s/\h.c*YM r s<=200000000000000
 x : -200000000000000<=h.a*mapX r s/\h.a*mapX r s<=200000000000000
 y : -200000000000000<=h.b*mapY r s/\h.b*mapY r s<=200000000000000
 n : -20000000000000<=YM r s*Yk r h/\YM r s*Yk r h<=20000000000000
theorem admP {r:XH} {s:Xz} {h:Half} (B:RoomB r) (M:MapB r s) (hh:Xn h=true):AdmP r s h:=by
 obtain ⟨a1,a2,a3,_⟩:=Ze.1 hh;have hd:=M.d;have h0:=M.x0;have h1:=M.x1;have h2:=M.y0;have h3:=M.y1;have p:=mulB (a:=h.a) (b:=r.bx) (A:=50000) (B:=100) ⟨by omega,by omega⟩ ⟨by have:=B.bx;omega,by have:=B.bx;omega⟩;have q:=mulB (a:=h.b) (b:=r.by_) (A:=50000) (B:=100) ⟨by omega,by omega⟩ ⟨by have:=B.by_;omega,by have:=B.by_;omega⟩;have c:=mulB (a:=h.c) (b:=YM r s) (A:=100000000) (B:=2000000) ⟨by omega,by omega⟩ ⟨by omega,by omega⟩;have x:=mulB (a:=h.a) (b:=mapX r s) (A:=50000) (B:=4000000000) ⟨by omega,by omega⟩ ⟨by unfold mapX;omega,by unfold mapX;omega⟩;have y:=mulB (a:=h.b) (b:=mapY r s) (A:=50000) (B:=4000000000) ⟨by omega,by omega⟩ ⟨by unfold mapY;omega,by unfold mapY;omega⟩;have n:=mulB (a:=YM r s) (b:=Yk r h) (A:=2000000) (B:=10000000) ⟨by omega,by omega⟩ ⟨by unfold Yk;omega,by unfold Yk;omega⟩;exact ⟨⟨by omega,by omega⟩,⟨by omega,by omega⟩,⟨by omega,by omega⟩,⟨by omega,by omega⟩,⟨by omega,by omega⟩,⟨by omega,by omega⟩⟩
theorem adm_high {r:XH} {s:Xz} {h:Half} (P:AdmP r s h) (M:MapB r s) (hn:0<Yk r h):(-1000000000000000000<=J6 r s h/\J6 r s h<=1000000000000000000)/\(1<=YM r s*Yk r h/\YM r s*Yk r h<=1000000000000000):=by
 have:=Int.mul_pos (show 0<YM r s by have:=M.d;omega) hn;have hc:=P.c;have hx:=P.x;have hy:=P.y;have hp:=P.n;unfold J6;exact ⟨⟨by omega,by omega⟩,⟨by omega,by omega⟩⟩
theorem adm_low {r:XH} {s:Xz} {h:Half} (P:AdmP r s h) (M:MapB r s) (hn:Yk r h<0):(-1000000000000000000<=-(J6 r s h)/\-(J6 r s h)<=1000000000000000000)/\(1<=-(YM r s)*Yk r h/\-(YM r s)*Yk r h<=1000000000000000):=by
 have:=Int.mul_pos (show 0<YM r s by have:=M.d;omega) (show 0 < -(Yk r h) by omega);rw [Int.mul_neg] at this;have hc:=P.c;have hx:=P.x;have hy:=P.y;have hp:=P.n;rw [Int.neg_mul];unfold J6;exact ⟨⟨by omega,by omega⟩,⟨by omega,by omega⟩⟩
theorem one_ok {n:Int} (h : -1000<=n/\n<=1000):Xy ⟨n,1⟩=true:=by
 refine KO.2 ⟨⟨by simp,by simp⟩,⟨by simp only;omega,by simp only;omega⟩, ?_⟩;simp
theorem admL_ok {r:XH} {s:Xz} {l:List Half} (B:RoomB r) (M:MapB r s) (hl:∀ h∈l,Xn h=true):∀ k,k<=l.length->∀ w,JV r s (l.take k)=some w->Xy w.low=true/\Xy w.high=true
 | 0,_,w,h=>by
  have:=B.low;have:=B.high;cases h;exact ⟨one_ok ⟨by omega,by omega⟩,one_ok ⟨by omega,by omega⟩⟩
 | k+1,hk,w,h=>by
  rw [admL_take (by omega)] at h;cases e:JV r s (l.take k) with
  | none=>rw [e] at h;cases h
  | some v =>
   rw [e] at h;obtain ⟨h1,h2⟩:=admL_ok B M hl k (by omega) v e;simp only [Option.bind_some] at h;have P:=admP B M (hl _ (List.getElem_mem (show k<l.length by omega)));unfold Zr at h;split at h
   ·rename_i hn
    cases h;obtain ⟨t,d⟩:=adm_high P M hn;exact ⟨h1,ratioMin_ok h2 (ZR t d).1⟩
   split at h
   ·rename_i hn
    cases h;obtain ⟨t,d⟩:=adm_low P M hn;exact ⟨ratioMax_ok h1 (ZR t d).1,h2⟩
   split at h
   ·cases h
   ·cases h;exact ⟨h1,h2⟩
theorem Jq {r:Y3} (h:Xy r=true):r.In:=by
 obtain ⟨⟨a,b⟩,⟨c,d⟩,_⟩:=KO.1 h;exact ⟨⟨by omega,by omega⟩,⟨by omega,by omega⟩⟩
def rpOk (r:XH) (p:List Half):Bool:=XT r&&Xl p&&Ju (Zj r.noise) p
def JD (r:XH) (p:List Half):List Half:=if XT r=true/\Xl p=true then KF (Zj r.noise) p else []
def Yp (r:XH) (p:List Half):Bool:=!decide (p.length=0)&&rpOk r p && !decide ((JD r p).length=0)
theorem rpR_ok (r:XH) (p:List Half):Xl (JD r p)=true:=by
 unfold JD;split
 ·exact movR_ok (λ h _ g e=>eroH_ok e)
 ·rfl
def Kt (r:XH) (p:List Half) (s:Xz):Option YT:=if Yp r p=true/\XA s=true then X9 r (JD r p) s else none
def ZC (A:Xz->Option YT) (l:List Xz):Nat->Option YT
 | 0=>some XC
 | k+1=>(ZC A l k).bind λ w=>(A (l.getD k JH)).bind λ v=>if k=0 then some v else KG w v
def Xq (r:XH) (p:List Half) (s:Xz) (dx dy:Int):Option YT:=(Xa s dx dy).bind λ l=>ZC (Kt r p) l l.length
theorem accS_none {A:Xz->Option YT} {l:List Xz} {k:Nat} (h:ZC A l k=none):∀ m,ZC A l (k+m)=none
 | 0=>h
 | m+1=>by
  have:=accS_none h m;show (ZC A l (k+m)).bind _=none;rw [this];rfl
theorem accS_no {A:Xz->Option YT} {l:List Xz} {k n:Nat} (h:ZC A l k=none) (hk:k<=n):ZC A l n=none:=by
 obtain ⟨m,rfl⟩:=Nat.le.dest hk;exact accS_none h m
def Kh:Option YT->Value
 | some w=>.tuple #[Kg w,.bool true]
 | none=>.tuple #[Kg XC,.bool false]
theorem room_noise {r:XH} (h:XT r=true):Xl r.noise=true/\r.noise≠[]:=by
 simp only [XT,Bool.and_eq_true] at h;obtain ⟨⟨⟨⟨_,h1⟩,_⟩,h2⟩,_⟩:=h;refine ⟨h2,λ e=>?_⟩;rw [e] at h1;simp at h1
theorem rp_no {r:XH} {p:List Half} (h:XT r=false∨Xl p=false):rpOk r p=false/\JD r p=[]:=by
 unfold rpOk JD;rcases h with h|h
 ·rw [h,if_neg (by simp)];exact ⟨rfl,rfl⟩
 ·rw [h,if_neg (by simp),Bool.and_false];exact ⟨rfl,rfl⟩
theorem rp_yes {r:XH} {p:List Half} (h:XT r=true) (h2:Xl p=true):rpOk r p=Ju (Zj r.noise) p/\JD r p=KF (Zj r.noise) p:=by
 unfold rpOk JD;rw [h,h2,if_pos ⟨rfl,rfl⟩];exact ⟨rfl,rfl⟩
set_option maxRecDepth 100000 in
set_option maxHeartbeats 8000000 in
theorem iRob_c (r:XH) (p:List Half) (a:Y7) (b:Kd) (w:World) (hn:ZF r<=1048576) (hin:RoomIn r) (hs:Ke w r a) (hnl:JC a) (hlp:p.length<=1048576) (hpi:∀ h∈p,h.In) (hsp:Sl 3 Xh w b.A p) (hnb:b.A=none->b.c=0) :
 Calls Tryz.prog 191 #[Ye r a,Yu p b] w λ e w'=>∃ v,e=.returned (.tuple #[.agg #[v],.bool (rpOk r p)])/\XI 174 3 Xh w' w.heap.size v (JD r p)/\Below w.heap.size w w':=by
 have c1:=λ W h=>iRoomOk_c r a W hn hin h hnl;have c2:=λ W h=>Kx p b W hlp hpi h hnb;obtain ⟨W,hW⟩:∃ W,W=((w.alloc (.cells #[.slice a.map.A (List.length r.map) a.map.c,.int .i64 r.div,.int .i64 r.bx,.int .i64 r.by_,.int .i64 r.low,.int .i64 r.high,.slice a.noise.A (List.length r.noise) a.noise.c,.slice a.limits.A (List.length r.limits) a.limits.c] 28)).alloc (.cells #[.slice b.A p.length b.c] 26)).alloc (.cells #[.slice none 0 0] 26):=⟨_,rfl⟩;have HA:XR W w.heap.size [.slice a.map.A (List.length r.map) a.map.c,.int .i64 r.div,.int .i64 r.bx,.int .i64 r.by_,.int .i64 r.low,.int .i64 r.high,.slice a.noise.A (List.length r.noise) a.noise.c,.slice a.limits.A (List.length r.limits) a.limits.c]:=by
  rw [hW];exact YX
 have HB:XR W (w.heap.size+1) [.slice b.A p.length b.c]:=by
  rw [hW];exact YX
 have HR:XR W (w.heap.size+1+1) [.slice none 0 0]:=by
  rw [hW];exact YX
 have b0:Below w.heap.size w W:=by
  rw [hW];exact Xi
 have zW:w.heap.size+1+1<W.heap.size:=HR.1;have hs0:=hs.below b0;have sp:=hsp.below b0;have hW':=Lib.hid hW;clear hW hs hsp;obtain ⟨cHA_0,fHA_0⟩:=HA.2 0 _ rfl;obtain ⟨cHA_1,fHA_1⟩:=HA.2 1 _ rfl;obtain ⟨cHA_2,fHA_2⟩:=HA.2 2 _ rfl;obtain ⟨cHA_3,fHA_3⟩:=HA.2 3 _ rfl;obtain ⟨cHA_4,fHA_4⟩:=HA.2 4 _ rfl;obtain ⟨cHA_5,fHA_5⟩:=HA.2 5 _ rfl;obtain ⟨cHA_6,fHA_6⟩:=HA.2 6 _ rfl;obtain ⟨cHA_7,fHA_7⟩:=HA.2 7 _ rfl;obtain ⟨cHB_0,fHB_0⟩:=HB.2 0 _ rfl;have lA:=HA.1;have lB:=HB.1;cases e1:XT r
 ·have hF:=Lib.hid (rp_no (r:=r) (p:=p) (.inl e1));rw [e1] at c1;go_enter Tryz.func191,Tryz.ntmps191
  go_upto_region 1 with fail
  rw [<- hW'.out];clear hW';go_wp2_with (fail)
  refine (c1 _ hs0).mono ?_;rintro e w1 ⟨rfl,hb1⟩;have R9:=HR.below hb1;have b9:=Xf b0 hb1;obtain ⟨cR9_0,fR9_0⟩:=R9.2 0 _ rfl;have lR:=R9.1;go_wp2
  refine bodyPost_ret (v:=.tuple #[.agg #[.slice none 0 0],.bool false]) (by simp [results,Tryz.results191,go_sem,cR9_0]) rfl ⟨.slice none 0 0,by rw [hF.out.1], ?_,Yt b9 (by simp only;omega) _⟩;rw [hF.out.2];exact ⟨none,0,rfl,World.ownsRow_nil _ _ _ _⟩
 rw [e1] at c1;cases e2:Xl p
 ·have hF:=Lib.hid (rp_no (r:=r) (p:=p) (.inr e2));rw [e2] at c2;go_enter Tryz.func191,Tryz.ntmps191
  go_upto_region 1 with fail
  rw [<- hW'.out];clear hW';go_wp2_with (fail)
  refine (c1 _ hs0).mono ?_;rintro e w1 ⟨rfl,hb1⟩;have l2:=blt hb1 lB;have r1:=Xo hb1;go_wp2_with (fail)
  refine (c2 _ (sp.below hb1)).mono ?_;rintro e w2 ⟨rfl,hb2⟩;have R9:=(HR.below hb1).below hb2;have b9:=Xf (Xf b0 hb1) hb2;obtain ⟨cR9_0,fR9_0⟩:=R9.2 0 _ rfl;have lR:=R9.1;go_wp2
  refine bodyPost_ret (v:=.tuple #[.agg #[.slice none 0 0],.bool false]) (by simp [results,Tryz.results191,go_sem,cR9_0]) rfl ⟨.slice none 0 0,by rw [hF.out.1], ?_,Yt b9 (by simp only;omega) _⟩;rw [hF.out.2];exact ⟨none,0,rfl,World.ownsRow_nil _ _ _ _⟩
 rw [e2] at c2;have hF:=Lib.hid (rp_yes e1 e2);have hq:=room_noise e1;have c4:=λ W h1 h2=>iErode_c p r.noise b a.noise W e2 hq.1 hq.2 h1 h2;generalize hok:Ju (Zj r.noise) p=ok at *;generalize hR:KF (Zj r.noise) p=R at *;clear hok hR hq;go_enter Tryz.func191,Tryz.ntmps191
 go_upto_region 1 with fail
 rw [<- hW'.out];clear hW';go_wp2_with (fail)
 refine (c1 _ hs0).mono ?_;rintro e w1 ⟨rfl,hb1⟩;have l1:=blt hb1 lA;have l2:=blt hb1 lB;have r1:=Xo hb1;go_wp2_with (fail)
 refine (c2 _ (sp.below hb1)).mono ?_;rintro e w2 ⟨rfl,hb2⟩;have l3:=blt hb2 l1;have l4:=blt hb2 l2;have r2:=Xo hb2;have z4:=Nat.lt_of_lt_of_le zW (Nat.le_trans hb1.size hb2.size);go_wp2_with (fail)
 refine (c4 _ ((sp.below hb1).below hb2) ((hs0.below hb1).below hb2).noise.halves).mono ?_;rintro e w4 ⟨v4,rfl,N4,hb4⟩;have R9:=((HR.below hb1).below hb2).below hb4;have b9:=Xf (Xf (Xf b0 hb1) hb2) hb4;obtain ⟨cR9_0,fR9_0⟩:=R9.2 0 _ rfl;have lR:=R9.1;obtain ⟨Av,cv,rfl,o3⟩:=N4;have N5:XI 174 3 Xh w4 w2.heap.size (.slice Av R.length cv) R:=⟨Av,cv,rfl,o3⟩;go_wp2
 refine bodyPost_ret (v:=.tuple #[.agg #[.slice Av R.length cv],.bool ok]) (by simp [results,Tryz.results191,go_sem, *]) rfl ⟨.slice Av R.length cv,by rw [hF.out.1], ?_,Yt b9 (by simp only;omega) _⟩;rw [hF.out.2];exact (N5.lowC (q:=⟨w.heap.size+1+1,0,none⟩) (by simp only;omega) [.slice Av R.length cv]).mono (by omega)
end Go.Proofs.YtabfdkpdppemaaaGreat
