/-
 Drifts of whole states: the inputs that a box of states admits are admitted in the box.
 Conditions: valid rooms, whole states near the middle.
-/
import Derived.Test.YtabfdkpdppemaaaGreatPickMQa
import Derived.Test.YtabfdkpdppemaaaGreatV2
namespace Go.Proofs.YtabfdkpdppemaaaGreat
open Go.RowKit
theorem Jo {x y a b:Int} (hx : -900<=x/\x<=900) (hy : -900<=y/\y<=900) (ha : -100<=a/\a<=100) (hb : -100<=b/\b<=100):Zn ⟨x,y,1⟩ a b=some ⟨x+a,y+b,1⟩:=by
 unfold Zn;rw [if_pos ⟨wspot_ok ⟨by omega,by omega⟩ ⟨by omega,by omega⟩,XY.2 ⟨by omega,by omega⟩,XY.2 ⟨by omega,by omega⟩⟩];simp only [Int.mul_one];rw [(spotOf_in (x:=x+a) (y:=y+b) (d:=1) ⟨by omega,by omega⟩ ⟨by omega,by omega⟩ ⟨by omega,by omega⟩).1];unfold ZA;rw [wgcd];simp
structure WholeD (x y dx dy:Int):Prop where
 x : -900<=x/\x<=900
 y : -900<=y/\y<=900
 dx:0<=dx/\dx<=100
 dy:0<=dy/\dy<=100
theorem poss_whole {x y dx dy:Int} (h:WholeD x y dx dy):Xa ⟨x,y,1⟩ dx dy=some (boxS x y dx dy):=by
 have X:=h.x;have Y:=h.y;have A:=h.dx;have B:=h.dy;unfold Xa;rw [if_pos ⟨XY.2 ⟨by omega,by omega⟩,XY.2 ⟨by omega,by omega⟩⟩];simp only [shs,sh];rw [Jo X Y ⟨by omega,by omega⟩ ⟨by omega,by omega⟩,Jo X Y ⟨by omega,by omega⟩ ⟨by omega,by omega⟩,Jo X Y ⟨by omega,by omega⟩ ⟨by omega,by omega⟩,Jo X Y ⟨by omega,by omega⟩ ⟨by omega,by omega⟩];rfl
theorem J2 {r:XH} {p:List Half} {s:Xz} {v:YT} (h:Kt r p s=some v):Yp r p=true/\XA s=true/\X9 r (JD r p) s=some v:=by
 unfold Kt at h;split at h
 ·rename_i k
  exact ⟨k.1,k.2,h⟩
 ·cases h
theorem KM {r:XH} {p:List Half}:∀ t v,Kt r p t=some v->XQ v=true:=λ _ _ h=>admit_spanOk (J2 h).2.2
theorem four_adm {r:XH} {p:List Half} (hr:XT r=true) {x0 x1 y0 y1 n e:Int} (he:0<e) {v0 v1 v2 v3:YT} (h0:Kt r p ⟨x0,y0,1⟩=some v0) (h1:Kt r p ⟨x1,y0,1⟩=some v1) (h2:Kt r p ⟨x1,y1,1⟩=some v2) (h3:Kt r p ⟨x0,y1,1⟩=some v3)
 (b0:Btw v0 n e) (b1:Btw v1 n e) (b2:Btw v2 n e) (b3:Btw v3 n e) {x y:Int} (hx:x0<=x/\x<=x1) (hy:y0<=y/\y<=y1):(r.low*e<=n/\n<=r.high*e)/\∀ h∈JD r p,AdmH r ⟨x,y,1⟩ h n e:=by
 have hE:=Km (rpR_ok r p);have g:=λ{t:Xz} {v:YT} (h:Kt r p t=some v) (b:Btw v n e)=>((admit_btw hr (J2 h).2.1 hE (J2 h).2.2).btw n e he).1 b;exact ⟨(g h0 b0).1,λ h hh=>box_adm hx hy ((g h0 b0).2 h hh) ((g h1 b1).2 h hh) ((g h2 b2).2 h hh) ((g h3 b3).2 h hh)⟩
theorem drift_acc {r:XH} {p:List Half} {x y dx dy:Int} (W:WholeD x y dx dy):Xq r p ⟨x,y,1⟩ dx dy=ZC (Kt r p) (boxS x y dx dy) 4:=by
 unfold Xq;rw [poss_whole W,Option.bind_some];rfl
theorem drift_at {r:XH} {p:List Half} (hr:XT r=true) {x y dx dy:Int} (W:WholeD x y dx dy) {w:YT} (h:Xq r p ⟨x,y,1⟩ dx dy=some w) {a b:Int} (ha : -dx<=a/\a<=dx) (hb : -dy<=b/\b<=dy) :
 ∃ v,Kt r p ⟨x+a,y+b,1⟩=some v/\∀ n e,0<e->Btw w n e->Btw v n e:=by
 have X:=W.x;have Y:=W.y;have A:=W.dx;have B:=W.dy;rw [drift_acc W] at h;obtain ⟨ok,hv,hbt⟩:=accS_btw KM 3 w h;obtain ⟨v0,h0⟩:=hv 0 (by omega);obtain ⟨v1,h1⟩:=hv 1 (by omega);obtain ⟨v2,h2⟩:=hv 2 (by omega);obtain ⟨v3,h3⟩:=hv 3 (by omega);have hrob:=(J2 h0).1;have key:∀ n e,0<e->Btw w n e->(r.low*e<=n/\n<=r.high*e)/\∀ f∈JD r p,AdmH r ⟨x+a,y+b,1⟩ f n e:=by
  intro n e he hb2;have hc:=(hbt n e he).1 hb2;exact four_adm hr he h0 h1 h2 h3 (hc 0 (by omega) v0 h0) (hc 1 (by omega) v1 h1) (hc 2 (by omega) v2 h2) (hc 3 (by omega) v3 h3) ⟨by omega,by omega⟩ ⟨by omega,by omega⟩
 have hs:XA ⟨x+a,y+b,1⟩=true:=wspot_ok ⟨by omega,by omega⟩ ⟨by omega,by omega⟩;have hE:=Km (rpR_ok r p);have lp:=Jn (Kv ok).1;obtain ⟨⟨k1,k2⟩,k3⟩:=key w.low.n w.low.d (by omega) (btw_low ok);obtain ⟨v,hv2,_⟩:=admit_some hr hs (show (1:Int)<=100000 by omega) hE (by omega) k1 k2 k3;refine ⟨v,by unfold Kt;rw [if_pos ⟨hrob,hs⟩];exact hv2,λ n e he hb2=>?_⟩;exact ((admit_btw hr hs hE hv2).btw n e he).2 (key n e he hb2)
theorem drift_mono {r:XH} {p:List Half} (hr:XT r=true) {x y dx dy k m:Int} (W:WholeD x y k m) (hx:0<=dx/\dx<=k) (hy:0<=dy/\dy<=m) (h:(Xq r p ⟨x,y,1⟩ k m).isSome=true):(Xq r p ⟨x,y,1⟩ dx dy).isSome=true:=by
 obtain ⟨w,hw⟩:=Option.isSome_iff_exists.1 h;have K:=W.dx;have M:=W.dy;have W2:WholeD x y dx dy:=⟨W.x,W.y,⟨by omega,by omega⟩,⟨by omega,by omega⟩⟩;have ok:XQ w=true:=by
  rw [drift_acc W] at hw;exact (accS_btw KM 3 w hw).1
 have lp:=Jn (Kv ok).1;have at_:∀ a b:Int,-k<=a/\a<=k->-m<=b/\b<=m->∃ v,Kt r p ⟨x+a,y+b,1⟩=some v/\Btw v w.low.n w.low.d:=by
  intro a b ha hb;obtain ⟨v,h1,h2⟩:=drift_at hr W hw ha hb;exact ⟨v,h1,h2 _ _ (by omega) (btw_low ok)⟩
 obtain ⟨u,hu,_⟩:=accS_some (A:=Kt r p) (l:=boxS x y dx dy) KM (n:=w.low.n) (e:=w.low.d) (by omega) 3 (λ i hi=>by
  obtain rfl|rfl|rfl|rfl:i=0∨i=1∨i=2∨i=3:=by omega
  ·exact at_ (-dx) (-dy) ⟨by omega,by omega⟩ ⟨by omega,by omega⟩
  ·exact at_ dx (-dy) ⟨by omega,by omega⟩ ⟨by omega,by omega⟩
  ·exact at_ dx dy ⟨by omega,by omega⟩ ⟨by omega,by omega⟩
  ·exact at_ (-dx) dy ⟨by omega,by omega⟩ ⟨by omega,by omega⟩)
 rw [drift_acc W2,hu];rfl
theorem cmp_ge {r s:Y3} (hr:Xy r=true) (hs:Xy s=true) (h:s.n*r.d<=r.n*s.d):0<=XK r s:=by
 rw [cmp_def hr hs,gsgn_ge];omega
theorem drift_in {r:XH} {p:List Half} (hr:XT r=true) {x y dx dy:Int} (W:WholeD x y dx dy) {w:YT} (h:Xq r p ⟨x,y,1⟩ dx dy=some w) {a b:Int} (ha : -dx<=a/\a<=dx) (hb : -dy<=b/\b<=dy) :
 ∃ v,Kt r p ⟨x+a,y+b,1⟩=some v/\XK v.low w.low<=0/\0<=XK v.high w.high:=by
 obtain ⟨v,h1,h2⟩:=drift_at hr W h ha hb;have ok:XQ w=true:=by
  rw [drift_acc W] at h;exact (accS_btw KM 3 w h).1
 have vk:=KM _ _ h1;obtain ⟨a1,a2⟩:=Kv ok;obtain ⟨c1,c2⟩:=Kv vk;have p1:=Jn a1;have p2:=Jn a2;exact ⟨v,h1,(cmp_le c1 a1).2 (h2 _ _ (by omega) (btw_low ok)).1,cmp_ge c2 a2 (h2 _ _ (by omega) (btw_high ok)).2⟩
theorem largG_spec {f:Int->Bool}:∀ n:Nat,-1<=KI f n/\KI f n<=n-1/\(0<=KI f n->f (KI f n)=true)/\∀ k:Int,0<=k->k<n->f k=true->k<=KI f n
 | 0=>⟨by simp [KI],by simp [KI],λ h=>by simp [KI] at h,λ k h1 h2 _=>by omega⟩
 | n+1=>by
  obtain ⟨h1,h2,h3,h4⟩:=largG_spec (f:=f) n;rw [KI];split
  ·rename_i h
   exact ⟨by omega,by omega,λ _=>h,λ k a b _=>by omega⟩
  ·rename_i h
   refine ⟨h1,by omega,h3,λ k a b c=>?_⟩;by_cases e:k=(n:Int)
   ·rw [e] at c;exact absurd c h
   ·exact h4 k a (by omega) c
theorem larg_no {r:XH} {p:List Half} (hr:XT r=true) {x y dx dy:Int} (W:WholeD x y dx dy) (h3:dx<=3/\dy<=3) (h:(Xq r p ⟨x,y,1⟩ dx dy).isSome=false):Zy r p ⟨x,y,1⟩ 3<max dx dy:=by
 have e:Zy r p ⟨x,y,1⟩ 3=KI (λ n=>(Xq r p ⟨x,y,1⟩ n n).isSome) 4:=if_pos (by decide);rw [e];obtain ⟨g1,g2,g3,_⟩:=largG_spec (f:=λ n=>(Xq r p ⟨x,y,1⟩ n n).isSome) 4;generalize KI (λ n=>(Xq r p ⟨x,y,1⟩ n n).isSome) 4=m at *;have A:=W.dx;have B:=W.dy;by_cases hm:m<max dx dy
 ·exact hm
 ·have h5:=drift_mono (p:=p) hr (x:=x) (y:=y) (dx:=dx) (dy:=dy) (k:=m) (m:=m) ⟨W.x,W.y,⟨by omega,by omega⟩,⟨by omega,by omega⟩⟩ ⟨by omega,by omega⟩ ⟨by omega,by omega⟩ (g3 (by omega));rw [h] at h5;cases h5
theorem larg_yes {r:XH} {p:List Half} (hr:XT r=true) {x y dx dy:Int} (W:WholeD x y dx dy) (h3:dx<=3/\dy<=3) (h:(Xq r p ⟨x,y,1⟩ dx dy).isSome=true):min dx dy<=Zy r p ⟨x,y,1⟩ 3/\Zy r p ⟨x,y,1⟩ 3<=3:=by
 have e:Zy r p ⟨x,y,1⟩ 3=KI (λ n=>(Xq r p ⟨x,y,1⟩ n n).isSome) 4:=if_pos (by decide);rw [e];obtain ⟨g1,g2,g3,g4⟩:=largG_spec (f:=λ n=>(Xq r p ⟨x,y,1⟩ n n).isSome) 4;have A:=W.dx;have B:=W.dy;refine ⟨g4 (min dx dy) (by omega) (by omega) ?_,by omega⟩;exact drift_mono hr W ⟨by omega,by omega⟩ ⟨by omega,by omega⟩ h
end Go.Proofs.YtabfdkpdppemaaaGreat
