/-
 Rooms whose limits are drawn in by a drift: their whole states may drift and stay within the limits.
 Conditions: valid rooms.
-/
import Derived.Test.YtabfdkpdppemaaaGreatPtsQb
namespace Go.Proofs.YtabfdkpdppemaaaGreat
open Go.RowKit
theorem Jy {x y a b:Int} (hx : -1000<=x/\x<=1000) (hy : -1000<=y/\y<=1000) (ha : -100<=a/\a<=100) (hb : -100<=b/\b<=100) (hx2 : -1000<=x+a/\x+a<=1000) (hy2 : -1000<=y+b/\y+b<=1000):Zn ⟨x,y,1⟩ a b=some ⟨x+a,y+b,1⟩:=by
 unfold Zn;rw [if_pos ⟨wspot_ok hx hy,XY.2 ⟨by omega,by omega⟩,XY.2 ⟨by omega,by omega⟩⟩];simp only [Int.mul_one];rw [(spotOf_in (x:=x+a) (y:=y+b) (d:=1) ⟨by omega,by omega⟩ ⟨by omega,by omega⟩ ⟨by omega,by omega⟩).1];unfold ZA;rw [wgcd];simp
theorem box_in {dx dy u v:Int} (hx:1<=dx/\dx<=100) (hy:1<=dy/\dy<=100) (hu : -dx<=u/\u<=dx) (hv : -dy<=v/\v<=dy):InP (Yw dx dy) u v 1:=by
 have e:=(box_meet dx dy).2;have hne:Zg (Xp (YK dx dy))≠[]:=by rw [e];exact boxR_ne hx hy
 rw [<- e,meetR_pts (JU hx hy) hne (by omega)];constructor
 ·intro f hf;simp only [Yh,List.mem_cons,List.not_mem_nil,or_false] at hf;rcases hf with rfl|rfl|rfl|rfl<;>unfold YO<;>simp only<;>omega
 ·intro f hf;simp only [YK,List.mem_cons,List.not_mem_nil,or_false] at hf;rcases hf with rfl|rfl|rfl|rfl<;>unfold YO<;>simp only<;>omega
theorem frame_at {x y:Int} (h:InP Yh x y 1):(-1000<=x/\x<=1000)/\-1000<=y/\y<=1000:=by
 unfold InP at h;simp only [Yh,List.mem_cons,List.not_mem_nil,or_false,forall_eq_or_imp,forall_eq,YO] at h;omega
structure DrawnIn (p L:List Half) (dx dy:Int):Prop where
 ok:Xl L=true
 sub:withinB L p=true
 poss:∀ {x y:Int},InP L x y 1->Xa ⟨x,y,1⟩ dx dy=some (boxS x y dx dy)/\∀ t∈boxS x y dx dy,Zu p t=true
theorem drawn_in {p:List Half} {dx dy:Int} (hp:Xl p=true) (hx:1<=dx/\dx<=100) (hy:1<=dy/\dy<=100) (hne:KF (Zj (Yw dx dy)) p≠[]):DrawnIn p (KF (Zj (Yw dx dy)) p) dx dy:=by
 have hb:=boxR_ok hx hy;have hbn:=boxR_ne hx hy;have ok:Xl (KF (Zj (Yw dx dy)) p)=true:=movR_ok (λ _ _ _ e=>eroH_ok e);have hpn:=(movR_pts (λ _ _ _ e=>eroH_ok e) hne).1;have add:∀ {x y d:Int},0<d->InP (KF (Zj (Yw dx dy)) p) x y d->∀ u v:Int,-dx<=u/\u<=dx->-dy<=v/\v<=dy->InP p (x+u*d) (y+v*d) d:=by
  intro x y d hd hz u v hu hv;have h:=ero_add hb hbn hp hne hd (e:=1) (by omega) hz (box_in hx hy hu hv);simpa using h
 refine ⟨ok,pts_within ok (λ _=>hpn) (λ _ x y d hd hz=>?_),λ{x y} hz=>?_⟩
 ·have h:=add hd hz 0 0 ⟨by omega,by omega⟩ ⟨by omega,by omega⟩;simpa using h
 ·have at_:∀ u v:Int,-dx<=u/\u<=dx->-dy<=v/\v<=dy->InP p (x+u) (y+v) 1:=by
   intro u v hu hv;have h:=add (by omega) hz u v hu hv;simpa using h
  have f:=λ u v hu hv=>frame_at (reg_frame hp hpn (by omega) (at_ u v hu hv));have f0:=f 0 0 ⟨by omega,by omega⟩ ⟨by omega,by omega⟩;have f1:=f (-dx) (-dy) ⟨by omega,by omega⟩ ⟨by omega,by omega⟩;have f2:=f dx (-dy) ⟨by omega,by omega⟩ ⟨by omega,by omega⟩;have f3:=f dx dy ⟨by omega,by omega⟩ ⟨by omega,by omega⟩;have f4:=f (-dx) dy ⟨by omega,by omega⟩ ⟨by omega,by omega⟩;have X : -1000<=x/\x<=1000:=by omega
  have Y : -1000<=y/\y<=1000:=by omega
  constructor
  ·unfold Xa;rw [if_pos ⟨XY.2 ⟨by omega,by omega⟩,XY.2 ⟨by omega,by omega⟩⟩];simp only [shs,sh];rw [Jy X Y ⟨by omega,by omega⟩ ⟨by omega,by omega⟩ f1.1 f1.2,Jy X Y ⟨by omega,by omega⟩ ⟨by omega,by omega⟩ f2.1 f2.2,Jy X Y ⟨by omega,by omega⟩ ⟨by omega,by omega⟩ f3.1 f3.2,Jy X Y ⟨by omega,by omega⟩ ⟨by omega,by omega⟩ f4.1 f4.2];rfl
  ·intro t ht;simp only [boxS,List.mem_cons,List.not_mem_nil,or_false] at ht;rcases ht with rfl|rfl|rfl|rfl
   ·exact holdsB_pt.2 ⟨hpn,at_ _ _ ⟨by omega,by omega⟩ ⟨by omega,by omega⟩⟩
   ·exact holdsB_pt.2 ⟨hpn,at_ _ _ ⟨by omega,by omega⟩ ⟨by omega,by omega⟩⟩
   ·exact holdsB_pt.2 ⟨hpn,at_ _ _ ⟨by omega,by omega⟩ ⟨by omega,by omega⟩⟩
   ·exact holdsB_pt.2 ⟨hpn,at_ _ _ ⟨by omega,by omega⟩ ⟨by omega,by omega⟩⟩
end Go.Proofs.YtabfdkpdppemaaaGreat
