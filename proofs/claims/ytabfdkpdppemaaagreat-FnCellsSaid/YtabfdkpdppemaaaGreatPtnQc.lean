/-
 Inputs that are admitted keep the next states in the region, whatever the disturbance.
 Conditions: valid rooms.
-/
import Derived.WalkKit
import Derived.Test.YtabfdkpdppemaaaGreatNextMQc
import Derived.Deep.QuietTactic
import Derived.BigQuiet
import Derived.Test.YtabfdkpdppemaaaGreatInp
set_option maxRecDepth 100000
namespace Go.Proofs.YtabfdkpdppemaaaGreat
open Go.RowKit
theorem red_pts {h:Half} {X Y D:Int} {t:XQ} (hD:0<D) (e:Zw X Y D=some t):Zf h X Y D ↔ Zf h t.x t.y t.d:=by
 unfold Zw at e;split at e
 ·cases e
 ·split at e
  ·injection e with e
   subst e;obtain ⟨p,f1,f2,f3⟩:=red_scale (x:=X) (y:=Y) (d:=D) (by omega);generalize ((Xl [X,Y,D]:Nat):Int)=g at *;generalize KS X Y D=t at *;unfold Zf;have e1:h.a*X+h.b*Y=(h.a*t.x+h.b*t.y)*g:=by rw [f1,f2];grind
   have e2:h.c*D=h.c*t.d*g:=by rw [f3];grind
   rw [e1,e2];exact ⟨λ k=>le_cancel p k,λ k=>Int.mul_le_mul_of_nonneg_right k (by omega)⟩
  ·cases e
theorem inP_red {p:List Half} {X Y D:Int} {t:XQ} (hD:0<D) (e:Zw X Y D=some t) (h:InP p X Y D):InP p t.x t.y t.d:=λ k hk=>(red_pts hD e).1 (h k hk)
theorem held_next {r:XK} {p:List Half} {s:XQ} {w:Zg} {u:X5} (e:XH r p s=some w) (hu:1<=u.d) (hb:Btw w u.n u.d) {v t:XQ} (hv:v∈XA r.noise) (ht:nxtO r s u v=some t):Zl p t=true:=by
 obtain ⟨hd,hi⟩:=held e hu hb hv;obtain ⟨hr,hp,hpn,_⟩:=rob_all (admAt_parts e).1;unfold nxtO at ht;split at ht
 ·cases ht
 ·exact holdsB_pt.2 ⟨hpn,inP_red hd ht hi⟩
theorem held_whole {r:XK} {p:List Half} {s:XQ} {w:Zg} {c:Int} (e:XH r p s=some w) (hc : -1000<=c/\c<=1000) (hb:Btw w c 1) (hs:s.d=1) {v:XQ} (hv:v∈XA r.noise) (vd:v.d=1):∃ t,nxtO r s ⟨c,1⟩ v=some t/\Zl p t=true:=by
 obtain ⟨hd,hi⟩:=held (u:=⟨c,1⟩) e (show (1:Int)<=1 by omega) hb hv;obtain ⟨h1,h2,h3⟩:=admAt_parts e;obtain ⟨hr,hp,hpn,_⟩:=rob_all h1;have R:=roomR hr;have o:=(corner_in R.noise hv).2;have D:=(roomB hr).div;have hD:nxtD r s ⟨c,1⟩ v=r.div:=by
  unfold nxtD Ys;rw [hs,vd];simp
 have hf:=reg_frame hp hpn (by omega) hi;have hf2:(-1000*nxtD r s ⟨c,1⟩ v<=nxtX r s ⟨c,1⟩ v/\nxtX r s ⟨c,1⟩ v<=1000*nxtD r s ⟨c,1⟩ v)/\-1000*nxtD r s ⟨c,1⟩ v<=nxtY r s ⟨c,1⟩ v/\nxtY r s ⟨c,1⟩ v<=1000*nxtD r s ⟨c,1⟩ v:=by
  unfold InP at hf;simp only [Y4,List.mem_cons,List.not_mem_nil,or_false,forall_eq_or_imp,forall_eq,Zf] at hf;omega
 have ok:=spotOf_in (x:=nxtX r s ⟨c,1⟩ v) (y:=nxtY r s ⟨c,1⟩ v) (d:=nxtD r s ⟨c,1⟩ v) ⟨by omega,by omega⟩ hf2.1 hf2.2;have hrat:Xe ⟨c,1⟩=true:=whole_ok ⟨by omega,by omega⟩;have bad:nxtBad r s ⟨c,1⟩ v=false:=by
  unfold nxtBad;rw [hr,h2,hrat,o,decide_eq_false (show ¬ s.d > 100000 by omega),decide_eq_false (show ¬ v.d > 1000 by omega),decide_eq_false (show ¬ (1:Int) > 1000 by omega),YX.2 ⟨by simp only;omega,by simp only;omega⟩];rfl
 have hn:nxtO r s ⟨c,1⟩ v=some (KS (nxtX r s ⟨c,1⟩ v) (nxtY r s ⟨c,1⟩ v) (nxtD r s ⟨c,1⟩ v)):=by
  rw [nxt_yes bad];exact ok.1
 exact ⟨_,hn,held_next (u:=⟨c,1⟩) e (show (1:Int)<=1 by omega) hb hv hn⟩
theorem noise1:(XA (boxR 1 1)).all (λ v=>v.d == 1)=true:=by kernel_rfl
theorem noise2:(XA (boxR 2 1)).all (λ v=>v.d == 1)=true:=by kernel_rfl
def Y6 (r:XK) (p e:List Half) (t:Tab) (i j:Int):Option Zg:=accH (Zl p) (YH r e) (Xq t i j) 4
theorem spanC_eq (r:XK) (p e:List Half) (t:Tab) (i j:Int):Y6 r p e t i j=if (Xq t i j).all (Zl p)=true then Jh (YH r e) (Xq t i j) 4 else none:=by
 unfold Y6;rw [accH_eq 4 (by simp [Xq])];rfl
def Jz (w:Zg) (wish:Int):Int:=if KU w.low > Z5 w.high then -1000000 else max (KU w.low) (min (Z5 w.high) wish)
def filC (r:XK) (p e:List Half) (t:Tab) (wish:Int) (ok:Bool) (i j:Int):Int:=if ok=true then (match Y6 r p e t i j with|some w=>Jz w wish|none=>-1000000) else -1000000
def filK (r:XK) (p e:List Half) (t:Tab) (wish:Int) (ok:Bool) (n:Nat):List Int:=(List.range n).map λ(k:Nat)=>filC r p e t wish ok ((k % t.nx.toNat:Nat):Int) ((k / t.nx.toNat:Nat):Int)
theorem filK_len (r:XK) (p e:List Half) (t:Tab) (wish:Int) (ok:Bool) (n:Nat):(filK r p e t wish ok n).length=n:=by unfold filK;rw [List.length_map,List.length_range]
theorem filK_next (r:XK) (p e:List Half) (t:Tab) (wish:Int) (ok:Bool) (n:Nat):filK r p e t wish ok (n+1)=filK r p e t wish ok n++[filC r p e t wish ok ((n % t.nx.toNat:Nat):Int) ((n / t.nx.toNat:Nat):Int)]:=by
 unfold filK;rw [List.range_succ,List.map_append];rfl
theorem filK_row (r:XK) (p e:List Half) (t:Tab) (wish:Int) (ok:Bool) {i j:Nat} (h:i<t.nx.toNat):filK r p e t wish ok (j*t.nx.toNat+i+1)=filK r p e t wish ok (j*t.nx.toNat+i)++[filC r p e t wish ok (i:Int) (j:Int)]:=by
 rw [filK_next];have e1:(j*t.nx.toNat+i) % t.nx.toNat=i:=by rw [Nat.mul_comm,Nat.mul_add_mod,Nat.mod_eq_of_lt h]
 have e2:(j*t.nx.toNat+i) / t.nx.toNat=j:=by rw [Nat.mul_comm,Nat.mul_add_div (by omega),Nat.div_eq_of_lt h,Nat.add_zero]
 rw [e1,e2]
theorem wh_gcd (x y:Int):Xl [x,y,1]=1:=by
 obtain ⟨_,_,h⟩:=@gcdAll_dvd x y 1;have:=Int.natAbs_dvd_natAbs.2 h;simp at this;exact this
theorem wh_ok {x y:Int} (hx : -1000<=x/\x<=1000) (hy : -1000<=y/\y<=1000):Xv ⟨x,y,1⟩=true:=by
 unfold Xv;rw [wh_gcd];simp [Z7];omega
theorem cel_cnr {t:Tab} {i j:Int} (h1:YP t=true) (h2:cellB t i j=true):CellB t i j/\∀ s∈Xq t i j,Xv s=true/\s.d=1:=by
 have hb:=cellB_bd h1 h2;refine ⟨hb, ?_⟩;obtain ⟨g1,g2,g3,g4,g5,_,g7,g8⟩:=KO.1 h1;simp only [cellB,Bool.and_eq_true,decide_eq_true_eq] at h2;have m1:(i+1)*t.step<=t.nx*t.step:=Int.mul_le_mul_of_nonneg_right (by omega) (by omega);have m2:(j+1)*t.step<=t.ny*t.step:=Int.mul_le_mul_of_nonneg_right (by omega) (by omega);rw [Int.add_mul,Int.one_mul] at m1 m2;have b1:=hb.is;have b2:=hb.js;intro s hs;simp only [Xq,List.mem_cons,List.not_mem_nil,or_false] at hs;rcases hs with rfl|rfl|rfl|rfl<;>exact ⟨wh_ok ⟨by omega,by omega⟩ ⟨by omega,by omega⟩,rfl⟩
theorem rob_parts2 {r:XK} {p:List Half} (h:Yi r p=true):X0 r=true/\Xi p=true:=by
 simp only [Yi,rpOk,Bool.and_eq_true] at h;exact ⟨h.1.2.1.1,h.1.2.1.2⟩
theorem filC_off {r:XK} {p e:List Half} {t:Tab} {wish:Int} {i j:Int} {ok:Bool} (h:ok=false):filC r p e t wish ok i j = -1000000:=by unfold filC;rw [if_neg (by rw [h];simp)]
theorem filC_none {r:XK} {p e:List Half} {t:Tab} {wish:Int} {i j:Int} {ok:Bool} (h:(Y6 r p e t i j).isSome=false):filC r p e t wish ok i j = -1000000:=by
 unfold filC;split
 ·cases q:Y6 r p e t i j with
  | none=>rfl
  | some v=>rw [q] at h;cases h
 ·rfl
theorem filC_some {r:XK} {p e:List Half} {t:Tab} {wish:Int} {i j:Int} {ok:Bool} (h0:ok=true) (h:(Y6 r p e t i j).isSome=true):filC r p e t wish ok i j=Jz ((Y6 r p e t i j).getD Xw) wish:=by
 unfold filC;rw [if_pos h0];cases q:Y6 r p e t i j with
 | none=>rw [q] at h;cases h
 | some v=>rfl
def tab0:Tab:=⟨0,0,0,0,0,[]⟩
def JY (r:XK) (p:List Half) (t:Tab) (wish:Int):Bool:=Z7 wish (-1000) 1000&&YP t&&X0 r&&Xi p
def Y5 (r:XK) (p:List Half) (t:Tab) (wish:Int):Tab:=if JY r p t wish=true then ⟨t.x0,t.y0,t.step,t.nx,t.ny,filK r p (Kb r p) t wish (Yi r p) (t.nx.toNat*t.ny.toNat)⟩ else tab0
theorem fil_no {r:XK} {p:List Half} {t:Tab} {wish:Int} (h:JY r p t wish=false):Y5 r p t wish=tab0:=by unfold Y5;rw [if_neg (by rw [h];simp)]
theorem fil_yes {r:XK} {p:List Half} {t:Tab} {wish:Int} (h:JY r p t wish=true):Y5 r p t wish=⟨t.x0,t.y0,t.step,t.nx,t.ny,filK r p (Kb r p) t wish (Yi r p) (t.nx.toNat*t.ny.toNat)⟩:=by unfold Y5;rw [if_pos h]
theorem grid_n {t:Tab} (h:YP t=true):t.nx.toNat*t.ny.toNat<=400/\((t.nx.toNat*t.ny.toNat:Nat):Int)=t.nx*t.ny:=by
 obtain ⟨_,_,_,g4,g5,g6,_⟩:=KO.1 h;have e:((t.nx.toNat*t.ny.toNat:Nat):Int)=t.nx*t.ny:=by
  rw [Int.natCast_mul,Int.toNat_of_nonneg (by omega),Int.toNat_of_nonneg (by omega)]
 exact ⟨by omega,e⟩
theorem fil_le (r:XK) (p:List Half) (t:Tab) (wish:Int):(Y5 r p t wish).cells.length<=400:=by
 unfold Y5;split
 ·rename_i h
  unfold JY at h;simp only [Bool.and_eq_true] at h;rw [filK_len];exact (grid_n h.1.1.2).1
 ·exact Nat.zero_le _
end Go.Proofs.YtabfdkpdppemaaaGreat
