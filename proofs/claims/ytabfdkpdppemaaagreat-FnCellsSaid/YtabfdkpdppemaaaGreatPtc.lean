/-
 Tables that are filled: an input of a cell is admitted at all whole states of the cell.
 Conditions: valid rooms and tables.
-/
import Derived.Test.YtabfdkpdppemaaaGreatPtnQc
import Derived.Deep.QuietTactic
import Derived.BigQuiet
namespace Go.Proofs.YtabfdkpdppemaaaGreat
open Go.RowKit
theorem firstGo_spec {p:Nat->Bool}:∀ f k:Nat,(Kd p f k = -1/\∀ i,k<=i->i<k+f->p i=false)∨∃ i:Nat,Kd p f k=(i:Int)/\k<=i/\i<k+f/\p i=true
 | 0,k=>.inl ⟨by rw [Kd],λ i h1 h2=>by omega⟩
 | f+1,k=>by
  rw [Kd];split
  ·rename_i h
   exact .inr ⟨k,rfl,by omega,by omega,h⟩
  ·rename_i h
   rcases firstGo_spec (p:=p) f (k+1) with ⟨e,a⟩|⟨i,e,a,b,c⟩
   ·refine .inl ⟨e,λ i h1 h2=>?_⟩;by_cases hi:i=k
    ·rw [hi];simpa using h
    ·exact a i (by omega) (by omega)
   ·exact .inr ⟨i,e,by omega,by omega,c⟩
theorem inStrip_iff {n start step:Int} {k:Nat}:JQ n 1 start step k=true ↔ start+k*step<=n/\n<=start+k*step+step:=by
 unfold JQ;simp only [Bool.and_eq_true,decide_eq_true_eq,Int.mul_one]
theorem strip_in {n start step:Int} {c:Nat} (h:0<=Jl n 1 start step c):∃ i:Nat,Jl n 1 start step c=(i:Int)/\i<c/\start+i*step<=n/\n<=start+i*step+step:=by
 unfold Jl at h ⊢;rcases firstGo_spec (p:=JQ n 1 start step) (c-0) 0 with ⟨e,_⟩|⟨i,e,_,b,d⟩
 ·omega
 ·exact ⟨i,e,by omega,inStrip_iff.1 d⟩
theorem strip_ex {n start step:Int} {c:Nat} (hs:0<step) (hc:1<=c) (h1:start<=n) (h2:n<=start+c*step):0<=Jl n 1 start step c:=by
 unfold Jl;rcases firstGo_spec (p:=JQ n 1 start step) (c-0) 0 with ⟨_,a⟩|⟨i,e,_⟩
 ·exfalso;have hd:=Int.emod_add_mul_ediv (n-start) step;have hm:=Int.emod_nonneg (n-start) (show step≠0 by omega);have hl:=Int.emod_lt_of_pos (n-start) hs;have hq:0<=(n-start) / step:=Int.ediv_nonneg (by omega) (by omega);obtain ⟨q,hq2⟩:=Int.eq_ofNat_of_zero_le hq;rw [hq2] at hd;by_cases hk:q<c
  ·have h:=a q (by omega) (by omega);have h3:JQ n 1 start step q=true:=inStrip_iff.2 ⟨by rw [Int.mul_comm];omega,by rw [Int.mul_comm];omega⟩;rw [h] at h3;cases h3
  ·have h:=a (c-1) (by omega) (by omega);have m:step*(c:Int)<=step*(q:Int):=Int.mul_le_mul_of_nonneg_left (by omega) (by omega);have e1:((c-1:Nat):Int)*step=step*(c:Int)-step:=by
    rw [show ((c-1:Nat):Int)=(c:Int)-1 by omega,Int.sub_mul,Int.one_mul,Int.mul_comm]
   have e2:(c:Int)*step=step*(c:Int):=Int.mul_comm _ _;have h3:JQ n 1 start step (c-1)=true:=inStrip_iff.2 ⟨by omega,by omega⟩;rw [h] at h3;cases h3
 ·omega
theorem nearM_btw {w:Zg} (ok:X6 w=true) {wish:Int} (h:Jz w wish≠-1000000):Btw w (Jz w wish) 1:=by
 obtain ⟨a1,a2⟩:=spanOk_r ok;have p1:=KT a1;have p2:=KT a2;unfold Jz at h ⊢;split at h
 ·exact absurd rfl h
 ·rename_i hc
  rw [if_neg hc];unfold KU Z5 at *;rw [if_pos a1,if_pos a2] at *;have c1:=Int.ediv_mul_le (-w.low.n) (show w.low.d≠0 by omega);have c2:=Int.ediv_mul_le w.high.n (show w.high.d≠0 by omega);generalize -w.low.n / w.low.d=a at *;generalize w.high.n / w.high.d=b at *;have k1 : -a*w.low.d<=max (-a) (min b wish)*w.low.d:=Int.mul_le_mul_of_nonneg_right (by omega) (by omega);have k2:max (-a) (min b wish)*w.high.d<=b*w.high.d:=Int.mul_le_mul_of_nonneg_right (by omega) (by omega);have e1 : -a*w.low.d = -(a*w.low.d):=Int.neg_mul _ _;exact ⟨by omega,by omega⟩
theorem cell_adm {r:XK} {p:List Half} {t:Tab} {i j:Int} {w:Zg} (hr:Yi r p=true) (hg:YP t=true) (hc:cellB t i j=true) (e:Y6 r p (Kb r p) t i j=some w) {c:Int} (hb:Btw w c 1) {x y:Int}
 (hx:t.x0+i*t.step<=x/\x<=t.x0+i*t.step+t.step) (hy:t.y0+j*t.step<=y/\y<=t.y0+j*t.step+t.step):(r.low<=c/\c<=r.high)/\Xv ⟨x,y,1⟩=true/\∃ v,XH r p ⟨x,y,1⟩=some v/\Btw v c 1:=by
 obtain ⟨rm,_⟩:=rob_parts2 hr;obtain ⟨B,C⟩:=cel_cnr hg hc;rw [spanC_eq] at e;split at e
 ·obtain ⟨_,hv,hbt⟩:=accS_btw (A:=YH r (Kb r p)) (λ _ _ h=>JV h) 3 w e;obtain ⟨v0,h0⟩:=hv 0 (by omega);obtain ⟨v1,h1⟩:=hv 1 (by omega);obtain ⟨v2,h2⟩:=hv 2 (by omega);obtain ⟨v3,h3⟩:=hv 3 (by omega);have hcn:=(hbt c 1 (by omega)).1 hb;have up:∀ {s:XQ} {v:Zg},Xv s=true->YH r (Kb r p) s=some v->XH r p s=some v:=λ hs h=>by
   unfold XH;rw [if_pos ⟨hr,hs⟩];exact h
  have m0:=up (C _ (by simp [Xq])).1 h0;have m1:=up (C _ (by simp [Xq])).1 h1;have m2:=up (C _ (by simp [Xq])).1 h2;have m3:=up (C _ (by simp [Xq])).1 h3;obtain ⟨k1,k2⟩:=four_adm rm (show (0:Int)<1 by omega) m0 m1 m2 m3 (hcn 0 (by omega) v0 h0) (hcn 1 (by omega) v1 h1) (hcn 2 (by omega) v2 h2) (hcn 3 (by omega) v3 h3) hx hy;have s0:=(C ⟨t.x0+i*t.step,t.y0+j*t.step,1⟩ (by simp [Xq])).1;have s2:=(C ⟨t.x0+i*t.step+t.step,t.y0+j*t.step+t.step,1⟩ (by simp [Xq])).1;have q0:=ZL.1 s0;have q2:=ZL.1 s2;simp only at q0 q2;have hs:Xv ⟨x,y,1⟩=true:=wspot_ok ⟨by omega,by omega⟩ ⟨by omega,by omega⟩;obtain ⟨v,hv2,hv3⟩:=admit_some rm hs (show (1:Int)<=100000 by omega) (ZH (rpR_ok r p)) (show (0:Int)<1 by omega) k1.1 k1.2 k2;exact ⟨⟨by omega,by omega⟩,hs,v,up hs hv2,hv3⟩
 ·cases e
theorem filC_val {r:XK} {p e:List Half} {t:Tab} {wish:Int} {ok:Bool} {i j:Int} (h:filC r p e t wish ok i j≠-1000000):ok=true/\∃ w,Y6 r p e t i j=some w/\filC r p e t wish ok i j=Jz w wish:=by
 rcases Bool.eq_false_or_eq_true ok with h1|h1
 ·refine ⟨h1, ?_⟩;cases e2:Y6 r p e t i j with
  | none=>exact absurd (filC_none (by rw [e2];rfl)) h
  | some w=>exact ⟨w,rfl,by rw [filC_some h1 (by rw [e2];rfl),e2];rfl⟩
 ·exact absurd (filC_off h1) h
theorem fil_cell {r:XK} {p:List Half} {t:Tab} {wish:Int} (h:JY r p t wish=true) {i j:Nat} (hi:(i:Int)<t.nx) (hj:(j:Int)<t.ny) (hc:filC r p (Kb r p) t wish (Yi r p) i j≠-1000000) {x y:Int}
 (hx:t.x0+i*t.step<=x/\x<=t.x0+i*t.step+t.step) (hy:t.y0+j*t.step<=y/\y<=t.y0+j*t.step+t.step) :
 (r.low<=filC r p (Kb r p) t wish (Yi r p) i j/\filC r p (Kb r p) t wish (Yi r p) i j<=r.high)/\Xv ⟨x,y,1⟩=true/\∃ v,XH r p ⟨x,y,1⟩=some v/\Btw v (filC r p (Kb r p) t wish (Yi r p) i j) 1:=by
 obtain ⟨h1,w,h2,h3⟩:=filC_val hc;have hg:YP t=true:=by
  unfold JY at h;simp only [Bool.and_eq_true] at h;exact h.1.1.2
 have hcb:cellB t (i:Int) (j:Int)=true:=by
  unfold cellB;rw [decide_eq_true (show (0:Int)<=i by omega),decide_eq_true hi,decide_eq_true (show (0:Int)<=j by omega),decide_eq_true hj];rfl
 have ok:X6 w=true:=by
  rw [spanC_eq] at h2;split at h2
  ·exact (accS_btw (A:=YH r (Kb r p)) (λ _ _ h=>JV h) 3 w h2).1
  ·cases h2
 rw [h3] at hc ⊢;exact cell_adm h1 hg hcb h2 (nearM_btw ok hc) hx hy
theorem fil_parts {r:XK} {p:List Half} {t:Tab} {wish:Int} (h:JY r p t wish=true):YP t=true/\X0 r=true/\Xi p=true:=by
 unfold JY at h;simp only [Bool.and_eq_true] at h;exact ⟨h.1.1.2,h.1.2,h.2⟩
theorem fil_get {r:XK} {p:List Half} {t:Tab} {wish:Int} (h:JY r p t wish=true) {i j:Nat} (hi:(i:Int)<t.nx) (hj:(j:Int)<t.ny):(Y5 r p t wish).cells.getD (j*t.nx.toNat+i) 0=filC r p (Kb r p) t wish (Yi r p) i j:=by
 rw [fil_yes h];show (filK r p (Kb r p) t wish (Yi r p) (t.nx.toNat*t.ny.toNat)).getD (j*t.nx.toNat+i) 0=_;have hi2:i<t.nx.toNat:=by omega
 have hj2:j<t.ny.toNat:=by omega
 have m:(j+1)*t.nx.toNat<=t.ny.toNat*t.nx.toNat:=Nat.mul_le_mul_right _ (by omega);rw [Nat.succ_mul] at m;have e:t.nx.toNat*t.ny.toNat=t.ny.toNat*t.nx.toNat:=Nat.mul_comm _ _;have hk:j*t.nx.toNat+i<t.nx.toNat*t.ny.toNat:=by omega
 have d1:(j*t.nx.toNat+i) % t.nx.toNat=i:=by
  rw [Nat.mul_comm,Nat.mul_add_mod,Nat.mod_eq_of_lt hi2]
 have d2:(j*t.nx.toNat+i) / t.nx.toNat=j:=by
  rw [Nat.mul_comm,Nat.mul_add_div (by omega),Nat.div_eq_of_lt hi2,Nat.add_zero]
 unfold filK;rw [List.getD_eq_getElem?_getD,List.getElem?_map,List.getElem?_range hk];simp only [Option.map_some,Option.getD_some];rw [d1,d2]
theorem fil_tab {r:XK} {p:List Half} {t:Tab} {wish:Int} (h:JY r p t wish=true):ZG (Y5 r p t wish)=true:=by
 obtain ⟨hg,hr,hp⟩:=fil_parts h;have gn:=grid_n hg;have G:=KO.1 hg;have R:=roomB hr;have len:(Y5 r p t wish).cells.length=t.nx.toNat*t.ny.toNat:=by rw [fil_yes h];exact filK_len _ _ _ _ _ _ _
 have hfil:=fil_yes h;unfold ZG;simp only [Bool.and_eq_true,decide_eq_true_eq];refine ⟨⟨by rw [hfil];exact hg,by rw [len,hfil];exact gn.2⟩, ?_⟩;rw [List.all_eq_true];intro n hn;obtain ⟨k,hk,rfl⟩:=List.getElem_of_mem hn;have hk2:k<t.nx.toNat*t.ny.toNat:=by rw [<- len];exact hk
 have hx:0<t.nx.toNat:=by omega
 have hi:k % t.nx.toNat<t.nx.toNat:=Nat.mod_lt _ hx;have hj:k / t.nx.toNat<t.ny.toNat:=Nat.div_lt_of_lt_mul hk2;have hd:k / t.nx.toNat*t.nx.toNat+k % t.nx.toNat=k:=by rw [Nat.mul_comm];exact Nat.div_add_mod k _
 have e:=fil_get h (i:=k % t.nx.toNat) (j:=k / t.nx.toNat) (by omega) (by omega);rw [hd,getD_el hk] at e;rw [e];unfold cellOk;by_cases hc:filC r p (Kb r p) t wish (Yi r p) ((k % t.nx.toNat:Nat):Int) ((k / t.nx.toNat:Nat):Int) = -1000000
 ·rw [hc];rfl
 ·have st:=G.2.2.1;obtain ⟨⟨b1,b2⟩,_⟩:=fil_cell h (by omega) (by omega) hc (x:=t.x0+((k % t.nx.toNat:Nat):Int)*t.step) (y:=t.y0+((k / t.nx.toNat:Nat):Int)*t.step) ⟨by omega,by omega⟩ ⟨by omega,by omega⟩;have b3:=R.low;have b4:=R.high;rw [YX.2 ⟨by omega,by omega⟩,Bool.or_true]
structure CellAt (t:Tab) (x y:Int) (i j:Nat):Prop where
 cell:X1 t ⟨x,y,1⟩=((i:Int),(j:Int))
 hi:(i:Int)<t.nx
 hj:(j:Int)<t.ny
 hx:t.x0+i*t.step<=x/\x<=t.x0+i*t.step+t.step
 hy:t.y0+j*t.step<=y/\y<=t.y0+j*t.step+t.step
theorem cell_at {t:Tab} {x y:Int} (ht:ZG t=true) (hs:Xv ⟨x,y,1⟩=true):(∃ i j:Nat,CellAt t x y i j)∨(X1 t ⟨x,y,1⟩=(-1,-1)/\¬((t.x0<=x/\x<=t.x0+t.nx*t.step)/\t.y0<=y/\y<=t.y0+t.ny*t.step)):=by
 have G:=KO.1 (tableOk_grid ht);unfold X1;rw [if_pos ⟨ht,hs⟩];simp only;split
 ·rename_i h
  refine .inr ⟨rfl,λ k=>?_⟩;have n1:(t.nx.toNat:Int)=t.nx:=by omega
  have n2:(t.ny.toNat:Int)=t.ny:=by omega
  have s1:=strip_ex (n:=x) (start:=t.x0) (step:=t.step) (c:=t.nx.toNat) (by omega) (by omega) k.1.1 (by rw [n1];exact k.1.2);have s2:=strip_ex (n:=y) (start:=t.y0) (step:=t.step) (c:=t.ny.toNat) (by omega) (by omega) k.2.1 (by rw [n2];exact k.2.2);omega
 ·rename_i h
  obtain ⟨i,e1,a1,b1,c1⟩:=strip_in (n:=x) (start:=t.x0) (step:=t.step) (c:=t.nx.toNat) (by omega);obtain ⟨j,e2,a2,b2,c2⟩:=strip_in (n:=y) (start:=t.y0) (step:=t.step) (c:=t.ny.toNat) (by omega);exact .inl ⟨i,j,⟨by unfold X1;rw [if_pos ⟨ht,hs⟩];simp only;rw [if_neg h,e1,e2],by omega,by omega,⟨b1,c1⟩,⟨b2,c2⟩⟩⟩
end Go.Proofs.YtabfdkpdppemaaaGreat
