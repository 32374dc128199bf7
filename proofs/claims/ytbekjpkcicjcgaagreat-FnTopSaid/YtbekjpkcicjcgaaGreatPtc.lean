/-
 Tables that are filled: an input of a cell is admitted at all whole states of the cell.
 Conditions: valid rooms and tables.
-/
import Derived.Test.YtbekjpkcicjcgaaGreatCellS
import Derived.Test.YtbekjpkcicjcgaaGreatGrY
namespace Go.Proofs.YtbekjpkcicjcgaaGreat
open Go.RowKit
theorem firstGo_spec {p:Nat->Bool}:∀ f k:Nat,(Ka p f k = -1/\∀ i,k<=i->i<k+f->p i=false)∨∃ i:Nat,Ka p f k=(i:Int)/\k<=i/\i<k+f/\p i=true
 | 0,k=>.inl ⟨by rw [Ka],λ i h1 h2=>Oz⟩
 | f+1,k=>by
  rw [Ka];split
  ·rename_i h
   exact .inr ⟨k,rfl,Oz,Oz,h⟩
  ·rename_i h
   rcases firstGo_spec (p:=p) f (k+1) with ⟨e,a⟩|⟨i,e,a,b,c⟩
   ·refine .inl ⟨e,λ i h1 h2=>?_⟩;by_cases hi:i=k
    ·rw [hi];simpa using h
    ·exact a i Oz Oz
   ·exact .inr ⟨i,e,Oz,Oz,c⟩
theorem inStrip_iff {n start step:Int} {k:Nat}:KZ n 1 start step k=true ↔ start+k*step<=n/\n<=start+k*step+step:=by
 unfold KZ;simp only [Bool.and_eq_true,decide_eq_true_eq,Int.mul_one]
theorem strip_in {n start step:Int} {c:Nat} (h:0<=KK n 1 start step c):∃ i:Nat,KK n 1 start step c=(i:Int)/\i<c/\start+i*step<=n/\n<=start+i*step+step:=by
 unfold KK at h ⊢;rcases firstGo_spec (p:=KZ n 1 start step) (c-0) 0 with ⟨e,_⟩|⟨i,e,_,b,d⟩
 ·omega
 ·exact ⟨i,e,Oz,inStrip_iff.1 d⟩
theorem strip_ex {n start step:Int} {c:Nat} (hs:0<step) (hc:1<=c) (h1:start<=n) (h2:n<=start+c*step):0<=KK n 1 start step c:=by
 unfold KK;rcases firstGo_spec (p:=KZ n 1 start step) (c-0) 0 with ⟨_,a⟩|⟨i,e,_⟩
 ·exfalso;have hd:=Int.emod_add_mul_ediv (n-start) step;have hm:=Int.emod_nonneg (n-start) (show step≠0 by omega);have hl:=Int.emod_lt_of_pos (n-start) hs;have hq:0<=(n-start) / step:=Int.ediv_nonneg Oz Oz;obtain ⟨q,hq2⟩:=Int.eq_ofNat_of_zero_le hq;rw [hq2] at hd;by_cases hk:q<c
  ·have h:=a q Oz Oz;have h3:KZ n 1 start step q=true:=inStrip_iff.2 ⟨by rw [Int.mul_comm];omega,by rw [Int.mul_comm];omega⟩;rw [h] at h3;cases h3
  ·have h:=a (c-1) Oz Oz;have m:step*(c:Int)<=step*(q:Int):=Int.mul_le_mul_of_nonneg_left Oz Oz;have e1:((c-1:Nat):Int)*step=step*(c:Int)-step:=by
    rw [show ((c-1:Nat):Int)=(c:Int)-1 by omega,Int.sub_mul,Int.one_mul,Int.mul_comm]
   have e2:(c:Int)*step=step*(c:Int):=Int.mul_comm _ _;have h3:KZ n 1 start step (c-1)=true:=inStrip_iff.2 ⟨Oz,Oz⟩;rw [h] at h3;cases h3
 ·omega
theorem nearM_btw {w:YQ} (ok:XN w=true) {wish:Int} (h:KG w wish≠-1000000):Btw w (KG w wish) 1:=by
 obtain ⟨a1,a2⟩:=JA ok;have p1:=JZ a1;have p2:=JZ a2;unfold KG at h ⊢;split at h
 ·exact absurd rfl h
 ·rename_i hc
  rw [if_neg hc];unfold Yf XT at *;rw [if_pos a1,if_pos a2] at *;have c1:=Int.ediv_mul_le (-w.low.n) (show w.low.d≠0 by omega);have c2:=Int.ediv_mul_le w.high.n (show w.high.d≠0 by omega);generalize -w.low.n / w.low.d=a at *;generalize w.high.n / w.high.d=b at *;have k1 : -a*w.low.d<=max (-a) (min b wish)*w.low.d:=Int.mul_le_mul_of_nonneg_right Oz Oz;have k2:max (-a) (min b wish)*w.high.d<=b*w.high.d:=Int.mul_le_mul_of_nonneg_right Oz Oz;have e1 : -a*w.low.d = -(a*w.low.d):=Int.neg_mul _ _;exact ⟨Oz,Oz⟩
theorem cell_adm {r:XD} {p:List Half} {t:JJ} {i j:Int} {w:YQ} (hr:Yh r p=true) (hg:Yw t=true) (hc:cellB t i j=true) (e:YC r p (Jm r p) t i j=some w) {c:Int} (hb:Btw w c 1) {x y:Int}
 (hx:t.x0+i*t.step<=x/\x<=t.x0+i*t.step+t.step) (hy:t.y0+j*t.step<=y/\y<=t.y0+j*t.step+t.step):(r.low<=c/\c<=r.high)/\Xo ⟨x,y,1⟩=true/\∃ v,XL r p ⟨x,y,1⟩=some v/\Btw v c 1:=by
 obtain ⟨rm,_⟩:=rob_parts2 hr;obtain ⟨B,C⟩:=cel_cnr hg hc;rw [spanC_eq] at e;split at e
 ·obtain ⟨_,hv,hbt⟩:=accS_btw (A:=Ym r (Jm r p)) (λ _ _ h=>Jb h) 3 w e;obtain ⟨v0,h0⟩:=hv 0 Oz;obtain ⟨v1,h1⟩:=hv 1 Oz;obtain ⟨v2,h2⟩:=hv 2 Oz;obtain ⟨v3,h3⟩:=hv 3 Oz;have hcn:=(hbt c 1 Oz).1 hb;have up:∀ {s:XH} {v:YQ},Xo s=true->Ym r (Jm r p) s=some v->XL r p s=some v:=λ hs h=>by
   unfold XL;rw [if_pos ⟨hr,hs⟩];exact h
  have m0:=up (C _ (by simp [Xg])).1 h0;have m1:=up (C _ (by simp [Xg])).1 h1;have m2:=up (C _ (by simp [Xg])).1 h2;have m3:=up (C _ (by simp [Xg])).1 h3;obtain ⟨k1,k2⟩:=four_adm rm (show (0:Int)<1 by omega) m0 m1 m2 m3 (hcn 0 Oz v0 h0) (hcn 1 Oz v1 h1) (hcn 2 Oz v2 h2) (hcn 3 Oz v3 h3) hx hy;have s0:=(C ⟨t.x0+i*t.step,t.y0+j*t.step,1⟩ (by simp [Xg])).1;have s2:=(C ⟨t.x0+i*t.step+t.step,t.y0+j*t.step+t.step,1⟩ (by simp [Xg])).1;have q0:=ZF.1 s0;have q2:=ZF.1 s2;simp only at q0 q2;have hs:Xo ⟨x,y,1⟩=true:=wspot_ok ⟨Oz,Oz⟩ ⟨Oz,Oz⟩;obtain ⟨v,hv2,hv3⟩:=admit_some rm hs (show (1:Int)<=100000 by omega) (Zp (rpR_ok r p)) (show (0:Int)<1 by omega) k1.1 k1.2 k2;exact ⟨⟨Oz,Oz⟩,hs,v,up hs hv2,hv3⟩
 ·cases e
theorem filC_val {r:XD} {p e:List Half} {t:JJ} {wish:Int} {ok:Bool} {i j:Int} (h:filC r p e t wish ok i j≠-1000000):ok=true/\∃ w,YC r p e t i j=some w/\filC r p e t wish ok i j=KG w wish:=by
 rcases Bool.eq_false_or_eq_true ok with h1|h1
 ·refine ⟨h1, ?_⟩;cases e2:YC r p e t i j with
  | none=>exact absurd (filC_none (by rw [e2];rfl)) h
  | some w=>exact ⟨w,rfl,by rw [filC_some h1 (by rw [e2];rfl),e2];rfl⟩
 ·exact absurd (filC_off h1) h
theorem fil_cell {r:XD} {p:List Half} {t:JJ} {wish:Int} (h:KX r p t wish=true) {i j:Nat} (hi:(i:Int)<t.nx) (hj:(j:Int)<t.ny) (hc:filC r p (Jm r p) t wish (Yh r p) i j≠-1000000) {x y:Int}
 (hx:t.x0+i*t.step<=x/\x<=t.x0+i*t.step+t.step) (hy:t.y0+j*t.step<=y/\y<=t.y0+j*t.step+t.step) :
 (r.low<=filC r p (Jm r p) t wish (Yh r p) i j/\filC r p (Jm r p) t wish (Yh r p) i j<=r.high)/\Xo ⟨x,y,1⟩=true/\∃ v,XL r p ⟨x,y,1⟩=some v/\Btw v (filC r p (Jm r p) t wish (Yh r p) i j) 1:=by
 obtain ⟨h1,w,h2,h3⟩:=filC_val hc;have hg:Yw t=true:=by
  unfold KX at h;simp only [Bool.and_eq_true] at h;exact h.1.1.2
 have hcb:cellB t (i:Int) (j:Int)=true:=by
  unfold cellB;rw [decide_eq_true (show (0:Int)<=i by omega),decide_eq_true hi,decide_eq_true (show (0:Int)<=j by omega),decide_eq_true hj];rfl
 have ok:XN w=true:=by
  rw [spanC_eq] at h2;split at h2
  ·exact (accS_btw (A:=Ym r (Jm r p)) (λ _ _ h=>Jb h) 3 w h2).1
  ·cases h2
 rw [h3] at hc ⊢;exact cell_adm h1 hg hcb h2 (nearM_btw ok hc) hx hy
theorem fil_parts {r:XD} {p:List Half} {t:JJ} {wish:Int} (h:KX r p t wish=true):Yw t=true/\XJ r=true/\Xc p=true:=by
 unfold KX at h;simp only [Bool.and_eq_true] at h;exact ⟨h.1.1.2,h.1.2,h.2⟩
theorem fil_get {r:XD} {p:List Half} {t:JJ} {wish:Int} (h:KX r p t wish=true) {i j:Nat} (hi:(i:Int)<t.nx) (hj:(j:Int)<t.ny):(Yy r p t wish).cells.getD (j*t.nx.toNat+i) 0=filC r p (Jm r p) t wish (Yh r p) i j:=by
 rw [fil_yes h];show (filK r p (Jm r p) t wish (Yh r p) (t.nx.toNat*t.ny.toNat)).getD (j*t.nx.toNat+i) 0=_;have hi2:i<t.nx.toNat:=Oz
 have hj2:j<t.ny.toNat:=Oz
 have m:(j+1)*t.nx.toNat<=t.ny.toNat*t.nx.toNat:=Nat.mul_le_mul_right _ Oz;rw [Nat.succ_mul] at m;have e:t.nx.toNat*t.ny.toNat=t.ny.toNat*t.nx.toNat:=Nat.mul_comm _ _;have hk:j*t.nx.toNat+i<t.nx.toNat*t.ny.toNat:=Oz
 have d1:(j*t.nx.toNat+i) % t.nx.toNat=i:=by
  rw [Nat.mul_comm,Nat.mul_add_mod,Nat.mod_eq_of_lt hi2]
 have d2:(j*t.nx.toNat+i) / t.nx.toNat=j:=by
  rw [Nat.mul_comm,Nat.mul_add_div Oz,Nat.div_eq_of_lt hi2,Nat.add_zero]
 unfold filK;rw [List.getD_eq_getElem?_getD,List.getElem?_map,List.getElem?_range hk];simp only [Option.map_some,Option.getD_some];rw [d1,d2]
theorem fil_tab {r:XD} {p:List Half} {t:JJ} {wish:Int} (h:KX r p t wish=true):ZZ (Yy r p t wish)=true:=by
 obtain ⟨hg,hr,hp⟩:=fil_parts h;have gn:=grid_n hg;have G:=Kg.1 hg;have R:=JY hr;have len:(Yy r p t wish).cells.length=t.nx.toNat*t.ny.toNat:=by rw [fil_yes h];exact filK_len _ _ _ _ _ _ _
 have hfil:=fil_yes h;unfold ZZ;simp only [Bool.and_eq_true,decide_eq_true_eq];refine ⟨⟨by rw [hfil];exact hg,by rw [len,hfil];exact gn.2⟩, ?_⟩;rw [List.all_eq_true];intro n hn;obtain ⟨k,hk,rfl⟩:=List.getElem_of_mem hn;have hk2:k<t.nx.toNat*t.ny.toNat:=by rw [<- len];exact hk
 have hx:0<t.nx.toNat:=Oz
 have hi:k % t.nx.toNat<t.nx.toNat:=Nat.mod_lt _ hx;have hj:k / t.nx.toNat<t.ny.toNat:=Nat.div_lt_of_lt_mul hk2;have hd:k / t.nx.toNat*t.nx.toNat+k % t.nx.toNat=k:=by rw [Nat.mul_comm];exact Nat.div_add_mod k _
 have e:=fil_get h (i:=k % t.nx.toNat) (j:=k / t.nx.toNat) Oz Oz;rw [hd,getD_el hk] at e;rw [e];unfold cellOk;by_cases hc:filC r p (Jm r p) t wish (Yh r p) ((k % t.nx.toNat:Nat):Int) ((k / t.nx.toNat:Nat):Int) = -1000000
 ·rw [hc];rfl
 ·have st:=G.2.2.1;obtain ⟨⟨b1,b2⟩,_⟩:=fil_cell h Oz Oz hc (x:=t.x0+((k % t.nx.toNat:Nat):Int)*t.step) (y:=t.y0+((k / t.nx.toNat:Nat):Int)*t.step) ⟨Oz,Oz⟩ ⟨Oz,Oz⟩;have b3:=R.low;have b4:=R.high;rw [Y3.2 ⟨Oz,Oz⟩,Bool.or_true]
structure CellAt (t:JJ) (x y:Int) (i j:Nat):Prop where
 cell:Zz t ⟨x,y,1⟩=((i:Int),(j:Int))
 hi:(i:Int)<t.nx
 hj:(j:Int)<t.ny
 hx:t.x0+i*t.step<=x/\x<=t.x0+i*t.step+t.step
 hy:t.y0+j*t.step<=y/\y<=t.y0+j*t.step+t.step
theorem cell_at {t:JJ} {x y:Int} (ht:ZZ t=true) (hs:Xo ⟨x,y,1⟩=true):(∃ i j:Nat,CellAt t x y i j)∨(Zz t ⟨x,y,1⟩=(-1,-1)/\¬((t.x0<=x/\x<=t.x0+t.nx*t.step)/\t.y0<=y/\y<=t.y0+t.ny*t.step)):=by
 have G:=Kg.1 (tableOk_grid ht);unfold Zz;rw [if_pos ⟨ht,hs⟩];simp only;split
 ·rename_i h
  refine .inr ⟨rfl,λ k=>?_⟩;have n1:(t.nx.toNat:Int)=t.nx:=Oz
  have n2:(t.ny.toNat:Int)=t.ny:=Oz
  have s1:=strip_ex (n:=x) (start:=t.x0) (step:=t.step) (c:=t.nx.toNat) Oz Oz k.1.1 (by rw [n1];exact k.1.2);have s2:=strip_ex (n:=y) (start:=t.y0) (step:=t.step) (c:=t.ny.toNat) Oz Oz k.2.1 (by rw [n2];exact k.2.2);omega
 ·rename_i h
  obtain ⟨i,e1,a1,b1,c1⟩:=strip_in (n:=x) (start:=t.x0) (step:=t.step) (c:=t.nx.toNat) Oz;obtain ⟨j,e2,a2,b2,c2⟩:=strip_in (n:=y) (start:=t.y0) (step:=t.step) (c:=t.ny.toNat) Oz;exact .inl ⟨i,j,⟨by unfold Zz;rw [if_pos ⟨ht,hs⟩];simp only;rw [if_neg h,e1,e2],Oz,Oz,⟨b1,c1⟩,⟨b2,c2⟩⟩⟩
def hasS (p:List Half) (s:XH):Bool:=!decide (p.length=0)&&Xo s&&Xc p&&YL p s
variable {r:XD} {p:List Half} {s:XH} {ws:List Int} {ns:List XH}
theorem spotOf_ok {x y d:Int} {t:XH} (h:Y9 x y d=some t):Xo t=true:=by
 unfold Y9 at h;split at h
 ·cases h
 ·split at h
  ·rename_i q
   injection h with h
   rw [<- h];exact q
  ·cases h
theorem nxtO_ok {u:XU} {v t:XH} (h:ZO r s u v=some t):Xo t=true:=by
 unfold ZO at h;split at h
 ·cases h
 ·exact spotOf_ok h
end Go.Proofs.YtbekjpkcicjcgaaGreat
namespace Go.Proofs.YtbekjpkcicjcgaaGreat
open Go.RowKit
theorem wh_rat {n:Int} (h : -1000<=n/\n<=1000):Xh ⟨n,1⟩=true:=by
 have h1:=(of_le (t:=n) (d:=1) (n:=0) (e:=1) Oz Oz).1;rw [ratio_whole Oz] at h1;exact h1
theorem tableOk_cells {t:JJ} (h:ZZ t=true) {k:Nat} (hk:k<t.cells.length) : -1000000<=t.cells.getD k 0/\t.cells.getD k 0<=1000:=by
 simp only [ZZ,Bool.and_eq_true,List.all_eq_true] at h;have h1:=h.2 _ (List.getElem_mem hk);rw [List.getD_eq_getElem?_getD,List.getElem?_eq_getElem hk,Option.getD_some];unfold cellOk at h1;simp only [Bool.or_eq_true,beq_iff_eq,Y3] at h1;omega
theorem cmp_nlt {a b:XU} (ha:Xh a=true) (hb:Xh b=true) (h:¬ XF a b<0):b.n*a.d<=a.n*b.d:=by
 rw [cmp_def ha hb] at h;by_cases h4:a.n*b.d-b.n*a.d<0
 ·exfalso;apply h;unfold sgn;rw [if_pos h4];decide
 ·omega
theorem pick_span {v:YQ} (ok:XN v=true) (wish:Int):Xh (pick v wish)=true/\J0 v (pick v wish)=true:=by
 obtain ⟨a1,a2⟩:=JA ok;have p1:=JZ a1;have p2:=JZ a2;have cw:=clampW_bd wish;have wk:Xh ⟨clampW wish,1⟩=true:=whole_ok ⟨Oz,Oz⟩;have cb:=ceil_bd a1;have fb:=floor_bd a2;have ck:Xh ⟨Yf v.low,1⟩=true:=whole_ok cb;have fk:Xh ⟨XT v.high,1⟩=true:=whole_ok fb;have c1:v.low.n*1<=Yf v.low*v.low.d:=by
  unfold Yf;rw [if_pos a1];have:=Int.ediv_mul_le (-v.low.n) (show v.low.d≠0 by omega);rw [Int.neg_mul];omega
 have c2:XT v.high*v.high.d<=v.high.n*1:=by
  unfold XT;rw [if_pos a2];have:=Int.ediv_mul_le v.high.n (show v.high.d≠0 by omega);omega
 have go:∀ u:XU,Xh u=true->Btw v u.n u.d->Xh u=true/\J0 v u=true:=λ u h1 h2=>⟨h1,(inSpan_iff ok h1).2 h2⟩;unfold pick;rw [if_pos ok];split
 ·split
  ·rename_i h
   exact go _ ck ⟨c1,(cmp_le ck a2).1 h⟩
  ·exact go _ a1 (btw_low ok)
 ·rename_i h1
  split
  ·split
   ·rename_i h
    refine go _ fk ⟨?_,c2⟩;exact cmp_nlt fk a1 Oz
   ·exact go _ a2 (btw_high ok)
  ·rename_i h2
   refine go _ wk ⟨?_,(cmp_le wk a2).1 Oz⟩;exact cmp_nlt wk a1 h1
theorem watch_new {r:XD} {p:List Half} (h:KW r p=true) (hne:p≠[]):wnOk r p=true/\wnX r p=⟨r,p,[]⟩/\J8 r p []=true:=by
 have hl:decide (p.length=0)=false:=decide_eq_false (λ e=>hne (List.length_eq_zero_iff.1 e));have h2:=wn_yes (r:=r) (p:=p) (by rw [hl,h];rfl);refine ⟨h2.2,h2.1, ?_⟩;unfold J8;rw [hl,h];rfl
theorem jdg_pick {r:XD} {p:List Half} {s:XH} {v:YQ} {wish:Int} (h:KW r p=true) (hne:p≠[]) (e:XL r p s=some v):jdg r p [] s (pick v wish)=(pick v wish,1):=by
 have w:=(watch_new h hne).2.2;rw [jdg_in w (by rw [e];rfl),e];exact jdgS_in (pick_span (admAt_span _ _ e) wish).2
theorem kept_limits {r:XD} {p:List Half} (h:KW r p=true) {s:XH} (hs:Xo s=true) (hi:YL p s=true):YL r.limits s=true:=by
 obtain ⟨hr,hp,hl,_⟩:=kept_parts h;obtain ⟨hne,hz⟩:=holdsB_pt.1 hi;obtain ⟨h1,h2⟩:=within_pts hp hne (JB hr).limits hl;have:=Jz hs;exact holdsB_pt.2 ⟨h1,h2 _ _ _ Oz hz⟩
theorem kept_next {r:XD} {p:List Half} {s:XH} {v:YQ} {wish:Int} (e:XL r p s=some v) {d t:XH} (hd:d∈Xj r.noise) (ht:ZO r s (pick v wish) d=some t):YL p t=true:=by
 have ok:=admAt_span _ _ e;obtain ⟨h1,h2⟩:=pick_span ok wish;exact held_next e (JZ h1) ((inSpan_iff ok h1).1 h2) hd ht
theorem hasS_i {p:List Half} {s:XH}:(!decide (p.length=0)&&Xo s&&Xc p&&YL p s)=hasS p s:=rfl
set_option maxRecDepth 100000 in
set_option maxHeartbeats 3000000 in
theorem iHasS_c (p:List Half) (s:XH) (b:Kt) (w:World) (hlp:p.length<=1048576) (hpi:∀ h∈p,h.In) (hsp:Sl 3 Xe w b.A p) (hnb:b.A=none->b.c=0) (hsi:s.In) :
 Calls Tryz.prog 12 #[.agg #[Sv b.A p.length b.c],Yu s] w λ x w'=>x=.returned (Bv (hasS p s))/\Below w.heap.size w w':=by
 refine Yz Tryz.func12 rfl (n:=21) Tryz.ntmps12 Sz ?_;intro a0 M I ha;have s0:a0.tmps[0]?.getD undef=.agg #[Sv b.A p.length b.c]:=ha 0 _ rfl;have s1:a0.tmps[1]?.getD undef=Yu s:=ha 1 _ rfl;clear ha;have J:=Below.refl w.heap.size w;have O:=Nat.le_refl w.heap.size;refine wp_seq ?_;refine Yk [2,3,4] [Pz w.heap.size,Pz (w.heap.size+1),Bf] [some (.cells [Sv b.A p.length b.c].toArray 26),some (.cells [Vi s.x,Vi s.y,Vi s.d].toArray 30),none] [0,1,2] [2,3,4] [0,1,2] (by kernel_rfl) (by rw [M];decide) (ec ?_ (ec ?_ (ec ?_ .nil))) ?_
 ·intro a w' F hs N Q B;simp [go_sem,F.g rfl s0];rw [hs];exact B
 ·intro a w' F hs N Q B;simp [go_sem,F.g rfl s1];rw [hs];exact B
 ·intro a w' F hs N Q B;simp [go_sem];exact B
 intro a1 w2 F K hb hO;replace M:=F.size.trans M;replace I:=F.defers.trans I;have s2:a1.tmps[2]?.getD undef=Pz w.heap.size:=K 0 Dz;have s3:a1.tmps[3]?.getD undef=Pz (w.heap.size+1):=K 1 Dz;have b3:Xq w2 w.heap.size 26 [Sv b.A p.length b.c]:=hO 0 _ rfl;have b4:Xq w2 (w.heap.size+1) 30 [Vi s.x,Vi s.y,Vi s.d]:=hO 1 _ rfl;have hG:=b4.lt;replace J:=Xf J hb;have zw2:=Nat.le_trans O hb.size;replace O:=Nat.le_refl w2.heap.size;clear F K hb hO s0 s1;refine Xi (wp_seq ?_);refine Xl [5,6,7,8,9,10,11,12,13,14,15,16,17,18,19,20,4] [some (.agg #[Sv b.A p.length b.c]),some (Bv (decide (p.length=0))),some (Bv (!(decide (p.length=0)))),some (Bv (!(decide (p.length=0)))),some ((bif !(decide (p.length=0)) then (Yu s:Value) else undef)),some ((bif !(decide (p.length=0)) then (Bv (Xo s):Value) else undef)),some (Bv (!(decide (p.length=0))&&Xo s)),some (Bv (!(decide (p.length=0))&&Xo s)),some ((bif (!(decide (p.length=0))&&Xo s) then (.agg #[Sv b.A p.length b.c]:Value) else undef)),some ((bif (!(decide (p.length=0))&&Xo s) then (Bv (Xc p):Value) else undef)),some (Bv ((!(decide (p.length=0))&&Xo s)&&Xc p)),some (Bv ((!(decide (p.length=0))&&Xo s)&&Xc p)),some ((bif ((!(decide (p.length=0))&&Xo s)&&Xc p) then (.agg #[Sv b.A p.length b.c]:Value) else undef)),some ((bif ((!(decide (p.length=0))&&Xo s)&&Xc p) then (Yu s:Value) else undef)),some ((bif ((!(decide (p.length=0))&&Xo s)&&Xc p) then (Bv (YL p s):Value) else undef)),some (Bv (((!(decide (p.length=0))&&Xo s)&&Xc p)&&YL p s)),some (Bv (((!(decide (p.length=0))&&Xo s)&&Xc p)&&YL p s))] (X9 17) [5,6,7,8,9,10,11,12,13,14,15,16,17,18,19,20,4] [] (λ _ _ _=>True) ?_ (e4 ?_ ?_ ?_ ?_ (eg ?_ (eg ?_ (e2 ?_ ?_ (eg ?_ (eg ?_ (e2 ?_ ?_ (eg ?_ (eg ?_ (eg ?_ (e2 ?_ ?_ .nil))))))))))) ?_
 ·exact λ _ _=>trivial
 ·intro G C D H _ _ B;simp [go_sem,H.f.g rfl s2,(b3.k0 H.k).cell];exact (B _ _ H.k rfl trivial)
 ·intro G C D H _ _ B;simp [go_sem,(gS C 5 (H.d 0 rfl rfl))];refine (ZW p b D).mono ?_;rintro x wx ⟨rfl,hb⟩;exact (B _ _ (H.k.call hb) rfl trivial)
 ·exact JD 1 rfl rfl rfl rfl
 ·exact KC 2 rfl rfl rfl rfl
 ·intro G C D H _ _ B;refine wgt rfl rfl rfl (H.d 3 rfl rfl) (λ qg=>B _ _ H.k (XC qg).symm trivial) λ qg=>?_;simp [go_sem,H.f.g rfl s3,(b4.k0 H.k).cell];exact (B _ _ H.k (Xz qg).symm trivial)
 ·intro G C D H _ _ B;refine wgt rfl rfl rfl (H.d 3 rfl rfl) (λ qg=>B _ _ H.k (XC qg).symm trivial) λ qg=>?_;simp [go_sem,(show C.tmps[9]?.getD undef=_ from (H.d 4 rfl rfl).trans (Xz qg))];refine (iSpotOk_c s D hsi).mono ?_;rintro x wx ⟨rfl,hb⟩;exact (B _ _ (H.k.call hb) (Xz qg).symm trivial)
 ·exact λ G C D H _ _ B=>Za rfl (ev (H.d 3 rfl rfl)) (λ h=>(ev ((H.d 5 rfl rfl).trans (Xz h))).trans (vand_t h)) (λ h=>vand_f h) (B _ _ H.k rfl trivial)
 ·exact KC 6 rfl rfl rfl rfl
 ·intro G C D H _ _ B;refine wgt rfl rfl rfl (H.d 7 rfl rfl) (λ qg=>B _ _ H.k (XC qg).symm trivial) λ qg=>?_;simp [go_sem,H.f.g rfl s2,(b3.k0 H.k).cell];exact (B _ _ H.k (Xz qg).symm trivial)
 ·intro G C D H _ _ B;refine wgt rfl rfl rfl (H.d 7 rfl rfl) (λ qg=>B _ _ H.k (XC qg).symm trivial) λ qg=>?_;simp [go_sem,(show C.tmps[13]?.getD undef=_ from (H.d 8 rfl rfl).trans (Xz qg))];have hBi:=H.k.below0 J;refine (KE p b D hlp hpi (hsp.below hBi) hnb).mono ?_;rintro x wx ⟨rfl,hb⟩;exact (B _ _ (H.k.call hb) (Xz qg).symm trivial)
 ·exact λ G C D H _ _ B=>Za rfl (ev (H.d 7 rfl rfl)) (λ h=>(ev ((H.d 9 rfl rfl).trans (Xz h))).trans (vand_t h)) (λ h=>vand_f h) (B _ _ H.k rfl trivial)
 ·exact KC 10 rfl rfl rfl rfl
 ·intro G C D H _ _ B;refine wgt rfl rfl rfl (H.d 11 rfl rfl) (λ qg=>B _ _ H.k (XC qg).symm trivial) λ qg=>?_;simp [go_sem,H.f.g rfl s2,(b3.k0 H.k).cell];exact (B _ _ H.k (Xz qg).symm trivial)
 ·intro G C D H _ _ B;refine wgt rfl rfl rfl (H.d 11 rfl rfl) (λ qg=>B _ _ H.k (XC qg).symm trivial) λ qg=>?_;simp [go_sem,H.f.g rfl s3,(b4.k0 H.k).cell];exact (B _ _ H.k (Xz qg).symm trivial)
 ·intro G C D H _ _ B;refine wgt rfl rfl rfl (H.d 11 rfl rfl) (λ qg=>B _ _ H.k (XC qg).symm trivial) λ qg=>?_;simp [go_sem,(show C.tmps[17]?.getD undef=_ from (H.d 12 rfl rfl).trans (Xz qg)),(show C.tmps[18]?.getD undef=_ from (H.d 13 rfl rfl).trans (Xz qg))];have hBi:=H.k.below0 J;refine (iHolds_c p b s D (by have:=Y0 (and_t2 qg);omega) (Zp (and_t2 qg)) (and_t2 (and_t1 qg)) (hsp.below hBi)).mono ?_;rintro x wx ⟨rfl,hb⟩;exact (B _ _ (H.k.call hb) (Xz qg).symm trivial)
 ·exact λ G C D H _ _ B=>Za rfl (ev (H.d 11 rfl rfl)) (λ h=>(ev ((H.d 14 rfl rfl).trans (Xz h))).trans (vand_t h)) (λ h=>vand_f h) (B _ _ H.k rfl trivial)
 ·exact Jn 15 rfl rfl rfl rfl
 intro L a5 w6 R F P K S;replace M:=F.Z M;replace I:=F.E I;have s4:=gS a5 4 (K 16 _ rfl);replace O:=Nat.le_trans O P.size;replace J:=P.below0 J;clear F P K R S s2 s3 b3 b4;refine Xi (wp_ret ?_);refine bodyPost_ret (v:=Bv (((!(decide (p.length=0))&&Xo s)&&Xc p)&&YL p s)) (by simp [results,Tryz.results12,go_sem,s4]) I ?_;exact ⟨by rw [hasS_i],J⟩
end Go.Proofs.YtbekjpkcicjcgaaGreat
