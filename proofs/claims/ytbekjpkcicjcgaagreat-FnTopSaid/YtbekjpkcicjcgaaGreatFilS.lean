/-
 The cells of a table: the span of a cell, the check and the filling of a table: of the program and of the reference.
 Conditions: the slices hold at most 2^20 elements.
-/
import Derived.Test.YtbekjpkcicjcgaaGreatCellS
namespace Go.Proofs.YtbekjpkcicjcgaaGreat
open Go.RowKit
theorem spanC_spanOk {r:XD} {p e:List Half} {t:JI} {i j:Int} {v:YQ} (h:YC r p e t i j=some v):XN v=true:=by
 rw [spanC_eq] at h;split at h
 ·exact accS_ok (λ _ _ q=>Ja q) h
 ·cases h
theorem cell_ij {t:JI} {i j:Nat} (hi:(i:Int)<t.nx) (hj:(j:Int)<t.ny):cellB t (i:Int) (j:Int)=true:=by
 unfold cellB;simp only [Bool.and_eq_true,decide_eq_true_eq];omega
theorem row_next {j n:Nat}:j*n+n=(j+1)*n:=by rw [Nat.succ_mul]
theorem nat_eq {i:Nat} {n:Int} (h:decide ((i:Int)<n)=false) (h2:(i:Int)<=n):i=n.toNat:=by
 have:=Jr h;omega
set_option maxRecDepth 100000 in
set_option maxHeartbeats 3000000 in
theorem iNear_c (u:YQ) (wish:Int) (w:World) (hu:u.In) :
 Calls Tryz.prog 62 #[ZC u,Vi wish] w λ x w'=>x=.returned (Vi (KG u wish))/\Below w.heap.size w w':=by
 refine Yz Tryz.func62 rfl (n:=21) Tryz.ntmps62 Sz ?_;intro a0 K B ha;have s0:a0.tmps[0]?.getD undef=ZC u:=ha 0 _ rfl;have s1:a0.tmps[1]?.getD undef=Vi wish:=ha 1 _ rfl;clear ha;have J:=Below.refl w.heap.size w;have O:=Nat.le_refl w.heap.size;refine wp_seq ?_;refine Yk [2,4] [Pz w.heap.size,V0] [some (.cells [Vi u.low.n,Vi u.low.d,Vi u.high.n,Vi u.high.d].toArray 48),none] [0,1] [2,4] [0,1] (by kernel_rfl) (by rw [K];decide) (ec ?_ (ec ?_ .nil)) ?_
 ·intro a w' A hs N Q C;simp [go_sem,A.g rfl s0];rw [hs];exact C
 ·intro a w' A hs N Q C;simp [go_sem];exact C
 intro a1 w2 A I hb hO;replace K:=A.size.trans K;replace B:=A.defers.trans B;replace s1:=A.g rfl s1;have s2:a1.tmps[2]?.getD undef=Pz w.heap.size:=I 0 Dz;have b3:Xq w2 w.heap.size 48 [Vi u.low.n,Vi u.low.d,Vi u.high.n,Vi u.high.d]:=hO 0 _ rfl;have hG:=b3.lt;replace J:=Xf J hb;have zw2:=Nat.le_trans O hb.size;replace O:=Nat.le_refl w2.heap.size;clear A I hb hO s0;refine Xi (wp_seq ?_);refine Xl [7,8,9,10,11,12,5,6] [some (Pz w.heap.size),some (.agg #[Vi u.low.n,Vi u.low.d]),some (Vi (Yf u.low)),some (.pointer (some ⟨w.heap.size,2,none⟩)),some (.agg #[Vi u.high.n,Vi u.high.d]),some (Vi (XU u.high)),some (Vi (Yf u.low)),some (Vi (XU u.high))] ([[],[0],[0,1],[],[3],[0,1,2,3,4],[0,1,2,3,4,5],[0,1,2,3,4,5,6]]) [7,8,9,10,11,12,5,6] [] (λ _ _ _=>True) ?_ (e4 ?_ ?_ ?_ ?_ (e4 ?_ ?_ ?_ ?_ .nil)) ?_
 ·exact λ _ _=>trivial
 ·intro P D M H _ _ C;simp [go_sem,H.f.g rfl s2];exact (C _ _ H.k rfl trivial)
 ·intro P D M H _ _ C;simp [go_sem,(gS D 7 (H.d 0 rfl rfl)),(b3.k0 H.k).cell];exact (C _ _ H.k rfl trivial)
 ·intro P D M H _ _ C;simp [go_sem,(gS D 8 (H.d 1 rfl rfl))];refine (iRatCeil_c u.low M hu.1).mono ?_;rintro x wx ⟨rfl,hb⟩;exact (C _ _ (H.k.call hb) rfl trivial)
 ·intro P D M H _ _ C;simp [go_sem,H.f.g rfl s2];exact (C _ _ H.k rfl trivial)
 ·intro P D M H _ _ C;simp [go_sem,(gS D 10 (H.d 3 rfl rfl)),(b3.k0 H.k).cell];exact (C _ _ H.k rfl trivial)
 ·intro P D M H _ _ C;simp [go_sem,(gS D 11 (H.d 4 rfl rfl))];refine (iRatFloor_c u.high M hu.2).mono ?_;rintro x wx ⟨rfl,hb⟩;exact (C _ _ (H.k.call hb) rfl trivial)
 ·exact Jm 2 rfl rfl rfl rfl
 ·exact Jm 5 rfl rfl rfl rfl
 intro L a4 w5 R A F I S;replace K:=A.Z K;replace B:=A.E B;replace s1:=A.G s1;have s5:=gS a4 5 (I 6 _ rfl);have s6:=gS a4 6 (I 7 _ rfl);replace O:=Nat.le_trans O F.size;replace J:=F.below0 J;clear A F I R S s2 b3;refine Xi (wp_seq (wp_seq ?_));refine Xl [13,14,15] [some (Vi (Yf u.low)),some (Vi (XU u.high)),some (Bv (decide (Yf u.low > XU u.high)))] (X9 3) [13,14,15] [] (λ _ _ _=>True) ?_ (e2 ?_ ?_ (en rfl ?_ .nil)) ?_
 ·exact λ _ _=>trivial
 ·exact Kq s5 rfl rfl rfl
 ·exact Kq s6 rfl rfl rfl
 ·exact λ P D M H _ _ C=>Y8 rfl (ev (H.d 0 rfl rfl)) (ev (H.d 1 rfl rfl)) rfl rfl (C _ _ H.k rfl trivial)
 intro L a6 w7 R A F I S;replace K:=A.Z K;replace B:=A.E B;obtain ⟨s1,s5,s6⟩:=A.G3 s1 s5 s6;have s15:=gS a6 15 (I 2 _ rfl);replace O:=Nat.le_trans O F.size;replace J:=F.below0 J;clear A F I R S;refine Xi ?_;rcases Bool.eq_false_or_eq_true (decide (Yf u.low > XU u.high)) with q8|q8
 ·refine wp_cond_true (ev (vb s15 q8)) ?_;refine wp_seq ?_;refine Xl [4] [some (Vi (-1000000))] (X9 1) [4] [] (λ _ _ _=>True) ?_ (en rfl ?_ .nil) ?_
  ·exact λ _ _=>trivial
  ·exact oACT rfl rfl
  intro L a9 w10 R A F I S;replace K:=A.Z K;replace B:=A.E B;have s4:=gS a9 4 (I 0 _ rfl);replace O:=Nat.le_trans O F.size;replace J:=F.below0 J;clear A F I R S s1 s5 s6 s15;refine Xi (wp_ret (Ki ?_));refine bodyPost_ret (v:=Vi (-1000000)) (by simp [results,Tryz.results62,go_sem,s4]) B ?_;exact ⟨by unfold KG;rw [if_pos (of_decide_eq_true q8)],J⟩
 ·refine wp_cond_false (ev (vb s15 q8)) ?_;refine wp_skip (Xi (wp_seq ?_));refine Xl [16,17,18,19,20,4] [some (Vi (Yf u.low)),some (Vi (XU u.high)),some (Vi wish),some (Vi (min (XU u.high) wish)),some (Vi (max (Yf u.low) (min (XU u.high) wish))),some (Vi (max (Yf u.low) (min (XU u.high) wish)))] (X9 6) [16,17,18,19,20,4] [] (λ _ _ _=>True) ?_ (e4 ?_ ?_ ?_ ?_ (e2 ?_ ?_ .nil)) ?_
  ·exact λ _ _=>trivial
  ·exact Kq s5 rfl rfl rfl
  ·exact Kq s6 rfl rfl rfl
  ·exact Kq s1 rfl rfl rfl
  ·intro P D M H _ _ C;simp [go_sem,(gS D 17 (H.d 1 rfl rfl)),(gS D 18 (H.d 2 rfl rfl))];exact (C _ _ H.k rfl trivial)
  ·intro P D M H _ _ C;simp [go_sem,(gS D 16 (H.d 0 rfl rfl)),(gS D 19 (H.d 3 rfl rfl))];exact (C _ _ H.k rfl trivial)
  ·exact Jm 4 rfl rfl rfl rfl
  intro L a11 w12 R A F I S;replace K:=A.Z K;replace B:=A.E B;have s4:=gS a11 4 (I 5 _ rfl);replace O:=Nat.le_trans O F.size;replace J:=F.below0 J;clear A F I R S s1 s5 s6 s15;refine Xi (wp_ret ?_);refine bodyPost_ret (v:=Vi (max (Yf u.low) (min (XU u.high) wish))) (by simp [results,Tryz.results62,go_sem,s4]) B ?_;exact ⟨by unfold KG;rw [if_neg (of_decide_eq_false q8)],J⟩
theorem firstGo_spec {p:Nat->Bool}:∀ f k:Nat,(Ka p f k = -1/\∀ i,k<=i->i<k+f->p i=false)∨∃ i:Nat,Ka p f k=(i:Int)/\k<=i/\i<k+f/\p i=true
 | 0,k=>.inl ⟨by rw [Ka],λ i h1 h2=>Oz⟩
 | f+1,k=>by
  rw [Ka];split
  ·rename_i h
   exact .inr ⟨k,rfl,Oz,Oz,h⟩
  ·rename_i h
   rcases firstGo_spec (p:=p) f (k+1) with ⟨e,a⟩|⟨i,e,a,b,c⟩
   ·refine .inl ⟨e,λ i h1 h2=>?_⟩;by_cases hi:i=k
    ·rw [hi];simpa using h
    ·exact a i Oz Oz
   ·exact .inr ⟨i,e,Oz,Oz,c⟩
theorem inStrip_iff {n start step:Int} {k:Nat}:KY n 1 start step k=true ↔ start+k*step<=n/\n<=start+k*step+step:=by
 unfold KY;simp only [Bool.and_eq_true,decide_eq_true_eq,Int.mul_one]
theorem strip_in {n start step:Int} {c:Nat} (h:0<=KK n 1 start step c):∃ i:Nat,KK n 1 start step c=(i:Int)/\i<c/\start+i*step<=n/\n<=start+i*step+step:=by
 unfold KK at h ⊢;rcases firstGo_spec (p:=KY n 1 start step) (c-0) 0 with ⟨e,_⟩|⟨i,e,_,b,d⟩
 ·omega
 ·exact ⟨i,e,Oz,inStrip_iff.1 d⟩
theorem strip_ex {n start step:Int} {c:Nat} (hs:0<step) (hc:1<=c) (h1:start<=n) (h2:n<=start+c*step):0<=KK n 1 start step c:=by
 unfold KK;rcases firstGo_spec (p:=KY n 1 start step) (c-0) 0 with ⟨_,a⟩|⟨i,e,_⟩
 ·exfalso;have hd:=Int.emod_add_mul_ediv (n-start) step;have hm:=Int.emod_nonneg (n-start) (show step≠0 by omega);have hl:=Int.emod_lt_of_pos (n-start) hs;have hq:0<=(n-start) / step:=Int.ediv_nonneg Oz Oz;obtain ⟨q,hq2⟩:=Int.eq_ofNat_of_zero_le hq;rw [hq2] at hd;by_cases hk:q<c
  ·have h:=a q Oz Oz;have h3:KY n 1 start step q=true:=inStrip_iff.2 ⟨by rw [Int.mul_comm];omega,by rw [Int.mul_comm];omega⟩;rw [h] at h3;cases h3
  ·have h:=a (c-1) Oz Oz;have m:step*(c:Int)<=step*(q:Int):=Int.mul_le_mul_of_nonneg_left Oz Oz;have e1:((c-1:Nat):Int)*step=step*(c:Int)-step:=by
    rw [show ((c-1:Nat):Int)=(c:Int)-1 by omega,Int.sub_mul,Int.one_mul,Int.mul_comm]
   have e2:(c:Int)*step=step*(c:Int):=Int.mul_comm _ _;have h3:KY n 1 start step (c-1)=true:=inStrip_iff.2 ⟨Oz,Oz⟩;rw [h] at h3;cases h3
 ·omega
theorem nearM_btw {w:YQ} (ok:XN w=true) {wish:Int} (h:KG w wish≠-1000000):Btw w (KG w wish) 1:=by
 obtain ⟨a1,a2⟩:=Jz ok;have p1:=JY a1;have p2:=JY a2;unfold KG at h ⊢;split at h
 ·exact absurd rfl h
 ·rename_i hc
  rw [if_neg hc];unfold Yf XU at *;rw [if_pos a1,if_pos a2] at *;have c1:=Int.ediv_mul_le (-w.low.n) (show w.low.d≠0 by omega);have c2:=Int.ediv_mul_le w.high.n (show w.high.d≠0 by omega);generalize -w.low.n / w.low.d=a at *;generalize w.high.n / w.high.d=b at *;have k1 : -a*w.low.d<=max (-a) (min b wish)*w.low.d:=Int.mul_le_mul_of_nonneg_right Oz Oz;have k2:max (-a) (min b wish)*w.high.d<=b*w.high.d:=Int.mul_le_mul_of_nonneg_right Oz Oz;have e1 : -a*w.low.d = -(a*w.low.d):=Int.neg_mul _ _;exact ⟨Oz,Oz⟩
theorem cell_adm {r:XD} {p:List Half} {t:JI} {i j:Int} {w:YQ} (hr:Yh r p=true) (hg:Yw t=true) (hc:cellB t i j=true) (e:YC r p (Jl r p) t i j=some w) {c:Int} (hb:Btw w c 1) {x y:Int}
 (hx:t.x0+i*t.step<=x/\x<=t.x0+i*t.step+t.step) (hy:t.y0+j*t.step<=y/\y<=t.y0+j*t.step+t.step):(r.low<=c/\c<=r.high)/\Xo ⟨x,y,1⟩=true/\∃ v,XL r p ⟨x,y,1⟩=some v/\Btw v c 1:=by
 obtain ⟨rm,_⟩:=rob_parts2 hr;obtain ⟨B,C⟩:=cel_cnr hg hc;rw [spanC_eq] at e;split at e
 ·obtain ⟨_,hv,hbt⟩:=accS_btw (A:=Ym r (Jl r p)) (λ _ _ h=>Ja h) 3 w e;obtain ⟨v0,h0⟩:=hv 0 Oz;obtain ⟨v1,h1⟩:=hv 1 Oz;obtain ⟨v2,h2⟩:=hv 2 Oz;obtain ⟨v3,h3⟩:=hv 3 Oz;have hcn:=(hbt c 1 Oz).1 hb;have up:∀ {s:XH} {v:YQ},Xo s=true->Ym r (Jl r p) s=some v->XL r p s=some v:=λ hs h=>by
   unfold XL;rw [if_pos ⟨hr,hs⟩];exact h
  have m0:=up (C _ (by simp [Xg])).1 h0;have m1:=up (C _ (by simp [Xg])).1 h1;have m2:=up (C _ (by simp [Xg])).1 h2;have m3:=up (C _ (by simp [Xg])).1 h3;obtain ⟨k1,k2⟩:=four_adm rm (show (0:Int)<1 by omega) m0 m1 m2 m3 (hcn 0 Oz v0 h0) (hcn 1 Oz v1 h1) (hcn 2 Oz v2 h2) (hcn 3 Oz v3 h3) hx hy;have s0:=(C ⟨t.x0+i*t.step,t.y0+j*t.step,1⟩ (by simp [Xg])).1;have s2:=(C ⟨t.x0+i*t.step+t.step,t.y0+j*t.step+t.step,1⟩ (by simp [Xg])).1;have q0:=ZF.1 s0;have q2:=ZF.1 s2;simp only at q0 q2;have hs:Xo ⟨x,y,1⟩=true:=wspot_ok ⟨Oz,Oz⟩ ⟨Oz,Oz⟩;obtain ⟨v,hv2,hv3⟩:=admit_some rm hs (show (1:Int)<=100000 by omega) (Zp (rpR_ok r p)) (show (0:Int)<1 by omega) k1.1 k1.2 k2;exact ⟨⟨Oz,Oz⟩,hs,v,up hs hv2,hv3⟩
 ·cases e
theorem filC_val {r:XD} {p e:List Half} {t:JI} {wish:Int} {ok:Bool} {i j:Int} (h:filC r p e t wish ok i j≠-1000000):ok=true/\∃ w,YC r p e t i j=some w/\filC r p e t wish ok i j=KG w wish:=by
 rcases Bool.eq_false_or_eq_true ok with h1|h1
 ·refine ⟨h1, ?_⟩;cases e2:YC r p e t i j with
  | none=>exact absurd (filC_none (by rw [e2];rfl)) h
  | some w=>exact ⟨w,rfl,by rw [filC_some h1 (by rw [e2];rfl),e2];rfl⟩
 ·exact absurd (filC_off h1) h
theorem fil_cell {r:XD} {p:List Half} {t:JI} {wish:Int} (h:KX r p t wish=true) {i j:Nat} (hi:(i:Int)<t.nx) (hj:(j:Int)<t.ny) (hc:filC r p (Jl r p) t wish (Yh r p) i j≠-1000000) {x y:Int}
 (hx:t.x0+i*t.step<=x/\x<=t.x0+i*t.step+t.step) (hy:t.y0+j*t.step<=y/\y<=t.y0+j*t.step+t.step) :
 (r.low<=filC r p (Jl r p) t wish (Yh r p) i j/\filC r p (Jl r p) t wish (Yh r p) i j<=r.high)/\Xo ⟨x,y,1⟩=true/\∃ v,XL r p ⟨x,y,1⟩=some v/\Btw v (filC r p (Jl r p) t wish (Yh r p) i j) 1:=by
 obtain ⟨h1,w,h2,h3⟩:=filC_val hc;have hg:Yw t=true:=by
  unfold KX at h;simp only [Bool.and_eq_true] at h;exact h.1.1.2
 have hcb:cellB t (i:Int) (j:Int)=true:=by
  unfold cellB;rw [decide_eq_true (show (0:Int)<=i by omega),decide_eq_true hi,decide_eq_true (show (0:Int)<=j by omega),decide_eq_true hj];rfl
 have ok:XN w=true:=by
  rw [spanC_eq] at h2;split at h2
  ·exact (accS_btw (A:=Ym r (Jl r p)) (λ _ _ h=>Ja h) 3 w h2).1
  ·cases h2
 rw [h3] at hc ⊢;exact cell_adm h1 hg hcb h2 (nearM_btw ok hc) hx hy
theorem fil_parts {r:XD} {p:List Half} {t:JI} {wish:Int} (h:KX r p t wish=true):Yw t=true/\XJ r=true/\Xc p=true:=by
 unfold KX at h;simp only [Bool.and_eq_true] at h;exact ⟨h.1.1.2,h.1.2,h.2⟩
theorem fil_get {r:XD} {p:List Half} {t:JI} {wish:Int} (h:KX r p t wish=true) {i j:Nat} (hi:(i:Int)<t.nx) (hj:(j:Int)<t.ny):(Yy r p t wish).cells.getD (j*t.nx.toNat+i) 0=filC r p (Jl r p) t wish (Yh r p) i j:=by
 rw [fil_yes h];show (filK r p (Jl r p) t wish (Yh r p) (t.nx.toNat*t.ny.toNat)).getD (j*t.nx.toNat+i) 0=_;have hi2:i<t.nx.toNat:=Oz
 have hj2:j<t.ny.toNat:=Oz
 have m:(j+1)*t.nx.toNat<=t.ny.toNat*t.nx.toNat:=Nat.mul_le_mul_right _ Oz;rw [Nat.succ_mul] at m;have e:t.nx.toNat*t.ny.toNat=t.ny.toNat*t.nx.toNat:=Nat.mul_comm _ _;have hk:j*t.nx.toNat+i<t.nx.toNat*t.ny.toNat:=Oz
 have d1:(j*t.nx.toNat+i) % t.nx.toNat=i:=by
  rw [Nat.mul_comm,Nat.mul_add_mod,Nat.mod_eq_of_lt hi2]
 have d2:(j*t.nx.toNat+i) / t.nx.toNat=j:=by
  rw [Nat.mul_comm,Nat.mul_add_div Oz,Nat.div_eq_of_lt hi2,Nat.add_zero]
 unfold filK;rw [List.getD_eq_getElem?_getD,List.getElem?_map,List.getElem?_range hk];simp only [Option.map_some,Option.getD_some];rw [d1,d2]
theorem fil_tab {r:XD} {p:List Half} {t:JI} {wish:Int} (h:KX r p t wish=true):ZZ (Yy r p t wish)=true:=by
 obtain ⟨hg,hr,hp⟩:=fil_parts h;have gn:=grid_n hg;have G:=Kg.1 hg;have R:=JX hr;have len:(Yy r p t wish).cells.length=t.nx.toNat*t.ny.toNat:=by rw [fil_yes h];exact filK_len _ _ _ _ _ _ _
 have hfil:=fil_yes h;unfold ZZ;simp only [Bool.and_eq_true,decide_eq_true_eq];refine ⟨⟨by rw [hfil];exact hg,by rw [len,hfil];exact gn.2⟩, ?_⟩;rw [List.all_eq_true];intro n hn;obtain ⟨k,hk,rfl⟩:=List.getElem_of_mem hn;have hk2:k<t.nx.toNat*t.ny.toNat:=by rw [<- len];exact hk
 have hx:0<t.nx.toNat:=Oz
 have hi:k % t.nx.toNat<t.nx.toNat:=Nat.mod_lt _ hx;have hj:k / t.nx.toNat<t.ny.toNat:=Nat.div_lt_of_lt_mul hk2;have hd:k / t.nx.toNat*t.nx.toNat+k % t.nx.toNat=k:=by rw [Nat.mul_comm];exact Nat.div_add_mod k _
 have e:=fil_get h (i:=k % t.nx.toNat) (j:=k / t.nx.toNat) Oz Oz;rw [hd,getD_el hk] at e;rw [e];unfold cellOk;by_cases hc:filC r p (Jl r p) t wish (Yh r p) ((k % t.nx.toNat:Nat):Int) ((k / t.nx.toNat:Nat):Int) = -1000000
 ·rw [hc];rfl
 ·have st:=G.2.2.1;obtain ⟨⟨b1,b2⟩,_⟩:=fil_cell h Oz Oz hc (x:=t.x0+((k % t.nx.toNat:Nat):Int)*t.step) (y:=t.y0+((k / t.nx.toNat:Nat):Int)*t.step) ⟨Oz,Oz⟩ ⟨Oz,Oz⟩;have b3:=R.low;have b4:=R.high;rw [Y3.2 ⟨Oz,Oz⟩,Bool.or_true]
structure CellAt (t:JI) (x y:Int) (i j:Nat):Prop where
 cell:Zz t ⟨x,y,1⟩=((i:Int),(j:Int))
 hi:(i:Int)<t.nx
 hj:(j:Int)<t.ny
 hx:t.x0+i*t.step<=x/\x<=t.x0+i*t.step+t.step
 hy:t.y0+j*t.step<=y/\y<=t.y0+j*t.step+t.step
theorem cell_at {t:JI} {x y:Int} (ht:ZZ t=true) (hs:Xo ⟨x,y,1⟩=true):(∃ i j:Nat,CellAt t x y i j)∨(Zz t ⟨x,y,1⟩=(-1,-1)/\¬((t.x0<=x/\x<=t.x0+t.nx*t.step)/\t.y0<=y/\y<=t.y0+t.ny*t.step)):=by
 have G:=Kg.1 (tableOk_grid ht);unfold Zz;rw [if_pos ⟨ht,hs⟩];simp only;split
 ·rename_i h
  refine .inr ⟨rfl,λ k=>?_⟩;have n1:(t.nx.toNat:Int)=t.nx:=Oz
  have n2:(t.ny.toNat:Int)=t.ny:=Oz
  have s1:=strip_ex (n:=x) (start:=t.x0) (step:=t.step) (c:=t.nx.toNat) Oz Oz k.1.1 (by rw [n1];exact k.1.2);have s2:=strip_ex (n:=y) (start:=t.y0) (step:=t.step) (c:=t.ny.toNat) Oz Oz k.2.1 (by rw [n2];exact k.2.2);omega
 ·rename_i h
  obtain ⟨i,e1,a1,b1,c1⟩:=strip_in (n:=x) (start:=t.x0) (step:=t.step) (c:=t.nx.toNat) Oz;obtain ⟨j,e2,a2,b2,c2⟩:=strip_in (n:=y) (start:=t.y0) (step:=t.step) (c:=t.ny.toNat) Oz;exact .inl ⟨i,j,⟨by unfold Zz;rw [if_pos ⟨ht,hs⟩];simp only;rw [if_neg h,e1,e2],Oz,Oz,⟨b1,c1⟩,⟨b2,c2⟩⟩⟩
end Go.Proofs.YtbekjpkcicjcgaaGreat
