/-
 The law of a region is valid, and at the whole states of the region it says what the region admits.
 Conditions: valid rooms whose input drives the first coordinate, whole states.
-/
import Derived.Deep.RegionHeld3
import Derived.Deep.DeepMust
import Derived.Deep.DeepCutAuto
import Derived.Test.YtabfdkpdppemaaaGreatPtl
namespace Go.Proofs.YtabfdkpdppemaaaGreat
open Go.RowKit
theorem slopes {r:XK} {E:List Half} (hb:0<r.bx) (hE:Xi E=true) (hne:E≠[]):(∃ h∈E,0<XT r h)/\∃ h∈E,XT r h<0:=by
 obtain ⟨s,hs⟩:=corners_ne hne;obtain ⟨hi,ho⟩:=corner_in hE hs;have sd:=spot_pos ho;have fr:=λ(x y d:Int) (hd:0<=d) (h:InP E x y d)=>reg_frame hE hne hd h;have f0:=fr _ _ _ (by omega) hi;have fx:∀ x y d:Int,InP Y4 x y d->-1000*d<=x/\x<=1000*d:=by
  intro x y d h;unfold InP at h;simp only [Y4,List.mem_cons,List.not_mem_nil,or_false,forall_eq_or_imp,forall_eq,Zf] at h;omega
 have b0:=fx _ _ _ f0;have md:s.d<=r.bx*s.d:=by
  have:=Int.mul_le_mul_of_nonneg_right (show 1<=r.bx by omega) (show 0<=s.d by omega);omega
 constructor
 ·by_cases hc:∃ h∈E,0<XT r h
  ·exact hc
  ·exfalso;have hp:InP E (s.x+2001*(r.bx*s.d)) (s.y+2001*(r.by_*s.d)) s.d:=by
    intro h hh;have h1:=hi h hh;have h2:XT r h<=0:=by
     by_cases h3:0<XT r h
     ·exact absurd ⟨h,hh,h3⟩ hc
     ·omega
    unfold Zf at h1 ⊢;have e:h.a*(s.x+2001*(r.bx*s.d))+h.b*(s.y+2001*(r.by_*s.d))=h.a*s.x+h.b*s.y+2001*(XT r h*s.d):=by unfold XT;grind
    have m:XT r h*s.d<=0:=Int.mul_nonpos_of_nonpos_of_nonneg h2 (by omega);rw [e];omega
   have b1:=fx _ _ _ (fr _ _ _ (by omega) hp);omega
 ·by_cases hc:∃ h∈E,XT r h<0
  ·exact hc
  ·exfalso;have hp:InP E (s.x-2001*(r.bx*s.d)) (s.y-2001*(r.by_*s.d)) s.d:=by
    intro h hh;have h1:=hi h hh;have h2:0<=XT r h:=by
     by_cases h3:XT r h<0
     ·exact absurd ⟨h,hh,h3⟩ hc
     ·omega
    unfold Zf at h1 ⊢;have e:h.a*(s.x-2001*(r.bx*s.d))+h.b*(s.y-2001*(r.by_*s.d))=h.a*s.x+h.b*s.y-2001*(XT r h*s.d):=by unfold XT;grind
    have m:0<=XT r h*s.d:=Int.mul_nonneg h2 (by omega);rw [e];omega
   have b1:=fx _ _ _ (fr _ _ _ (by omega) hp);omega
theorem filter_lt {E:List Half} {f:Half->Bool} (h:∃ k∈E,f k=false):(E.filter f).length<E.length:=by
 induction E with
 | nil=>obtain ⟨k,hk,_⟩:=h;cases hk
 | cons a l ih =>
  obtain ⟨k,hk,hf⟩:=h;rcases List.mem_cons.1 hk with rfl|hk
  ·rw [List.filter_cons_of_neg (by rw [hf];simp),List.length_cons];have:=List.length_filter_le f l;omega
  ·have:=ih ⟨k,hk,hf⟩;by_cases ha:f a=true
   ·rw [List.filter_cons_of_pos ha,List.length_cons,List.length_cons];omega
   ·rw [List.filter_cons_of_neg ha,List.length_cons];omega
theorem base_pc {n:Int} (h : -1000<=n/\n<=1000):PcN 0 0 n 1 ⟨0,0,n,1⟩ 1:=by
 refine ⟨by omega,by simp,by simp,by simp,by simp, ?_,⟨by simp,by simp⟩,⟨by simp,by simp⟩,⟨by simp only;omega,by simp only;omega⟩,⟨by simp,by simp⟩⟩;refine pieceOk_iff.2 ⟨⟨by simp,by simp⟩,⟨by simp,by simp⟩,⟨by simp,by simp⟩,⟨by simp only;omega,by simp only;omega⟩, ?_⟩;rw [gcd4];simp
structure LawP (r:XK) (p:List Half) (l:Law) (x y:Int):Prop where
 ok:lawOk l=true
 low:∃ i:Nat,i<l.lows.length/\actL l ⟨x,y,1⟩=((i:Int),valA l.lows ⟨x,y,1⟩ i)
 high:∃ i:Nat,i<l.highs.length/\actH l ⟨x,y,1⟩=((i:Int),valA l.highs ⟨x,y,1⟩ i)
 lok:Xe (Kc l ⟨x,y,1⟩).low=true
 hok:Xe (Kc l ⟨x,y,1⟩).high=true
 btw:∀ n e,0<e->(Btw (Kc l ⟨x,y,1⟩) n e ↔ (r.low*e<=n/\n<=r.high*e)/\∀ h∈Kb r p,XT r h≠0->AdmH r ⟨x,y,1⟩ h n e)
theorem law_parts {r:XK} {p:List Half} (hb:0<r.bx) (h:JF r p=true) {x y:Int} (hs:Xv ⟨x,y,1⟩=true):LawP r p (Xs r p) x y/\∀ k∈Kb r p,XT r k=0->covB p (YD r.map r.div k)=true:=by
 have hrob:Yi r p=true:=by
  unfold JF at h;simp only [Bool.and_eq_true] at h;exact h.1
 obtain ⟨hr,hp,hpn,_,hen⟩:=rob_all hrob;have hE:=rpR_ok r p;have R:=roomB hr;have Rl:=R.low;have Rh:=R.high;obtain ⟨l,hl⟩:∃ l,lwA r p (Kb r p)=some l:=by
  unfold JF at h;simp only [Bool.and_eq_true] at h;exact Option.isSome_iff_exists.1 h.2
 rw [(law_some hrob hl).2];have Q:=lw_list (Kb r p) _ _ l hl;have el:=Q.lows;have eh:=Q.highs;have hlen:=Za hE;obtain ⟨s1,s2⟩:=slopes hb hE hen;obtain ⟨k1,hk1,hz1⟩:=s1;obtain ⟨k2,hk2,hz2⟩:=s2;have f1:=filter_lt (f:=negS r) ⟨k1,hk1,by unfold negS;simp;omega⟩;have f2:=filter_lt (f:=posS r) ⟨k2,hk2,by unfold posS;simp;omega⟩;have V:∀ k∈Kb r p,XT r k≠0->PcV r k x y:=λ k hk hz=>pcM_val hr (ZH hE k hk) hz hs;have b1:=base_pc (n:=r.low) ⟨by omega,by omega⟩;have b2:=base_pc (n:=r.high) ⟨by omega,by omega⟩;have ml:∀ q∈l.lows,q=⟨0,0,r.low,1⟩∨∃ k∈Kb r p,XT r k<0/\q=pcM r k:=by
  intro q hq;rw [el] at hq;rcases List.mem_append.1 hq with h1|h1
  ·exact .inl (List.mem_singleton.1 h1)
  ·obtain ⟨k,hk,rfl⟩:=List.mem_map.1 h1;obtain ⟨h2,h3⟩:=List.mem_filter.1 hk;exact .inr ⟨k,h2,by unfold negS at h3;exact of_decide_eq_true h3,rfl⟩
 have mh:∀ q∈l.highs,q=⟨0,0,r.high,1⟩∨∃ k∈Kb r p,0<XT r k/\q=pcM r k:=by
  intro q hq;rw [eh] at hq;rcases List.mem_append.1 hq with h1|h1
  ·exact .inl (List.mem_singleton.1 h1)
  ·obtain ⟨k,hk,rfl⟩:=List.mem_map.1 h1;obtain ⟨h2,h3⟩:=List.mem_filter.1 hk;exact .inr ⟨k,h2,by unfold posS at h3;exact of_decide_eq_true h3,rfl⟩
 have okl:∀ q∈l.lows,Zs q=true/\Xe (Xo q ⟨x,y,1⟩)=true:=by
  intro q hq;rcases ml q hq with rfl|⟨k,hk,hz,rfl⟩
  ·exact ⟨b1.ok,(piece_val (n:=0) (e:=0) b1 hs).1⟩
  ·exact ⟨(V k hk (by omega)).ok,(V k hk (by omega)).val⟩
 have okh:∀ q∈l.highs,Zs q=true/\Xe (Xo q ⟨x,y,1⟩)=true:=by
  intro q hq;rcases mh q hq with rfl|⟨k,hk,hz,rfl⟩
  ·exact ⟨b2.ok,(piece_val (n:=0) (e:=0) b2 hs).1⟩
  ·exact ⟨(V k hk (by omega)).ok,(V k hk (by omega)).val⟩
 have ll:l.lows.length=1+((Kb r p).filter (negS r)).length:=by rw [el,List.length_append,List.length_map];rfl
 have lh:l.highs.length=1+((Kb r p).filter (posS r)).length:=by rw [eh,List.length_append,List.length_map];rfl
 have ok:lawOk l=true:=by
  refine lawOk_iff.2 ⟨?_, ?_⟩<;>unfold Kf<;>simp only [Bool.and_eq_true,List.all_eq_true,YX]
  ·exact ⟨λ q hq=>(okl q hq).1,by omega,by omega⟩
  ·exact ⟨λ q hq=>(okh q hq).1,by omega,by omega⟩
 have vl:∀ i,i<l.lows.length->Xe (valA l.lows ⟨x,y,1⟩ i)=true:=λ i hi=>by
  rw [valA_at hi];exact (okl _ (List.getElem_mem hi)).2
 have vh:∀ i,i<l.highs.length->Xe (valA l.highs ⟨x,y,1⟩ i)=true:=λ i hi=>by
  rw [valA_at hi];exact (okh _ (List.getElem_mem hi)).2
 obtain ⟨nl,hnl⟩:∃ n,l.lows.length=n+1:=⟨((Kb r p).filter (negS r)).length,by omega⟩;obtain ⟨nh,hnh⟩:∃ n,l.highs.length=n+1:=⟨((Kb r p).filter (posS r)).length,by omega⟩;obtain ⟨i,hi,ei,mi⟩:=best_max (val:=valA l.lows ⟨x,y,1⟩) nl (λ i hi=>vl i (by omega));obtain ⟨j,hj,ej,mj⟩:=best_min (val:=valA l.highs ⟨x,y,1⟩) nh (λ i hi=>vh i (by omega));have al:actL l ⟨x,y,1⟩=((i:Int),valA l.lows ⟨x,y,1⟩ i):=by
  unfold actL J0;rw [if_pos ok,if_pos (allOk_yes vl),hnl,ei]
 have ah:actH l ⟨x,y,1⟩=((j:Int),valA l.highs ⟨x,y,1⟩ j):=by
  unfold actH J0;rw [if_pos ok,if_pos (allOk_yes vh),hnh,ej]
 have sl:(Kc l ⟨x,y,1⟩).low=valA l.lows ⟨x,y,1⟩ i:=by unfold Kc;rw [al]
 have sh:(Kc l ⟨x,y,1⟩).high=valA l.highs ⟨x,y,1⟩ j:=by unfold Kc;rw [ah]
 refine ⟨⟨ok,⟨i,by omega,al⟩,⟨j,by omega,ah⟩,by rw [sl];exact vl i (by omega),by rw [sh];exact vh j (by omega),λ n e he=>?_⟩,Q.flat⟩;unfold Btw;rw [sl,sh];have Li:(valA l.lows ⟨x,y,1⟩ i).n*e<=n*(valA l.lows ⟨x,y,1⟩ i).d ↔ ∀ q∈l.lows,(Xo q ⟨x,y,1⟩).n*e<=n*(Xo q ⟨x,y,1⟩).d:=by
  constructor
  ·intro k q hq;obtain ⟨m,hm,rfl⟩:=List.getElem_of_mem hq;have o1:=vl m hm;have o2:=vl i (by omega);have c:=(cmp_le o1 o2).1 (mi m (by omega));rw [valA_at hm] at c o1;have p1:=KT o1;have p2:=KT o2;exact Ko (a:=(Xo l.lows[m] ⟨x,y,1⟩).n) (b:=(Xo l.lows[m] ⟨x,y,1⟩).d) (c:=(valA l.lows ⟨x,y,1⟩ i).n) (d:=(valA l.lows ⟨x,y,1⟩ i).d) (e:=n) (f:=e) (by omega) (by omega) (by omega) c k
  ·intro k;have hi2:i<l.lows.length:=by omega
   rw [valA_at hi2];exact k _ (List.getElem_mem hi2)
 have Hj:n*(valA l.highs ⟨x,y,1⟩ j).d<=(valA l.highs ⟨x,y,1⟩ j).n*e ↔ ∀ q∈l.highs,n*(Xo q ⟨x,y,1⟩).d<=(Xo q ⟨x,y,1⟩).n*e:=by
  constructor
  ·intro k q hq;obtain ⟨m,hm,rfl⟩:=List.getElem_of_mem hq;have o1:=vh m hm;have o2:=vh j (by omega);have c:=(cmp_le o2 o1).1 (mj m (by omega));rw [valA_at hm] at c o1;have p1:=KT o1;have p2:=KT o2;exact Ko (a:=n) (b:=e) (c:=(valA l.highs ⟨x,y,1⟩ j).n) (d:=(valA l.highs ⟨x,y,1⟩ j).d) (e:=(Xo l.highs[m] ⟨x,y,1⟩).n) (f:=(Xo l.highs[m] ⟨x,y,1⟩).d) (by omega) (by omega) (by omega) k c
  ·intro k;have hj2:j<l.highs.length:=by omega
   rw [valA_at hj2];exact k _ (List.getElem_mem hj2)
 rw [Li,Hj];have B1:=(piece_val (n:=n) (e:=e) b1 hs).2.1;have B2:=(piece_val (n:=n) (e:=e) b2 hs).2.2;simp only [Int.zero_mul,Int.zero_add,Int.mul_one] at B1 B2;constructor
 ·rintro ⟨a1,a2⟩;refine ⟨⟨B1.1 (a1 _ (by rw [el];simp)),B2.1 (a2 _ (by rw [eh];simp))⟩,λ k hk hz=>?_⟩;by_cases hz2:XT r k<0
  ·exact ((V k hk hz).lo hz2 n e he).1 (a1 _ (by rw [el];exact List.mem_append.2 (.inr (List.mem_map.2 ⟨k,List.mem_filter.2 ⟨hk,by unfold negS;exact decide_eq_true hz2⟩,rfl⟩))))
  ·exact ((V k hk hz).hi (by omega) n e he).1 (a2 _ (by rw [eh];exact List.mem_append.2 (.inr (List.mem_map.2 ⟨k,List.mem_filter.2 ⟨hk,by unfold posS;exact decide_eq_true (by omega)⟩,rfl⟩))))
 ·rintro ⟨⟨a1,a2⟩,a3⟩;refine ⟨λ q hq=>?_,λ q hq=>?_⟩
  ·rcases ml q hq with rfl|⟨k,hk,hz,rfl⟩
   ·exact B1.2 a1
   ·exact ((V k hk (by omega)).lo hz n e he).2 (a3 k hk (by omega))
  ·rcases mh q hq with rfl|⟨k,hk,hz,rfl⟩
   ·exact B2.2 a2
   ·exact ((V k hk (by omega)).hi hz n e he).2 (a3 k hk (by omega))
theorem flat_adm {r:XK} {p:List Half} {k:Half} (hp:Xi p=true) (hpn:p≠[]) (hz:XT r k=0) (hc:covB p (YD r.map r.div k)=true) {s:XQ} (hs:Xv s=true) (hi:InP p s.x s.y s.d) {n e:Int} (he:0<e):AdmH r s k n e:=by
 have sd:=spot_pos hs;unfold covB at hc;simp only [Bool.and_eq_true,List.all_eq_true] at hc;obtain ⟨g,eg⟩:=Option.isSome_iff_exists.1 hc.1;have ok:XG g=true:=pulH_ok eg;obtain ⟨A,B,_⟩:=Zx.1 ok;have hcn:∀ t∈XA p,g.a*t.x+g.b*t.y<=g.c*t.d:=by
  intro t ht;have h1:=hc.2 t ht;rw [eg] at h1;simp only [Option.getD_some,Bool.not_eq_true',decide_eq_false_iff_not] at h1;unfold valS sgn at h1;split at h1
  ·omega
  ·split at h1
   ·exact absurd (by decide) h1
   ·omega
 have hg:Zf g s.x s.y s.d:=cor_span hp hpn A B hcn (by omega) hi;have h2:=(pul_pts eg).1 hg;unfold Zf pX pY at h2;unfold AdmH;rw [hz,Int.zero_mul,Int.zero_mul];have ht:0<=topA r s k:=by
  unfold topA Ju JA Ys;rw [<- Int.mul_assoc] at h2;rw [<- Int.mul_assoc];omega
 exact Int.mul_nonneg ht (by omega)
theorem law_same {r:XK} {p:List Half} (hb:0<r.bx) (h:JF r p=true) {x y:Int} (hs:Xv ⟨x,y,1⟩=true) (hi:Zl p ⟨x,y,1⟩=true):XY (Xs r p) ⟨x,y,1⟩=(XH r p ⟨x,y,1⟩).isSome/\∀ w,XH r p ⟨x,y,1⟩=some w->Kc (Xs r p) ⟨x,y,1⟩=w:=by
 have hrob:Yi r p=true:=by
  unfold JF at h;simp only [Bool.and_eq_true] at h;exact h.1
 obtain ⟨hr,hp,hpn,_,hen⟩:=rob_all hrob;obtain ⟨_,hz⟩:=holdsB_pt.1 hi;obtain ⟨L,fl⟩:=law_parts hb h hs;have hE:=ZH (rpR_ok r p);generalize hV:Kc (Xs r p) ⟨x,y,1⟩=V at *;have all:∀ n e,0<e->(Btw V n e ↔ (r.low*e<=n/\n<=r.high*e)/\∀ k∈Kb r p,AdmH r ⟨x,y,1⟩ k n e):=by
  intro n e he;have b:=L.btw n e he;rw [hV] at b;rw [b];refine and_congr_right λ _=>⟨λ a k hk=>?_,λ a k hk _=>a k hk⟩;by_cases h0:XT r k=0
  ·exact flat_adm hp hpn h0 (fl k hk h0) hs hz he
  ·exact a k hk h0
 have lok:=L.lok;have hok:=L.hok;rw [hV] at lok hok;have lp:=KT lok;have hp2:=KT hok;have same:∀ w,XH r p ⟨x,y,1⟩=some w->X6 V=true/\V=w:=by
  intro w hw;obtain ⟨_,_,ha⟩:=admAt_parts hw;have A:=admit_btw hr hs hE ha;have wl:=spanOk_r A.ok;have p1:=KT wl.1;have p2:=KT wl.2;have c1:Btw V w.low.n w.low.d:=(all _ _ (by omega)).2 ((A.btw _ _ (by omega)).1 (btw_low A.ok));have c2:Btw V w.high.n w.high.d:=(all _ _ (by omega)).2 ((A.btw _ _ (by omega)).1 (btw_high A.ok));have ok:X6 V=true:=btw_ok lok hok (by omega) c1;have d1:Btw w V.low.n V.low.d:=(A.btw _ _ (by omega)).2 ((all _ _ (by omega)).1 (btw_low ok));have d2:Btw w V.high.n V.high.d:=(A.btw _ _ (by omega)).2 ((all _ _ (by omega)).1 (btw_high ok));have e1:V.low=w.low:=ratio_ext lok wl.1 (by have:=c1.1;have:=d1.1;omega);have e2:V.high=w.high:=ratio_ext hok wl.2 (by have:=c2.2;have:=d2.2;omega);refine ⟨ok, ?_⟩;cases V;cases w;simp only at e1 e2;rw [e1,e2]
 refine ⟨?_,λ w hw=>(same w hw).2⟩;unfold XY;rw [L.ok,hV,Bool.true_and];cases e:XH r p ⟨x,y,1⟩ with
 | some w=>exact (same w e).1
 | none =>
  rcases Bool.eq_false_or_eq_true (X6 V) with h1|h1
  ·obtain ⟨⟨k1,k2⟩,k3⟩:=(all _ _ (show 0<V.low.d by omega)).1 (btw_low h1);obtain ⟨w,hw,_⟩:=admit_some hr hs (show (1:Int)<=100000 by omega) hE (by omega) k1 k2 k3;have:XH r p ⟨x,y,1⟩=some w:=by unfold XH;rw [if_pos ⟨hrob,hs⟩];exact hw
   rw [e] at this;cases this
  ·exact h1
end Go.Proofs.YtabfdkpdppemaaaGreat
