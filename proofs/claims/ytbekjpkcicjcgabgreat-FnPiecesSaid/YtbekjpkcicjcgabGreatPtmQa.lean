/-
 The law of a region is valid, and at the whole states of the region it says what the region admits.
 Conditions: valid rooms whose input drives the first coordinate, whole states.
-/
import Derived.Deep.RegionHeld3
import Derived.Deep.DeepMust
import Derived.Deep.DeepCutAuto
import Derived.Test.YtbekjpkcicjcgabGreatPtl
namespace Go.Proofs.YtbekjpkcicjcgabGreat
open Go.RowKit
theorem filter_lt {E:List Half} {f:Half->Bool} (h:∃ k∈E,f k=false):(E.filter f).length<E.length:=by
 induction E with
 | nil=>obtain ⟨k,hk,_⟩:=h;cases hk
 | cons a l ih =>
  obtain ⟨k,hk,hf⟩:=h;rcases List.mem_cons.1 hk with rfl|hk
  ·rw [List.filter_cons_of_neg (by rw [hf];simp),List.length_cons];have:=List.length_filter_le f l;omega
  ·have:=ih ⟨k,hk,hf⟩;by_cases ha:f a=true
   ·rw [List.filter_cons_of_pos ha,List.length_cons,List.length_cons];omega
   ·rw [List.filter_cons_of_neg ha,List.length_cons];omega
theorem base_pc {n:Int} (h : -1000<=n/\n<=1000):PcN 0 0 n 1 ⟨0,0,n,1⟩ 1:=by
 refine ⟨by omega,by simp,by simp,by simp,by simp, ?_,⟨by simp,by simp⟩,⟨by simp,by simp⟩,⟨by simp only;omega,by simp only;omega⟩,⟨by simp,by simp⟩⟩;refine Ka.2 ⟨⟨by simp,by simp⟩,⟨by simp,by simp⟩,⟨by simp,by simp⟩,⟨by simp only;omega,by simp only;omega⟩, ?_⟩;rw [gcd4];simp
structure LawP (r:XK) (p:List Half) (l:KS) (x y:Int):Prop where
 ok:Yd l=true
 low:∃ i:Nat,i<l.lows.length/\actL l ⟨x,y,1⟩=((i:Int),valA l.lows ⟨x,y,1⟩ i)
 high:∃ i:Nat,i<l.highs.length/\actH l ⟨x,y,1⟩=((i:Int),valA l.highs ⟨x,y,1⟩ i)
 lok:XE (lawSpan l ⟨x,y,1⟩).low=true
 hok:XE (lawSpan l ⟨x,y,1⟩).high=true
 btw:∀ n e,0<e->(Btw (lawSpan l ⟨x,y,1⟩) n e ↔ (r.low*e<=n/\n<=r.high*e)/\∀ h∈KP r p,XH r h≠0->AdmH r ⟨x,y,1⟩ h n e)
theorem law_parts {r:XK} {p:List Half} (hb:0<r.bx) (h:Jj r p=true) {x y:Int} (hs:XP ⟨x,y,1⟩=true):LawP r p (KD r p) x y/\∀ k∈KP r p,XH r k=0->covB p (pulH r.map r.div k)=true:=by
 have hrob:Z0 r p=true:=by
  unfold Jj at h;simp only [Bool.and_eq_true] at h;exact h.1
 obtain ⟨hr,hp,hpn,_,hen⟩:=rob_all hrob;have hE:=rpR_ok r p;have R:=roomB hr;have Rl:=R.low;have Rh:=R.high;obtain ⟨l,hl⟩:∃ l,lwA r p (KP r p)=some l:=by
  unfold Jj at h;simp only [Bool.and_eq_true] at h;exact Option.isSome_iff_exists.1 h.2
 rw [(law_some hrob hl).2];have Q:=lw_list (KP r p) _ _ l hl;have el:=Q.lows;have eh:=Q.highs;have hlen:=Z4 hE;obtain ⟨s1,s2⟩:=slopes hb hE hen;obtain ⟨k1,hk1,hz1⟩:=s1;obtain ⟨k2,hk2,hz2⟩:=s2;have f1:=filter_lt (f:=negS r) ⟨k1,hk1,by unfold negS;simp;omega⟩;have f2:=filter_lt (f:=posS r) ⟨k2,hk2,by unfold posS;simp;omega⟩;have V:∀ k∈KP r p,XH r k≠0->PcV r k x y:=λ k hk hz=>pcM_val hr (Z1 hE k hk) hz hs;have b1:=base_pc (n:=r.low) ⟨by omega,by omega⟩;have b2:=base_pc (n:=r.high) ⟨by omega,by omega⟩;have ml:∀ q∈l.lows,q=⟨0,0,r.low,1⟩∨∃ k∈KP r p,XH r k<0/\q=pcM r k:=by
  intro q hq;rw [el] at hq;rcases List.mem_append.1 hq with h1|h1
  ·exact .inl (List.mem_singleton.1 h1)
  ·obtain ⟨k,hk,rfl⟩:=List.mem_map.1 h1;obtain ⟨h2,h3⟩:=List.mem_filter.1 hk;exact .inr ⟨k,h2,by unfold negS at h3;exact of_decide_eq_true h3,rfl⟩
 have mh:∀ q∈l.highs,q=⟨0,0,r.high,1⟩∨∃ k∈KP r p,0<XH r k/\q=pcM r k:=by
  intro q hq;rw [eh] at hq;rcases List.mem_append.1 hq with h1|h1
  ·exact .inl (List.mem_singleton.1 h1)
  ·obtain ⟨k,hk,rfl⟩:=List.mem_map.1 h1;obtain ⟨h2,h3⟩:=List.mem_filter.1 hk;exact .inr ⟨k,h2,by unfold posS at h3;exact of_decide_eq_true h3,rfl⟩
 have okl:∀ q∈l.lows,XM q=true/\XE (XC q ⟨x,y,1⟩)=true:=by
  intro q hq;rcases ml q hq with rfl|⟨k,hk,hz,rfl⟩
  ·exact ⟨b1.ok,(JC (n:=0) (e:=0) b1 hs).1⟩
  ·exact ⟨(V k hk (by omega)).ok,(V k hk (by omega)).val⟩
 have okh:∀ q∈l.highs,XM q=true/\XE (XC q ⟨x,y,1⟩)=true:=by
  intro q hq;rcases mh q hq with rfl|⟨k,hk,hz,rfl⟩
  ·exact ⟨b2.ok,(JC (n:=0) (e:=0) b2 hs).1⟩
  ·exact ⟨(V k hk (by omega)).ok,(V k hk (by omega)).val⟩
 have ll:l.lows.length=1+((KP r p).filter (negS r)).length:=by rw [el,List.length_append,List.length_map];rfl
 have lh:l.highs.length=1+((KP r p).filter (posS r)).length:=by rw [eh,List.length_append,List.length_map];rfl
 have ok:Yd l=true:=by
  refine lawOk_iff.2 ⟨?_, ?_⟩<;>unfold YB<;>simp only [Bool.and_eq_true,List.all_eq_true,YQ]
  ·exact ⟨λ q hq=>(okl q hq).1,by omega,by omega⟩
  ·exact ⟨λ q hq=>(okh q hq).1,by omega,by omega⟩
 have vl:∀ i,i<l.lows.length->XE (valA l.lows ⟨x,y,1⟩ i)=true:=λ i hi=>by
  rw [valA_at hi];exact (okl _ (List.getElem_mem hi)).2
 have vh:∀ i,i<l.highs.length->XE (valA l.highs ⟨x,y,1⟩ i)=true:=λ i hi=>by
  rw [valA_at hi];exact (okh _ (List.getElem_mem hi)).2
 obtain ⟨nl,hnl⟩:∃ n,l.lows.length=n+1:=⟨((KP r p).filter (negS r)).length,by omega⟩;obtain ⟨nh,hnh⟩:∃ n,l.highs.length=n+1:=⟨((KP r p).filter (posS r)).length,by omega⟩;obtain ⟨i,hi,ei,mi⟩:=best_max (val:=valA l.lows ⟨x,y,1⟩) nl (λ i hi=>vl i (by omega));obtain ⟨j,hj,ej,mj⟩:=best_min (val:=valA l.highs ⟨x,y,1⟩) nh (λ i hi=>vh i (by omega));have al:actL l ⟨x,y,1⟩=((i:Int),valA l.lows ⟨x,y,1⟩ i):=by
  unfold actL bestR;rw [if_pos ok,if_pos (allOk_yes vl),hnl,ei]
 have ah:actH l ⟨x,y,1⟩=((j:Int),valA l.highs ⟨x,y,1⟩ j):=by
  unfold actH bestR;rw [if_pos ok,if_pos (allOk_yes vh),hnh,ej]
 have sl:(lawSpan l ⟨x,y,1⟩).low=valA l.lows ⟨x,y,1⟩ i:=by unfold lawSpan;rw [al]
 have sh:(lawSpan l ⟨x,y,1⟩).high=valA l.highs ⟨x,y,1⟩ j:=by unfold lawSpan;rw [ah]
 refine ⟨⟨ok,⟨i,by omega,al⟩,⟨j,by omega,ah⟩,by rw [sl];exact vl i (by omega),by rw [sh];exact vh j (by omega),λ n e he=>?_⟩,Q.flat⟩;unfold Btw;rw [sl,sh];have Li:(valA l.lows ⟨x,y,1⟩ i).n*e<=n*(valA l.lows ⟨x,y,1⟩ i).d ↔ ∀ q∈l.lows,(XC q ⟨x,y,1⟩).n*e<=n*(XC q ⟨x,y,1⟩).d:=by
  constructor
  ·intro k q hq;obtain ⟨m,hm,rfl⟩:=List.getElem_of_mem hq;have o1:=vl m hm;have o2:=vl i (by omega);have c:=(cmp_le o1 o2).1 (mi m (by omega));rw [valA_at hm] at c o1;have p1:=Ji o1;have p2:=Ji o2;exact ZG (a:=(XC l.lows[m] ⟨x,y,1⟩).n) (b:=(XC l.lows[m] ⟨x,y,1⟩).d) (c:=(valA l.lows ⟨x,y,1⟩ i).n) (d:=(valA l.lows ⟨x,y,1⟩ i).d) (e:=n) (f:=e) (by omega) (by omega) (by omega) c k
  ·intro k;have hi2:i<l.lows.length:=by omega
   rw [valA_at hi2];exact k _ (List.getElem_mem hi2)
 have Hj:n*(valA l.highs ⟨x,y,1⟩ j).d<=(valA l.highs ⟨x,y,1⟩ j).n*e ↔ ∀ q∈l.highs,n*(XC q ⟨x,y,1⟩).d<=(XC q ⟨x,y,1⟩).n*e:=by
  constructor
  ·intro k q hq;obtain ⟨m,hm,rfl⟩:=List.getElem_of_mem hq;have o1:=vh m hm;have o2:=vh j (by omega);have c:=(cmp_le o2 o1).1 (mj m (by omega));rw [valA_at hm] at c o1;have p1:=Ji o1;have p2:=Ji o2;exact ZG (a:=n) (b:=e) (c:=(valA l.highs ⟨x,y,1⟩ j).n) (d:=(valA l.highs ⟨x,y,1⟩ j).d) (e:=(XC l.highs[m] ⟨x,y,1⟩).n) (f:=(XC l.highs[m] ⟨x,y,1⟩).d) (by omega) (by omega) (by omega) k c
  ·intro k;have hj2:j<l.highs.length:=by omega
   rw [valA_at hj2];exact k _ (List.getElem_mem hj2)
 rw [Li,Hj];have B1:=(JC (n:=n) (e:=e) b1 hs).2.1;have B2:=(JC (n:=n) (e:=e) b2 hs).2.2;simp only [Int.zero_mul,Int.zero_add,Int.mul_one] at B1 B2;constructor
 ·rintro ⟨a1,a2⟩;refine ⟨⟨B1.1 (a1 _ (by rw [el];simp)),B2.1 (a2 _ (by rw [eh];simp))⟩,λ k hk hz=>?_⟩;by_cases hz2:XH r k<0
  ·exact ((V k hk hz).lo hz2 n e he).1 (a1 _ (by rw [el];exact List.mem_append.2 (.inr (List.mem_map.2 ⟨k,List.mem_filter.2 ⟨hk,by unfold negS;exact decide_eq_true hz2⟩,rfl⟩))))
  ·exact ((V k hk hz).hi (by omega) n e he).1 (a2 _ (by rw [eh];exact List.mem_append.2 (.inr (List.mem_map.2 ⟨k,List.mem_filter.2 ⟨hk,by unfold posS;exact decide_eq_true (by omega)⟩,rfl⟩))))
 ·rintro ⟨⟨a1,a2⟩,a3⟩;refine ⟨λ q hq=>?_,λ q hq=>?_⟩
  ·rcases ml q hq with rfl|⟨k,hk,hz,rfl⟩
   ·exact B1.2 a1
   ·exact ((V k hk (by omega)).lo hz n e he).2 (a3 k hk (by omega))
  ·rcases mh q hq with rfl|⟨k,hk,hz,rfl⟩
   ·exact B2.2 a2
   ·exact ((V k hk (by omega)).hi hz n e he).2 (a3 k hk (by omega))
end Go.Proofs.YtbekjpkcicjcgabGreat
