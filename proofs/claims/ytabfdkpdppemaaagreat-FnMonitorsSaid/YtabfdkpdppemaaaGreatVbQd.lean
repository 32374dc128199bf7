/-
 Appends to the slices of a law, as steps of regions: where the new slice lies.
 Conditions: none.
-/
import Derived.Maps.AppendAt
import Derived.Test.YtabfdkpdppemaaaGreatPreQd
import Derived.Test.YtabfdkpdppemaaaGreatMeetR
import Derived.Test.YtabfdkpdppemaaaGreatDrw
namespace Go.Proofs.YtabfdkpdppemaaaGreat
open Go.RowKit
theorem wp_app1at {α:Type} {T sz:Nat} {enc:α->List Value} (Yo:∀ x,(enc x).length=sz) {P:Program} {o:Oper} {a:Act} {w:World} {N:Act->World->Prop} {Q:Exit->Act->World->Prop} {s x:Operand} {t:TypeId}
 (ho:o.op=.call { callee:=.builtin .append,args:=#[s,x],argTypes:=#[t,t] })
 (base:Nat) (i:TypeInfo) (z:Value) (bytes:Nat) (ht:P.underlying t=some (.slice T)) (hi:P.info? T=some i) (hz:i.zero=some z)
 (hsize:i.size=sz) (hby:i.bytes=bytes) (hzs:z.cells.size=sz) (hpos:0<sz)
 {A:Option Addr} {n c:Nat} {xs:List α} (hs:a.eval s=.slice A n c) (hown:XU T sz enc w base (.slice A n c) xs) {g T':Nat} (hx:a.eval x=.slice (some ⟨g,0,none⟩) 1 1) {y:α} (hy:Xx w g T' (enc y)) (h1:∀ y,∀ u∈enc y,u.oneCell'=true)
 (hbase:base<=w.heap.size) (hn:xs.length<=1000000000) (hbytes:bytes<=128)
 (hN:∀ A' c' w',XU T sz enc w' base (.slice A' (xs++[y]).length c') (xs++[y])->Kp (blkL A) w w'->(∀ p,A'=some p->(∃ q,A=some q/\q.block=p.block)∨p.block=w.heap.size)->N (a.put o.dst (.slice A' (xs++[y]).length c')) w'):o.wp P a w N Q:=by
 obtain ⟨A0,c0,e0,hr⟩:=hown;injection e0 with e1 e2 e3
 subst e1 e2 e3;have hb2:(xs.length+1)*bytes<=1000000001*128:=Nat.mul_le_mul (by omega) hbytes;have hl:(xs++[y]).length=xs.length+1:=by simp
 have hf:(xs++[y]).flatMap enc=xs.flatMap enc++enc y:=by simp
 obtain ⟨v',w',hrun,hown',hg,_,hat⟩:=run_append_own_at (P:=P) w base t o.type T i z sz bytes ht hi hz hsize hby hzs hpos _ _ _ hr ⟨g,0,none⟩ 1 1 (enc y) (by rw [Yo,Nat.one_mul]) (λ j u hu=>by
  have:=hy.cell j;rw [Addr.add_lit,Nat.zero_add,this];exact hu) (h1 y) (by unfold maxLen;omega) (by omega) hbase
 rw [<- hf] at hown';have hN2:XU T sz enc w' base v' (xs++[y]):=XU.mk' hl.symm hown';have key:N (a.put o.dst v') w':=by
  clear hrun;obtain ⟨A',c',rfl,hN'⟩:=hN2;refine hN A' c' w' ⟨A',c',rfl,hN'⟩ (Kp.grown hg) (λ p hp=>?_);subst hp;rcases hat with h|h
  ·cases A with
   | none=>simp [Value.ownBlock] at h
   | some q=>exact .inl ⟨q,rfl,by simpa [Value.ownBlock] using h.symm⟩
  ·exact .inr (by simpa [Value.ownBlock] using h)
 unfold Oper.wp;simp [execOp,ho,resolve,invoke,builtin,hs,hx,hrun,Result.andThen];exact key
theorem Yx.kpLo {M:List Nat} {w w':World} {base:Nat} {x:Law} {a:LawA} (h:Yx w base x a) (k:Kp M w w') (hM:∀ m∈M,m<base):Yx w' base x a :=
 ⟨h.lows.kpN k (λ p hp hm=>by have:=hM _ hm;have:=h.lows.blk p hp;omega),h.highs.kpN k (λ p hp hm=>by have:=hM _ hm;have:=h.highs.blk p hp;omega),h.apart⟩
theorem XU.kpT {α:Type} {T sz base n c g:Nat} {enc:α->List Value} {w w':World} {A:Option Addr} {xs:List α} (h:XU T sz enc w base (.slice A n c) xs) (k:Kp [g] w w') (hA:∀ p,A=some p->p.block≠g):XU T sz enc w' base (.slice A n c) xs:=by
 obtain ⟨A',cap,e,h1,h2⟩:=h;refine ⟨A',cap,e,h1, ?_⟩;rcases h2 with h2|⟨q,cap',cur,hv,hg,hh,r⟩
 ·exact .inl h2
 ·have hA2:A=some ⟨q,0,none⟩:=by injection hv
  exact .inr ⟨q,cap',cur,hv,hg,(k.block q (Yd hh) (by simp only [List.mem_singleton];exact hA _ hA2)).trans hh,r⟩
def keptB (r:XK) (p:List Half):Bool:=!(!(X0 r) || !(Xi p) || !(ZW p r.limits))&&(Kw r p&&ZW p (YW r p))
theorem preR_ok (r:XK) (p:List Half):Xi (YW r p)=true:=by
 unfold YW;split
 ·exact movR_ok (λ _ _ _ e=>pulH_ok e)
 ·rfl
theorem spanOk_le {w:Zg} (h:X6 w=true):w.low.n*w.high.d<=w.high.n*w.low.d:=by
 have h2:=spanOk_r h;unfold X6 at h;simp only [Bool.and_eq_true,decide_eq_true_eq] at h;exact (cmp_le h2.1 h2.2).1 h.2
theorem btw_low {w:Zg} (hw:X6 w=true):Btw w w.low.n w.low.d:=⟨Int.le_refl _,spanOk_le hw⟩
theorem btw_high {w:Zg} (hw:X6 w=true):Btw w w.high.n w.high.d:=⟨spanOk_le hw,Int.le_refl _⟩
section
variable {a b:Bool}
end
theorem reg_in {p:List Half} (h:Xi p=true):∀ g∈p,g.In:=λ g hg=>hIn (hOk (ZH h g hg))
def kpF (r:XK):Nat->List Half->Option (List Half)
 | 0,_=>none
 | n+1,p=>if (Kw r p&&mrOk p (YW r p))=true then (if mrR p (YW r p)=p then some p else kpF r n (mrR p (YW r p))) else none
def XW (r:XK):Option (List Half):=if X0 r=true then kpF r 12 r.limits else none
theorem mr_pts {p q:List Half} (hp:Xi p=true) (hq:Xi q=true) (hne:mrR p q≠[]):p≠[]/\q≠[]/\∀ {x y d:Int},0<d->(InP (mrR p q) x y d ↔ InP p x y d/\InP q x y d):=by
 unfold mrR at hne ⊢;split at hne
 ·rename_i h
  rw [if_pos h];have hpn:p≠[]:=λ e=>h.2.1 (by rw [e];rfl);have hqn:q≠[]:=λ e=>h.2.2 (by rw [e];rfl);refine ⟨hpn,hqn,λ{x y d} hd=>?_⟩;rw [meetR_pts (app_ok (ZH hp) (ZH hq)) hne (by omega),inP_app];exact ⟨λ k=>k.2,λ k=>⟨reg_frame hp hpn (by omega) k.1,k⟩⟩
 ·exact absurd rfl hne
theorem within_refl {p:List Half} (hp:Xi p=true):ZW p p=true:=pts_within hp (λ h=>h) (λ _ _ _ _ _ h=>h)
theorem within_trans {p q k:List Half} (hp:Xi p=true) (hq:Xi q=true) (hk:Xi k=true) (h1:ZW p q=true) (h2:ZW q k=true):ZW p k=true:=by
 by_cases hne:p=[]
 ·rw [hne];rfl
 ·obtain ⟨a1,a2⟩:=within_pts hp hne hq h1;obtain ⟨b1,b2⟩:=within_pts hq a1 hk h2;exact pts_within hp (λ _=>b1) (λ _ x y d hd hz=>b2 x y d hd (a2 x y d hd hz))
theorem mr_within {p q:List Half} (hp:Xi p=true) (hq:Xi q=true):ZW (mrR p q) p=true/\ZW (mrR p q) q=true:=by
 have ok:=mrR_ok hp hq;by_cases hne:mrR p q=[]
 ·rw [hne];exact ⟨rfl,rfl⟩
 ·obtain ⟨h1,h2,h3⟩:=mr_pts hp hq hne;exact ⟨pts_within ok (λ _=>h1) (λ _ x y d hd hz=>((h3 hd).1 hz).1),pts_within ok (λ _=>h2) (λ _ x y d hd hz=>((h3 hd).1 hz).2)⟩
theorem kpF_kept {r:XK} (hr:X0 r=true):∀ (n:Nat) (p:List Half),Xi p=true->ZW p r.limits=true->∀ q,kpF r n p=some q->keptB r q=true/\Xi q=true
 | 0,_,_,_,_,e=>by cases e
 | n+1,p,hp,hw,q,e=>by
  have hq:=preR_ok r p;have hm:=mrR_ok hp hq;obtain ⟨w1,w2⟩:=mr_within hp hq;rw [kpF] at e;split at e
  ·rename_i h
   split at e
   ·rename_i h2
    injection e with e
    subst e;rw [h2] at w2;refine ⟨?_,hp⟩;unfold keptB;simp only [Bool.and_eq_true] at h;rw [hr,hp,hw,h.1,w2];rfl
   ·exact kpF_kept hr n _ hm (within_trans hm hp (roomR hr).limits w1 hw) q e
  ·cases e
theorem kpO_kept {r:XK} {q:List Half} (h:XW r=some q):X0 r=true/\keptB r q=true/\Xi q=true:=by
 unfold XW at h;split at h
 ·rename_i hr
  exact ⟨hr,kpF_kept hr 12 _ (roomR hr).limits (within_refl (roomR hr).limits) q h⟩
 ·cases h
end Go.Proofs.YtabfdkpdppemaaaGreat
