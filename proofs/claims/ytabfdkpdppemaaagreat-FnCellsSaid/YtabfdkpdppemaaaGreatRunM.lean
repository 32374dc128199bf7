/-
 The run of a room, step by step, in plain words.
 Conditions: none.
-/
import Derived.Test.YtabfdkpdppemaaaGreatDrw
namespace Go.Proofs.YtabfdkpdppemaaaGreat
open Go.RowKit
variable {r:XK} {p:List Half} {s:XQ} {ws:List Int} {ns:List XQ}
end Go.Proofs.YtabfdkpdppemaaaGreat
namespace Go.Proofs.YtabfdkpdppemaaaGreat
open Go.RowKit
section
variable {W w w':World} {a:Act} {s T g g':Nat} {z:List Value} {b:Bool} {C:World->List Value->Prop} {k:Option Nat} {v:Value}
end
section
variable {P:Program} {o:Oper} {a:Act} {w:World} {N:Act->World->Prop} {Q:Exit->Act->World->Prop}
end
section
variable {K:Act->World->Prop} {Q:Exit->Act->World->Prop} {a:Act} {w:World} {i k:Nat}
end
theorem oMCX {P:Program} {a0:Act} {w0:World} {D M ss:List Nat} {dl:List (List Nat)} {vs:List (Option Value)} {X:(Nat->Bool)->Act->World->Prop} {o:Oper} {i:Nat} {v:Value} (h:o.op=.move (.const v)) (hv:KD vs[i]? v) (hx:∀ L a w v,X L a w->X (Yh L i) (a.put o.dst v) w) :
 ∀ (Lk:Nat->Bool) (a:Act) (w:World),OX a0 w0 D M ss dl vs X i Lk a w->∀ (N:Act->World->Prop) (Q:Exit->Act->World->Prop),(∀ v w',Kp M w0 w'->KD vs[i]? v->X (Yh Lk i) (a.put o.dst v) w'->N (a.put o.dst v) w')->o.wp P a w N Q :=
 λ _ _ _ H _ _ hN=>Xy h (rfl) (hN _ _ H.k hv (hx _ _ _ _ H.x))
theorem spanOk_mk {w:Zg} (h1:Xe w.low=true) (h2:Xe w.high=true) (h:w.low.n*w.high.d<=w.high.n*w.low.d):X6 w=true:=by
 unfold X6;rw [h1,h2,decide_eq_true ((cmp_le h1 h2).2 h)];rfl
theorem btw_ok {w:Zg} {n e:Int} (h1:Xe w.low=true) (h2:Xe w.high=true) (he:0<e) (h:Btw w n e):X6 w=true :=
 spanOk_mk h1 h2 (Ko (a:=w.low.n) (b:=w.low.d) (c:=n) (d:=e) (e:=w.high.n) (f:=w.high.d) he (by have:=KT h1;omega) (by have:=KT h2;omega) h.1 h.2)
theorem admit_some {r:XK} {E:List Half} {s:XQ} (hr:X0 r=true) (hs:Xv s=true) (hd:s.d<=100000) (hE:∀ h∈E,XG h=true) {n e:Int} (he:0<e) (h1:r.low*e<=n) (h2:n<=r.high*e) (hA:∀ h∈E,AdmH r s h n e):∃ w,YH r E s=some w/\Btw w n e:=by
 have B:=roomB hr;have M:=mapB B hs hd;have F:=adm_fold B M E ⟨⟨r.low,1⟩,⟨r.high,1⟩⟩ hE (one_ok B.low) (one_ok ⟨by have:=B.low;have:=B.high;omega,by have:=B.high;omega⟩);obtain ⟨w,hw⟩:=F.2 (λ h hh h0=>by
  have:=hA h hh;unfold AdmH at this;rw [h0,Int.zero_mul,Int.zero_mul] at this;exact gmn (a:=e) (by rw [Int.mul_comm];exact this) he)
 obtain ⟨⟨o1,o2⟩,hb⟩:=F.1 w hw;have hbt:Btw w n e:=(hb n e he).2 ⟨btw0.2 ⟨h1,h2⟩,hA⟩;refine ⟨w, ?_,hbt⟩;unfold YH;rw [if_neg (by omega),show admL r s E=some w from hw,Option.bind_some,if_pos (btw_ok o1 o2 he hbt)]
section
variable {a b:Bool}
end
theorem drawn_lim {r:XK} (h:Kq r):r.limits.length<=1048576:=by
 have:=Za (roomR h.d.ok).limits;omega
end Go.Proofs.YtabfdkpdppemaaaGreat
