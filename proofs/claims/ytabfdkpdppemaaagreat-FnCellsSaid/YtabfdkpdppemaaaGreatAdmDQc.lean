/-
 The inputs that are admitted under a drift: of the program and of the reference.
 Conditions: the slices hold at most 2^20 elements.
-/
import Derived.Test.YtabfdkpdppemaaaGreatGrXgQc
namespace Go.Proofs.YtabfdkpdppemaaaGreat
open Go.RowKit
theorem accS_ok {A:XQ->Option Zg} (hA:∀ t v,A t=some v->X6 v=true) {l:List XQ} {k:Nat} {v:Zg} (h:Jh A l (k+1)=some v):X6 v=true:=by
 rw [Jh] at h;cases e:Jh A l k with
 | none=>rw [e] at h;cases h
 | some x =>
  rw [e] at h;simp only [Option.bind_some] at h;cases e2:A (l.getD k Kj) with
  | none=>rw [e2] at h;cases h
  | some y =>
   rw [e2] at h;simp only [Option.bind_some] at h;split at h
   ·cases h;exact hA _ _ e2
   ·exact meetSp_ok h
theorem ratio_whole {n:Int} (h : -1000000000000000000<=n/\n<=1000000000000000000):X7 n 1=⟨n,1⟩:=by
 obtain ⟨_,k,hk,e1,e2⟩:=Ke (n:=n) (d:=1) h ⟨by omega,by omega⟩;have h1:k ∣ 1:=⟨_,e2⟩;have h2:k<=1:=Int.le_of_dvd (by omega) h1;have h3:k=1:=by omega
 subst h3;rw [Int.one_mul] at e1 e2;cases hq:X7 n 1 with
 | mk a b=>rw [hq] at e1 e2;simp only at e1 e2;rw [e1,<- e2]
theorem whole_ok {n:Int} (h : -1000000000000000000<=n/\n<=1000000000000000000):Xe ⟨n,1⟩=true:=by
 have:=(Ke (n:=n) (d:=1) h ⟨by omega,by omega⟩).1;rwa [ratio_whole h] at this
theorem div_bd {n d:Int} (h1 : -9223372036854775807<=n) (h2:n<=9223372036854775807) (hd:0<d) : -9223372036854775807<=n / d/\n / d<=9223372036854775807:=floor_le hd 9223372036854775807 (by omega) (by omega) (by omega)
section
variable {v:Zg} {wish:Int} (h:X6 v=true)
include h
end
theorem box_lin {A B C x0 x1 y0 y1 x y:Int} (hx:x0<=x/\x<=x1) (hy:y0<=y/\y<=y1) (c1:0<=A*x0+B*y0+C) (c2:0<=A*x1+B*y0+C) (c3:0<=A*x1+B*y1+C) (c4:0<=A*x0+B*y1+C):0<=A*x+B*y+C:=by
 rcases Int.le_total 0 A with hA|hA<;>rcases Int.le_total 0 B with hB|hB
 ·have m1:=Int.mul_le_mul_of_nonneg_left hx.1 hA;have m2:=Int.mul_le_mul_of_nonneg_left hy.1 hB;omega
 ·have m1:=Int.mul_le_mul_of_nonneg_left hx.1 hA;have m2:=Int.mul_le_mul_of_nonpos_left hB hy.2;omega
 ·have m1:=Int.mul_le_mul_of_nonpos_left hA hx.2;have m2:=Int.mul_le_mul_of_nonneg_left hy.1 hB;omega
 ·have m1:=Int.mul_le_mul_of_nonpos_left hA hx.2;have m2:=Int.mul_le_mul_of_nonpos_left hB hy.2;omega
theorem box_adm {r:XK} {h:Half} {n e x0 x1 y0 y1 x y:Int} (hx:x0<=x/\x<=x1) (hy:y0<=y/\y<=y1) (c1:AdmH r ⟨x0,y0,1⟩ h n e) (c2:AdmH r ⟨x1,y0,1⟩ h n e) (c3:AdmH r ⟨x1,y1,1⟩ h n e) (c4:AdmH r ⟨x0,y1,1⟩ h n e):AdmH r ⟨x,y,1⟩ h n e:=by
 have key:∀ x y:Int,AdmH r ⟨x,y,1⟩ h n e ↔ 0<=-((h.a*r.map.getD 0 0+h.b*r.map.getD 2 0)*e)*x + -((h.a*r.map.getD 1 0+h.b*r.map.getD 3 0)*e)*y+(h.c*r.div*e-XT r h*n*r.div):=by
  intro x y;unfold AdmH topA Ju JA Ys;simp only [Int.mul_one];have e1:(h.c*r.div-h.a*(r.map.getD 0 0*x+r.map.getD 1 0*y)-h.b*(r.map.getD 2 0*x+r.map.getD 3 0*y))*e = -((h.a*r.map.getD 0 0+h.b*r.map.getD 2 0)*e)*x + -((h.a*r.map.getD 1 0+h.b*r.map.getD 3 0)*e)*y+h.c*r.div*e:=by grind
  omega
 rw [key] at *;exact box_lin hx hy c1 c2 c3 c4
theorem meetSp_btw {a b w:Zg} (h:meetSp a b=some w) {n e:Int} (he:0<e):Btw w n e ↔ Btw a n e/\Btw b n e:=by
 unfold meetSp at h;split at h
 ·rename_i q
  injection h with h
  obtain ⟨a1,a2⟩:=spanOk_r q.1;obtain ⟨b1,b2⟩:=spanOk_r q.2.1;subst h;unfold Btw;simp only;rw [maxR_le a1 b1 he,minR_ge a2 b2 he];exact ⟨λ k=>⟨⟨k.1.1,k.2.1⟩,k.1.2,k.2.2⟩,λ k=>⟨⟨k.1.1,k.2.1⟩,k.1.2,k.2.2⟩⟩
 ·cases h
theorem accS_btw {A:XQ->Option Zg} {l:List XQ} (hA:∀ t v,A t=some v->X6 v=true):∀ (k:Nat) (w:Zg),Jh A l (k+1)=some w->X6 w=true/\(∀ i,i<k+1->∃ v,A (l.getD i Kj)=some v)/\∀ n e,0<e->(Btw w n e ↔ ∀ i,i<k+1->∀ v,A (l.getD i Kj)=some v->Btw v n e)
 | 0,w,h=>by
  rw [Jh,Jh,Option.bind_some] at h;cases e:A (l.getD 0 Kj) with
  | none=>rw [e] at h;cases h
  | some v =>
   rw [e,Option.bind_some,if_pos rfl] at h;injection h with h
   subst h;refine ⟨hA _ _ e,λ i hi=>⟨v,by rw [show i=0 by omega];exact e⟩,λ n e' _=>⟨λ k i hi u hu=>?_,λ k=>k 0 (by omega) v e⟩⟩;rw [show i=0 by omega,e] at hu;injection hu with hu
   rw [<- hu];exact k
 | k+1,w,h=>by
  rw [Jh] at h;cases e:Jh A l (k+1) with
  | none=>rw [e] at h;cases h
  | some u =>
   rw [e,Option.bind_some] at h;cases e2:A (l.getD (k+1) Kj) with
   | none=>rw [e2] at h;cases h
   | some v =>
    rw [e2,Option.bind_some,if_neg (by omega)] at h;obtain ⟨_,i2,i3⟩:=accS_btw hA k u e;refine ⟨meetSp_ok h,λ i hi=>?_,λ n e' he=>?_⟩
    ·by_cases hk:i=k+1
     ·exact ⟨v,by rw [hk];exact e2⟩
     ·exact i2 i (by omega)
    ·rw [meetSp_btw h he,i3 n e' he];constructor
     ·rintro ⟨k1,k2⟩ i hi x hx;by_cases hk:i=k+1
      ·rw [hk,e2] at hx;injection hx with hx
       rw [<- hx];exact k2
      ·exact k1 i (by omega) x hx
     ·intro k0;exact ⟨λ i hi=>k0 i (by omega),k0 (k+1) (by omega) v e2⟩
end Go.Proofs.YtabfdkpdppemaaaGreat
