/-
 The greatest value of a direction over a valid region, and the half planes of an eroded region. No program is named here.
 Conditions: none.
-/
import Derived.Test.YtkjimfapbjdafaaGreatGeo9
namespace Go.Proofs.YtkjimfapbjdafaaGreat
open Go.RowKit
theorem far5B {q:X0} {a b:Int} (hq:Yj q=true) (ha : -50000<=a/\a<=50000) (hb : -50000<=b/\b<=50000) :
 (-250000000000000000<=a*q.x/\a*q.x<=250000000000000000)/\(-250000000000000000<=b*q.y/\b*q.y<=250000000000000000)/\(1<=q.d/\q.d<=5000000000):=by
 obtain ⟨h1,h2,h3,_⟩:=spotOk_iff.1 hq;have p:=mulB (a:=a) (b:=q.x) (A:=50000) (B:=5000000000000) ⟨by omega,by omega⟩ ⟨by omega,by omega⟩;have r:=mulB (a:=b) (b:=q.y) (A:=50000) (B:=5000000000000) ⟨by omega,by omega⟩ ⟨by omega,by omega⟩;exact ⟨⟨by omega,by omega⟩,⟨by omega,by omega⟩,h1⟩
theorem far5_bd {xs:List X0} {a b:Int} (ha : -50000<=a/\a<=50000) (hb : -50000<=b/\b<=50000) (hok:∀ j,j<xs.length->Yj (xs.getD j Zb)=true):∀ k:Nat,k<=xs.length ->
 (-1<=(ZQ xs a b k).1/\(ZQ xs a b k).1<(k:Int))/\(-500000000000000000<=(ZQ xs a b k).2.1/\(ZQ xs a b k).2.1<=500000000000000000)/\(k=0/\ZQ xs a b k=(-1,0,0)∨0<k/\0<=(ZQ xs a b k).1/\1<=(ZQ xs a b k).2.2)/\(0<=(ZQ xs a b k).2.2/\(ZQ xs a b k).2.2<=5000000000)
 | 0,_=>by simp [ZQ]
 | k+1,hk=>by
  obtain ⟨h1,h2,h3,h4⟩:=far5_bd ha hb hok k (by omega);obtain ⟨p1,p2,p3⟩:=far5B (hok k (by omega)) ha hb;rw [ZQ];split
  ·simp only [J8,farDen];exact ⟨⟨by omega,by omega⟩,⟨by omega,by omega⟩,.inr ⟨by omega,by omega,by omega⟩,⟨by omega,by omega⟩⟩
  ·rename_i hn
   rcases h3 with ⟨rfl,h3⟩|h3
   ·exfalso;apply hn;left;rw [h3];decide
   ·exact ⟨⟨by omega,by omega⟩,h2,.inr ⟨by omega,by omega,by omega⟩,h4⟩
def supF (p:List Half) (a b:Int):Int × Int × Int:=ZQ (YH p) a b (YH p).length
def sup (p:List Half) (a b:Int):YO:=XL (supF p a b).2.1 (supF p a b).2.2
theorem cor_ok {p:List Half} (hr:Xt p=true):∀ j,j<(YH p).length->Yj ((YH p).getD j Zb)=true:=by
 intro j hj;rw [far_get hj,corners_at p j (by rw [Kh] at hj;exact hj)];exact (reg_corner hr (by rw [Kh] at hj;exact hj)).ok
structure SupB (p:List Half) (a b:Int):Prop where
 i:0<=(supF p a b).1
 n : -500000000000000000<=(supF p a b).2.1/\(supF p a b).2.1<=500000000000000000
 d:1<=(supF p a b).2.2/\(supF p a b).2.2<=5000000000
theorem supB {p:List Half} {a b:Int} (hr:Xt p=true) (hne:p≠[]) (ha : -50000<=a/\a<=50000) (hb : -50000<=b/\b<=50000):SupB p a b:=by
 have hl:0<(YH p).length:=by rw [Kh];exact List.length_pos_iff.2 hne
 obtain ⟨h1,h2,h3,h4⟩:=far5_bd ha hb (cor_ok hr) (YH p).length Xv;refine ⟨?_,h2, ?_, ?_⟩<;>unfold supF<;>omega
structure SupR (p:List Half) (a b:Int):Prop where
 ok:Xq (sup p a b)=true
 n : -500000000000000000<=(sup p a b).n/\(sup p a b).n<=500000000000000000
 d:1<=(sup p a b).d/\(sup p a b).d<=5000000000
 g:Nat.gcd (sup p a b).n.natAbs (sup p a b).d.natAbs=1
theorem supR {p:List Half} {a b:Int} (hr:Xt p=true) (hne:p≠[]) (ha : -50000<=a/\a<=50000) (hb : -50000<=b/\b<=50000):SupR p a b:=by
 have B:=supB hr hne ha hb;have hn:=B.n;have hd:=B.d;obtain ⟨ok,k,hk,e1,e2⟩:=YM (n:=(supF p a b).2.1) (d:=(supF p a b).2.2) ⟨by omega,by omega⟩ ⟨by omega,by omega⟩;obtain ⟨⟨q1,_⟩,_,q3⟩:=Y5.1 ok;change Xq (sup p a b)=true at ok
 change (supF p a b).2.1=k*(sup p a b).n at e1
 change (supF p a b).2.2=k*(sup p a b).d at e2
 change 1<=(sup p a b).d at q1
 have g1:(sup p a b).d<=k*(sup p a b).d:=by
  have:=Int.mul_le_mul_of_nonneg_right (show (1:Int)<=k by omega) (show (0:Int)<=(sup p a b).d by omega);omega
 have g2 : -500000000000000000<=(sup p a b).n/\(sup p a b).n<=500000000000000000:=by
  rcases Int.le_total 0 (sup p a b).n with h|h
  ·have:=Int.mul_le_mul_of_nonneg_right (show (1:Int)<=k by omega) h;constructor<;>omega
  ·have:=Int.mul_le_mul_of_nonpos_right (show (1:Int)<=k by omega) h;constructor<;>omega
 exact ⟨ok,g2,⟨q1,by omega⟩,q3⟩
theorem SupR.in_ {p:List Half} {a b:Int} (h:SupR p a b):(sup p a b).In:=⟨⟨by have:=h.n;omega,by have:=h.n;omega⟩,⟨by have:=h.d;omega,by have:=h.d;omega⟩⟩
def Z6 (p:List Half) (h:Half):Option Half:=Zs (h.a*(sup p h.a h.b).d) (h.b*(sup p h.a h.b).d) (h.c*(sup p h.a h.b).d-(sup p h.a h.b).n)
theorem ratio_less {c n d:Int} (hc : -100000000<=c/\c<=100000000) (hn : -500000000000000000<=n/\n<=500000000000000000) (hd:1<=d/\d<=5000000000) (hg:Nat.gcd n.natAbs d.natAbs=1):XL (c*d-n) d=⟨c*d-n,d⟩:=by
 have m:=mulB (a:=c) (b:=d) (A:=100000000) (B:=5000000000) ⟨by omega,by omega⟩ ⟨by omega,by omega⟩;obtain ⟨ok,k,hk,e1,e2⟩:=YM (n:=c*d-n) (d:=d) ⟨by omega,by omega⟩ ⟨by omega,by omega⟩;have k1:k ∣ d:=⟨_,e2⟩;have k2:k ∣ n:=by
  have:n=c*d-(c*d-n):=by omega
  rw [this];exact Int.dvd_sub (Int.dvd_trans k1 (Int.dvd_mul_left c d)) ⟨_,e1⟩
 have k3:k.natAbs ∣ 1:=by
  rw [<- hg];exact Nat.dvd_gcd (Int.natAbs_dvd_natAbs.2 k2) (Int.natAbs_dvd_natAbs.2 k1)
 have:k=1:=by have:=Nat.dvd_one.1 k3;omega
 subst this;generalize XL (c*d-n) d=r at *;obtain ⟨x,y⟩:=r;simp only at e1 e2;rw [Int.one_mul] at e1 e2;rw [<- e1,<- e2]
theorem ero_none {a b c n d:Int} (hab:¬(a=0/\b=0)) (hd:50000<d) (hg:Nat.gcd n.natAbs d.natAbs=1):Zs (a*d) (b*d) (c*d-n)=none:=by
 unfold Zs;split
 ·rfl
 split
 ·rename_i h0 hok
  exfalso;obtain ⟨h1,h2,_⟩:=ZV.1 hok;simp only [redHalf] at h1 h2;obtain ⟨d1,d2,d3⟩:=@gcdAll_dvd (a*d) (b*d) (c*d-n);generalize Xs [a*d,b*d,c*d-n]=g at *;have hco:Nat.gcd g d.natAbs=1:=by
   have q1:((Nat.gcd g d.natAbs:Nat):Int) ∣ c*d-n:=Int.dvd_trans (Int.natCast_dvd_natCast.2 (Nat.gcd_dvd_left _ _)) d3;have q2:((Nat.gcd g d.natAbs:Nat):Int) ∣ d:=Int.ofNat_dvd_left.2 (Nat.gcd_dvd_right _ _);have q3:((Nat.gcd g d.natAbs:Nat):Int) ∣ n:=by
    have:n=c*d-(c*d-n):=by omega
    rw [this];exact Int.dvd_sub (Int.dvd_trans q2 (Int.dvd_mul_left c d)) q1
   have:=Nat.dvd_gcd (Int.ofNat_dvd_left.1 q3) (Int.ofNat_dvd_left.1 q2);rw [hg] at this;exact Nat.dvd_one.1 this
  have key:∀ x:Int,(g:Int) ∣ x*d->x≠0->50000<((x*d).tdiv (g:Int)).natAbs:=by
   intro x hx hx0;have:g ∣ x.natAbs:=by
    have h:=Int.ofNat_dvd_left.1 hx;rw [Int.natAbs_mul] at h;exact Nat.Coprime.dvd_of_dvd_mul_right hco h
   obtain ⟨y,hy⟩:=Int.ofNat_dvd_left.2 this;have hg0:g≠0:=by rintro rfl;apply h0;simp
   rw [hy,Int.mul_assoc,Int.mul_tdiv_cancel_left _ (by omega),Int.natAbs_mul];have hy0:y≠0:=by rintro rfl;rw [Int.mul_zero] at hy;exact hx0 hy
   have:=Nat.mul_le_mul (show 1<=y.natAbs by omega) (Nat.le_refl d.natAbs);omega
  rcases Classical.em (a=0) with ha|ha
  ·have:=key b d2 (λ h=>hab ⟨ha,h⟩);omega
  ·have:=key a d1 ha;omega
 ·rfl
section
variable {α:Type} {X:α->α->Int} {D:α->α->α->Int} {L:List α}
end
end Go.Proofs.YtkjimfapbjdafaaGreat
