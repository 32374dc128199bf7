/-
 The meet of a valid region and half planes: its edges are edges of the one or among the others, so it is valid again; the order of the half planes doesn't matter. No program is named here.
 Conditions: none.
-/
import Derived.Test.YtbekjpkcicjcgaaGreatGrR
import Derived.JoinedOf
import Derived.Deep.RegionHeld3
import Derived.Deep.DeepMust
import Derived.Deep.DeepCutAuto
import Derived.Test.YtbekjpkcicjcgaaGreatGrN
namespace Go.Proofs.YtbekjpkcicjcgaaGreat
open Go.RowKit
theorem regionOk_meetR {hs:List Half} (hok:∀ h∈hs,Xt h=true):Xb (XZ (Xs hs))=true:=by
 unfold XZ;split
 ·rename_i h
  exact regionOk_meet hok (by simpa [YA] using h)
 ·rfl
theorem tight_sub {a b:List Half} (ha:∀ h∈a,Xt h=true) (hb:∀ h∈b,Xt h=true) (h:∀ x,x∈a ↔ x∈b):∀ x∈Y8 a,x∈Y8 b:=by
 intro x hx;have c1:=Zk (hs:=a) (λ f hf=>(KS (ha f hf)).n);have c2:=Zk (hs:=b) (λ f hf=>(KS (hb f hf)).n);have xa:=c1.mem x hx;obtain ⟨y,hy,cy⟩:=c2.cov x ((h x).1 xa);have yb:=c2.mem y hy;obtain ⟨z,hz,cz⟩:=c1.cov y ((h y).2 yb);have za:=c1.mem z hz;have s:=same_trans (KS (ha z za)).n (KS (hb y yb)).n cz.1 cy.1;have e:=c1.sorted.same (λ f hf=>(KS (ha f (c1.mem f hf))).n) hz hx s;subst e;have:=half_eq (hb y yb) (ha z za) cy.1 (by have:=cy.2;have:=cz.2;omega);subst this;exact hy
theorem meetL_ext {a b:List Half} (ha:∀ h∈a,Xt h=true) (hb:∀ h∈b,Xt h=true) (h:∀ x,x∈a ↔ x∈b):Xs a=Xs b:=by
 have h1:∀ x,x∈ZZ++a ↔ x∈ZZ++b:=λ x=>by rw [List.mem_append,List.mem_append,h x]
 have n1:=λ f hf=>(KS (ZN ha f hf)).n;have n2:=λ f hf=>(KS (ZN hb f hf)).n;exact gsorted_ext (Zk n1).sorted (Zk n2).sorted (λ x=>⟨tight_sub (ZN ha) (ZN hb) h1 x,tight_sub (ZN hb) (ZN ha) (λ y=>(h1 y).symm) x⟩)
theorem j3_WatchStep:(Rows.fnExactWatchStepRow.recurses == Tryz.prog.recurses 4)=true:=by kernel_rfl
theorem j4_WatchStep:(Rows.fnExactWatchStepRow.named == Tryz.prog.varsNamed 4)=true:=by kernel_rfl
theorem j1_WatchStep:(Rows.fnExactWatchStepRow.inPlace == Tryz.prog.inPlace 4)=true:=by kernel_rfl
theorem j2_WatchStep:(Rows.fnExactWatchStepRow.unfollowed == Tryz.prog.unfollowed 4)=true:=by kernel_rfl
theorem far5B {q:X9} {a b:Int} (hq:X7 q=true) (ha : -50000<=a/\a<=50000) (hb : -50000<=b/\b<=50000) :
 (-250000000000000000<=a*q.x/\a*q.x<=250000000000000000)/\(-250000000000000000<=b*q.y/\b*q.y<=250000000000000000)/\(1<=q.d/\q.d<=5000000000):=by
 obtain ⟨h1,h2,h3,_⟩:=J0.1 hq;have p:=Jd (a:=a) (b:=q.x) (A:=50000) (B:=5000000000000) ⟨Oz,Oz⟩ ⟨Oz,Oz⟩;have r:=Jd (a:=b) (b:=q.y) (A:=50000) (B:=5000000000000) ⟨Oz,Oz⟩ ⟨Oz,Oz⟩;exact ⟨⟨Oz,Oz⟩,⟨Oz,Oz⟩,h1⟩
theorem far5_bd {xs:List X9} {a b:Int} (ha : -50000<=a/\a<=50000) (hb : -50000<=b/\b<=50000) (hok:∀ j,j<xs.length->X7 (xs.getD j sp0)=true):∀ k:Nat,k<=xs.length ->
 (-1<=(ZD xs a b k).1/\(ZD xs a b k).1<(k:Int))/\(-500000000000000000<=(ZD xs a b k).2.1/\(ZD xs a b k).2.1<=500000000000000000)/\(k=0/\ZD xs a b k=(-1,0,0)∨0<k/\0<=(ZD xs a b k).1/\1<=(ZD xs a b k).2.2)/\(0<=(ZD xs a b k).2.2/\(ZD xs a b k).2.2<=5000000000)
 | 0,_=>by simp [ZD]
 | k+1,hk=>by
  obtain ⟨h1,h2,h3,h4⟩:=far5_bd ha hb hok k Oz;obtain ⟨p1,p2,p3⟩:=far5B (hok k Oz) ha hb;rw [ZD];split
  ·simp only [JP,farDen];exact ⟨⟨Oz,Oz⟩,⟨Oz,Oz⟩,.inr ⟨Oz,Oz,Oz⟩,⟨Oz,Oz⟩⟩
  ·rename_i hn
   rcases h3 with ⟨rfl,h3⟩|h3
   ·exfalso;apply hn;left;rw [h3];decide
   ·exact ⟨⟨Oz,Oz⟩,h2,.inr ⟨Oz,Oz,Oz⟩,h4⟩
def Jz (p:List Half) (a b:Int):Int × Int × Int:=ZD (XN p) a b (XN p).length
def ZO (p:List Half) (a b:Int):Yk:=XD (Jz p a b).2.1 (Jz p a b).2.2
theorem cor_ok {p:List Half} (hr:Xb p=true):∀ j,j<(XN p).length->X7 ((XN p).getD j sp0)=true:=by
 intro j hj;rw [far_get hj,corners_at p j (by rw [Zo] at hj;exact hj)];exact (reg_corner hr (by rw [Zo] at hj;exact hj)).ok
structure SupB (p:List Half) (a b:Int):Prop where
 i:0<=(Jz p a b).1
 n : -500000000000000000<=(Jz p a b).2.1/\(Jz p a b).2.1<=500000000000000000
 d:1<=(Jz p a b).2.2/\(Jz p a b).2.2<=5000000000
theorem supB {p:List Half} {a b:Int} (hr:Xb p=true) (hne:p≠[]) (ha : -50000<=a/\a<=50000) (hb : -50000<=b/\b<=50000):SupB p a b:=by
 have hl:0<(XN p).length:=by rw [Zo];exact List.length_pos_iff.2 hne
 obtain ⟨h1,h2,h3,h4⟩:=far5_bd ha hb (cor_ok hr) (XN p).length XE;refine ⟨?_,h2, ?_, ?_⟩<;>unfold Jz<;>omega
structure SupR (p:List Half) (a b:Int):Prop where
 ok:Xn (ZO p a b)=true
 n : -500000000000000000<=(ZO p a b).n/\(ZO p a b).n<=500000000000000000
 d:1<=(ZO p a b).d/\(ZO p a b).d<=5000000000
 g:Nat.gcd (ZO p a b).n.natAbs (ZO p a b).d.natAbs=1
theorem supR {p:List Half} {a b:Int} (hr:Xb p=true) (hne:p≠[]) (ha : -50000<=a/\a<=50000) (hb : -50000<=b/\b<=50000):SupR p a b:=by
 have B:=supB hr hne ha hb;have hn:=B.n;have hd:=B.d;obtain ⟨ok,k,hk,e1,e2⟩:=YP (n:=(Jz p a b).2.1) (d:=(Jz p a b).2.2) ⟨Oz,Oz⟩ ⟨Oz,Oz⟩;obtain ⟨⟨q1,_⟩,_,q3⟩:=Z6.1 ok;change Xn (ZO p a b)=true at ok
 change (Jz p a b).2.1=k*(ZO p a b).n at e1
 change (Jz p a b).2.2=k*(ZO p a b).d at e2
 change 1<=(ZO p a b).d at q1
 have g1:(ZO p a b).d<=k*(ZO p a b).d:=by
  have:=Int.mul_le_mul_of_nonneg_right (show (1:Int)<=k by omega) (show (0:Int)<=(ZO p a b).d by omega);omega
 have g2 : -500000000000000000<=(ZO p a b).n/\(ZO p a b).n<=500000000000000000:=by
  rcases Int.le_total 0 (ZO p a b).n with h|h
  ·have:=Int.mul_le_mul_of_nonneg_right (show (1:Int)<=k by omega) h;constructor<;>omega
  ·have:=Int.mul_le_mul_of_nonpos_right (show (1:Int)<=k by omega) h;constructor<;>omega
 exact ⟨ok,g2,⟨q1,Oz⟩,q3⟩
theorem SupR.in_ {p:List Half} {a b:Int} (h:SupR p a b):(ZO p a b).In:=⟨⟨by have:=h.n;omega,by have:=h.n;omega⟩,⟨by have:=h.d;omega,by have:=h.d;omega⟩⟩
def YG (p:List Half) (h:Half):Option Half:=Y1 (h.a*(ZO p h.a h.b).d) (h.b*(ZO p h.a h.b).d) (h.c*(ZO p h.a h.b).d-(ZO p h.a h.b).n)
theorem ratio_less {c n d:Int} (hc : -100000000<=c/\c<=100000000) (hn : -500000000000000000<=n/\n<=500000000000000000) (hd:1<=d/\d<=5000000000) (hg:Nat.gcd n.natAbs d.natAbs=1):XD (c*d-n) d=⟨c*d-n,d⟩:=by
 have m:=Jd (a:=c) (b:=d) (A:=100000000) (B:=5000000000) ⟨Oz,Oz⟩ ⟨Oz,Oz⟩;obtain ⟨ok,k,hk,e1,e2⟩:=YP (n:=c*d-n) (d:=d) ⟨Oz,Oz⟩ ⟨Oz,Oz⟩;have k1:k ∣ d:=⟨_,e2⟩;have k2:k ∣ n:=by
  have:n=c*d-(c*d-n):=Oz
  rw [this];exact Int.dvd_sub (Int.dvd_trans k1 (Int.dvd_mul_left c d)) ⟨_,e1⟩
 have k3:k.natAbs ∣ 1:=by
  rw [<- hg];exact Nat.dvd_gcd (Int.natAbs_dvd_natAbs.2 k2) (Int.natAbs_dvd_natAbs.2 k1)
 have:k=1:=by have:=Nat.dvd_one.1 k3;omega
 subst this;generalize XD (c*d-n) d=r at *;obtain ⟨x,y⟩:=r;simp only at e1 e2;rw [Int.one_mul] at e1 e2;rw [<- e1,<- e2]
theorem ero_none {a b c n d:Int} (hab:¬(a=0/\b=0)) (hd:50000<d) (hg:Nat.gcd n.natAbs d.natAbs=1):Y1 (a*d) (b*d) (c*d-n)=none:=by
 unfold Y1;split
 ·rfl
 split
 ·rename_i h0 hok
  exfalso;obtain ⟨h1,h2,_⟩:=Y0.1 hok;simp only [redHalf] at h1 h2;obtain ⟨d1,d2,d3⟩:=@gcdAll_dvd (a*d) (b*d) (c*d-n);generalize Xm [a*d,b*d,c*d-n]=g at *;have hco:Nat.gcd g d.natAbs=1:=by
   have q1:((Nat.gcd g d.natAbs:Nat):Int) ∣ c*d-n:=Int.dvd_trans (Int.natCast_dvd_natCast.2 (Nat.gcd_dvd_left _ _)) d3;have q2:((Nat.gcd g d.natAbs:Nat):Int) ∣ d:=Int.ofNat_dvd_left.2 (Nat.gcd_dvd_right _ _);have q3:((Nat.gcd g d.natAbs:Nat):Int) ∣ n:=by
    have:n=c*d-(c*d-n):=Oz
    rw [this];exact Int.dvd_sub (Int.dvd_trans q2 (Int.dvd_mul_left c d)) q1
   have:=Nat.dvd_gcd (Int.ofNat_dvd_left.1 q3) (Int.ofNat_dvd_left.1 q2);rw [hg] at this;exact Nat.dvd_one.1 this
  have key:∀ x:Int,(g:Int) ∣ x*d->x≠0->50000<((x*d).tdiv (g:Int)).natAbs:=by
   intro x hx hx0;have:g ∣ x.natAbs:=by
    have h:=Int.ofNat_dvd_left.1 hx;rw [Int.natAbs_mul] at h;exact Nat.Coprime.dvd_of_dvd_mul_right hco h
   obtain ⟨y,hy⟩:=Int.ofNat_dvd_left.2 this;have hg0:g≠0:=by rintro rfl;apply h0;simp
   rw [hy,Int.mul_assoc,Int.mul_tdiv_cancel_left _ Oz,Int.natAbs_mul];have hy0:y≠0:=by rintro rfl;rw [Int.mul_zero] at hy;exact hx0 hy
   have:=Nat.mul_le_mul (show 1<=y.natAbs by omega) (Nat.le_refl d.natAbs);omega
  rcases Classical.em (a=0) with ha|ha
  ·have:=key b d2 (λ h=>hab ⟨ha,h⟩);omega
  ·have:=key a d1 ha;omega
 ·rfl
section
variable {α:Type} {X:α->α->Int} {D:α->α->α->Int} {L:List α}
end
end Go.Proofs.YtbekjpkcicjcgaaGreat
