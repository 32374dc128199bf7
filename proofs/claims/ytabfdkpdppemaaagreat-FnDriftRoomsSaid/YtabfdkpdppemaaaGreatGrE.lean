/-
 What the functions on pieces return, and RatioOf.
 Conditions: the numbers are ints of the machine.
-/
import Derived.Deep.RegionHeld3
import Derived.Deep.RegionWith
import Derived.Test.YtabfdkpdppemaaaGreatGrG
import Derived.Deep.DeepCutAuto
import Derived.Deep.DeepMust
namespace Go.Proofs.YtabfdkpdppemaaaGreat
open Go.RowKit
set_option maxHeartbeats 4000000 in
theorem iRatioOf_c (n d:Int) (w:World) (hn:Yn n) (hd:Yn d) :
 Calls Tryz.prog 44 #[.int .i64 n,.int .i64 d] w λ e w'=>e=.returned (ZX (XG n d))/\Below w.heap.size w w':=by
 have m1:=λ v h=>Kk n v h hn;have m2:=λ v h=>Kk d v h hd;by_cases hz:d=0
 ·have hfin:XG n d=ZS:=by simp [XG,hz]
  rw [hfin];subst hz;clear m1 m2;go_enter Tryz.func44,Tryz.ntmps44
  go_wp2
  refine bodyPost_ret (v:=.agg #[.int .i64 0,.int .i64 0]) (by simp [results,Tryz.results44,go_sem]) rfl ⟨rfl, ?_⟩;exact Xi
 ·have hz2:(d == 0)=false:=by simpa using hz
  cases mn:Yd n
  ·have n1:=m1 _ mn;cases md:Yd d
   ·have n2:=m2 _ md;have hall:∀ k∈[n,d],Yn k:=by simp [hn,hd]
    have hg:=Jj (some ⟨w.heap.size+1,0,none⟩) [n,d] 2 _ (by simp) hall (K9 (T:=3) ZY (w.alloc (.cells #[.int .i64 0,.int .i64 0] 36)) [n,d] #[.int .i64 n,.int .i64 d] rfl (by simp));have hle:=Jk [n,d] hall;have hpos:0<Xk [n,d]:=by rw [KU];exact Nat.gcd_pos_of_pos_right _ (by omega)
    have hfin:Hid (XG n d=if 1000000000000000000<n.natAbs / Xk [n,d]∨1000000000000000<d.natAbs / Xk [n,d] then ZS
     else if decide (n<0)=decide (d<0) then ⟨((n.natAbs / Xk [n,d]:Nat):Int),((d.natAbs / Xk [n,d]:Nat):Int)⟩
     else ⟨-((n.natAbs / Xk [n,d]:Nat):Int),((d.natAbs / Xk [n,d]:Nat):Int)⟩):=by
     show _=_;rw [XG,if_neg (by simp [hz,mn,md])]
    have c1:=λ W=>ZO n W hn;have c2:=λ W=>ZO d W hd;have a1:=Jd hn;have a2:=Jd hd;generalize Xk [n,d]=G at *;have l1:=Nat.div_le_self n.natAbs G;have l2:=Nat.div_le_self d.natAbs G;have q1:IntKind.u64.wrap ((n.natAbs:Int).tdiv (G:Int))=((n.natAbs / G:Nat):Int):=by rw [tdiv_nat];exact IntWalk.u64_in _ ⟨Int.natCast_nonneg _,by omega⟩
    have q2:IntKind.u64.wrap ((d.natAbs:Int).tdiv (G:Int))=((d.natAbs / G:Nat):Int):=by rw [tdiv_nat];exact IntWalk.u64_in _ ⟨Int.natCast_nonneg _,by omega⟩
    have q3:IntKind.u64.wrap ((n.natAbs:Int) / (G:Int))=((n.natAbs / G:Nat):Int):=by rw [<- Int.natCast_ediv];exact IntWalk.u64_in _ ⟨Int.natCast_nonneg _,by omega⟩
    have q4:IntKind.u64.wrap ((d.natAbs:Int) / (G:Int))=((d.natAbs / G:Nat):Int):=by rw [<- Int.natCast_ediv];exact IntWalk.u64_in _ ⟨Int.natCast_nonneg _,by omega⟩
    have hG1:¬ (G=0):=by omega
    have hG2:¬ ((G:Int)=0):=by omega
    generalize n.natAbs / G=top at *;generalize d.natAbs / G=bel at *;clear hn hd m1 m2 hall mn md hz;generalize hsn:decide (n<0)=sn at *;generalize hsd:decide (d<0)=sd at *;go_enter Tryz.func44,Tryz.ntmps44
    go_wp2_with (first|(go_at_call_of 129 (Value.int IntKind.i64 n);refine (n1 _).mono ?_;rintro e w' ⟨rfl,rfl⟩)|(go_at_call 129;refine (n2 _).mono ?_;rintro e w' ⟨rfl,rfl⟩))
    refine hg.mono ?_;rintro e w1 ⟨rfl,hb1⟩;have H1:=((XR.new w #[.int .i64 0,.int .i64 0] 36).alloc _).below hb1;have hbw:=Xf (Xc (Xc (Below.refl w.heap.size w) _) _) hb1;go_wp2
    go_big_quiet ((first|(go_at_call_of 131 (Value.int IntKind.i64 n);exact ZG (c1 _))|(go_at_call 131;exact ZG (c2 _))))
    have H2:=H1.drewN nq;have hbw2:=Yz hbw nq;generalize w1.drewN nq=w2 at *;obtain ⟨cH2_0,fH2_0⟩:=H2.2 0 _ rfl;obtain ⟨cH2_1,fH2_1⟩:=H2.2 1 _ rfl;have hlt2:=H2.1;clear q1 q2 q3 q4 hbw H1 hb1 hg;by_cases b1:1000000000000000000<top
    ·have hf:Hid (XG n d=ZS):=by show _=_;rw [hfin.out,if_pos (.inl b1)]
     go_wp2
     refine bodyPost_ret (v:=.agg #[.int .i64 0,.int .i64 0]) (by simp [results,Tryz.results44,go_sem, *]) rfl ⟨by rw [hf.out];rfl, ?_⟩;exact Xi
    ·by_cases b2:1000000000000000<bel
     ·have hf:Hid (XG n d=ZS):=by show _=_;rw [hfin.out,if_pos (.inr b2)]
      go_wp2
      refine bodyPost_ret (v:=.agg #[.int .i64 0,.int .i64 0]) (by simp [results,Tryz.results44,go_sem, *]) rfl ⟨by rw [hf.out];rfl, ?_⟩;exact Xi
     ·have hf:Hid (XG n d=if sn=sd then ⟨(top:Int),(bel:Int)⟩ else ⟨-(top:Int),(bel:Int)⟩):=by show _=_;rw [hfin.out,if_neg (by omega)]
      cases sn<;>cases sd
      ·go_wp2
       refine bodyPost_ret (v:=.agg #[.int .i64 (top:Int),.int .i64 (bel:Int)]) (by simp [results,Tryz.results44,go_sem, *]) rfl ⟨by rw [hf.out];rfl, ?_⟩;exact Xi
      ·go_wp2
       refine bodyPost_ret (v:=.agg #[.int .i64 (-(top:Int)),.int .i64 (bel:Int)]) (by simp [results,Tryz.results44,go_sem, *]) rfl ⟨by rw [hf.out];rfl, ?_⟩;exact Xi
      ·go_wp2
       refine bodyPost_ret (v:=.agg #[.int .i64 (-(top:Int)),.int .i64 (bel:Int)]) (by simp [results,Tryz.results44,go_sem, *]) rfl ⟨by rw [hf.out];rfl, ?_⟩;exact Xi
      ·go_wp2
       refine bodyPost_ret (v:=.agg #[.int .i64 (top:Int),.int .i64 (bel:Int)]) (by simp [results,Tryz.results44,go_sem, *]) rfl ⟨by rw [hf.out];rfl, ?_⟩;exact Xi
   ·have hfin:XG n d=ZS:=by simp [XG,md]
    rw [hfin];have n2:=m2 _ md;clear m1 m2 mn md;go_enter Tryz.func44,Tryz.ntmps44
    go_wp2_with (first|(go_at_call_of 129 (Value.int IntKind.i64 n);refine (n1 _).mono ?_;rintro e w' ⟨rfl,rfl⟩)|(go_at_call 129;refine (n2 _).mono ?_;rintro e w' ⟨rfl,rfl⟩))
    refine bodyPost_ret (v:=.agg #[.int .i64 0,.int .i64 0]) (by simp [results,Tryz.results44,go_sem]) rfl ⟨rfl, ?_⟩;exact Xi
  ·have hfin:XG n d=ZS:=by simp [XG,mn]
   rw [hfin];have n1:=m1 _ mn;clear m1 m2 mn;go_enter Tryz.func44,Tryz.ntmps44
   go_wp2_with (fail)
   refine (n1 _).mono ?_;rintro e w' ⟨rfl,rfl⟩;go_wp2
   refine bodyPost_ret (v:=.agg #[.int .i64 0,.int .i64 0]) (by simp [results,Tryz.results44,go_sem]) rfl ⟨rfl, ?_⟩;exact Xi
theorem JL (b:Nat):∀ (vs:List Value) (o:Nat) (w:World),(w.setCells b o vs).heap.size=w.heap.size
 | [],_,_=>rfl
 | v :: r,o,w=>by rw [World.setCells,JL b r];simp [World.setCell]
theorem XR.stored {w:World} {g:Nat} {vs:List Value} (h:XR w g vs) (us:List Value) (hl:us.length=vs.length):XR (w.setCells g 0 us) g us:=by
 refine ⟨by rw [JL];exact h.1,λ j v hv=>?_⟩;have hj:j<us.length:=by
  rcases Nat.lt_or_ge j us.length with h|h
  ·exact h
  ·rw [List.getElem?_eq_none h] at hv;cases hv
 constructor
 ·have:=World.cell?_setCells_in g us 0 w (λ k hk=>by rw [Nat.zero_add,(h.2 k _ (List.getElem?_eq_getElem (by omega))).1];rfl) j hj;rw [Nat.zero_add] at this;rw [this,<- hv,List.getElem?_eq_getElem hj]
 ·rw [World.frozen?_setCells];exact (h.2 j _ (List.getElem?_eq_getElem (by omega))).2
theorem YJ {a w:World} {n:Nat} (h:(∀ b o,b<n->w.cell? ⟨b,o,none⟩=a.cell? ⟨b,o,none⟩)/\n<=w.heap.size) :
 (∀ b o',b<n->w.drew.cell? ⟨b,o',none⟩=a.cell? ⟨b,o',none⟩)/\n<=w.drew.heap.size:=h
theorem YI (a:World) {n:Nat} (h:n<=a.heap.size):(∀ b o',b<n->a.cell? ⟨b,o',none⟩=a.cell? ⟨b,o',none⟩)/\n<=a.heap.size:=⟨λ _ _ _=>rfl,h⟩
def recOk (x:Z2):Bool:=ZH x.before (-1000) 1000&&ZH x.input (-1000) 1000&&ZH x.after (-1000) 1000
def recordsOk (xs:List Z2):Bool:=xs.all recOk&&decide (xs.length<=12)
theorem red3 {a b c:Int} (h:0<Xk [a,b,c]):Xk [a.tdiv (Xk [a,b,c]),b.tdiv (Xk [a,b,c]),c.tdiv (Xk [a,b,c])]=1:=by
 have e:=gcd3 a b c;rw [gcd3 (a.tdiv _)];simp only [natAbs_tdiv];generalize Xk [a,b,c]=g at *;have d1:g ∣ a.natAbs:=by rw [e];exact Nat.dvd_trans (Nat.gcd_dvd_left _ _) (Nat.gcd_dvd_left _ _)
 have d2:g ∣ b.natAbs:=by rw [e];exact Nat.dvd_trans (Nat.gcd_dvd_left _ _) (Nat.gcd_dvd_right _ _)
 have d3:g ∣ c.natAbs:=by rw [e];exact Nat.gcd_dvd_right _ _
 rw [Nat.gcd_div d1 d2,Nat.gcd_div (Nat.dvd_gcd d1 d2) d3,<- e];exact Nat.div_self h
theorem recOk_iff {x:Z2}:recOk x=true ↔ (-1000<=x.before/\x.before<=1000)/\(-1000<=x.input/\x.input<=1000)/\(-1000<=x.after/\x.after<=1000):=by
 simp only [recOk,Bool.and_eq_true,XY,and_assoc]
def distR (x:Z2) (s:Xz):Int:=max (s.x*x.before+s.y*x.input-100*x.after*s.d) (-(s.x*x.before+s.y*x.input-100*x.after*s.d))
def areParams (s:Xz):Bool:=XA s&&decide (s.d<=1000)
def maxDist (xs:List Z2) (s:Xz):Int:=xs.foldl (λ m x=>max m (distR x s)) 0
theorem mulB {a b A B:Int} (hA : -A<=a/\a<=A) (hB : -B<=b/\b<=B) : -(A*B)<=a*b/\a*b<=A*B:=by
 have h1:0<=(A-a)*(B-b):=Int.mul_nonneg (by omega) (by omega);have h2:0<=(A+a)*(B+b):=Int.mul_nonneg (by omega) (by omega);have h3:0<=(A-a)*(B+b):=Int.mul_nonneg (by omega) (by omega);have h4:0<=(A+a)*(B-b):=Int.mul_nonneg (by omega) (by omega);rw [Int.sub_mul,Int.mul_sub,Int.mul_sub] at h1;rw [Int.add_mul,Int.mul_add,Int.mul_add] at h2;rw [Int.sub_mul,Int.mul_add,Int.mul_add] at h3;rw [Int.add_mul,Int.mul_sub,Int.mul_sub] at h4;omega
theorem maxDist_le {s:Xz} (T:Int):∀ (xs:List Z2),0<=T->((maxDist xs s<=T) ↔ ∀ x∈xs,distR x s<=T):=by
 intro xs h0;have key:∀ (xs:List Z2) (m:Int),(xs.foldl (λ m x=>max m (distR x s)) m<=T) ↔ (m<=T/\∀ x∈xs,distR x s<=T):=by
  intro xs;induction xs with
  | nil=>intro m;simp
  | cons x r ih =>
   intro m;rw [List.foldl_cons,ih];simp only [List.mem_cons,forall_eq_or_imp];constructor
   ·intro ⟨h1,h2⟩;exact ⟨by omega,by omega,h2⟩
   ·intro ⟨h1,h2,h3⟩;exact ⟨by omega,h3⟩
 unfold maxDist;rw [key];simp [h0]
def leastOk (xs:List Z2) (s:Xz):Bool:=recordsOk xs&&areParams s
def isConsistent (xs:List Z2) (err:Int) (s:Xz):Bool:=leastOk xs s&&ZH err 0 1000&&decide (maxDist xs s<=100*err*s.d)
end Go.Proofs.YtabfdkpdppemaaaGreat
