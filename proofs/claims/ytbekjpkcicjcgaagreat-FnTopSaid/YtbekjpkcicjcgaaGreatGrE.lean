/-
 What the functions on pieces return, and RatioOf.
 Conditions: the numbers are ints of the machine.
-/
import Derived.Deep.RegionHeld3
import Derived.Deep.RegionWith
import Derived.Test.YtbekjpkcicjcgaaGreatGrG
import Derived.Deep.DeepCutAuto
import Derived.Deep.DeepMust
namespace Go.Proofs.YtbekjpkcicjcgaaGreat
open Go.RowKit
set_option maxHeartbeats 4000000 in
theorem iRatioOf_c (n d:Int) (w:World) (hn:YU n) (hd:YU d) :
 Calls Tryz.prog 21 #[.int .i64 n,.int .i64 d] w λ e w'=>e=.returned (X0 (XT n d))/\Below w.heap.size w w':=by
 have m1:=λ v h=>Jg n v h hn;have m2:=λ v h=>Jg d v h hd;by_cases hz:d=0
 ·have hfin:XT n d=Ke:=by simp [XT,hz]
  rw [hfin];subst hz;clear m1 m2;go_enter Tryz.func21,Tryz.ntmps21
  go_wp2
  refine bodyPost_ret (v:=.agg #[.int .i64 0,.int .i64 0]) (by simp [results,Tryz.results21,go_sem]) rfl ⟨rfl, ?_⟩;exact Xw
 ·have hz2:(d == 0)=false:=by simpa using hz
  cases mn:YF n
  ·have n1:=m1 _ mn;cases md:YF d
   ·have n2:=m2 _ md;have hall:∀ k∈[n,d],YU k:=by simp [hn,hd]
    have hg:=JN (some ⟨w.heap.size+1,0,none⟩) [n,d] 2 _ Sz hall (sl_new_at (T:=3) ZI (w.alloc (.cells #[.int .i64 0,.int .i64 0] 46)) [n,d] #[.int .i64 n,.int .i64 d] rfl Sz);have hle:=gcdAll_le [n,d] hall;have hpos:0<Xn [n,d]:=by rw [Jp];exact Nat.gcd_pos_of_pos_right _ Oz
    have hfin:Hid (XT n d=if 1000000000000000000<n.natAbs / Xn [n,d]∨1000000000000000<d.natAbs / Xn [n,d] then Ke
     else if decide (n<0)=decide (d<0) then ⟨((n.natAbs / Xn [n,d]:Nat):Int),((d.natAbs / Xn [n,d]:Nat):Int)⟩
     else ⟨-((n.natAbs / Xn [n,d]:Nat):Int),((d.natAbs / Xn [n,d]:Nat):Int)⟩):=by
     show _=_;rw [XT,if_neg (by simp [hz,mn,md])]
    have c1:=λ W=>KD n W hn;have c2:=λ W=>KD d W hd;have a1:=natAbs_le hn;have a2:=natAbs_le hd;generalize Xn [n,d]=G at *;have l1:=Nat.div_le_self n.natAbs G;have l2:=Nat.div_le_self d.natAbs G;have q1:IntKind.u64.wrap ((n.natAbs:Int).tdiv (G:Int))=((n.natAbs / G:Nat):Int):=by rw [tdiv_nat];exact IntWalk.u64_in _ ⟨Int.natCast_nonneg _,Oz⟩
    have q2:IntKind.u64.wrap ((d.natAbs:Int).tdiv (G:Int))=((d.natAbs / G:Nat):Int):=by rw [tdiv_nat];exact IntWalk.u64_in _ ⟨Int.natCast_nonneg _,Oz⟩
    have q3:IntKind.u64.wrap ((n.natAbs:Int) / (G:Int))=((n.natAbs / G:Nat):Int):=by rw [<- Int.natCast_ediv];exact IntWalk.u64_in _ ⟨Int.natCast_nonneg _,Oz⟩
    have q4:IntKind.u64.wrap ((d.natAbs:Int) / (G:Int))=((d.natAbs / G:Nat):Int):=by rw [<- Int.natCast_ediv];exact IntWalk.u64_in _ ⟨Int.natCast_nonneg _,Oz⟩
    have hG1:¬ (G=0):=Oz
    have hG2:¬ ((G:Int)=0):=Oz
    generalize n.natAbs / G=top at *;generalize d.natAbs / G=bel at *;clear hn hd m1 m2 hall mn md hz;generalize hsn:decide (n<0)=sn at *;generalize hsd:decide (d<0)=sd at *;go_enter Tryz.func21,Tryz.ntmps21
    go_wp2_with (first|(go_at_call_of 64 (Value.int IntKind.i64 n);refine (n1 _).mono ?_;rintro e w' ⟨rfl,rfl⟩)|(go_at_call 64;refine (n2 _).mono ?_;rintro e w' ⟨rfl,rfl⟩))
    refine hg.mono ?_;rintro e w1 ⟨rfl,hb1⟩;have H1:=((Yd.new w #[.int .i64 0,.int .i64 0] 46).alloc _).below hb1;have hbw:=Xf (Xb (Xb (Below.refl w.heap.size w) _) _) hb1;go_wp2
    go_big_quiet ((first|(go_at_call_of 66 (Value.int IntKind.i64 n);exact Kv (c1 _))|(go_at_call 66;exact Kv (c2 _))))
    have H2:=H1.drewN nq;have hbw2:=Zn hbw nq;generalize w1.drewN nq=w2 at *;obtain ⟨cH2_0,fH2_0⟩:=H2.2 0 _ rfl;obtain ⟨cH2_1,fH2_1⟩:=H2.2 1 _ rfl;have hlt2:=H2.1;clear q1 q2 q3 q4 hbw H1 hb1 hg;by_cases b1:1000000000000000000<top
    ·have hf:Hid (XT n d=Ke):=by show _=_;rw [hfin.out,if_pos (.inl b1)]
     go_wp2
     refine bodyPost_ret (v:=.agg #[.int .i64 0,.int .i64 0]) (by simp [results,Tryz.results21,go_sem, *]) rfl ⟨by rw [hf.out];rfl, ?_⟩;exact Xw
    ·by_cases b2:1000000000000000<bel
     ·have hf:Hid (XT n d=Ke):=by show _=_;rw [hfin.out,if_pos (.inr b2)]
      go_wp2
      refine bodyPost_ret (v:=.agg #[.int .i64 0,.int .i64 0]) (by simp [results,Tryz.results21,go_sem, *]) rfl ⟨by rw [hf.out];rfl, ?_⟩;exact Xw
     ·have hf:Hid (XT n d=if sn=sd then ⟨(top:Int),(bel:Int)⟩ else ⟨-(top:Int),(bel:Int)⟩):=by show _=_;rw [hfin.out,if_neg Oz]
      cases sn<;>cases sd
      ·go_wp2
       refine bodyPost_ret (v:=.agg #[.int .i64 (top:Int),.int .i64 (bel:Int)]) (by simp [results,Tryz.results21,go_sem, *]) rfl ⟨by rw [hf.out];rfl, ?_⟩;exact Xw
      ·go_wp2
       refine bodyPost_ret (v:=.agg #[.int .i64 (-(top:Int)),.int .i64 (bel:Int)]) (by simp [results,Tryz.results21,go_sem, *]) rfl ⟨by rw [hf.out];rfl, ?_⟩;exact Xw
      ·go_wp2
       refine bodyPost_ret (v:=.agg #[.int .i64 (-(top:Int)),.int .i64 (bel:Int)]) (by simp [results,Tryz.results21,go_sem, *]) rfl ⟨by rw [hf.out];rfl, ?_⟩;exact Xw
      ·go_wp2
       refine bodyPost_ret (v:=.agg #[.int .i64 (top:Int),.int .i64 (bel:Int)]) (by simp [results,Tryz.results21,go_sem, *]) rfl ⟨by rw [hf.out];rfl, ?_⟩;exact Xw
   ·have hfin:XT n d=Ke:=by simp [XT,md]
    rw [hfin];have n2:=m2 _ md;clear m1 m2 mn md;go_enter Tryz.func21,Tryz.ntmps21
    go_wp2_with (first|(go_at_call_of 64 (Value.int IntKind.i64 n);refine (n1 _).mono ?_;rintro e w' ⟨rfl,rfl⟩)|(go_at_call 64;refine (n2 _).mono ?_;rintro e w' ⟨rfl,rfl⟩))
    refine bodyPost_ret (v:=.agg #[.int .i64 0,.int .i64 0]) (by simp [results,Tryz.results21,go_sem]) rfl ⟨rfl, ?_⟩;exact Xw
  ·have hfin:XT n d=Ke:=by simp [XT,mn]
   rw [hfin];have n1:=m1 _ mn;clear m1 m2 mn;go_enter Tryz.func21,Tryz.ntmps21
   go_wp2_with (fail)
   refine (n1 _).mono ?_;rintro e w' ⟨rfl,rfl⟩;go_wp2
   refine bodyPost_ret (v:=.agg #[.int .i64 0,.int .i64 0]) (by simp [results,Tryz.results21,go_sem]) rfl ⟨rfl, ?_⟩;exact Xw
theorem heap_size_setCells (b:Nat):∀ (vs:List Value) (o:Nat) (w:World),(w.setCells b o vs).heap.size=w.heap.size
 | [],_,_=>rfl
 | v :: r,o,w=>by rw [World.setCells,heap_size_setCells b r];simp [World.setCell]
theorem Yd.stored {w:World} {g:Nat} {vs:List Value} (h:Yd w g vs) (us:List Value) (hl:us.length=vs.length):Yd (w.setCells g 0 us) g us:=by
 refine ⟨by rw [heap_size_setCells];exact h.1,λ j v hv=>?_⟩;have hj:j<us.length:=by
  rcases Nat.lt_or_ge j us.length with h|h
  ·exact h
  ·rw [List.getElem?_eq_none h] at hv;cases hv
 constructor
 ·have:=World.cell?_setCells_in g us 0 w (λ k hk=>by rw [Nat.zero_add,(h.2 k _ (List.getElem?_eq_getElem Oz)).1];rfl) j hj;rw [Nat.zero_add] at this;rw [this,<- hv,List.getElem?_eq_getElem hj]
 ·rw [World.frozen?_setCells];exact (h.2 j _ (List.getElem?_eq_getElem Oz)).2
theorem Zv {a w:World} {n:Nat} (h:(∀ b o,b<n->w.cell? ⟨b,o,none⟩=a.cell? ⟨b,o,none⟩)/\n<=w.heap.size) :
 (∀ b o',b<n->w.drew.cell? ⟨b,o',none⟩=a.cell? ⟨b,o',none⟩)/\n<=w.drew.heap.size:=h
theorem Zu (a:World) {n:Nat} (h:n<=a.heap.size):(∀ b o',b<n->a.cell? ⟨b,o',none⟩=a.cell? ⟨b,o',none⟩)/\n<=a.heap.size:=⟨λ _ _ _=>rfl,h⟩
theorem red3 {a b c:Int} (h:0<Xn [a,b,c]):Xn [a.tdiv (Xn [a,b,c]),b.tdiv (Xn [a,b,c]),c.tdiv (Xn [a,b,c])]=1:=by
 have e:=gcd3 a b c;rw [gcd3 (a.tdiv _)];simp only [natAbs_tdiv];generalize Xn [a,b,c]=g at *;have d1:g ∣ a.natAbs:=by rw [e];exact Nat.dvd_trans (Nat.gcd_dvd_left _ _) (Nat.gcd_dvd_left _ _)
 have d2:g ∣ b.natAbs:=by rw [e];exact Nat.dvd_trans (Nat.gcd_dvd_left _ _) (Nat.gcd_dvd_right _ _)
 have d3:g ∣ c.natAbs:=by rw [e];exact Nat.gcd_dvd_right _ _
 rw [Nat.gcd_div d1 d2,Nat.gcd_div (Nat.dvd_gcd d1 d2) d3,<- e];exact Nat.div_self h
def shiftSpot (s:XH) (dx dy:Int):Option XH :=
 if Xo s=true/\ZT dx (-2000) 2000=true/\ZT dy (-2000) 2000=true then Y9 (s.x+dx*s.d) (s.y+dy*s.d) s.d else none
structure SB (s:XH) (dx dy:Int):Prop where
 d:1<=s.d/\s.d<=5000000000
 x : -5000000000000<=s.x/\s.x<=5000000000000
 y : -5000000000000<=s.y/\s.y<=5000000000000
 m : -10000000000000<=dx*s.d/\dx*s.d<=10000000000000
 n : -10000000000000<=dy*s.d/\dy*s.d<=10000000000000
def sh (s:XH) (dx dy:Int):Nat->Option XH
 | 0=>shiftSpot s (-dx) (-dy)
 | 1=>shiftSpot s dx (-dy)
 | 2=>shiftSpot s dx dy
 | _=>shiftSpot s (-dx) dy
theorem spotC_one (t:XH):∀ u∈Kz t,u.oneCell'=true:=by
 intro u hu;simp [Kz] at hu;rcases hu with rfl|rfl|rfl<;>rfl
theorem JE {a b A B:Int} (hA : -A<=a/\a<=A) (hB : -B<=b/\b<=B) : -(A*B)<=a*b/\a*b<=A*B:=by
 have h1:0<=(A-a)*(B-b):=Int.mul_nonneg Oz Oz;have h2:0<=(A+a)*(B+b):=Int.mul_nonneg Oz Oz;have h3:0<=(A-a)*(B+b):=Int.mul_nonneg Oz Oz;have h4:0<=(A+a)*(B-b):=Int.mul_nonneg Oz Oz;rw [Int.sub_mul,Int.mul_sub,Int.mul_sub] at h1;rw [Int.add_mul,Int.mul_add,Int.mul_add] at h2;rw [Int.sub_mul,Int.mul_add,Int.mul_add] at h3;rw [Int.add_mul,Int.mul_sub,Int.mul_sub] at h4;omega
theorem sgn_le {x:Int}:sgn x<=0 ↔ x<=0:=by unfold sgn;split<;>(try split)<;>omega
def Yi:XH:=⟨0,0,0⟩
def K4 (xs:List XH) (a b:Int) (k:Nat):Int:=a*(xs.getD k Yi).x+b*(xs.getD k Yi).y
def KQ (xs:List XH) (k:Nat):Int:=(xs.getD k Yi).d
def YN (xs:List XH) (a b:Int):Nat->Int × Int × Int
 | 0=>(-1,0,0)
 | k+1=>if (YN xs a b k).1<0∨0<Ju (K4 xs a b k) (KQ xs k) (YN xs a b k).2.1 (YN xs a b k).2.2 then ((k:Int),K4 xs a b k,KQ xs k) else YN xs a b k
theorem far_get {xs:List XH} {k:Nat} (h:k<xs.length):xs.getD k Yi=xs[k]:=by
 rw [List.getD_eq_getElem?_getD,List.getElem?_eq_getElem h];rfl
theorem farAt_yes {xs:List XH} {a b:Int} {k:Nat} (h:(YN xs a b k).1<0∨0<Ju (K4 xs a b k) (KQ xs k) (YN xs a b k).2.1 (YN xs a b k).2.2):YN xs a b (k+1)=((k:Int),K4 xs a b k,KQ xs k):=by
 rw [YN,if_pos h]
theorem farAt_no {xs:List XH} {a b:Int} {k:Nat} (h:¬((YN xs a b k).1<0∨0<Ju (K4 xs a b k) (KQ xs k) (YN xs a b k).2.1 (YN xs a b k).2.2)):YN xs a b (k+1)=YN xs a b k:=by
 rw [YN,if_neg h]
end Go.Proofs.YtbekjpkcicjcgaaGreat
