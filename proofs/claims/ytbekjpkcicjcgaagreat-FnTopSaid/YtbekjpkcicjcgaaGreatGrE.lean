/-
 What the functions on pieces return, and RatioOf.
 Conditions: the numbers are ints of the machine.
-/
import Derived.Deep.RegionHeld3
import Derived.Deep.RegionWith
import Derived.Test.YtbekjpkcicjcgaaGreatGrG
import Derived.Deep.DeepCutAuto
import Derived.Deep.DeepMust
import Derived.StillTailTactics
set_option maxHeartbeats 4000000
namespace Go.Proofs.YtbekjpkcicjcgaaGreat
open Go.RowKit
theorem iRatioOf_c (n d:Int) (w:World) (hn:YU n) (hd:YU d) :
 Calls Tryz.prog 21 #[.int .i64 n,.int .i64 d] w λ e w'=>e=.returned (XY (XR n d))/\Below w.heap.size w w':=by
 have m1:=λ v h=>Jh n v h hn;have m2:=λ v h=>Jh d v h hd;by_cases hz:d=0
 ·have hfin:XR n d=Ke:=by simp [XR,hz]
  rw [hfin];subst hz;clear m1 m2;go_enter Tryz.func21,Tryz.ntmps21
  go_wp2
  refine bodyPost_ret (v:=.agg #[.int .i64 0,.int .i64 0]) (by simp [results,Tryz.results21,go_sem]) rfl ⟨rfl, ?_⟩;exact Xw
 ·have hz2:(d == 0)=false:=by simpa using hz
  cases mn:YF n
  ·have n1:=m1 _ mn;cases md:YF d
   ·have n2:=m2 _ md;have hall:∀ k∈[n,d],YU k:=by simp [hn,hd]
    have hg:=JO (some ⟨w.heap.size+1,0,none⟩) [n,d] 2 _ Sz hall (sl_new_at (T:=3) ZI (w.alloc (.cells #[.int .i64 0,.int .i64 0] 46)) [n,d] #[.int .i64 n,.int .i64 d] rfl Sz);have hle:=gcdAll_le [n,d] hall;have hpos:0<Xn [n,d]:=by rw [Jq];exact Nat.gcd_pos_of_pos_right _ Oz
    have hfin:Hid (XR n d=if 1000000000000000000<n.natAbs / Xn [n,d]∨1000000000000000<d.natAbs / Xn [n,d] then Ke
     else if decide (n<0)=decide (d<0) then ⟨((n.natAbs / Xn [n,d]:Nat):Int),((d.natAbs / Xn [n,d]:Nat):Int)⟩
     else ⟨-((n.natAbs / Xn [n,d]:Nat):Int),((d.natAbs / Xn [n,d]:Nat):Int)⟩):=by
     show _=_;rw [XR,if_neg (by simp [hz,mn,md])]
    have c1:=λ W=>KD n W hn;have c2:=λ W=>KD d W hd;have a1:=natAbs_le hn;have a2:=natAbs_le hd;generalize Xn [n,d]=G at *;have l1:=Nat.div_le_self n.natAbs G;have l2:=Nat.div_le_self d.natAbs G;have q1:IntKind.u64.wrap ((n.natAbs:Int).tdiv (G:Int))=((n.natAbs / G:Nat):Int):=by rw [tdiv_nat];exact IntWalk.u64_in _ ⟨Int.natCast_nonneg _,Oz⟩
    have q2:IntKind.u64.wrap ((d.natAbs:Int).tdiv (G:Int))=((d.natAbs / G:Nat):Int):=by rw [tdiv_nat];exact IntWalk.u64_in _ ⟨Int.natCast_nonneg _,Oz⟩
    have q3:IntKind.u64.wrap ((n.natAbs:Int) / (G:Int))=((n.natAbs / G:Nat):Int):=by rw [<- Int.natCast_ediv];exact IntWalk.u64_in _ ⟨Int.natCast_nonneg _,Oz⟩
    have q4:IntKind.u64.wrap ((d.natAbs:Int) / (G:Int))=((d.natAbs / G:Nat):Int):=by rw [<- Int.natCast_ediv];exact IntWalk.u64_in _ ⟨Int.natCast_nonneg _,Oz⟩
    have hG1:¬ (G=0):=Oz
    have hG2:¬ ((G:Int)=0):=Oz
    generalize n.natAbs / G=top at *;generalize d.natAbs / G=bel at *;clear hn hd m1 m2 hall mn md hz;generalize hsn:decide (n<0)=sn at *;generalize hsd:decide (d<0)=sd at *;go_enter Tryz.func21,Tryz.ntmps21
    go_wp2_with (first|(go_at_call_of 64 (Value.int IntKind.i64 n);refine (n1 _).mono ?_;rintro e w' ⟨rfl,rfl⟩)|(go_at_call 64;refine (n2 _).mono ?_;rintro e w' ⟨rfl,rfl⟩))
    refine hg.mono ?_;rintro e w1 ⟨rfl,hb1⟩;have H1:=((Yd.new w #[.int .i64 0,.int .i64 0] 46).alloc _).below hb1;have hbw:=Xf (Xb (Xb (Below.refl w.heap.size w) _) _) hb1;go_wp2
    go_big_quiet ((first|(go_at_call_of 66 (Value.int IntKind.i64 n);exact Kw (c1 _))|(go_at_call 66;exact Kw (c2 _))))
    have H2:=H1.drewN nq;have hbw2:=Zn hbw nq;generalize w1.drewN nq=w2 at *;obtain ⟨cH2_0,fH2_0⟩:=H2.2 0 _ rfl;obtain ⟨cH2_1,fH2_1⟩:=H2.2 1 _ rfl;have hlt2:=H2.1;clear q1 q2 q3 q4 hbw H1 hb1 hg;by_cases b1:1000000000000000000<top
    ·have hf:Hid (XR n d=Ke):=by show _=_;rw [hfin.out,if_pos (.inl b1)]
     go_wp2
     refine bodyPost_ret (v:=.agg #[.int .i64 0,.int .i64 0]) (by simp [results,Tryz.results21,go_sem, *]) rfl ⟨by rw [hf.out];rfl, ?_⟩;exact Xw
    ·by_cases b2:1000000000000000<bel
     ·have hf:Hid (XR n d=Ke):=by show _=_;rw [hfin.out,if_pos (.inr b2)]
      go_wp2
      refine bodyPost_ret (v:=.agg #[.int .i64 0,.int .i64 0]) (by simp [results,Tryz.results21,go_sem, *]) rfl ⟨by rw [hf.out];rfl, ?_⟩;exact Xw
     ·have hf:Hid (XR n d=if sn=sd then ⟨(top:Int),(bel:Int)⟩ else ⟨-(top:Int),(bel:Int)⟩):=by show _=_;rw [hfin.out,if_neg Oz]
      cases sn<;>cases sd
      ·go_wp2
       refine bodyPost_ret (v:=.agg #[.int .i64 (top:Int),.int .i64 (bel:Int)]) (by simp [results,Tryz.results21,go_sem, *]) rfl ⟨by rw [hf.out];rfl, ?_⟩;exact Xw
      ·go_wp2
       refine bodyPost_ret (v:=.agg #[.int .i64 (-(top:Int)),.int .i64 (bel:Int)]) (by simp [results,Tryz.results21,go_sem, *]) rfl ⟨by rw [hf.out];rfl, ?_⟩;exact Xw
      ·go_wp2
       refine bodyPost_ret (v:=.agg #[.int .i64 (-(top:Int)),.int .i64 (bel:Int)]) (by simp [results,Tryz.results21,go_sem, *]) rfl ⟨by rw [hf.out];rfl, ?_⟩;exact Xw
      ·go_wp2
       refine bodyPost_ret (v:=.agg #[.int .i64 (top:Int),.int .i64 (bel:Int)]) (by simp [results,Tryz.results21,go_sem, *]) rfl ⟨by rw [hf.out];rfl, ?_⟩;exact Xw
   ·have hfin:XR n d=Ke:=by simp [XR,md]
    rw [hfin];have n2:=m2 _ md;clear m1 m2 mn md;go_enter Tryz.func21,Tryz.ntmps21
    go_wp2_with (first|(go_at_call_of 64 (Value.int IntKind.i64 n);refine (n1 _).mono ?_;rintro e w' ⟨rfl,rfl⟩)|(go_at_call 64;refine (n2 _).mono ?_;rintro e w' ⟨rfl,rfl⟩))
    refine bodyPost_ret (v:=.agg #[.int .i64 0,.int .i64 0]) (by simp [results,Tryz.results21,go_sem]) rfl ⟨rfl, ?_⟩;exact Xw
  ·have hfin:XR n d=Ke:=by simp [XR,mn]
   rw [hfin];have n1:=m1 _ mn;clear m1 m2 mn;go_enter Tryz.func21,Tryz.ntmps21
   go_wp2_with (fail)
   refine (n1 _).mono ?_;rintro e w' ⟨rfl,rfl⟩;go_wp2
   refine bodyPost_ret (v:=.agg #[.int .i64 0,.int .i64 0]) (by simp [results,Tryz.results21,go_sem]) rfl ⟨rfl, ?_⟩;exact Xw
theorem heap_size_setCells (b:Nat):∀ (vs:List Value) (o:Nat) (w:World),(w.setCells b o vs).heap.size=w.heap.size
 | [],_,_=>rfl
 | v :: r,o,w=>by rw [World.setCells,heap_size_setCells b r];simp [World.setCell]
theorem Yd.stored {w:World} {g:Nat} {vs:List Value} (h:Yd w g vs) (us:List Value) (hl:us.length=vs.length):Yd (w.setCells g 0 us) g us:=by
 refine ⟨by rw [heap_size_setCells];exact h.1,λ j v hv=>?_⟩;have hj:j<us.length:=by
  rcases Nat.lt_or_ge j us.length with h|h
  ·exact h
  ·rw [List.getElem?_eq_none h] at hv;cases hv
 constructor
 ·have:=World.cell?_setCells_in g us 0 w (λ k hk=>by rw [Nat.zero_add,(h.2 k _ (List.getElem?_eq_getElem Oz)).1];rfl) j hj;rw [Nat.zero_add] at this;rw [this,<- hv,List.getElem?_eq_getElem hj]
 ·rw [World.frozen?_setCells];exact (h.2 j _ (List.getElem?_eq_getElem Oz)).2
theorem Zv {a w:World} {n:Nat} (h:(∀ b o,b<n->w.cell? ⟨b,o,none⟩=a.cell? ⟨b,o,none⟩)/\n<=w.heap.size) :
 (∀ b o',b<n->w.drew.cell? ⟨b,o',none⟩=a.cell? ⟨b,o',none⟩)/\n<=w.drew.heap.size:=h
theorem Zu (a:World) {n:Nat} (h:n<=a.heap.size):(∀ b o',b<n->a.cell? ⟨b,o',none⟩=a.cell? ⟨b,o',none⟩)/\n<=a.heap.size:=⟨λ _ _ _=>rfl,h⟩
theorem red3 {a b c:Int} (h:0<Xn [a,b,c]):Xn [a.tdiv (Xn [a,b,c]),b.tdiv (Xn [a,b,c]),c.tdiv (Xn [a,b,c])]=1:=by
 have e:=gcd3 a b c;rw [gcd3 (a.tdiv _)];simp only [natAbs_tdiv];generalize Xn [a,b,c]=g at *;have d1:g ∣ a.natAbs:=by rw [e];exact Nat.dvd_trans (Nat.gcd_dvd_left _ _) (Nat.gcd_dvd_left _ _)
 have d2:g ∣ b.natAbs:=by rw [e];exact Nat.dvd_trans (Nat.gcd_dvd_left _ _) (Nat.gcd_dvd_right _ _)
 have d3:g ∣ c.natAbs:=by rw [e];exact Nat.gcd_dvd_right _ _
 rw [Nat.gcd_div d1 d2,Nat.gcd_div (Nat.dvd_gcd d1 d2) d3,<- e];exact Nat.div_self h
def shiftSpot (s:XH) (dx dy:Int):Option XH :=
 if Xo s=true/\ZT dx (-2000) 2000=true/\ZT dy (-2000) 2000=true then Y9 (s.x+dx*s.d) (s.y+dy*s.d) s.d else none
structure SB (s:XH) (dx dy:Int):Prop where
 d:1<=s.d/\s.d<=5000000000
 x : -5000000000000<=s.x/\s.x<=5000000000000
 y : -5000000000000<=s.y/\s.y<=5000000000000
 m : -10000000000000<=dx*s.d/\dx*s.d<=10000000000000
 n : -10000000000000<=dy*s.d/\dy*s.d<=10000000000000
def sh (s:XH) (dx dy:Int):Nat->Option XH
 | 0=>shiftSpot s (-dx) (-dy)
 | 1=>shiftSpot s dx (-dy)
 | 2=>shiftSpot s dx dy
 | _=>shiftSpot s (-dx) dy
theorem spotC_one (t:XH):∀ u∈Kz t,u.oneCell'=true:=by
 intro u hu;simp [Kz] at hu;rcases hu with rfl|rfl|rfl<;>rfl
theorem JF {a b A B:Int} (hA : -A<=a/\a<=A) (hB : -B<=b/\b<=B) : -(A*B)<=a*b/\a*b<=A*B:=by
 have h1:0<=(A-a)*(B-b):=Int.mul_nonneg Oz Oz;have h2:0<=(A+a)*(B+b):=Int.mul_nonneg Oz Oz;have h3:0<=(A-a)*(B+b):=Int.mul_nonneg Oz Oz;have h4:0<=(A+a)*(B-b):=Int.mul_nonneg Oz Oz;rw [Int.sub_mul,Int.mul_sub,Int.mul_sub] at h1;rw [Int.add_mul,Int.mul_add,Int.mul_add] at h2;rw [Int.sub_mul,Int.mul_add,Int.mul_add] at h3;rw [Int.add_mul,Int.mul_sub,Int.mul_sub] at h4;omega
theorem sgn_le {x:Int}:sgn x<=0 ↔ x<=0:=by unfold sgn;split<;>(try split)<;>omega
def Yi:XH:=⟨0,0,0⟩
def K6 (xs:List XH) (a b:Int) (k:Nat):Int:=a*(xs.getD k Yi).x+b*(xs.getD k Yi).y
def KQ (xs:List XH) (k:Nat):Int:=(xs.getD k Yi).d
def YN (xs:List XH) (a b:Int):Nat->Int × Int × Int
 | 0=>(-1,0,0)
 | k+1=>if (YN xs a b k).1<0∨0<Jv (K6 xs a b k) (KQ xs k) (YN xs a b k).2.1 (YN xs a b k).2.2 then ((k:Int),K6 xs a b k,KQ xs k) else YN xs a b k
theorem far_get {xs:List XH} {k:Nat} (h:k<xs.length):xs.getD k Yi=xs[k]:=by
 rw [List.getD_eq_getElem?_getD,List.getElem?_eq_getElem h];rfl
theorem farAt_yes {xs:List XH} {a b:Int} {k:Nat} (h:(YN xs a b k).1<0∨0<Jv (K6 xs a b k) (KQ xs k) (YN xs a b k).2.1 (YN xs a b k).2.2):YN xs a b (k+1)=((k:Int),K6 xs a b k,KQ xs k):=by
 rw [YN,if_pos h]
theorem farAt_no {xs:List XH} {a b:Int} {k:Nat} (h:¬((YN xs a b k).1<0∨0<Jv (K6 xs a b k) (KQ xs k) (YN xs a b k).2.1 (YN xs a b k).2.2)):YN xs a b (k+1)=YN xs a b k:=by
 rw [YN,if_neg h]
structure JJ where
 x0:Int
 y0:Int
 step:Int
 nx:Int
 ny:Int
 cells:List Int
def JJ.In (t:JJ):Prop:=YU t.x0/\YU t.y0/\YU t.step/\YU t.nx/\YU t.ny
abbrev tabV (t:JJ) (A:Option Addr) (cap:Nat):Value:=.agg #[Vi t.x0,Vi t.y0,Vi t.step,Vi t.nx,Vi t.ny,Sv A t.cells.length cap]
def Yw (t:JJ):Bool:=ZT t.x0 (-1000) 1000&&ZT t.y0 (-1000) 1000&&ZT t.step 1 100&&ZT t.nx 1 100&&ZT t.ny 1 100&&decide (t.nx*t.ny<=400)&&decide (t.x0+t.nx*t.step<=1000)&&decide (t.y0+t.ny*t.step<=1000)
def cellOk (n:Int):Bool:=n == -1000000||ZT n (-1000) 1000
def ZZ (t:JJ):Bool:=Yw t&&decide ((t.cells.length:Int)=t.nx*t.ny)&&t.cells.all cellOk
theorem mul_bd {a b A B:Int} (ha : -A<=a/\a<=A) (hb : -B<=b/\b<=B) : -(A*B)<=a*b/\a*b<=A*B:=by
 have hA:a.natAbs<=A.natAbs:=Oz
 have hB:b.natAbs<=B.natAbs:=Oz
 have hm:=Nat.mul_le_mul hA hB;rw [<- Int.natAbs_mul,<- Int.natAbs_mul] at hm;have hAB:0<=A*B:=Int.mul_nonneg Oz Oz;omega
theorem Kg {t:JJ}:Yw t=true ↔ (-1000<=t.x0/\t.x0<=1000)/\(-1000<=t.y0/\t.y0<=1000)/\(1<=t.step/\t.step<=100)/\(1<=t.nx/\t.nx<=100)/\(1<=t.ny/\t.ny<=100)/\t.nx*t.ny<=400/\t.x0+t.nx*t.step<=1000/\t.y0+t.ny*t.step<=1000:=by
 simp only [Yw,Bool.and_eq_true,Y3,decide_eq_true_eq,and_assoc]
theorem igridOk_c (t:JJ) (A:Option Addr) (cap:Nat) (w:World) (_:t.In) :
 Calls Tryz.prog 60 #[tabV t A cap] w λ e w'=>e=.returned (.bool (Yw t))/\Below w.heap.size w w':=by
 cases e1:ZT t.x0 (-1000) 1000
 ·go_enter Tryz.func60,Tryz.ntmps60
  go_wp2_with (first|(go_at_call 59;refine (Yb _ _ _ _).mono ?_;rintro e w' ⟨rfl,rfl⟩))
  go_ret
  refine ⟨Xm (by simp [Yw,e1]<;>omega), ?_⟩;exact Xw
 ·cases e2:ZT t.y0 (-1000) 1000
  ·go_enter Tryz.func60,Tryz.ntmps60
   go_wp2_with (first|(go_at_call 59;refine (Yb _ _ _ _).mono ?_;rintro e w' ⟨rfl,rfl⟩))
   go_ret
   refine ⟨Xm (by simp [Yw,e1,e2]<;>omega), ?_⟩;exact Xw
  ·cases e3:ZT t.step 1 100
   ·go_enter Tryz.func60,Tryz.ntmps60
    go_wp2_with (first|(go_at_call 59;refine (Yb _ _ _ _).mono ?_;rintro e w' ⟨rfl,rfl⟩))
    go_ret
    refine ⟨Xm (by simp [Yw,e1,e2,e3]<;>omega), ?_⟩;exact Xw
   ·cases e4:ZT t.nx 1 100
    ·go_enter Tryz.func60,Tryz.ntmps60
     go_wp2_with (first|(go_at_call 59;refine (Yb _ _ _ _).mono ?_;rintro e w' ⟨rfl,rfl⟩))
     go_ret
     refine ⟨Xm (by simp [Yw,e1,e2,e3,e4]<;>omega), ?_⟩;exact Xw
    ·cases e5:ZT t.ny 1 100
     ·go_enter Tryz.func60,Tryz.ntmps60
      go_wp2_with (first|(go_at_call 59;refine (Yb _ _ _ _).mono ?_;rintro e w' ⟨rfl,rfl⟩))
      go_ret
      refine ⟨Xm (by simp [Yw,e1,e2,e3,e4,e5]<;>omega), ?_⟩;exact Xw
     ·obtain ⟨a1,a2⟩:=Y3.1 e1;obtain ⟨a3,a4⟩:=Y3.1 e2;obtain ⟨a5,a6⟩:=Y3.1 e3;obtain ⟨a7,a8⟩:=Y3.1 e4;obtain ⟨a9,a10⟩:=Y3.1 e5;obtain ⟨m1,m2⟩:=mul_bd (A:=100) (B:=100) (a:=t.nx) (b:=t.ny) Oz Oz;obtain ⟨m3,m4⟩:=mul_bd (A:=100) (B:=100) (a:=t.nx) (b:=t.step) Oz Oz;obtain ⟨m5,m6⟩:=mul_bd (A:=100) (B:=100) (a:=t.ny) (b:=t.step) Oz Oz;by_cases e6:t.nx*t.ny<=400
      rotate_left
      ·go_enter Tryz.func60,Tryz.ntmps60
       go_wp2_with (first|(go_at_call 59;refine (Yb _ _ _ _).mono ?_;rintro e w' ⟨rfl,rfl⟩))
       go_ret
       refine ⟨Xm (by simp [Yw,e1,e2,e3,e4,e5]<;>omega), ?_⟩;exact Xw
      by_cases e7:t.x0+t.nx*t.step<=1000
      rotate_left
      ·go_enter Tryz.func60,Tryz.ntmps60
       go_wp2_with (first|(go_at_call 59;refine (Yb _ _ _ _).mono ?_;rintro e w' ⟨rfl,rfl⟩))
       go_ret
       refine ⟨Xm (by simp [Yw,e1,e2,e3,e4,e5,e6]<;>omega), ?_⟩;exact Xw
      by_cases e8:t.y0+t.ny*t.step<=1000
      rotate_left
      ·go_enter Tryz.func60,Tryz.ntmps60
       go_wp2_with (first|(go_at_call 59;refine (Yb _ _ _ _).mono ?_;rintro e w' ⟨rfl,rfl⟩))
       go_ret
       refine ⟨Xm (by simp [Yw,e1,e2,e3,e4,e5,e6,e7]<;>omega), ?_⟩;exact Xw
      go_enter Tryz.func60,Tryz.ntmps60
      go_wp2_with (first|(go_at_call 59;refine (Yb _ _ _ _).mono ?_;rintro e w' ⟨rfl,rfl⟩))
      go_ret
      refine ⟨Xm (by simp [Yw,e1,e2,e3,e4,e5,e6,e7]<;>omega), ?_⟩;exact Xw
theorem iTableOk_c (t:JJ) (A:Option Addr) (cap:Nat) (w:World) (ht:t.In) (hn:t.cells.length<=1048576) (hs:Sl 1 Kk w A t.cells) :
 Calls Tryz.prog 115 #[tabV t A cap] w λ e w'=>e=.returned (.bool (ZZ t))/\Below w.heap.size w w':=by
 have c1:=λ W=>igridOk_c t A cap W ht;have HA:=Yd.new w #[.int .i64 t.x0,.int .i64 t.y0,.int .i64 t.step,.int .i64 t.nx,.int .i64 t.ny,.slice A t.cells.length cap] 57;cases e1:Yw t
 ·rw [e1] at c1;have hfin:Hid (ZZ t=false):=by simp [Hid,ZZ,e1]
  go_enter Tryz.func115,Tryz.ntmps115
  go_wp2_with (fail)
  refine (c1 _).mono ?_;rintro e w1 ⟨rfl,hb1⟩;go_wp2
  go_ret
  refine ⟨Xm (by rw [hfin.out]), ?_⟩;exact Xw
 ·rw [e1] at c1;obtain ⟨_,_,_,g4,g5,g6,_,_⟩:=Kg.1 e1;obtain ⟨m1,m2⟩:=mul_bd (A:=100) (B:=100) (a:=t.nx) (b:=t.ny) Oz Oz;by_cases e2:(t.cells.length:Int)=t.nx*t.ny
  ·have hfin:Hid (ZZ t=t.cells.all cellOk):=by simp [Hid,ZZ,e1,e2]
   have e3:((t.cells.length:Int) != t.nx*t.ny)=false:=by simp [e2]
   have hmm:=Lib.hid e2;clear e2;go_enter Tryz.func115,Tryz.ntmps115
   go_wp2_with (fail)
   refine (c1 _).mono ?_;rintro e w1 ⟨rfl,hb1⟩;have H1:=HA.below hb1;have hbw:=Xf (Xb (Below.refl w.heap.size w) _) hb1;obtain ⟨cH1_0,fH1_0⟩:=H1.2 0 _ rfl;obtain ⟨cH1_1,fH1_1⟩:=H1.2 1 _ rfl;obtain ⟨cH1_2,fH1_2⟩:=H1.2 2 _ rfl;obtain ⟨cH1_3,fH1_3⟩:=H1.2 3 _ rfl;obtain ⟨cH1_4,fH1_4⟩:=H1.2 4 _ rfl;obtain ⟨cH1_5,fH1_5⟩:=H1.2 5 _ rfl;go_wp2
   go_loopw [4,22] (λ x i wr=>∃ k:Nat,k<=t.cells.length/\i=.int .i64 k/\(t.cells.take k).all cellOk=true/\Below w.heap.size w wr) (λ _ i _=>t.cells.length-(intOf i).toNat)
   case atStart=>exact ⟨0,Nat.zero_le _,rfl,rfl,hbw⟩
   case round =>
    obtain ⟨k,hk,rfl,hall,hbr⟩:=hrel;by_cases hlt:k<t.cells.length
    ·obtain ⟨b,off,rfl,hblt,hc⟩:=(hs.below hbr).at_ hlt;have g0:=hc 0 _ rfl;have Z1:cellOk t.cells[k]=false->t.cells.all cellOk=false:=λ h=>by
      rw [List.all_eq_false];exact ⟨_,List.getElem_mem hlt,by simp [h]⟩
     have Z2:cellOk t.cells[k]=true->(t.cells.take (k+1)).all cellOk=true:=λ h=>by
      rw [Zx t.cells k hlt,List.all_append,hall];simp [h]
     have Y1:=Lib.hid Z1;have Y2:=Lib.hid Z2;clear hc hall Z1 Z2 m1 m2 g4 g5 g6;simp only [Nat.mul_one,Nat.add_zero] at g0;generalize t.cells[k]=n at *;cases q1:(n == -1000000)
     ·have q2:(n != -1000000)=true:=by simp [bne,q1]
      cases q3:ZT n (-1000) 1000
      ·go_wp2_with (first|(go_at_call 59;refine (Yb _ _ _ _).mono ?_;rintro e w' ⟨rfl,rfl⟩))
       go_ret
       exact ⟨Xm (by rw [hfin.out,Y1.out (by simp [cellOk,q1,q3])]),hbr⟩
      ·go_wp2_with (first|(go_at_call 59;refine (Yb _ _ _ _).mono ?_;rintro e w' ⟨rfl,rfl⟩))
       exact ⟨⟨k+1,by omega,by go_num,Y2.out (by simp [cellOk,q3]),hbr⟩,by simp [intOf];omega⟩
     ·have q2:(n != -1000000)=false:=by simp [bne,q1]
      go_wp2
      exact ⟨⟨k+1,by omega,by go_num,Y2.out (by simp [cellOk,q1]),hbr⟩,by simp [intOf];omega⟩
    ·obtain rfl:k=t.cells.length:=Oz
     have Y:=Lib.hid hall;clear hall;go_wp2
     go_ret
     exact ⟨Xm (by have:=Y.out;rw [List.take_length] at this;rw [hfin.out,this]),hbr⟩
  ·have hfin:Hid (ZZ t=false):=by simp [Hid,ZZ,e2]
   have e3:((t.cells.length:Int) != t.nx*t.ny)=true:=by simp [e2]
   clear e2;go_enter Tryz.func115,Tryz.ntmps115
   go_wp2_with (fail)
   refine (c1 _).mono ?_;rintro e w1 ⟨rfl,hb1⟩;have H1:=HA.below hb1;obtain ⟨cH1_0,fH1_0⟩:=H1.2 0 _ rfl;obtain ⟨cH1_1,fH1_1⟩:=H1.2 1 _ rfl;obtain ⟨cH1_2,fH1_2⟩:=H1.2 2 _ rfl;obtain ⟨cH1_3,fH1_3⟩:=H1.2 3 _ rfl;obtain ⟨cH1_4,fH1_4⟩:=H1.2 4 _ rfl;obtain ⟨cH1_5,fH1_5⟩:=H1.2 5 _ rfl;go_wp2
   go_ret
   refine ⟨Xm (by rw [hfin.out]), ?_⟩;exact Xw
theorem XG.low {α:Type} {T sz:Nat} {enc:α->List Value} {w:World} {base:Nat} {v:Value} {xs:List α} (h:XG T sz enc w base v xs) {p:Addr} (hp:p.block<base) (u:Value):XG T sz enc (w.setCell p u) base v xs:=by
 obtain ⟨A,cap,rfl,ho⟩:=h;exact ⟨A,cap,rfl,ownsRow_setCell_below ho hp u⟩
structure X1 (w:World) (base:Nat) (x:List Half) (a:Kt):Prop where
 halves:XG 136 3 Xe w base (Sv a.A (List.length x) a.c) x
theorem X1.sl {w:World} {base:Nat} {x:List Half} {a:Kt} (h:X1 w base x a):RegionSl w x a:=⟨h.halves.out Xx⟩
theorem X1.below {w w':World} {base B:Nat} {x:List Half} {a:Kt} (h:X1 w base x a) (hb:Below B w w') (hB:w.heap.size<=B):X1 w' base x a:=⟨h.halves.below hb hB⟩
theorem X1.mono {w:World} {base base':Nat} {x:List Half} {a:Kt} (h:X1 w base x a) (hb:base'<=base):X1 w base' x a:=⟨h.halves.mono hb⟩
theorem X1.low {w:World} {base:Nat} {x:List Half} {a:Kt} (h:X1 w base x a) {p:Addr} (hp:p.block<base) (u:Value):X1 (w.setCell p u) base x a:=⟨h.halves.low hp u⟩
theorem X1.blk {w:World} {base:Nat} {x:List Half} {a:Kt} (h:X1 w base x a):Blk base w.heap.size a:=h.halves.blk
structure Zb (w:World) (base:Nat) (x:XD) (a:Y7):Prop where
 map:XG 3 1 Kk w base (Sv a.map.A (List.length x.map) a.map.c) x.map
 noise:X1 w base x.noise a.noise
 limits:X1 w base x.limits a.limits
 apart:List.Pairwise Apart [a.map,a.noise,a.limits]
theorem Zb.sl {w:World} {base:Nat} {x:XD} {a:Y7} (h:Zb w base x a):ZX w x a:=⟨h.map.out ZI,h.noise.sl,h.limits.sl⟩
theorem Zb.below {w w':World} {base B:Nat} {x:XD} {a:Y7} (h:Zb w base x a) (hb:Below B w w') (hB:w.heap.size<=B):Zb w' base x a:=⟨h.map.below hb hB,h.noise.below hb hB,h.limits.below hb hB,h.apart⟩
theorem Zb.mono {w:World} {base base':Nat} {x:XD} {a:Y7} (h:Zb w base x a) (hb:base'<=base):Zb w base' x a:=⟨h.map.mono hb,h.noise.mono hb,h.limits.mono hb,h.apart⟩
theorem Zb.low {w:World} {base:Nat} {x:XD} {a:Y7} (h:Zb w base x a) {p:Addr} (hp:p.block<base) (u:Value):Zb (w.setCell p u) base x a:=⟨h.map.low hp u,h.noise.low hp u,h.limits.low hp u,h.apart⟩
theorem Zb.blk {w:World} {base:Nat} {x:XD} {a:Y7} (h:Zb w base x a):Blk base w.heap.size a.map/\Blk base w.heap.size a.noise/\Blk base w.heap.size a.limits:=⟨h.map.blk,h.noise.blk,h.limits.blk⟩
structure Yn (w:World) (base:Nat) (x:Jw) (a:J4):Prop where
 room:Zb w base x.room a.room
 reg:X1 w base x.reg a.reg
 log:XG 3 1 Kk w base (Sv a.log.A (List.length x.log) a.log.c) x.log
 apart:List.Pairwise Apart [a.room.map,a.room.noise,a.room.limits,a.reg,a.log]
theorem Yn.sl {w:World} {base:Nat} {x:Jw} {a:J4} (h:Yn w base x a):WatchSl w x a:=⟨h.room.sl,h.reg.sl,h.log.out ZI⟩
theorem Yn.below {w w':World} {base B:Nat} {x:Jw} {a:J4} (h:Yn w base x a) (hb:Below B w w') (hB:w.heap.size<=B):Yn w' base x a:=⟨h.room.below hb hB,h.reg.below hb hB,h.log.below hb hB,h.apart⟩
theorem Yn.mono {w:World} {base base':Nat} {x:Jw} {a:J4} (h:Yn w base x a) (hb:base'<=base):Yn w base' x a:=⟨h.room.mono hb,h.reg.mono hb,h.log.mono hb,h.apart⟩
theorem Yn.low {w:World} {base:Nat} {x:Jw} {a:J4} (h:Yn w base x a) {p:Addr} (hp:p.block<base) (u:Value):Yn (w.setCell p u) base x a:=⟨h.room.low hp u,h.reg.low hp u,h.log.low hp u,h.apart⟩
theorem Yn.blk {w:World} {base:Nat} {x:Jw} {a:J4} (h:Yn w base x a):Blk base w.heap.size a.room.map/\Blk base w.heap.size a.room.noise/\Blk base w.heap.size a.room.limits/\Blk base w.heap.size a.reg/\Blk base w.heap.size a.log:=⟨h.room.blk.1,h.room.blk.2.1,h.room.blk.2.2,h.reg.blk,h.log.blk⟩
structure ZR (w:World) (base:Nat) (x:Track) (a:TrackA):Prop where
 spots:XG 30 3 Kz w base (Sv a.spots.A (List.length x.spots) a.spots.c) x.spots
 inputs:XG 46 2 ratioC w base (Sv a.inputs.A (List.length x.inputs) a.inputs.c) x.inputs
 apart:List.Pairwise Apart [a.spots,a.inputs]
theorem ZR.sl {w:World} {base:Nat} {x:Track} {a:TrackA} (h:ZR w base x a):TrackSl w x a:=⟨h.spots.out Jg,h.inputs.out ratioC_len⟩
theorem ZR.below {w w':World} {base B:Nat} {x:Track} {a:TrackA} (h:ZR w base x a) (hb:Below B w w') (hB:w.heap.size<=B):ZR w' base x a:=⟨h.spots.below hb hB,h.inputs.below hb hB,h.apart⟩
theorem ZR.mono {w:World} {base base':Nat} {x:Track} {a:TrackA} (h:ZR w base x a) (hb:base'<=base):ZR w base' x a:=⟨h.spots.mono hb,h.inputs.mono hb,h.apart⟩
theorem ZR.low {w:World} {base:Nat} {x:Track} {a:TrackA} (h:ZR w base x a) {p:Addr} (hp:p.block<base) (u:Value):ZR (w.setCell p u) base x a:=⟨h.spots.low hp u,h.inputs.low hp u,h.apart⟩
theorem ZR.blk {w:World} {base:Nat} {x:Track} {a:TrackA} (h:ZR w base x a):Blk base w.heap.size a.spots/\Blk base w.heap.size a.inputs:=⟨h.spots.blk,h.inputs.blk⟩
end Go.Proofs.YtbekjpkcicjcgaaGreat
