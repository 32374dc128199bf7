/-
 How fractions are compared: of the program (products of 128 bits) and of the reference (continued remainders); the lesser and the greater one; spans.
 Conditions: the numbers are ints of the machine.
-/
import Derived.Shelf.Bits.Mul64
import Derived.Test.YtbekjpkcicjcgabGreatGrD
import Derived.Deep.RegionHeld3
import Derived.Deep.RegionWith
import Derived.Deep.DeepCutAuto
import Derived.Deep.DeepMust
set_option maxHeartbeats 2000000
namespace Go.Proofs.YtbekjpkcicjcgabGreat
open Go.RowKit
def sgn (x:Int):Int:=if x<0 then -1 else if 0<x then 1 else 0
theorem sgn_of_neg {x:Int} (h:x<0):sgn x = -1:=by unfold sgn;rw [if_pos h]
theorem sgn_of_pos {x:Int} (h:0<x):sgn x=1:=by unfold sgn;rw [if_neg (by omega),if_pos h]
def KV (a b c d:Int):Int:=sgn (a*d-c*b)
theorem cmpF_neg_pos {a b c d:Int} (hb:0<b) (hd:0<d) (ha:a<0) (hc:0<=c):KV a b c d = -1:=by
 apply sgn_of_neg;have h1:a*d<0:=Int.mul_neg_of_neg_of_pos ha hd;have h2:0<=c*b:=Int.mul_nonneg hc (by omega);omega
theorem cmpF_pos_neg {a b c d:Int} (hb:0<b) (hd:0<d) (ha:0<=a) (hc:c<0):KV a b c d=1:=by
 apply sgn_of_pos;have h1:c*b<0:=Int.mul_neg_of_neg_of_pos hc hb;have h2:0<=a*d:=Int.mul_nonneg ha (by omega);omega
theorem absmul {a d:Int} (hd:0<d):((a.natAbs*d.natAbs:Nat):Int)=if a<0 then -(a*d) else a*d:=by
 rw [Int.natCast_mul];have e:(d.natAbs:Int)=d:=by omega
 rw [e];split
 ·have:(a.natAbs:Int) = -a:=by omega
  rw [this,Int.neg_mul]
 ·have:(a.natAbs:Int)=a:=by omega
  rw [this]
theorem cmpF_halves {a b c d:Int} (hb:0<b) (hd:0<d) (X Y:Nat) (hX:X=a.natAbs*d.natAbs) (hY:Y=c.natAbs*b.natAbs) (hs:(a<0/\c<0)∨(0<=a/\0<=c)) :
 KV a b c d=if a<0 then -(if Y<X then 1 else if X<Y then -1 else 0) else (if Y<X then 1 else if X<Y then -1 else 0):=by
 have h1:=absmul (a:=a) hd;have h2:=absmul (a:=c) hb;rw [<- hX] at h1;rw [<- hY] at h2;unfold KV sgn;generalize a*d=p at *;generalize c*b=q at *;rcases hs with ⟨ha,hc⟩|⟨ha,hc⟩
 ·rw [if_pos ha] at h1 ⊢;rw [if_pos hc] at h2;split<;>split<;>(try split)<;>(try split)<;>omega
 ·rw [if_neg (show ¬ a<0 by omega)] at h1 ⊢;rw [if_neg (show ¬ c<0 by omega)] at h2;split<;>split<;>(try split)<;>(try split)<;>omega
theorem mul64_c (x y:Nat) (hx:x<18446744073709551616) (hy:y<18446744073709551616) (w:World) :
 Calls Tryz.prog 93 #[.int .u64 x,.int .u64 y] w λ e w'=>e=.returned (.tuple #[.int .u64 ((x*y / 18446744073709551616:Nat):Int),.int .u64 ((x*y % 18446744073709551616:Nat):Int)])/\w=w':=by
 obtain ⟨bd,bt,bw,hhi⟩:=Lib.mul64_hi x y hx hy;have ba:=Lib.half_mul_le (a:=x / 4294967296) (b:=y / 4294967296) (by omega) (by omega);have bb:=Lib.half_mul_le (a:=x / 4294967296) (b:=y % 4294967296) (by omega) (by omega);have bc:=Lib.half_mul_le (a:=x % 4294967296) (b:=y / 4294967296) (by omega) (by omega);have ba':x / 4294967296*(y / 4294967296)<18446744073709551616:=by omega
 have bb':x / 4294967296*(y % 4294967296)<18446744073709551616:=by omega
 have bc':x % 4294967296*(y / 4294967296)<18446744073709551616:=by omega
 have bh1:x / 4294967296*(y / 4294967296)+(x / 4294967296*(y % 4294967296)+x % 4294967296*(y % 4294967296) / 4294967296) / 4294967296<18446744073709551616:=by omega
 have bh:x / 4294967296*(y / 4294967296)+(x / 4294967296*(y % 4294967296)+x % 4294967296*(y % 4294967296) / 4294967296) / 4294967296+((x / 4294967296*(y % 4294967296)+x % 4294967296*(y % 4294967296) / 4294967296) % 4294967296+x % 4294967296*(y / 4294967296)) / 4294967296<18446744073709551616:=by omega
 go_enter Tryz.func93,Tryz.ntmps93
 go_wp2
 simp only [Mul64.maskN x hx,Mul64.maskN y hy,Mul64.divN,Mul64.mulN,Mul64.addN,Mul64.wrapN _ bd,Mul64.wrapN _ bb',Mul64.wrapN _ bt,Mul64.maskN _ bt,Mul64.wrapN _ bc',Mul64.wrapN _ bw,Mul64.wrapN _ ba',Mul64.wrapN _ bh1,Mul64.wrapN _ bh,Mul64.wrapM (x*y)];rw [hhi];go_ret2
 exact ⟨rfl,rfl⟩
theorem Kt (a b c d:Int) (w:World) (ha:Yo a) (hb:Yo b) (hc:Yo c) (hd:Yo d) (hb0:0<b) (hd0:0<d) :
 Calls Tryz.prog 49 #[.int .i64 a,.int .i64 b,.int .i64 c,.int .i64 d] w λ e w'=>e=.returned (.int .i64 (KV a b c d))/\w=w':=by
 have m1:=λ W=>Kb a W ha;have m2:=λ W=>Kb d W hd;have m3:=λ W=>Kb c W hc;have m4:=λ W=>Kb b W hb;have n1:=JD ha;have n2:=JD hb;have n3:=JD hc;have n4:=JD hd;have u1:=λ W=>mul64_c a.natAbs d.natAbs (by omega) (by omega) W;have u2:=λ W=>mul64_c c.natAbs b.natAbs (by omega) (by omega) W;have key:=λ hs=>Lib.hid (cmpF_halves hb0 hd0 (a.natAbs*d.natAbs) (c.natAbs*b.natAbs) rfl rfl hs);have k1:=λ h1 h2=>Lib.hid (cmpF_neg_pos (a:=a) (c:=c) hb0 hd0 h1 h2);have k2:=λ h1 h2=>Lib.hid (cmpF_pos_neg (a:=a) (c:=c) hb0 hd0 h1 h2);have K:=Lib.hid key;have K1:=Lib.hid k1;have K2:=Lib.hid k2;clear key k1 k2;generalize hX:a.natAbs*d.natAbs=X at *;generalize hY:c.natAbs*b.natAbs=Y at *;clear hX hY;by_cases a0:a<0
 ·by_cases c0:c<0
  ·have hk:=K.out (.inl ⟨a0,c0⟩);clear K K1 K2;go_enter Tryz.func49,Tryz.ntmps49
   go_wp2_with (first|(go_at_call 94;((with_reducible refine (m1 _).mono ?_);rintro e w' ⟨rfl,rfl⟩))|(go_at_call 94;((with_reducible refine (m2 _).mono ?_);rintro e w' ⟨rfl,rfl⟩))|(go_at_call 94;((with_reducible refine (m3 _).mono ?_);rintro e w' ⟨rfl,rfl⟩))|(go_at_call 94;((with_reducible refine (m4 _).mono ?_);rintro e w' ⟨rfl,rfl⟩))|(go_at_call 93;((with_reducible refine (u1 _).mono ?_);rintro e w' ⟨rfl,rfl⟩))|(go_at_call 93;((with_reducible refine (u2 _).mono ?_);rintro e w' ⟨rfl,rfl⟩)))
   all_goals
    go_ret
    refine ⟨YH ?_,rfl⟩;rw [hk.out,if_pos a0];split<;>(try split)<;>omega
  ·have hk:=K1.out a0 (by omega);clear K K1 K2;go_enter Tryz.func49,Tryz.ntmps49
   go_wp2
   go_ret
   exact ⟨YH hk.out.symm,rfl⟩
 ·by_cases c0:c<0
  ·have hk:=K2.out (by omega) c0;clear K K1 K2;go_enter Tryz.func49,Tryz.ntmps49
   go_wp2
   go_ret
   exact ⟨YH hk.out.symm,rfl⟩
  ·have hk:=K.out (.inr ⟨by omega,by omega⟩);clear K K1 K2;go_enter Tryz.func49,Tryz.ntmps49
   go_wp2_with (first|(go_at_call 94;((with_reducible refine (m1 _).mono ?_);rintro e w' ⟨rfl,rfl⟩))|(go_at_call 94;((with_reducible refine (m2 _).mono ?_);rintro e w' ⟨rfl,rfl⟩))|(go_at_call 94;((with_reducible refine (m3 _).mono ?_);rintro e w' ⟨rfl,rfl⟩))|(go_at_call 94;((with_reducible refine (m4 _).mono ?_);rintro e w' ⟨rfl,rfl⟩))|(go_at_call 93;((with_reducible refine (u1 _).mono ?_);rintro e w' ⟨rfl,rfl⟩))|(go_at_call 93;((with_reducible refine (u2 _).mono ?_);rintro e w' ⟨rfl,rfl⟩)))
   all_goals
    go_ret
    refine ⟨YH ?_,rfl⟩;rw [hk.out,if_neg (show ¬ a<0 by omega)];split<;>(try split)<;>omega
def X7 (r s:Yu):Int:=if XE r=true/\XE s=true then KV r.n r.d s.n s.d else 0
theorem ratioOk_bd {r:Yu} (h:XE r=true):(1<=r.d/\r.d<=1000000000000000)/\(-1000000000000000000<=r.n/\r.n<=1000000000000000000):=by
 have:=KJ.1 h;exact ⟨this.1,this.2.1⟩
def ratioMin (r s:Yu):Yu:=if XE r=true/\XE s=true then (if X7 r s<=0 then r else s) else ZV
def ratioMax (r s:Yu):Yu:=if XE r=true/\XE s=true then (if 0<=X7 r s then r else s) else ZV
structure Span where
 low:Yu
 high:Yu
 deriving DecidableEq
def Span.In (w:Span):Prop:=w.low.In/\w.high.In
def spanOk (w:Span):Bool:=XE w.low&&XE w.high&&decide (X7 w.low w.high<=0)
theorem ratioOf_scale {n d:Int} (hn : -1000000000000000000<=n/\n<=1000000000000000000) (hd:1<=d/\d<=1000000000000000) :
 XE (X6 n d)=true/\∃ k:Int,0<k/\n=k*(X6 n d).n/\d=k*(X6 n d).d:=by
 have hg:Xh [n,d]=Nat.gcd n.natAbs d.natAbs:=Jm n d;have hpos:0<Xh [n,d]:=by rw [hg];exact Nat.gcd_pos_of_pos_right _ (by omega)
 have h1:Xh [n,d] ∣ n.natAbs:=by rw [hg];exact Nat.gcd_dvd_left _ _
 have h2:Xh [n,d] ∣ d.natAbs:=by rw [hg];exact Nat.gcd_dvd_right _ _
 have e1:=Nat.mul_div_cancel' h1;have e2:=Nat.mul_div_cancel' h2;have l1:=Nat.div_le_self n.natAbs (Xh [n,d]);have l2:=Nat.div_le_self d.natAbs (Xh [n,d]);have hdef:X6 n d=if decide (n<0)=decide (d<0) then ⟨((n.natAbs / Xh [n,d]:Nat):Int),((d.natAbs / Xh [n,d]:Nat):Int)⟩ else ⟨-((n.natAbs / Xh [n,d]:Nat):Int),((d.natAbs / Xh [n,d]:Nat):Int)⟩:=by
  unfold X6;rw [if_neg (by rw [YF (by omega),YF (by omega)];simp;omega),if_neg (by omega)]
 have hd0:¬ d<0:=by omega
 have hne:X6 n d≠ZV:=by
  intro e;have hq:d.natAbs / Xh [n,d]=0:=by
   rw [hdef] at e;have:(ZV).d=0:=rfl;rw [<- e] at this;split at this<;>simp only at this<;>omega
  rw [hq] at e2;omega
 refine ⟨ratioOf_ok.2 hne,(Xh [n,d]:Int),by omega, ?_, ?_⟩
 ·rw [hdef];have e1':((Xh [n,d]:Nat):Int)*((n.natAbs / Xh [n,d]:Nat):Int)=(n.natAbs:Int):=by rw [<- Int.natCast_mul,e1]
  split
  ·rename_i h;simp [hd0] at h;simp only;rw [e1'];omega
  ·rename_i h;simp [hd0] at h;simp only;rw [Int.mul_neg,e1'];omega
 ·have e2':((Xh [n,d]:Nat):Int)*((d.natAbs / Xh [n,d]:Nat):Int)=(d.natAbs:Int):=by rw [<- Int.natCast_mul,e2]
  rw [hdef];split<;>(simp only;rw [e2'];omega)
theorem ratioMin_ok {r s:Yu} (hr:XE r=true) (hs:XE s=true):XE (ratioMin r s)=true:=by
 unfold ratioMin;rw [if_pos ⟨hr,hs⟩];split<;>assumption
theorem ratioMax_ok {r s:Yu} (hr:XE r=true) (hs:XE s=true):XE (ratioMax r s)=true:=by
 unfold ratioMax;rw [if_pos ⟨hr,hs⟩];split<;>assumption
theorem isPart_c (a:Int) (w:World) :
 Calls Tryz.prog 90 #[.int .i64 a] w λ e w'=>e=.returned (.bool (Zo a (-1000000000000) 1000000000000))/\w=w':=by
 go_enter Tryz.func90,Tryz.ntmps90
 go_wp2_with (first|(go_at_call 77;refine (Yt _ _ _ _).mono ?_;rintro e w' ⟨rfl,rfl⟩))
 go_ret
 exact ⟨rfl,rfl⟩
theorem iPieceOk_c (q:Xm) (w:World) (hq:q.In) :
 Calls Tryz.prog 46 #[XZ q] w λ e w'=>e=.returned (.bool (XM q))/\Below w.heap.size w w':=by
 cases e0:Zo q.d 1 1000000000000
 ·go_enter Tryz.func46,Tryz.ntmps46
  go_wp2_with (first|(go_at_call 90;refine (isPart_c _ _).mono ?_;rintro e w' ⟨rfl,rfl⟩)|(go_at_call 77;refine (Yt _ _ _ _).mono ?_;rintro e w' ⟨rfl,rfl⟩))
  go_ret
  refine ⟨Xi (by simp [XM,e0]), ?_⟩;exact Xn
 ·cases e1:Zo q.a (-1000000000000) 1000000000000
  ·go_enter Tryz.func46,Tryz.ntmps46
   go_wp2_with (first|(go_at_call 90;refine (isPart_c _ _).mono ?_;rintro e w' ⟨rfl,rfl⟩)|(go_at_call 77;refine (Yt _ _ _ _).mono ?_;rintro e w' ⟨rfl,rfl⟩))
   go_ret
   refine ⟨Xi (by simp [XM,e0,e1]), ?_⟩;exact Xn
  ·cases e2:Zo q.b (-1000000000000) 1000000000000
   ·go_enter Tryz.func46,Tryz.ntmps46
    go_wp2_with (first|(go_at_call 90;refine (isPart_c _ _).mono ?_;rintro e w' ⟨rfl,rfl⟩)|(go_at_call 77;refine (Yt _ _ _ _).mono ?_;rintro e w' ⟨rfl,rfl⟩))
    go_ret
    refine ⟨Xi (by simp [XM,e0,e1,e2]), ?_⟩;exact Xn
   ·cases e3:Zo q.c (-1000000000000) 1000000000000
    ·go_enter Tryz.func46,Tryz.ntmps46
     go_wp2_with (first|(go_at_call 90;refine (isPart_c _ _).mono ?_;rintro e w' ⟨rfl,rfl⟩)|(go_at_call 77;refine (Yt _ _ _ _).mono ?_;rintro e w' ⟨rfl,rfl⟩))
     go_ret
     refine ⟨Xi (by simp [XM,e0,e1,e2,e3]), ?_⟩;exact Xn
    ·have hall:∀ n∈[q.a,q.b,q.c,q.d],Yo n:=by simpa [Xm.In] using hq
     have hfin:Hid (XM q=decide (Xh [q.a,q.b,q.c,q.d]=1)):=by simp [Hid,XM,e0,e1,e2,e3]
     have hg:=Ks (some ⟨w.heap.size+1,0,none⟩) [q.a,q.b,q.c,q.d] 4 _ (by simp) hall (Jy (T:=3) Zc (w.alloc (.cells #[.int .i64 q.a,.int .i64 q.b,.int .i64 q.c,.int .i64 q.d] 49)) [q.a,q.b,q.c,q.d] #[.int .i64 q.a,.int .i64 q.b,.int .i64 q.c,.int .i64 q.d] rfl (by simp));have hle:=Jd [q.a,q.b,q.c,q.d] hall;generalize Xh [q.a,q.b,q.c,q.d]=G at *;cases e4:((G:Int) == 1);all_goals
      go_enter Tryz.func46,Tryz.ntmps46
      go_wp2_with (first|(go_at_call 90;refine (isPart_c _ _).mono ?_;rintro e w' ⟨rfl,rfl⟩)|(go_at_call 77;refine (Yt _ _ _ _).mono ?_;rintro e w' ⟨rfl,rfl⟩))
      refine hg.mono ?_;rintro e w1 ⟨rfl,hb1⟩;go_wp2
      go_ret
      refine ⟨Xi (by rw [hfin.out,Bool.eq_iff_iff];simp at e4 ⊢;omega), ?_⟩;exact Xg (Xa (Xa bR _) _) hb1
theorem heap_size_setCells (b:Nat):∀ (vs:List Value) (o:Nat) (w:World),(w.setCells b o vs).heap.size=w.heap.size
 | [],_,_=>rfl
 | v :: r,o,w=>by rw [World.setCells,heap_size_setCells b r];simp [World.setCell]
theorem X0.stored {w:World} {g:Nat} {vs:List Value} (h:X0 w g vs) (us:List Value) (hl:us.length=vs.length):X0 (w.setCells g 0 us) g us:=by
 refine ⟨by rw [heap_size_setCells];exact h.1,λ j v hv=>?_⟩;have hj:j<us.length:=by
  rcases Nat.lt_or_ge j us.length with h|h
  ·exact h
  ·rw [List.getElem?_eq_none h] at hv;cases hv
 constructor
 ·have:=World.cell?_setCells_in g us 0 w (λ k hk=>by rw [Nat.zero_add,(h.2 k _ (List.getElem?_eq_getElem (by omega))).1];rfl) j hj;rw [Nat.zero_add] at this;rw [this,<- hv,List.getElem?_eq_getElem hj]
 ·rw [World.frozen?_setCells];exact (h.2 j _ (List.getElem?_eq_getElem (by omega))).2
theorem Y7 {a w:World} {n:Nat} (h:(∀ b o,b<n->w.cell? ⟨b,o,none⟩=a.cell? ⟨b,o,none⟩)/\n<=w.heap.size) :
 (∀ b o',b<n->w.drew.cell? ⟨b,o',none⟩=a.cell? ⟨b,o',none⟩)/\n<=w.drew.heap.size:=h
theorem Y6 (a:World) {n:Nat} (h:n<=a.heap.size):(∀ b o',b<n->a.cell? ⟨b,o',none⟩=a.cell? ⟨b,o',none⟩)/\n<=a.heap.size:=⟨λ _ _ _=>rfl,h⟩
theorem red3 {a b c:Int} (h:0<Xh [a,b,c]):Xh [a.tdiv (Xh [a,b,c]),b.tdiv (Xh [a,b,c]),c.tdiv (Xh [a,b,c])]=1:=by
 have e:=gcd3 a b c;rw [gcd3 (a.tdiv _)];simp only [natAbs_tdiv];generalize Xh [a,b,c]=g at *;have d1:g ∣ a.natAbs:=by rw [e];exact Nat.dvd_trans (Nat.gcd_dvd_left _ _) (Nat.gcd_dvd_left _ _)
 have d2:g ∣ b.natAbs:=by rw [e];exact Nat.dvd_trans (Nat.gcd_dvd_left _ _) (Nat.gcd_dvd_right _ _)
 have d3:g ∣ c.natAbs:=by rw [e];exact Nat.gcd_dvd_right _ _
 rw [Nat.gcd_div d1 d2,Nat.gcd_div (Nat.dvd_gcd d1 d2) d3,<- e];exact Nat.div_self h
def shiftSpot (s:XW) (dx dy:Int):Option XW :=
 if XP s=true/\Zo dx (-2000) 2000=true/\Zo dy (-2000) 2000=true then Y9 (s.x+dx*s.d) (s.y+dy*s.d) s.d else none
def sh (s:XW) (dx dy:Int):Nat->Option XW
 | 0=>shiftSpot s (-dx) (-dy)
 | 1=>shiftSpot s dx (-dy)
 | 2=>shiftSpot s dx dy
 | _=>shiftSpot s (-dx) dy
theorem JE {a b A B:Int} (hA : -A<=a/\a<=A) (hB : -B<=b/\b<=B) : -(A*B)<=a*b/\a*b<=A*B:=by
 have h1:0<=(A-a)*(B-b):=Int.mul_nonneg (by omega) (by omega);have h2:0<=(A+a)*(B+b):=Int.mul_nonneg (by omega) (by omega);have h3:0<=(A-a)*(B+b):=Int.mul_nonneg (by omega) (by omega);have h4:0<=(A+a)*(B-b):=Int.mul_nonneg (by omega) (by omega);rw [Int.sub_mul,Int.mul_sub,Int.mul_sub] at h1;rw [Int.add_mul,Int.mul_add,Int.mul_add] at h2;rw [Int.sub_mul,Int.mul_add,Int.mul_add] at h3;rw [Int.add_mul,Int.mul_sub,Int.mul_sub] at h4;omega
def sp0:XW:=⟨0,0,0⟩
def KO (xs:List XW) (a b:Int) (k:Nat):Int:=a*(xs.getD k sp0).x+b*(xs.getD k sp0).y
def KB (xs:List XW) (k:Nat):Int:=(xs.getD k sp0).d
def YL (xs:List XW) (a b:Int):Nat->Int × Int × Int
 | 0=>(-1,0,0)
 | k+1=>if (YL xs a b k).1<0∨0<KV (KO xs a b k) (KB xs k) (YL xs a b k).2.1 (YL xs a b k).2.2 then ((k:Int),KO xs a b k,KB xs k) else YL xs a b k
theorem far_get {xs:List XW} {k:Nat} (h:k<xs.length):xs.getD k sp0=xs[k]:=by
 rw [List.getD_eq_getElem?_getD,List.getElem?_eq_getElem h];rfl
theorem farAt_yes {xs:List XW} {a b:Int} {k:Nat} (h:(YL xs a b k).1<0∨0<KV (KO xs a b k) (KB xs k) (YL xs a b k).2.1 (YL xs a b k).2.2):YL xs a b (k+1)=((k:Int),KO xs a b k,KB xs k):=by
 rw [YL,if_pos h]
theorem farAt_no {xs:List XW} {a b:Int} {k:Nat} (h:¬((YL xs a b k).1<0∨0<KV (KO xs a b k) (KB xs k) (YL xs a b k).2.1 (YL xs a b k).2.2)):YL xs a b (k+1)=YL xs a b k:=by
 rw [YL,if_neg h]
end Go.Proofs.YtbekjpkcicjcgabGreat
