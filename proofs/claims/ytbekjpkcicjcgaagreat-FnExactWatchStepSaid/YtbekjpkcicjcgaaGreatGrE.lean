/-
 What the functions on pieces return, and RatioOf.
 Conditions: the numbers are ints of the machine.
-/
import Derived.Test.YtbekjpkcicjcgaaGreatGrD
import Derived.Deep.RegionHeld3
import Derived.Deep.RegionWith
set_option maxHeartbeats 4000000
namespace Go.Proofs.YtbekjpkcicjcgaaGreat
open Go.RowKit
theorem iRatioOf_c (n d:Int) (w:World) (hn:Yy n) (hd:Yy d) :
 Calls Tryz.prog 21 #[.int .i64 n,.int .i64 d] w λ e w'=>e=.returned (Xv (XD n d))/\Below w.heap.size w w':=by
 have m1:=λ v h=>KI n v h hn;have m2:=λ v h=>KI d v h hd;by_cases hz:d=0
 ·have hfin:XD n d=Y7:=by simp [XD,hz]
  rw [hfin];subst hz;clear m1 m2;go_enter Tryz.func21,Tryz.ntmps21
  go_wp2
  refine bodyPost_ret (v:=.agg #[.int .i64 0,.int .i64 0]) (by simp [results,Tryz.results21,go_sem]) rfl ⟨rfl, ?_⟩;exact Xl
 ·have hz2:(d == 0)=false:=by simpa using hz
  cases mn:Yj n
  ·have n1:=m1 _ mn;cases md:Yj d
   ·have n2:=m2 _ md;have hall:∀ k∈[n,d],Yy k:=by simp [hn,hd]
    have hg:=Jf (some ⟨w.heap.size+1,0,none⟩) [n,d] 2 _ Sz hall (sl_new_at (T:=3) Zg (w.alloc (.cells #[.int .i64 0,.int .i64 0] 46)) [n,d] #[.int .i64 n,.int .i64 d] rfl Sz);have hle:=JF [n,d] hall;have hpos:0<Xm [n,d]:=by rw [Ka];exact Nat.gcd_pos_of_pos_right _ Oz
    have hfin:Hid (XD n d=if 1000000000000000000<n.natAbs / Xm [n,d]∨1000000000000000<d.natAbs / Xm [n,d] then Y7
     else if decide (n<0)=decide (d<0) then ⟨((n.natAbs / Xm [n,d]:Nat):Int),((d.natAbs / Xm [n,d]:Nat):Int)⟩
     else ⟨-((n.natAbs / Xm [n,d]:Nat):Int),((d.natAbs / Xm [n,d]:Nat):Int)⟩):=by
     show _=_;rw [XD,if_neg (by simp [hz,mn,md])]
    have c1:=λ W=>Ki n W hn;have c2:=λ W=>Ki d W hd;have a1:=JC hn;have a2:=JC hd;generalize Xm [n,d]=G at *;have l1:=Nat.div_le_self n.natAbs G;have l2:=Nat.div_le_self d.natAbs G;have q1:IntKind.u64.wrap ((n.natAbs:Int).tdiv (G:Int))=((n.natAbs / G:Nat):Int):=by rw [tdiv_nat];exact IntWalk.u64_in _ ⟨Int.natCast_nonneg _,Oz⟩
    have q2:IntKind.u64.wrap ((d.natAbs:Int).tdiv (G:Int))=((d.natAbs / G:Nat):Int):=by rw [tdiv_nat];exact IntWalk.u64_in _ ⟨Int.natCast_nonneg _,Oz⟩
    have q3:IntKind.u64.wrap ((n.natAbs:Int) / (G:Int))=((n.natAbs / G:Nat):Int):=by rw [<- Int.natCast_ediv];exact IntWalk.u64_in _ ⟨Int.natCast_nonneg _,Oz⟩
    have q4:IntKind.u64.wrap ((d.natAbs:Int) / (G:Int))=((d.natAbs / G:Nat):Int):=by rw [<- Int.natCast_ediv];exact IntWalk.u64_in _ ⟨Int.natCast_nonneg _,Oz⟩
    have hG1:¬ (G=0):=Oz
    have hG2:¬ ((G:Int)=0):=Oz
    generalize n.natAbs / G=top at *;generalize d.natAbs / G=bel at *;clear hn hd m1 m2 hall mn md hz;generalize hsn:decide (n<0)=sn at *;generalize hsd:decide (d<0)=sd at *;go_enter Tryz.func21,Tryz.ntmps21
    go_wp2_with (first|(go_at_call_of 64 (Value.int IntKind.i64 n);refine (n1 _).mono ?_;rintro e w' ⟨rfl,rfl⟩)|(go_at_call 64;refine (n2 _).mono ?_;rintro e w' ⟨rfl,rfl⟩))
    refine hg.mono ?_;rintro e w1 ⟨rfl,hb1⟩;have H1:=((XV.new w #[.int .i64 0,.int .i64 0] 46).alloc _).below hb1;have hbw:=Xe (Xc (Xc (Below.refl w.heap.size w) _) _) hb1;go_wp2
    go_big_quiet ((first|(go_at_call_of 66 (Value.int IntKind.i64 n);exact Yb (c1 _))|(go_at_call 66;exact Yb (c2 _))))
    have H2:=H1.drewN nq;have hbw2:=YQ hbw nq;generalize w1.drewN nq=w2 at *;obtain ⟨cH2_0,fH2_0⟩:=H2.2 0 _ rfl;obtain ⟨cH2_1,fH2_1⟩:=H2.2 1 _ rfl;have hlt2:=H2.1;clear q1 q2 q3 q4 hbw H1 hb1 hg;by_cases b1:1000000000000000000<top
    ·have hf:Hid (XD n d=Y7):=by show _=_;rw [hfin.out,if_pos (.inl b1)]
     go_wp2
     refine bodyPost_ret (v:=.agg #[.int .i64 0,.int .i64 0]) (by simp [results,Tryz.results21,go_sem, *]) rfl ⟨by rw [hf.out];rfl, ?_⟩;exact Xl
    ·by_cases b2:1000000000000000<bel
     ·have hf:Hid (XD n d=Y7):=by show _=_;rw [hfin.out,if_pos (.inr b2)]
      go_wp2
      refine bodyPost_ret (v:=.agg #[.int .i64 0,.int .i64 0]) (by simp [results,Tryz.results21,go_sem, *]) rfl ⟨by rw [hf.out];rfl, ?_⟩;exact Xl
     ·have hf:Hid (XD n d=if sn=sd then ⟨(top:Int),(bel:Int)⟩ else ⟨-(top:Int),(bel:Int)⟩):=by show _=_;rw [hfin.out,if_neg Oz]
      cases sn<;>cases sd
      ·go_wp2
       refine bodyPost_ret (v:=.agg #[.int .i64 (top:Int),.int .i64 (bel:Int)]) (by simp [results,Tryz.results21,go_sem, *]) rfl ⟨by rw [hf.out];rfl, ?_⟩;exact Xl
      ·go_wp2
       refine bodyPost_ret (v:=.agg #[.int .i64 (-(top:Int)),.int .i64 (bel:Int)]) (by simp [results,Tryz.results21,go_sem, *]) rfl ⟨by rw [hf.out];rfl, ?_⟩;exact Xl
      ·go_wp2
       refine bodyPost_ret (v:=.agg #[.int .i64 (-(top:Int)),.int .i64 (bel:Int)]) (by simp [results,Tryz.results21,go_sem, *]) rfl ⟨by rw [hf.out];rfl, ?_⟩;exact Xl
      ·go_wp2
       refine bodyPost_ret (v:=.agg #[.int .i64 (top:Int),.int .i64 (bel:Int)]) (by simp [results,Tryz.results21,go_sem, *]) rfl ⟨by rw [hf.out];rfl, ?_⟩;exact Xl
   ·have hfin:XD n d=Y7:=by simp [XD,md]
    rw [hfin];have n2:=m2 _ md;clear m1 m2 mn md;go_enter Tryz.func21,Tryz.ntmps21
    go_wp2_with (first|(go_at_call_of 64 (Value.int IntKind.i64 n);refine (n1 _).mono ?_;rintro e w' ⟨rfl,rfl⟩)|(go_at_call 64;refine (n2 _).mono ?_;rintro e w' ⟨rfl,rfl⟩))
    refine bodyPost_ret (v:=.agg #[.int .i64 0,.int .i64 0]) (by simp [results,Tryz.results21,go_sem]) rfl ⟨rfl, ?_⟩;exact Xl
  ·have hfin:XD n d=Y7:=by simp [XD,mn]
   rw [hfin];have n1:=m1 _ mn;clear m1 m2 mn;go_enter Tryz.func21,Tryz.ntmps21
   go_wp2_with (fail)
   refine (n1 _).mono ?_;rintro e w' ⟨rfl,rfl⟩;go_wp2
   refine bodyPost_ret (v:=.agg #[.int .i64 0,.int .i64 0]) (by simp [results,Tryz.results21,go_sem]) rfl ⟨rfl, ?_⟩;exact Xl
theorem gcdOf_zero_iff {n d:Int}:YF n d=0 ↔ Yj n=true∨Yj d=true∨(n=0/\d=0):=by
 unfold YF;cases Yj n<;>cases Yj d<;>simp [Nat.gcd_eq_zero_iff]
set_option maxRecDepth 100000 in
theorem J3 (n d:Int) (w:World) (hn:Yy n) (hd:Yy d) :
 Calls Tryz.prog 176 #[.int .i64 n,.int .i64 d] w λ e w'=>e=.returned (Xv (XD n d))/\Below w.heap.size w w':=by
 have hgi:=JM hn hd;obtain ⟨g0,g1⟩:=hgi;by_cases hz:YF n d=0∨d=0
 ·have hfin:XD n d=Y7:=by
   rw [gcdOf_zero_iff] at hz;unfold XD;rw [if_pos];rcases hz with (h|h|⟨_,h⟩)|h<;>simp [h]
  rw [hfin];have hzz:(YF n d == 0)=true∨((YF n d == 0)=false/\(d == 0)=true):=by
   cases h:(YF n d == 0)
   ·right;refine ⟨rfl, ?_⟩;simp at h ⊢;omega
   ·left;rfl
  clear hz;rcases hzz with hz|⟨hz,hz2⟩
  all_goals
   go_enter Tryz.func176,Tryz.ntmps176
   go_wp2_with (go_at_call 131;refine (Zf _ _ _ (by assumption) (by assumption)).mono ?_;rintro e wc ⟨rfl,nc,rfl⟩)
   refine bodyPost_ret (v:=.agg #[.int .i64 0,.int .i64 0]) (by simp [results,Tryz.results176,go_sem]) rfl ⟨rfl, ?_⟩;exact Xl
 ·have h1:¬ YF n d=0:=λ h=>hz (.inl h);have h2:¬ d=0:=λ h=>hz (.inr h);have h3:¬ (Yj n=true∨Yj d=true∨(n=0/\d=0)):=λ h=>h1 (gcdOf_zero_iff.2 h);have mn:Yj n=false:=by
   cases h:Yj n
   ·rfl
   ·exact absurd (Or.inl h) h3
  have md:Yj d=false:=by
   cases h:Yj d
   ·rfl
   ·exact absurd (Or.inr (Or.inl h)) h3
  have alt:=Lib.hid (ratioOf_alt mn md h2);have eg:YF n d=((Xm [n,d]:Nat):Int):=by rw [Kk mn md,Ka]
  have hpos:0<Xm [n,d]:=by rw [Ka];exact Nat.gcd_pos_of_pos_right _ Oz
  rw [eg] at g1;clear h3 g0 h1 hz;generalize Xm [n,d]=G at *;have i1:=ZX hn mn G;have i2:=ZX hd md G;have b1:=Kj hn mn;have b2:=Kj hd md;have t1:=tdiv_le n G 9223372036854775807 b1.1 b1.2;have t2:=tdiv_le d G 9223372036854775807 b2.1 b2.2;have hG1:¬ (G=0):=Oz
  have hG2:¬ ((G:Int)=0):=Oz
  have hG3:((G:Int) == 0)=false:=by simp;omega
  have hd0:(d == 0)=false:=by simpa using h2
  rcases Int.lt_or_le d 0 with hneg|hnn
  ·have c5:=λ W=>Zs ⟨-(n.tdiv (G:Int)),-(d.tdiv (G:Int))⟩ W ⟨⟨by dsimp only;omega,by dsimp only;omega⟩,⟨by dsimp only;omega,by dsimp only;omega⟩⟩;have u1:IntKind.i64.wrap (-(n.tdiv (G:Int))) = -(n.tdiv (G:Int)):=IntWalk.i64_in _ Oz;have u2:IntKind.i64.wrap (-(d.tdiv (G:Int))) = -(d.tdiv (G:Int)):=IntWalk.i64_in _ Oz;have hfin:Hid (XD n d=if Xn ⟨-(n.tdiv (G:Int)),-(d.tdiv (G:Int))⟩=true then ⟨-(n.tdiv (G:Int)),-(d.tdiv (G:Int))⟩ else Y7):=by
    have:=alt.out;rw [if_pos hneg,Int.tdiv_neg,Int.tdiv_neg] at this;exact this
   clear alt mn md b1 b2 t1 t2 i1 i2 h2;generalize Xn ⟨-(n.tdiv (G:Int)),-(d.tdiv (G:Int))⟩=ok at *;generalize hnt:n.tdiv (G:Int)=nt at *;generalize hdt:d.tdiv (G:Int)=dt at *;go_enter Tryz.func176,Tryz.ntmps176
   go_wp2_with (go_at_call 131;refine (Zf _ _ _ (by assumption) (by assumption)).mono ?_;rintro e wc ⟨rfl,nc,rfl⟩)
   go_region_held3 (λ _=>True) (exact True.intro) (fail)
   go_wp2_with (fail)
   refine (c5 _).mono ?_;rintro e w9 ⟨rfl,hb9⟩;have hbw:Below w.heap.size w w9:=by
    refine Xe ?_ hb9;exact Xl
   have H2:XV w9 w.heap.size [.int .i64 0,.int .i64 0]:=by
    refine XV.below ?_ hb9;exact (XV.new w _ _).alloc _
   have H3:XV w9 (w.heap.size+1) [.int .i64 (-nt),.int .i64 (-dt)]:=by
    refine XV.below ?_ hb9;have:=XV.new (w.alloc (.cells #[.int .i64 0,.int .i64 0] 46)) #[.int .i64 (-nt),.int .i64 (-dt)] 46;simp only [World.size_alloc] at this;exact this
   obtain ⟨cH2_0,fH2_0⟩:=H2.2 0 _ rfl;obtain ⟨cH2_1,fH2_1⟩:=H2.2 1 _ rfl;obtain ⟨cH3_0,fH3_0⟩:=H3.2 0 _ rfl;obtain ⟨cH3_1,fH3_1⟩:=H3.2 1 _ rfl;cases ok
   ·go_wp2
    refine bodyPost_ret (v:=.agg #[.int .i64 0,.int .i64 0]) (by simp [results,Tryz.results176,go_sem, *]) rfl ⟨by rw [hfin.out];rfl, ?_⟩;exact Xl
   ·go_wp2
    refine bodyPost_ret (v:=.agg #[.int .i64 (-nt),.int .i64 (-dt)]) (by simp [results,Tryz.results176,go_sem, *]) rfl ⟨by rw [hfin.out];rfl, ?_⟩;exact Xl
  ·have c5:=λ W=>Zs ⟨n.tdiv (G:Int),d.tdiv (G:Int)⟩ W ⟨i1,i2⟩;have u1:IntKind.i64.wrap (n.tdiv (G:Int))=n.tdiv (G:Int):=IntWalk.i64_in _ Oz;have u2:IntKind.i64.wrap (d.tdiv (G:Int))=d.tdiv (G:Int):=IntWalk.i64_in _ Oz;have u3:IntKind.i64.wrap (d / (G:Int))=d.tdiv (G:Int):=by rw [<- Int.tdiv_eq_ediv_of_nonneg hnn];exact u2
   have u4:0<=n->IntKind.i64.wrap (n / (G:Int))=n.tdiv (G:Int):=λ h=>by rw [<- Int.tdiv_eq_ediv_of_nonneg h];exact u1
   have hfin:Hid (XD n d=if Xn ⟨n.tdiv (G:Int),d.tdiv (G:Int)⟩=true then ⟨n.tdiv (G:Int),d.tdiv (G:Int)⟩ else Y7):=by
    have:=alt.out;rw [if_neg (Int.not_lt.2 hnn)] at this;exact this
   have hdpos:0<d:=Oz
   have hdle:d<=9223372036854775807:=b2.2;clear alt mn md b1 b2 t1 t2 i1 i2 h2 hnn;generalize Xn ⟨n.tdiv (G:Int),d.tdiv (G:Int)⟩=ok at *;generalize hnt:n.tdiv (G:Int)=nt at *;generalize hdt:d.tdiv (G:Int)=dt at *;go_enter Tryz.func176,Tryz.ntmps176
   go_wp2_with (go_at_call 131;refine (Zf _ _ _ (by assumption) (by assumption)).mono ?_;rintro e wc ⟨rfl,nc,rfl⟩)
   go_region_held3 (λ _=>True) (exact True.intro) (fail)
   go_wp2_with (fail)
   refine (c5 _).mono ?_;rintro e w9 ⟨rfl,hb9⟩;have hbw:Below w.heap.size w w9:=by
    refine Xe ?_ hb9;exact Xl
   have H2:XV w9 w.heap.size [.int .i64 0,.int .i64 0]:=by
    refine XV.below ?_ hb9;exact (XV.new w _ _).alloc _
   have H3:XV w9 (w.heap.size+1) [.int .i64 (nt),.int .i64 (dt)]:=by
    refine XV.below ?_ hb9;have:=XV.new (w.alloc (.cells #[.int .i64 0,.int .i64 0] 46)) #[.int .i64 (nt),.int .i64 (dt)] 46;simp only [World.size_alloc] at this;exact this
   obtain ⟨cH2_0,fH2_0⟩:=H2.2 0 _ rfl;obtain ⟨cH2_1,fH2_1⟩:=H2.2 1 _ rfl;obtain ⟨cH3_0,fH3_0⟩:=H3.2 0 _ rfl;obtain ⟨cH3_1,fH3_1⟩:=H3.2 1 _ rfl;cases ok
   ·go_wp2
    refine bodyPost_ret (v:=.agg #[.int .i64 0,.int .i64 0]) (by simp [results,Tryz.results176,go_sem, *]) rfl ⟨by rw [hfin.out];rfl, ?_⟩;exact Xl
   ·go_wp2
    refine bodyPost_ret (v:=.agg #[.int .i64 (nt),.int .i64 (dt)]) (by simp [results,Tryz.results176,go_sem, *]) rfl ⟨by rw [hfin.out];rfl, ?_⟩;exact Xl
theorem heap_size_setCells (b:Nat):∀ (vs:List Value) (o:Nat) (w:World),(w.setCells b o vs).heap.size=w.heap.size
 | [],_,_=>rfl
 | v :: r,o,w=>by rw [World.setCells,heap_size_setCells b r];simp [World.setCell]
theorem XV.stored {w:World} {g:Nat} {vs:List Value} (h:XV w g vs) (us:List Value) (hl:us.length=vs.length):XV (w.setCells g 0 us) g us:=by
 refine ⟨by rw [heap_size_setCells];exact h.1,λ j v hv=>?_⟩;have hj:j<us.length:=by
  rcases Nat.lt_or_ge j us.length with h|h
  ·exact h
  ·rw [List.getElem?_eq_none h] at hv;cases hv
 constructor
 ·have:=World.cell?_setCells_in g us 0 w (λ k hk=>by rw [Nat.zero_add,(h.2 k _ (List.getElem?_eq_getElem Oz)).1];rfl) j hj;rw [Nat.zero_add] at this;rw [this,<- hv,List.getElem?_eq_getElem hj]
 ·rw [World.frozen?_setCells];exact (h.2 j _ (List.getElem?_eq_getElem Oz)).2
theorem Zc {a w:World} {n:Nat} (h:(∀ b o,b<n->w.cell? ⟨b,o,none⟩=a.cell? ⟨b,o,none⟩)/\n<=w.heap.size) :
 (∀ b o',b<n->w.drew.cell? ⟨b,o',none⟩=a.cell? ⟨b,o',none⟩)/\n<=w.drew.heap.size:=h
theorem Zb (a:World) {n:Nat} (h:n<=a.heap.size):(∀ b o',b<n->a.cell? ⟨b,o',none⟩=a.cell? ⟨b,o',none⟩)/\n<=a.heap.size:=⟨λ _ _ _=>rfl,h⟩
end Go.Proofs.YtbekjpkcicjcgaaGreat
