/-
 What the functions on numbers return: ranges, magnitudes, divisors, fractions.
 Conditions: the arguments are ints of the machine.
-/
import Derived.Deep.QuietTactic
import Derived.BigQuiet
import Derived.Test.YtabfdkpdppemaaaGreatGrC
import Derived.Deep.DrawnRows
import Derived.JoinedOf
import Derived.Test.YtabfdkpdppemaaaGreatGrU
namespace Go.Proofs.YtabfdkpdppemaaaGreat
open Go.RowKit
theorem iGcdOf_c (a b:Int) (w:World) (ha:Yn a) (hb:Yn b) :
 Calls Tryz.prog 190 #[.int .i64 a,.int .i64 b] w λ e w'=>e=.returned (.int .i64 (Y5 a b))/\Below w.heap.size w w':=by
 have hall:∀ n∈[a,b],Yn n:=by simp [ha,hb]
 have hG:Hid (Y5 a b=if Yd a||Yd b then 0 else ((Xk [a,b]:Nat):Int)):=gcdOf_eq a b;have hsl:Sl 1 JA (w.alloc (.cells #[.int .i64 a,.int .i64 b] 3)) (some ⟨w.heap.size,0,none⟩) [a,b]:=sl_new ZY _ _ _ rfl;have hg:=Jj _ [a,b] 2 _ (by simp) hall hsl;have hle:=Jk [a,b] hall;have hlt:=gcd_pair_le ha hb;generalize Xk [a,b]=G at *;have hm1:=isLeast_c a;have hm2:=isLeast_c b;generalize Yd a=ma at *;generalize Yd b=mb at *;have hGG:ma=false->mb=false->G<=9223372036854775807:=hlt;clear hlt;cases ma<;>cases mb
 ·have:=hGG rfl rfl;clear hGG;go_enter Tryz.func190,Tryz.ntmps190
  go_wp2_with (fail)
  refine (hg).mono ?_;rintro e w1 ⟨rfl,hb_w1⟩;go_wp2_with (fail)
  refine (hm1 _ ha).mono ?_;rintro e w' ⟨rfl,rfl⟩;go_wp2_with (fail)
  refine (hm2 _ hb).mono ?_;rintro e w' ⟨rfl,rfl⟩;go_wp2
  go_ret
  exact ⟨Y0 (by rw [hG.out];rfl),(bR.alloc Xt _).trans (hb_w1.mono (by simp))⟩
 ·clear hGG;go_enter Tryz.func190,Tryz.ntmps190
  go_wp2_with (fail)
  refine (hg).mono ?_;rintro e w1 ⟨rfl,hb_w1⟩;go_wp2_with (fail)
  refine (hm1 _ ha).mono ?_;rintro e w' ⟨rfl,rfl⟩;go_wp2_with (fail)
  refine (hm2 _ hb).mono ?_;rintro e w' ⟨rfl,rfl⟩;go_wp2
  go_ret
  exact ⟨Y0 (by rw [hG.out];rfl),(bR.alloc Xt _).trans (hb_w1.mono (by simp))⟩
 all_goals
  clear hGG;go_enter Tryz.func190,Tryz.ntmps190
  go_wp2_with (fail)
  refine (hg).mono ?_;rintro e w1 ⟨rfl,hb_w1⟩;go_wp2_with (fail)
  refine (hm1 _ ha).mono ?_;rintro e w' ⟨rfl,rfl⟩;go_wp2
  go_ret
  exact ⟨Y0 (by rw [hG.out];rfl),(bR.alloc Xt _).trans (hb_w1.mono (by simp))⟩
theorem Ky (r:Y3) (w:World) (hr:r.In) :
 Calls Tryz.prog 104 #[ZX r] w λ e w'=>e=.returned (.bool (Xy r))/\Below w.heap.size w w':=by
 obtain ⟨h1,h2⟩:=hr;cases e1:ZH r.d 1 1000000000000000
 ·go_enter Tryz.func104,Tryz.ntmps104
  go_wp2_with (first|(go_at_call 102;refine (YC _ _ _ _).mono ?_;rintro e w' ⟨rfl,rfl⟩))
  go_ret
  refine ⟨Xg (by simp [Xy,e1]), ?_⟩;exact Xi
 ·cases e2:ZH r.n (-1000000000000000000) 1000000000000000000
  ·go_enter Tryz.func104,Tryz.ntmps104
   go_wp2_with (first|(go_at_call 102;refine (YC _ _ _ _).mono ?_;rintro e w' ⟨rfl,rfl⟩))
   go_ret
   refine ⟨Xg (by simp [Xy,e1,e2]), ?_⟩;exact Xi
  ·cases e3:(Y5 r.n r.d == 1);all_goals
    go_enter Tryz.func104,Tryz.ntmps104
    go_wp2_with (go_at_call 102;refine (YC _ _ _ _).mono ?_;rintro e w' ⟨rfl,rfl⟩)
    refine (iGcdOf_c _ _ _ h1 h2).mono ?_;rintro e w1 ⟨rfl,hb1⟩;go_wp2
    go_ret
    refine ⟨Xg (by rw [Bool.eq_iff_iff];simp [Xy,e1,e2] at e3 ⊢;exact e3), ?_⟩;exact Xf (Xc bR _) hb1
open Classical in
theorem wp_region_I0 {P:Program} {id:Nat} {Q:Exit->Act->World->Prop} {a:Act} {w:World} {l:List Oper} (hm:P.follows .mixedOrders=true) (A:orderB l=true)
 (I:Act->(Nat->Bool)->Act->World->Prop) (h0:I a (λ _=>false) a w.drew)
 (hs:∀ (L:Nat->Bool) (a':Act) (w:World) (i:Nat) (o:Oper),l[i]? = some o->L i=false->(∀ e∈o.after,Region.binds .any e=true->L e.on=true)->I a L a' w ->
  if Region.wanted o (yielded l.toArray a'.tmps) then o.wp P a' w (λ a'' w'=>I a (λ j=>decide (j=i)||L j) a'' w') Q else I a (λ j=>decide (j=i)||L j) (a'.put o.dst undef) w)
 (he:∀ (L:Nat->Bool) (a':Act) (w:World),(∀ j,j<l.length->L j=true)->I a L a' w->Q .normal a' w):(Code.region id l.toArray true).wp P Q a w :=
 wp_region_I hm A (I a) h0 hs he
theorem XO.outG {a0 a:Act} {D:List Nat} (h:XO a0 a D) (hD:∀ k∈D,k<a0.tmps.size):a=D.foldl (λ b k=>b.put (some k) (a.tmps[k]?.getD undef)) a0:=by
 have:=h.out hD;simpa only [Act.eval,Array.getD_eq_getD_getElem?] using this
theorem XM {L:Nat->Bool} {a:Act} {i j k s:Nat} {v u:Value} (h:L j=true->a.tmps[s]?.getD undef=v) (ne:k≠s) (hj:decide (j=i)=false):(decide (j=i)||L j)=true->(a.put (some k) u).tmps[s]?.getD undef=v :=
 λ hl=>(YL ne u).trans (h (by rw [hj] at hl;exact hl))
theorem kpK {L:Nat->Bool} {i j:Nat} {p:Prop} (h:L j=true->p) (hj:decide (j=i)=false):(decide (j=i)||L j)=true->p :=
 λ hl=>h (by rw [hj] at hl;exact hl)
theorem knK {L:Nat->Bool} {i j:Nat} {p:Prop} (h:L j=false->p) (hj:decide (j=i)=false):(decide (j=i)||L j)=false->p :=
 λ hl=>h (by rw [hj] at hl;exact hl)
theorem XS {L:Nat->Bool} {i a b:Nat} (h:L a=true->L b=true) (ha:decide (a=i)=false):(decide (a=i)||L a)=true->(decide (b=i)||L b)=true :=
 λ hl=>by rw [ha] at hl;rw [h hl,Bool.or_true]
theorem j3_FnDrifts:(Rows.fnDriftsRow.recurses == Tryz.prog.recurses 7)=true:=by kernel_rfl
theorem j4_FnDrifts:(Rows.fnDriftsRow.named == Tryz.prog.varsNamed 7)=true:=by kernel_rfl
theorem j1_FnDrifts:(Rows.fnDriftsRow.inPlace == Tryz.prog.inPlace 7)=true:=by kernel_rfl
theorem j2_FnDrifts:(Rows.fnDriftsRow.unfollowed == Tryz.prog.unfollowed 7)=true:=by kernel_rfl
section
variable {W w w':World} {a:Act} {s T g g':Nat} {z:List Value} {b:Bool} {C:World->List Value->Prop} {k:Option Nat} {v:Value}
end
section
variable {P:Program} {o:Oper} {a:Act} {w:World} {N:Act->World->Prop} {Q:Exit->Act->World->Prop}
end
theorem X8.othT {W w:World} {a:Act} {s T T' g':Nat} {z vs':List Value} {b:Bool} {C:World->List Value->Prop} (h:X8 W a w s T z b C) (hg:Xr w g' T' vs') (hT:T≠T') (us:List Value) (o:Nat) (hC:∀ vs,C w vs->C (w.setCells g' o us) vs):X8 W a (w.setCells g' o us) s T z b C:=by
 obtain ⟨g,e,hg2,y,n⟩:=h;have hq:g'≠g:=by
  cases b
  ·exact (y rfl).ne hg hT
  ·obtain ⟨vs,h1,_⟩:=n rfl;exact h1.ne hg hT
 exact ⟨g,e,hg2,λ h=>(y h).other hq us o,λ h=>by obtain ⟨vs,h1,h2⟩:=n h;exact ⟨vs,h1.other hq us o,hC vs h2⟩⟩
section
variable {K:Act->World->Prop} {Q:Exit->Act->World->Prop} {a:Act} {w:World} {i k:Nat}
end
theorem not_t {x:Bool} (h:(!x)=true):x=false:=by cases x<;>simp_all
end Go.Proofs.YtabfdkpdppemaaaGreat
