/-
 Words on memory that the contracts of this claim use: a slice that reads as a list of structs, a slice of the call's own.
 Conditions: none.
-/
import Derived.Test.YtabfdkpdppemaaaGreatRows
import Derived.WalkKit
import Derived.WalkSpells
import Derived.WalkLawsBesides
import Derived.Deep.Draws
import Derived.Lib.Hide
import Derived.Deep.Slices
import Derived.Deep.Fields
import Derived.ChangeSame
import Derived.ArgAppend
import Derived.Deep.QuietTactic
import Derived.BigQuiet
import Derived.Test.YtabfdkpdppemaaaGreatGeo9Qd
import Derived.Laws.StructEq
set_option maxHeartbeats 2000000
set_option maxRecDepth 100000
namespace Go.Proofs.YtabfdkpdppemaaaGreat
open Go.RowKit
section
variable {α:Type} {sz:Nat} {enc:α->List Value} {w w':World} {A:Option Addr} {xs:List α}
end
section
variable {α:Type} {T sz:Nat} {enc:α->List Value} {w w':World} {v:Value} {xs:List α} {base:Nat}
end
section
variable {α:Type} {T sz:Nat} {enc:α->List Value} {w w':World} {g N k:Nat} {xs:List α}
end
section
variable {w w':World} {g:Nat} {vs:List Value}
end
theorem ratioOf_alt {n d:Int} (hn:Yz n=false) (hd:Yz d=false) (h0:d≠0) :
 X7 n d=if Xe ⟨n.tdiv (if d<0 then -(Xl [n,d]:Int) else Xl [n,d]),d.tdiv (if d<0 then -(Xl [n,d]:Int) else Xl [n,d])⟩
  then ⟨n.tdiv (if d<0 then -(Xl [n,d]:Int) else Xl [n,d]),d.tdiv (if d<0 then -(Xl [n,d]:Int) else Xl [n,d])⟩ else Y3:=by
 have hdp:0<d.natAbs:=by omega
 have hg:0<Xl [n,d]:=by rw [Jb];exact Nat.gcd_pos_of_pos_right _ hdp
 have hdd:Xl [n,d] ∣ d.natAbs:=by rw [Jb];exact Nat.gcd_dvd_right _ _
 have hpos:0<d.natAbs / Xl [n,d]:=Nat.div_pos (Nat.le_of_dvd hdp hdd) hg;have hco:Nat.gcd (n.natAbs / Xl [n,d]) (d.natAbs / Xl [n,d])=1:=by
  rw [Jb];exact Nat.gcd_div_gcd_div_gcd_of_pos_right hdp
 unfold X7;rw [if_neg (by simp [hn,hd,h0])];generalize hG:Xl [n,d]=G at *;have en:n.tdiv (if d<0 then -(G:Int) else G)=if decide (n<0)=decide (d<0) then ((n.natAbs / G:Nat):Int) else -((n.natAbs / G:Nat):Int):=by
  rcases Int.lt_or_le d 0 with h|h<;>rcases Int.lt_or_le n 0 with h'|h'
  ·rw [if_pos h,Int.tdiv_neg,tdiv_of_neg h',if_pos (by simp [h,h'])];omega
  ·rw [if_pos h,Int.tdiv_neg,tdiv_of_nonneg h',if_neg (by simp [h];omega)]
  ·rw [if_neg (by omega),tdiv_of_neg h',if_neg (by simp [h'];omega)]
  ·rw [if_neg (by omega),tdiv_of_nonneg h',if_pos (by simp;omega)]
 have ed:d.tdiv (if d<0 then -(G:Int) else G)=((d.natAbs / G:Nat):Int):=by
  rcases Int.lt_or_le d 0 with h|h
  ·rw [if_pos h,Int.tdiv_neg,tdiv_of_neg h];omega
  ·rw [if_neg (by omega),tdiv_of_nonneg h]
 rw [en,ed];clear en ed hG;generalize n.natAbs / G=top at *;generalize d.natAbs / G=bel at *;by_cases hbig:1000000000000000000<top∨1000000000000000<bel
 ·rw [if_pos hbig,if_neg];rw [ZO];dsimp only
  split<;>omega
 ·by_cases hs:decide (n<0)=decide (d<0)
  ·simp only [if_pos hs,if_neg hbig];rw [if_pos];rw [ZO];exact ⟨by dsimp only;omega,by dsimp only;omega,by simpa using hco⟩
  ·simp only [if_neg hs,if_neg hbig];rw [if_pos];rw [ZO];exact ⟨by dsimp only;omega,by dsimp only;omega,by simpa using hco⟩
abbrev Zy (x:KX) (a:JJ):Value:=.agg #[.slice a.room.map.A (List.length x.room.map) a.room.map.c,.int .i64 x.room.div,.int .i64 x.room.bx,.int .i64 x.room.by_,.int .i64 x.room.low,.int .i64 x.room.high,.slice a.room.noise.A (List.length x.room.noise) a.room.noise.c,.slice a.room.limits.A (List.length x.room.limits) a.room.limits.c,.slice a.reg.A (List.length x.reg) a.reg.c,.slice a.log.A (List.length x.log) a.log.c]
def ZS (x:KX):Nat:=List.length x.room.map+List.length x.room.noise+List.length x.room.limits+List.length x.reg+List.length x.log
structure WatchIn (x:KX):Prop where
 room:JK x.room
 reg:RegionIn x.reg
 log:∀ y∈x.log,Zi y
theorem sRatioOk_c (r:X5) (w:World) (hr:r.In) :
 Calls Tryz.prog 234 #[XO r] w λ e w'=>e=.returned (.bool (Xe r))/\Below w.heap.size w w':=by
 obtain ⟨h1,h2⟩:=hr;cases e1:Z7 r.d 1 1000000000000000
 ·go_enter Tryz.func234,Tryz.ntmps234
  go_wp2_with (first|(go_at_call 217;refine (l01In_c _ _ _ _).mono ?_;rintro e w' ⟨rfl,rfl⟩))
  go_ret
  refine ⟨Xm (by simp [Xe,e1]), ?_⟩;exact Xp
 ·cases e2:Z7 r.n (-1000000000000000000) 1000000000000000000
  ·go_enter Tryz.func234,Tryz.ntmps234
   go_wp2_with (first|(go_at_call 217;refine (l01In_c _ _ _ _).mono ?_;rintro e w' ⟨rfl,rfl⟩))
   go_ret
   refine ⟨Xm (by simp [Xe,e1,e2]), ?_⟩;exact Xp
  ·cases e3:(ZD r.n r.d == 1);all_goals
    go_enter Tryz.func234,Tryz.ntmps234
    go_wp2_with (go_at_call 217;refine (l01In_c _ _ _ _).mono ?_;rintro e w' ⟨rfl,rfl⟩)
    refine (Z4 _ _ _ h1 h2).mono ?_;rintro e w1 ⟨rfl,nd,rfl⟩;go_wp2
    go_ret
    refine ⟨Xm (by rw [Bool.eq_iff_iff];simp [Xe,e1,e2] at e3 ⊢;exact e3), ?_⟩;exact ZE (Xc bR _) _
section
variable {W w w':World} {a:Act} {s T g g':Nat} {z:List Value} {b:Bool} {C:World->List Value->Prop} {k:Option Nat} {v:Value}
end
section
variable {P:Program} {o:Oper} {a:Act} {w:World} {N:Act->World->Prop} {Q:Exit->Act->World->Prop}
end
abbrev YU (x:KX) (a:JJ):List Value:=[.slice a.room.map.A (List.length x.room.map) a.room.map.c,.int .i64 x.room.div,.int .i64 x.room.bx,.int .i64 x.room.by_,.int .i64 x.room.low,.int .i64 x.room.high,.slice a.room.noise.A (List.length x.room.noise) a.room.noise.c,.slice a.room.limits.A (List.length x.room.limits) a.room.limits.c,.slice a.reg.A (List.length x.reg) a.reg.c,.slice a.log.A (List.length x.log) a.log.c]
section
variable {K:Act->World->Prop} {Q:Exit->Act->World->Prop} {a:Act} {w:World} {i k:Nat}
end
section
variable {a:Act} {w:World} {N:Act->World->Prop} {Q:Exit->Act->World->Prop} {o:Oper} {x y:Operand} {T':TypeId}
theorem wp_eqR (h:o.op=.binOp .eql 36 x y T') {r s:X5} (ex:a.eval x=XO r) (ey:a.eval y=XO s) (hn:N (a.put o.dst (.bool (decide (r=s)))) w):o.wp Tryz.prog a w N Q:=by
 refine opv ?_ hn;unfold execOp;rw [h];simp only;rw [ex,ey];obtain ⟨a,b⟩:=r;obtain ⟨c,d⟩:=s;simp [go_sem];by_cases h1:a=c<;>by_cases h2:b=d<;>simp [h1,h2]
end
theorem eqInts_q (A B:Option Addr) (xs ys:List Int) (c d:Nat) (w:World) (hx:xs.length<=1048576) (_:ys.length<=1048576) (ha:Sl 1 Z6 w A xs) (hb:Sl 1 Z6 w B ys) :
 Calls Tryz.prog 103 #[.slice A xs.length c,.slice B ys.length d] w λ e w'=>e=.returned (.bool (eqB xs ys))/\∃ n,w'=w.drewN n:=by
 by_cases hl:xs.length=ys.length
 ·have hfin:=λ h=>Lib.hid (eqB_yes (xs:=xs) (ys:=ys) hl h);have hno:=λ k h1 h2 h=>Lib.hid (@eqB_no Int _ xs ys k h1 h2 h);have HL:=Lib.hid hl;have i0:((xs.length:Int) != (ys.length:Int))=false:=by simp [hl]
  clear hl;have hfin2:=Lib.hid hfin;have hno2:=Lib.hid hno;clear hfin hno;go_enter Tryz.func103,Tryz.ntmps103
  go_wp2
  go_loopw [5,13] (λ x i wr=>∃ k:Nat,k<=xs.length/\i=.int .i64 k/\Hid (xs.take k=ys.take k)/\Drawn w wr) (λ _ i _=>xs.length-(intOf i).toNat)
  case atStart=>exact ⟨0,Nat.zero_le _,rfl,by simp [Hid],Drawn.refl _⟩
  case round =>
   obtain ⟨k,hk,rfl,htk,hd⟩:=hrel;by_cases hlt:k<xs.length
   ·have hlt2:k<ys.length:=by have:=HL.out;omega
    obtain ⟨b,off,rfl,hblt,hc⟩:=(ha.drawn hd).at_ hlt;obtain ⟨b',off',rfl,hblt',hc'⟩:=(hb.drawn hd).at_ hlt2;have g0:=hc 0 _ rfl;have g1:=hc' 0 _ rfl;clear hc hc';simp only [Nat.mul_one,Nat.add_zero] at g0 g1;have i1:(0:Int)<=(k:Int):=by omega
    have i2:(k:Int)<(xs.length:Int):=by omega
    have i3:(k:Int)<(ys.length:Int):=by omega
    by_cases he:xs[k]=ys[k]
    ·have hst:=Lib.hid (take_step hlt hlt2 htk.out he);have q:(xs[k] != ys[k])=false:=by simp [he]
     clear he htk;go_wp2
     go_quiet (fail)
     go_wp2
     go_roundw
     case rel=>exact ⟨k+1,by omega,by go_num,hst,Drawn.drewN hd _⟩
     case measure=>simp [intOf];omega
    ·have hst:=hno2.out k hlt hlt2 he;have q:(xs[k] != ys[k])=true:=by simp [he]
     clear he htk;go_wp2
     go_quiet (fail)
     go_wp2
     refine bodyPost_ret (v:=.bool false) (by simp [results,Tryz.results103,go_sem]) rfl ⟨by rw [hst.out], ?_⟩;exact (Drawn.drewN hd _).out
   ·obtain rfl:k=xs.length:=by omega
    have hst:=hfin2.out htk.out;clear htk;go_wp2
    go_ret
    exact ⟨Xm hst.out.symm,hd.out⟩
 ·have hst:=Lib.hid (eqB_len hl);have i0:((xs.length:Int) != (ys.length:Int))=true:=by simp;omega
  go_enter Tryz.func103,Tryz.ntmps103
  go_wp2
  go_ret
  exact ⟨Xm hst.out.symm,0,rfl⟩
def KY (x y:XK):Bool:=eqB x.map y.map&&x.div == y.div&&x.bx == y.bx&&x.by_ == y.by_&&x.low == y.low&&x.high == y.high&&eqB x.noise y.noise&&eqB x.limits y.limits
def sameWatch (x y:KX):Bool:=KY x.room y.room&&eqB x.reg y.reg&&eqB x.log y.log
theorem ne_of_bne {a b:Int} (h:(a != b)=true):(a == b)=false:=by simpa using h
theorem YT {a b:Int} (h:(a != b)=false):(a == b)=true:=by simpa using h
theorem iSameRooms_c (x y:XK) (a b:Y9) (w:World) (hx:Zq x<=1048576) (hy:Zq y<=1048576) (ha:Y8 w x a) (hb:Y8 w y b) :
 Calls Tryz.prog 48 #[X9 x a,X9 y b] w λ e w'=>e=.returned (.bool (KY x y))/\Below w.heap.size w w':=by
 simp only [Zq] at hx hy;have c0:=λ W h1 h2=>eqInts_q a.map.A b.map.A x.map y.map a.map.c b.map.c W (by omega) (by omega) h1 h2;have c6:=λ W h1 h2=>iSameRegion_c x.noise y.noise a.noise b.noise W (by omega) (by omega) h1 h2;have c7:=λ W h1 h2=>iSameRegion_c x.limits y.limits a.limits b.limits W (by omega) (by omega) h1 h2;cases e0:eqB x.map y.map
 ·rw [e0] at c0;go_enter Tryz.func48,Tryz.ntmps48
  go_wp2_with (fail)
  refine (c0 _ (Sl.below ha.map (by exact Xp)) (Sl.below hb.map (by exact Xp))).mono ?_;rintro e w' ⟨rfl,nd0,rfl⟩;go_wp2
  go_ret
  refine ⟨Xm (by simp [KY,e0]), ?_⟩;exact Xp
 ·rw [e0] at c0;cases e1:(x.div != y.div)
  ·cases e2:(x.bx != y.bx)
   ·cases e3:(x.by_ != y.by_)
    ·cases e4:(x.low != y.low)
     ·cases e5:(x.high != y.high)
      ·cases e6:eqB x.noise y.noise
       ·rw [e6] at c6;go_enter Tryz.func48,Tryz.ntmps48
        go_wp2_with (fail)
        refine (c0 _ (Sl.below ha.map (by exact Xp)) (Sl.below hb.map (by exact Xp))).mono ?_;rintro e w' ⟨rfl,nd0,rfl⟩;go_wp2_with (fail)
        refine (c6 _ (Sl.below ha.noise.halves (by exact Xp)) (Sl.below hb.noise.halves (by exact Xp))).mono ?_;rintro e w6 ⟨rfl,hb6⟩;have r6:=XD hb6;have l6_0:w.heap.size<w6.heap.size:=XL hb6;have l6_1:w.heap.size+1<w6.heap.size:=XL hb6;go_wp2
        go_ret
        refine ⟨Xm (by simp [KY,e0,YT e1,YT e2,YT e3,YT e4,YT e5,e6]), ?_⟩;exact Xp
       ·rw [e6] at c6;cases e7:eqB x.limits y.limits
        ·rw [e7] at c7;go_enter Tryz.func48,Tryz.ntmps48
         go_wp2_with (fail)
         refine (c0 _ (Sl.below ha.map (by exact Xp)) (Sl.below hb.map (by exact Xp))).mono ?_;rintro e w' ⟨rfl,nd0,rfl⟩;go_wp2_with (fail)
         refine (c6 _ (Sl.below ha.noise.halves (by exact Xp)) (Sl.below hb.noise.halves (by exact Xp))).mono ?_;rintro e w6 ⟨rfl,hb6⟩;have r6:=XD hb6;have l6_0:w.heap.size<w6.heap.size:=XL hb6;have l6_1:w.heap.size+1<w6.heap.size:=XL hb6;go_wp2_with (fail)
         refine (c7 _ (Sl.below ha.limits.halves (by exact Xp)) (Sl.below hb.limits.halves (by exact Xp))).mono ?_;rintro e w7 ⟨rfl,hb7⟩;have r7:=XD hb7;have l7_0:w.heap.size<w7.heap.size:=XL hb7;have l7_1:w.heap.size+1<w7.heap.size:=XL hb7;go_wp2
         go_ret
         refine ⟨Xm (by simp [KY,e0,YT e1,YT e2,YT e3,YT e4,YT e5,e6,e7]), ?_⟩;exact Xp
        ·rw [e7] at c7;go_enter Tryz.func48,Tryz.ntmps48
         go_wp2_with (fail)
         refine (c0 _ (Sl.below ha.map (by exact Xp)) (Sl.below hb.map (by exact Xp))).mono ?_;rintro e w' ⟨rfl,nd0,rfl⟩;go_wp2_with (fail)
         refine (c6 _ (Sl.below ha.noise.halves (by exact Xp)) (Sl.below hb.noise.halves (by exact Xp))).mono ?_;rintro e w6 ⟨rfl,hb6⟩;have r6:=XD hb6;have l6_0:w.heap.size<w6.heap.size:=XL hb6;have l6_1:w.heap.size+1<w6.heap.size:=XL hb6;go_wp2_with (fail)
         refine (c7 _ (Sl.below ha.limits.halves (by exact Xp)) (Sl.below hb.limits.halves (by exact Xp))).mono ?_;rintro e w7 ⟨rfl,hb7⟩;have r7:=XD hb7;have l7_0:w.heap.size<w7.heap.size:=XL hb7;have l7_1:w.heap.size+1<w7.heap.size:=XL hb7;go_wp2
         go_ret
         refine ⟨Xm (by simp [KY,e0,YT e1,YT e2,YT e3,YT e4,YT e5,e6,e7]), ?_⟩;exact Xp
      ·go_enter Tryz.func48,Tryz.ntmps48
       go_wp2_with (fail)
       refine (c0 _ (Sl.below ha.map (by exact Xp)) (Sl.below hb.map (by exact Xp))).mono ?_;rintro e w' ⟨rfl,nd0,rfl⟩;go_wp2
       go_ret
       refine ⟨Xm (by simp [KY,e0,YT e1,YT e2,YT e3,YT e4,ne_of_bne e5]), ?_⟩;exact Xp
     ·go_enter Tryz.func48,Tryz.ntmps48
      go_wp2_with (fail)
      refine (c0 _ (Sl.below ha.map (by exact Xp)) (Sl.below hb.map (by exact Xp))).mono ?_;rintro e w' ⟨rfl,nd0,rfl⟩;go_wp2
      go_ret
      refine ⟨Xm (by simp [KY,e0,YT e1,YT e2,YT e3,ne_of_bne e4]), ?_⟩;exact Xp
    ·go_enter Tryz.func48,Tryz.ntmps48
     go_wp2_with (fail)
     refine (c0 _ (Sl.below ha.map (by exact Xp)) (Sl.below hb.map (by exact Xp))).mono ?_;rintro e w' ⟨rfl,nd0,rfl⟩;go_wp2
     go_ret
     refine ⟨Xm (by simp [KY,e0,YT e1,YT e2,ne_of_bne e3]), ?_⟩;exact Xp
   ·go_enter Tryz.func48,Tryz.ntmps48
    go_wp2_with (fail)
    refine (c0 _ (Sl.below ha.map (by exact Xp)) (Sl.below hb.map (by exact Xp))).mono ?_;rintro e w' ⟨rfl,nd0,rfl⟩;go_wp2
    go_ret
    refine ⟨Xm (by simp [KY,e0,YT e1,ne_of_bne e2]), ?_⟩;exact Xp
  ·go_enter Tryz.func48,Tryz.ntmps48
   go_wp2_with (fail)
   refine (c0 _ (Sl.below ha.map (by exact Xp)) (Sl.below hb.map (by exact Xp))).mono ?_;rintro e w' ⟨rfl,nd0,rfl⟩;go_wp2
   go_ret
   refine ⟨Xm (by simp [KY,e0,ne_of_bne e1]), ?_⟩;exact Xp
theorem iSameWatch_c (x y:KX) (a b:JJ) (w:World) (hx:ZS x<=1048576) (hy:ZS y<=1048576) (ha:WatchSl w x a) (hb:WatchSl w y b) :
 Calls Tryz.prog 20 #[Zy x a,Zy y b] w λ e w'=>e=.returned (.bool (sameWatch x y))/\Below w.heap.size w w':=by
 simp only [ZS] at hx hy;have c0:=λ W h1 h2=>iSameRooms_c x.room y.room a.room b.room W (by simp only [Zq];omega) (by simp only [Zq];omega) h1 h2;have c1:=λ W h1 h2=>iSameRegion_c x.reg y.reg a.reg b.reg W (by omega) (by omega) h1 h2;have c2:=λ W h1 h2=>eqInts_q a.log.A b.log.A x.log y.log a.log.c b.log.c W (by omega) (by omega) h1 h2;cases e0:KY x.room y.room
 ·rw [e0] at c0;go_enter Tryz.func20,Tryz.ntmps20
  go_wp2_with (fail)
  refine (c0 _ (Y8.below ha.room (by exact Xp)) (Y8.below hb.room (by exact Xp))).mono ?_;rintro e w0 ⟨rfl,hb0⟩;have r0:=XD hb0;have l0_0:w.heap.size<w0.heap.size:=XL hb0;have l0_1:w.heap.size+1<w0.heap.size:=XL hb0;go_wp2
  go_ret
  refine ⟨Xm (by simp [sameWatch,e0]), ?_⟩;exact Xp
 ·rw [e0] at c0;cases e1:eqB x.reg y.reg
  ·rw [e1] at c1;go_enter Tryz.func20,Tryz.ntmps20
   go_wp2_with (fail)
   refine (c0 _ (Y8.below ha.room (by exact Xp)) (Y8.below hb.room (by exact Xp))).mono ?_;rintro e w0 ⟨rfl,hb0⟩;have r0:=XD hb0;have l0_0:w.heap.size<w0.heap.size:=XL hb0;have l0_1:w.heap.size+1<w0.heap.size:=XL hb0;go_wp2_with (fail)
   refine (c1 _ (Sl.below ha.reg.halves (by exact Xp)) (Sl.below hb.reg.halves (by exact Xp))).mono ?_;rintro e w1 ⟨rfl,hb1⟩;have r1:=XD hb1;have l1_0:w.heap.size<w1.heap.size:=XL hb1;have l1_1:w.heap.size+1<w1.heap.size:=XL hb1;go_wp2
   go_ret
   refine ⟨Xm (by simp [sameWatch,e0,e1]), ?_⟩;exact Xp
  ·rw [e1] at c1;cases e2:eqB x.log y.log
   ·rw [e2] at c2;go_enter Tryz.func20,Tryz.ntmps20
    go_wp2_with (fail)
    refine (c0 _ (Y8.below ha.room (by exact Xp)) (Y8.below hb.room (by exact Xp))).mono ?_;rintro e w0 ⟨rfl,hb0⟩;have r0:=XD hb0;have l0_0:w.heap.size<w0.heap.size:=XL hb0;have l0_1:w.heap.size+1<w0.heap.size:=XL hb0;go_wp2_with (fail)
    refine (c1 _ (Sl.below ha.reg.halves (by exact Xp)) (Sl.below hb.reg.halves (by exact Xp))).mono ?_;rintro e w1 ⟨rfl,hb1⟩;have r1:=XD hb1;have l1_0:w.heap.size<w1.heap.size:=XL hb1;have l1_1:w.heap.size+1<w1.heap.size:=XL hb1;go_wp2_with (fail)
    refine (c2 _ (Sl.below ha.log (by exact Xp)) (Sl.below hb.log (by exact Xp))).mono ?_;rintro e w' ⟨rfl,nd2,rfl⟩;go_wp2
    go_ret
    refine ⟨Xm (by simp [sameWatch,e0,e1,e2]), ?_⟩;exact Xp
   ·rw [e2] at c2;go_enter Tryz.func20,Tryz.ntmps20
    go_wp2_with (fail)
    refine (c0 _ (Y8.below ha.room (by exact Xp)) (Y8.below hb.room (by exact Xp))).mono ?_;rintro e w0 ⟨rfl,hb0⟩;have r0:=XD hb0;have l0_0:w.heap.size<w0.heap.size:=XL hb0;have l0_1:w.heap.size+1<w0.heap.size:=XL hb0;go_wp2_with (fail)
    refine (c1 _ (Sl.below ha.reg.halves (by exact Xp)) (Sl.below hb.reg.halves (by exact Xp))).mono ?_;rintro e w1 ⟨rfl,hb1⟩;have r1:=XD hb1;have l1_0:w.heap.size<w1.heap.size:=XL hb1;have l1_1:w.heap.size+1<w1.heap.size:=XL hb1;go_wp2_with (fail)
    refine (c2 _ (Sl.below ha.log (by exact Xp)) (Sl.below hb.log (by exact Xp))).mono ?_;rintro e w' ⟨rfl,nd2,rfl⟩;go_wp2
    go_ret
    refine ⟨Xm (by simp [sameWatch,e0,e1,e2]), ?_⟩;exact Xp
end Go.Proofs.YtabfdkpdppemaaaGreat
