/-
 Equality of slices, regions, rooms and watches: of the program and of the reference.
 Conditions: the slices hold at most 2^20 elements.
-/
import Derived.Test.YtbekjpkcicjcgaaGreatGrC
set_option maxHeartbeats 2000000
namespace Go.Proofs.YtbekjpkcicjcgaaGreat
open Go.RowKit
def eqB {α:Type} [DecidableEq α] (xs ys:List α):Bool:=decide (xs=ys)
theorem eqB_len {α:Type} [DecidableEq α] {xs ys:List α} (h:xs.length≠ys.length):eqB xs ys=false:=by
 simp only [eqB,decide_eq_false_iff_not];intro e;exact h (by rw [e])
theorem eqB_no {α:Type} [DecidableEq α] {xs ys:List α} {k:Nat} (h1:k<xs.length) (h2:k<ys.length) (h:xs[k]≠ys[k]):eqB xs ys=false:=by
 simp only [eqB,decide_eq_false_iff_not];intro e;subst e;exact h rfl
theorem eqB_yes {α:Type} [DecidableEq α] {xs ys:List α} (h1:xs.length=ys.length) (h:xs.take xs.length=ys.take xs.length):eqB xs ys=true:=by
 rw [List.take_length] at h;rw [h1,List.take_length] at h;simp [eqB,h]
theorem take_step {α:Type} {xs ys:List α} {k:Nat} (h1:k<xs.length) (h2:k<ys.length) (h:xs.take k=ys.take k) (he:xs[k]=ys[k]):xs.take (k+1)=ys.take (k+1):=by
 rw [Zj xs k h1,Zj ys k h2,h,he]
theorem half_ne {p q:Half} (h:p≠q):(p.a == q.a)=false∨(p.a=q.a/\(p.b == q.b)=false)∨(p.a=q.a/\p.b=q.b/\(p.c == q.c)=false):=by
 obtain ⟨a,b,c⟩:=p;obtain ⟨a',b',c'⟩:=q;by_cases h1:a=a'
 ·by_cases h2:b=b'
  ·by_cases h3:c=c'
   ·subst h1 h2 h3;exact absurd rfl h
   ·exact .inr (.inr ⟨h1,h2,by simpa using h3⟩)
  ·exact .inr (.inl ⟨h1,by simpa using h2⟩)
 ·exact .inl (by simpa using h1)
theorem Sl.drawn {α:Type} {sz:Nat} {enc:α->List Value} {w w':World} {A:Option Addr} {xs:List α} (h:Sl sz enc w A xs) (hd:Drawn w w'):Sl sz enc w' A xs:=by
 obtain ⟨n,rfl⟩:=hd;exact h.drewN n
theorem eqHalves_q (A B:Option Addr) (xs ys:List Half) (c d:Nat) (w:World) (hx:xs.length<=1048576) (_:ys.length<=1048576) (ha:Sl 3 Xd w A xs) (hb:Sl 3 Xd w B ys) :
 Calls Tryz.prog 136 #[.slice A xs.length c,.slice B ys.length d] w λ e w'=>e=.returned (.bool (eqB xs ys))/\∃ n,w'=w.drewN n:=by
 by_cases hl:xs.length=ys.length
 ·have hfin:=λ h=>Lib.hid (eqB_yes (xs:=xs) (ys:=ys) hl h);have hno:=λ k h1 h2 h=>Lib.hid (@eqB_no Half _ xs ys k h1 h2 h);have HL:=Lib.hid hl;have i0:((xs.length:Int) != (ys.length:Int))=false:=by simp [hl]
  clear hl;have hfin2:=Lib.hid hfin;have hno2:=Lib.hid hno;clear hfin hno;go_enter Tryz.func136,Tryz.ntmps136
  go_wp2
  go_loopw [5,13] (λ x i wr=>∃ k:Nat,k<=xs.length/\i=.int .i64 k/\Hid (xs.take k=ys.take k)/\Drawn w wr) (λ _ i _=>xs.length-(intOf i).toNat)
  case atStart=>exact ⟨0,Nat.zero_le _,rfl,by simp [Hid],Drawn.refl _⟩
  case round =>
   obtain ⟨k,hk,rfl,htk,hd⟩:=hrel;by_cases hlt:k<xs.length
   ·have hlt2:k<ys.length:=by have:=HL.out;omega
    obtain ⟨b,off,rfl,hblt,hc⟩:=(ha.drawn hd).at_ hlt;obtain ⟨b',off',rfl,hblt',hc'⟩:=(hb.drawn hd).at_ hlt2;have g0:=hc 0 _ rfl;have g1:=hc 1 _ rfl;have g2:=hc 2 _ rfl;have g3:=hc' 0 _ rfl;have g4:=hc' 1 _ rfl;have g5:=hc' 2 _ rfl;clear hc hc';simp only [Nat.add_zero] at g0 g3;have i1:(0:Int)<=(k:Int):=Oz
    have i2:(k:Int)<(xs.length:Int):=Oz
    have i3:(k:Int)<(ys.length:Int):=Oz
    by_cases he:xs[k]=ys[k]
    ·have hst:=Lib.hid (take_step hlt hlt2 htk.out he);rw [<- he] at g3 g4 g5;generalize xs[k]=p at *;clear he htk;go_wp2
     go_quiet (fail)
     go_wp2
     go_roundw
     case rel=>exact ⟨k+1,by omega,by go_num,hst,Drawn.drewN hd _⟩
     case measure=>simp [intOf];omega
    ·have hst:=hno2.out k hlt hlt2 he;have q:=half_ne he;generalize xs[k]=p at *;generalize ys[k]=p' at *;clear he htk;obtain ⟨a1,b1,c1⟩:=p;obtain ⟨a2,b2,c2⟩:=p';simp only at q g0 g1 g2 g3 g4 g5;rcases q with q|⟨rfl,q⟩|⟨rfl,rfl,q⟩
     all_goals
      go_wp2
      go_quiet (fail)
      go_wp2
      refine bodyPost_ret (v:=.bool false) (by simp [results,Tryz.results136,go_sem]) rfl ⟨by rw [hst.out], ?_⟩;exact (Drawn.drewN hd _).out
   ·obtain rfl:k=xs.length:=Oz
    have hst:=hfin2.out htk.out;clear htk;go_wp2
    go_ret
    exact ⟨Xi hst.out.symm,hd.out⟩
 ·have hst:=Lib.hid (eqB_len hl);have i0:((xs.length:Int) != (ys.length:Int))=true:=by simp;omega
  go_enter Tryz.func136,Tryz.ntmps136
  go_wp2
  go_ret
  exact ⟨Xi hst.out.symm,0,rfl⟩
theorem iSameRegion_c (p q:List Half) (a b:Zi) (w:World) (hp:p.length<=1048576) (hq:q.length<=1048576) (ha:Sl 3 Xd w a.A p) (hb:Sl 3 Xd w b.A q) :
 Calls Tryz.prog 92 #[Yi p a,Yi q b] w λ e w'=>e=.returned (.bool (eqB p q))/\Below w.heap.size w w':=by
 go_enter Tryz.func92,Tryz.ntmps92
 go_wp2_with (fail)
 refine (eqHalves_q a.A b.A p q _ _ _ hp hq (Sl.below ha (by exact Xl)) (Sl.below hb (by exact Xl))).mono ?_;rintro e w' ⟨rfl,n,rfl⟩;go_wp2
 go_ret
 refine ⟨rfl, ?_⟩;exact Xl
set_option maxRecDepth 100000 in
theorem sSameRegion_c (p q:List Half) (a b:Zi) (w:World) (hp:p.length<=1048576) (_:q.length<=1048576) (ha:Sl 3 Xd w a.A p) (hb:Sl 3 Xd w b.A q) :
 Calls Tryz.prog 164 #[Yi p a,Yi q b] w λ e w'=>e=.returned (.bool (eqB p q))/\Below w.heap.size w w':=by
 obtain ⟨A,ca⟩:=a;obtain ⟨B,cb⟩:=b;by_cases hl:p.length=q.length
 ·have hfin:=Lib.hid (λ h=>Lib.hid (eqB_yes (xs:=p) (ys:=q) hl h));have hno:=Lib.hid (λ k h1 h2 h=>Lib.hid (@eqB_no Half _ p q k h1 h2 h));have HL:=Lib.hid hl;have i0:((p.length:Int) != (q.length:Int))=false:=by simp [hl]
  clear hl;go_enter Tryz.func164,Tryz.ntmps164
  go_wp2
  go_loopw [5,6,17] (λ _ _ i wr=>∃ k:Nat,k<=p.length/\i=.int .i64 k/\Hid (p.take k=q.take k)/\Below ((w.alloc (.cells #[.slice A p.length ca] 26)).alloc (.cells #[.slice B q.length cb] 26)).heap.size ((w.alloc (.cells #[.slice A p.length ca] 26)).alloc (.cells #[.slice B q.length cb] 26)) wr) (λ _ _ i _=>p.length-(intOf i).toNat)
  case atStart=>exact ⟨0,Nat.zero_le _,rfl,by simp [Hid],Below.refl _ _⟩
  case round =>
   obtain ⟨k,hk,rfl,htk,hbw⟩:=hrel;have r0:=Xh hbw;have l0:w.heap.size<wr.heap.size:=Xo hbw;have l1:w.heap.size+1<wr.heap.size:=Xo hbw;by_cases hlt:k<p.length
   ·have hlt2:k<q.length:=by have:=HL.out;omega
    obtain ⟨b,off,rfl,hblt,hc⟩:=(Sl.below ha (by exact Xl:Below w.heap.size w wr)).at_ hlt;obtain ⟨b',off',rfl,hblt',hc'⟩:=(Sl.below hb (by exact Xl:Below w.heap.size w wr)).at_ hlt2;have g0:=hc 0 _ rfl;have g1:=hc 1 _ rfl;have g2:=hc 2 _ rfl;have g3:=hc' 0 _ rfl;have g4:=hc' 1 _ rfl;have g5:=hc' 2 _ rfl;clear hc hc';simp only [Nat.add_zero] at g0 g3;have i1:(0:Int)<=(k:Int):=Oz
    have i2:(k:Int)<(p.length:Int):=Oz
    have i3:(k:Int)<(q.length:Int):=Oz
    by_cases he:p[k]=q[k]
    ·have hst:=Lib.hid (take_step hlt hlt2 htk.out he);rw [<- he] at g3 g4 g5;generalize p[k]=x at *;clear he htk;go_wp2
     go_quiet (fail)
     go_wp2
     go_roundw
     case rel =>
      refine ⟨k+1,by omega,by go_num,hst, ?_⟩;exact Xl
     case measure=>simp [intOf];omega
    ·have hst:=hno.out k hlt hlt2 he;have q1:=half_ne he;generalize p[k]=x at *;generalize q[k]=x' at *;clear he htk;obtain ⟨a1,b1,c1⟩:=x;obtain ⟨a2,b2,c2⟩:=x';simp only at q1 g0 g1 g2 g3 g4 g5;rcases q1 with q1|⟨rfl,q1⟩|⟨rfl,rfl,q1⟩
     all_goals
      go_wp2
      go_quiet (fail)
      go_wp2
      refine bodyPost_ret (v:=.bool false) (by simp [results,Tryz.results164,go_sem]) rfl ⟨by rw [hst.out], ?_⟩;exact Xl
   ·obtain rfl:k=p.length:=Oz
    have hst:=hfin.out htk.out;clear htk;go_wp2
    go_ret
    refine ⟨Xi hst.out.symm, ?_⟩;exact Xl
 ·have hst:=Lib.hid (eqB_len hl);have i0:((p.length:Int) != (q.length:Int))=true:=by simp;omega
  go_enter Tryz.func164,Tryz.ntmps164
  go_wp2
  go_ret
  refine ⟨Xi hst.out.symm, ?_⟩;exact Xl
end Go.Proofs.YtbekjpkcicjcgaaGreat
