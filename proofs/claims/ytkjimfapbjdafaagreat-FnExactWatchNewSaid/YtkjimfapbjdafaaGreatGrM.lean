/-
 Equality of slices, regions, rooms and watches: of the program and of the reference.
 Conditions: the slices hold at most 2^20 elements.
-/
import Derived.Test.YtkjimfapbjdafaaGreatGrE
import Derived.Test.YtkjimfapbjdafaaGreatGrG
import Derived.Deep.RegionHeld3
import Derived.Deep.DeepCutAuto
import Derived.Deep.DeepMust
import Derived.Test.YtkjimfapbjdafaaGreatGrN
set_option maxHeartbeats 2000000
namespace Go.Proofs.YtkjimfapbjdafaaGreat
open Go.RowKit
def eqB {α:Type} [DecidableEq α] (xs ys:List α):Bool:=decide (xs=ys)
theorem eqB_len {α:Type} [DecidableEq α] {xs ys:List α} (h:xs.length≠ys.length):eqB xs ys=false:=by
 simp only [eqB,decide_eq_false_iff_not];intro e;exact h (by rw [e])
theorem eqB_no {α:Type} [DecidableEq α] {xs ys:List α} {k:Nat} (h1:k<xs.length) (h2:k<ys.length) (h:xs[k]≠ys[k]):eqB xs ys=false:=by
 simp only [eqB,decide_eq_false_iff_not];intro e;subst e;exact h rfl
theorem eqB_yes {α:Type} [DecidableEq α] {xs ys:List α} (h1:xs.length=ys.length) (h:xs.take xs.length=ys.take xs.length):eqB xs ys=true:=by
 rw [List.take_length] at h;rw [h1,List.take_length] at h;simp [eqB,h]
theorem take_step {α:Type} {xs ys:List α} {k:Nat} (h1:k<xs.length) (h2:k<ys.length) (h:xs.take k=ys.take k) (he:xs[k]=ys[k]):xs.take (k+1)=ys.take (k+1):=by
 rw [Kn xs k h1,Kn ys k h2,h,he]
theorem half_ne {p q:Half} (h:p≠q):(p.a == q.a)=false∨(p.a=q.a/\(p.b == q.b)=false)∨(p.a=q.a/\p.b=q.b/\(p.c == q.c)=false):=by
 obtain ⟨a,b,c⟩:=p;obtain ⟨a',b',c'⟩:=q;by_cases h1:a=a'
 ·by_cases h2:b=b'
  ·by_cases h3:c=c'
   ·subst h1 h2 h3;exact absurd rfl h
   ·exact .inr (.inr ⟨h1,h2,by simpa using h3⟩)
  ·exact .inr (.inl ⟨h1,by simpa using h2⟩)
 ·exact .inl (by simpa using h1)
theorem Sl.drawn {α:Type} {sz:Nat} {enc:α->List Value} {w w':World} {A:Option Addr} {xs:List α} (h:Sl sz enc w A xs) (hd:Drawn w w'):Sl sz enc w' A xs:=by
 obtain ⟨n,rfl⟩:=hd;exact h.drewN n
theorem eqHalves_q (A B:Option Addr) (xs ys:List Half) (c d:Nat) (w:World) (hx:xs.length<=1048576) (_:ys.length<=1048576) (ha:Sl 3 Xk w A xs) (hb:Sl 3 Xk w B ys) :
 Calls Tryz.prog 180 #[.slice A xs.length c,.slice B ys.length d] w λ e w'=>e=.returned (.bool (eqB xs ys))/\∃ n,w'=w.drewN n:=by
 by_cases hl:xs.length=ys.length
 ·have hfin:=λ h=>Lib.hid (eqB_yes (xs:=xs) (ys:=ys) hl h);have hno:=λ k h1 h2 h=>Lib.hid (@eqB_no Half _ xs ys k h1 h2 h);have HL:=Lib.hid hl;have i0:((xs.length:Int) != (ys.length:Int))=false:=by simp [hl]
  clear hl;have hfin2:=Lib.hid hfin;have hno2:=Lib.hid hno;clear hfin hno;go_enter Tryz.func180,Tryz.ntmps180
  go_wp2
  go_loopw [5,13] (λ x i wr=>∃ k:Nat,k<=xs.length/\i=.int .i64 k/\Hid (xs.take k=ys.take k)/\Drawn w wr) (λ _ i _=>xs.length-(intOf i).toNat)
  case atStart=>exact ⟨0,Nat.zero_le _,rfl,by simp [Hid],Drawn.refl _⟩
  case round =>
   obtain ⟨k,hk,rfl,htk,hd⟩:=hrel;by_cases hlt:k<xs.length
   ·have hlt2:k<ys.length:=by have:=HL.out;omega
    obtain ⟨b,off,rfl,hblt,hc⟩:=(ha.drawn hd).at_ hlt;obtain ⟨b',off',rfl,hblt',hc'⟩:=(hb.drawn hd).at_ hlt2;have g0:=hc 0 _ rfl;have g1:=hc 1 _ rfl;have g2:=hc 2 _ rfl;have g3:=hc' 0 _ rfl;have g4:=hc' 1 _ rfl;have g5:=hc' 2 _ rfl;clear hc hc';simp only [Nat.add_zero] at g0 g3;have i1:(0:Int)<=(k:Int):=by omega
    have i2:(k:Int)<(xs.length:Int):=by omega
    have i3:(k:Int)<(ys.length:Int):=by omega
    by_cases he:xs[k]=ys[k]
    ·have hst:=Lib.hid (take_step hlt hlt2 htk.out he);rw [<- he] at g3 g4 g5;generalize xs[k]=p at *;clear he htk;go_wp2
     go_quiet (fail)
     go_wp2
     go_roundw
     case rel=>exact ⟨k+1,by omega,by go_num,hst,Drawn.drewN hd _⟩
     case measure=>simp [intOf];omega
    ·have hst:=hno2.out k hlt hlt2 he;have q:=half_ne he;generalize xs[k]=p at *;generalize ys[k]=p' at *;clear he htk;obtain ⟨a1,b1,c1⟩:=p;obtain ⟨a2,b2,c2⟩:=p';simp only at q g0 g1 g2 g3 g4 g5;rcases q with q|⟨rfl,q⟩|⟨rfl,rfl,q⟩
     all_goals
      go_wp2
      go_quiet (fail)
      go_wp2
      refine bodyPost_ret (v:=.bool false) (by simp [results,Tryz.results180,go_sem]) rfl ⟨by rw [hst.out], ?_⟩;exact (Drawn.drewN hd _).out
   ·obtain rfl:k=xs.length:=by omega
    have hst:=hfin2.out htk.out;clear htk;go_wp2
    go_ret
    exact ⟨Xx hst.out.symm,hd.out⟩
 ·have hst:=Lib.hid (eqB_len hl);have i0:((xs.length:Int) != (ys.length:Int))=true:=by simp;omega
  go_enter Tryz.func180,Tryz.ntmps180
  go_wp2
  go_ret
  exact ⟨Xx hst.out.symm,0,rfl⟩
theorem iSameRegion_c (p q:List Half) (a b:ZY) (w:World) (hp:p.length<=1048576) (hq:q.length<=1048576) (ha:Sl 3 Xk w a.A p) (hb:Sl 3 Xk w b.A q) :
 Calls Tryz.prog 108 #[Zb p a,Zb q b] w λ e w'=>e=.returned (.bool (eqB p q))/\Below w.heap.size w w':=by
 go_enter Tryz.func108,Tryz.ntmps108
 go_wp2_with (fail)
 refine (eqHalves_q a.A b.A p q _ _ _ hp hq (Sl.below ha (by exact XA)) (Sl.below hb (by exact XA))).mono ?_;rintro e w' ⟨rfl,n,rfl⟩;go_wp2
 go_ret
 refine ⟨rfl, ?_⟩;exact XA
set_option maxRecDepth 100000 in
theorem sSameRegion_c (p q:List Half) (a b:ZY) (w:World) (hp:p.length<=1048576) (_:q.length<=1048576) (ha:Sl 3 Xk w a.A p) (hb:Sl 3 Xk w b.A q) :
 Calls Tryz.prog 106 #[Zb p a,Zb q b] w λ e w'=>e=.returned (.bool (eqB p q))/\Below w.heap.size w w':=by
 obtain ⟨A,ca⟩:=a;obtain ⟨B,cb⟩:=b;by_cases hl:p.length=q.length
 ·have hfin:=Lib.hid (λ h=>Lib.hid (eqB_yes (xs:=p) (ys:=q) hl h));have hno:=Lib.hid (λ k h1 h2 h=>Lib.hid (@eqB_no Half _ p q k h1 h2 h));have HL:=Lib.hid hl;have i0:((p.length:Int) != (q.length:Int))=false:=by simp [hl]
  clear hl;go_enter Tryz.func106,Tryz.ntmps106
  go_wp2
  go_loopw [5,6,17] (λ _ _ i wr=>∃ k:Nat,k<=p.length/\i=.int .i64 k/\Hid (p.take k=q.take k)/\Below ((w.alloc (.cells #[.slice A p.length ca] 37)).alloc (.cells #[.slice B q.length cb] 37)).heap.size ((w.alloc (.cells #[.slice A p.length ca] 37)).alloc (.cells #[.slice B q.length cb] 37)) wr) (λ _ _ i _=>p.length-(intOf i).toNat)
  case atStart=>exact ⟨0,Nat.zero_le _,rfl,by simp [Hid],Below.refl _ _⟩
  case round =>
   obtain ⟨k,hk,rfl,htk,hbw⟩:=hrel;have r0:=Xz hbw;have l0:w.heap.size<wr.heap.size:=XO hbw;have l1:w.heap.size+1<wr.heap.size:=XO hbw;by_cases hlt:k<p.length
   ·have hlt2:k<q.length:=by have:=HL.out;omega
    obtain ⟨b,off,rfl,hblt,hc⟩:=(Sl.below ha (by exact XA:Below w.heap.size w wr)).at_ hlt;obtain ⟨b',off',rfl,hblt',hc'⟩:=(Sl.below hb (by exact XA:Below w.heap.size w wr)).at_ hlt2;have g0:=hc 0 _ rfl;have g1:=hc 1 _ rfl;have g2:=hc 2 _ rfl;have g3:=hc' 0 _ rfl;have g4:=hc' 1 _ rfl;have g5:=hc' 2 _ rfl;clear hc hc';simp only [Nat.add_zero] at g0 g3;have i1:(0:Int)<=(k:Int):=by omega
    have i2:(k:Int)<(p.length:Int):=by omega
    have i3:(k:Int)<(q.length:Int):=by omega
    by_cases he:p[k]=q[k]
    ·have hst:=Lib.hid (take_step hlt hlt2 htk.out he);rw [<- he] at g3 g4 g5;generalize p[k]=x at *;clear he htk;go_wp2
     go_quiet (fail)
     go_wp2
     go_roundw
     case rel =>
      refine ⟨k+1,by omega,by go_num,hst, ?_⟩;exact XA
     case measure=>simp [intOf];omega
    ·have hst:=hno.out k hlt hlt2 he;have q1:=half_ne he;generalize p[k]=x at *;generalize q[k]=x' at *;clear he htk;obtain ⟨a1,b1,c1⟩:=x;obtain ⟨a2,b2,c2⟩:=x';simp only at q1 g0 g1 g2 g3 g4 g5;rcases q1 with q1|⟨rfl,q1⟩|⟨rfl,rfl,q1⟩
     all_goals
      go_wp2
      go_quiet (fail)
      go_wp2
      refine bodyPost_ret (v:=.bool false) (by simp [results,Tryz.results106,go_sem]) rfl ⟨by rw [hst.out], ?_⟩;exact XA
   ·obtain rfl:k=p.length:=by omega
    have hst:=hfin.out htk.out;clear htk;go_wp2
    go_ret
    refine ⟨Xx hst.out.symm, ?_⟩;exact XA
 ·have hst:=Lib.hid (eqB_len hl);have i0:((p.length:Int) != (q.length:Int))=true:=by simp;omega
  go_enter Tryz.func106,Tryz.ntmps106
  go_wp2
  go_ret
  refine ⟨Xx hst.out.symm, ?_⟩;exact XA
theorem red3 {a b c:Int} (h:0<XJ [a,b,c]):XJ [a.tdiv (XJ [a,b,c]),b.tdiv (XJ [a,b,c]),c.tdiv (XJ [a,b,c])]=1:=by
 have e:=gcd3 a b c;rw [gcd3 (a.tdiv _)];simp only [natAbs_tdiv];generalize XJ [a,b,c]=g at *;have d1:g ∣ a.natAbs:=by rw [e];exact Nat.dvd_trans (Nat.gcd_dvd_left _ _) (Nat.gcd_dvd_left _ _)
 have d2:g ∣ b.natAbs:=by rw [e];exact Nat.dvd_trans (Nat.gcd_dvd_left _ _) (Nat.gcd_dvd_right _ _)
 have d3:g ∣ c.natAbs:=by rw [e];exact Nat.gcd_dvd_right _ _
 rw [Nat.gcd_div d1 d2,Nat.gcd_div (Nat.dvd_gcd d1 d2) d3,<- e];exact Nat.div_self h
theorem JC {a b A B:Int} (hA : -A<=a/\a<=A) (hB : -B<=b/\b<=B) : -(A*B)<=a*b/\a*b<=A*B:=by
 have h1:0<=(A-a)*(B-b):=Int.mul_nonneg (by omega) (by omega);have h2:0<=(A+a)*(B+b):=Int.mul_nonneg (by omega) (by omega);have h3:0<=(A-a)*(B+b):=Int.mul_nonneg (by omega) (by omega);have h4:0<=(A+a)*(B-b):=Int.mul_nonneg (by omega) (by omega);rw [Int.sub_mul,Int.mul_sub,Int.mul_sub] at h1;rw [Int.add_mul,Int.mul_add,Int.mul_add] at h2;rw [Int.sub_mul,Int.mul_add,Int.mul_add] at h3;rw [Int.add_mul,Int.mul_sub,Int.mul_sub] at h4;omega
structure Zr (w w':World) (L:List ZY):Prop where
 os:w'.os=w.os
 tape:w'.tape=w.tape
 output:w'.output=w.output
 size:w.heap.size<=w'.heap.size
 block:∀ k,k<w.heap.size->(∀ a∈L,∀ p,a.A=some p->p.block≠k)->w'.heap[k]? = w.heap[k]?
theorem Zr.refl (w:World) (L:List ZY):Zr w w L:=⟨rfl,rfl,rfl,Nat.le_refl _,λ _ _ _=>rfl⟩
theorem Zr.trans {a b c:World} {L:List ZY} (h:Zr a b L) (k:Zr b c L):Zr a c L :=
 ⟨k.os.trans h.os,k.tape.trans h.tape,k.output.trans h.output,Nat.le_trans h.size k.size,λ i hi hn=>(k.block i (Nat.lt_of_lt_of_le hi h.size) hn).trans (h.block i hi hn)⟩
theorem Zr.mono {a b:World} {L L':List ZY} (h:Zr a b L) (hs:∀ x∈L,x∈L'):Zr a b L' :=
 ⟨h.os,h.tape,h.output,h.size,λ i hi hn=>h.block i hi (λ x hx=>hn x (hs x hx))⟩
theorem Zr.below {a b:World} {L:List ZY} {B:Nat} (h:Zr a b L) (hB:B<=a.heap.size) (hL:∀ x∈L,∀ p,x.A=some p->B<=p.block):Below B a b :=
 ⟨h.os,h.tape,h.output,h.size,λ i hi=>h.block i (Nat.lt_of_lt_of_le hi hB) (λ x hx p hp e=>by have:=hL x hx p hp;omega)⟩
theorem Zr.setCells {w:World} {g c:Nat}:∀ (vs:List Value) (o:Nat) (W:World),Zr w W [⟨some ⟨g,0,none⟩,c⟩]->Zr w (W.setCells g o vs) [⟨some ⟨g,0,none⟩,c⟩]
 | [],_,_,h=>h
 | v :: r,o,W,h=>Zr.setCells r (o+1) _ (h.trans ⟨rfl,rfl,rfl,by simp [World.setCell],λ k _ hk=>heap_setCell_other W ⟨g,o,none⟩ k v (λ e=>by
  have:=hk _ (List.mem_singleton.2 rfl) _ rfl;simp only [ne_eq] at this;first|exact this e|exact this e.symm)⟩)
theorem XI.lo {α:Type} {T sz base n c:Nat} {enc:α->List Value} {w:World} {A:Option Addr} {xs:List α} (h:XI T sz enc w base (.slice A n c) xs):∀ p,A=some p->base<=p.block:=λ p hp=>(h.blk p hp).1
theorem XI.same {α:Type} {T sz base n:Nat} {enc:α->List Value} {w:World} {v:Value} {xs:List α} (h:XI T sz enc w base v xs) (hl:xs.length=n):∃ A c,v=.slice A n c/\XI T sz enc w base (.slice A n c) xs:=by
 obtain ⟨A,c,rfl,ho⟩:=h;subst hl;exact ⟨A,c,rfl,A,c,rfl,ho⟩
theorem Zr.cell {w w':World} {L:List ZY} (h:Zr w w' L) {g:Nat} (hg:g<w.heap.size) (hn:∀ a∈L,∀ p,a.A=some p->p.block≠g):∀ o,w'.cell? ⟨g,o,none⟩=w.cell? ⟨g,o,none⟩ :=
 λ o=>World.cell?_of_block (w:=w) (a:=⟨g,o,none⟩) (h.block g hg hn)
theorem Blk.lo {lo hi B:Nat} {a:ZY} (h:Blk lo hi a) (hB:B<=lo):∀ p,a.A=some p->B<=p.block:=λ p hp=>by have:=h p hp;omega
theorem all1 {α:Type} {P:α->Prop} {a:α} (h:P a):∀ x∈[a],P x:=λ x hx=>by rw [List.mem_singleton.1 hx];exact h
def K6 (k:Int) (n:Nat):List Int:=(List.range n).map λ(i:Nat)=>k+i
structure RoomMk (w:World) (x:X3) (a:YO) (K:Int):Prop where
 map:Sl 1 Y6 w a.map.A (K6 K x.map.length)
 noise:Sl 3 Xk w a.noise.A (Kt (K+x.map.length) x.noise.length)
 limits:Sl 3 Xk w a.limits.A (Kt (K+x.map.length+x.noise.length*3) x.limits.length)
theorem RoomMk.below {w w':World} {x:X3} {a:YO} {K:Int} (h:RoomMk w x a K) (hb:Below w.heap.size w w'):RoomMk w' x a K:=⟨h.map.below hb,h.noise.below hb,h.limits.below hb⟩
def J7 (lo hi:Nat) (L:List ZY):Prop:=∀ a∈L,Blk lo hi a
theorem J7.ne {lo hi g:Nat} {L:List ZY} (h:J7 lo hi L) (hg:g<lo∨hi<=g):∀ a∈L,∀ p,a.A=some p->p.block≠g:=by
 intro a ha p hp;have:=h a ha p hp;omega
theorem J7.lo {lo hi B:Nat} {L:List ZY} (h:J7 lo hi L) (hB:B<=lo):∀ a∈L,∀ p,a.A=some p->B<=p.block:=by
 intro a ha p hp;have:=h a ha p hp;omega
theorem J7.apart {lo hi lo' hi':Nat} {L L':List ZY} (h:J7 lo hi L) (h':J7 lo' hi' L') (hle:hi<=lo'∨hi'<=lo):∀ a∈L,∀ b∈L',JX a b:=by
 intro a ha b hb p q hp hq e;have:=h a ha p hp;have:=h' b hb q hq;omega
theorem J7.mono {lo hi lo' hi':Nat} {L:List ZY} (h:J7 lo hi L) (h1:lo'<=lo) (h2:hi<=hi'):J7 lo' hi' L:=by
 intro a ha p hp;have:=h a ha p hp;omega
theorem XI.blkL {α:Type} {T sz base n c:Nat} {enc:α->List Value} {w:World} {A:Option Addr} {xs:List α} (h:XI T sz enc w base (.slice A n c) xs):J7 base w.heap.size [⟨A,c⟩]:=all1 h.blk
theorem XT.blkL {w:World} {base:Nat} {x:List Half} {a:ZY} (h:XT w base x a):J7 base w.heap.size [a]:=all1 h.blk
theorem Yq.blkL {w:World} {base:Nat} {x:X3} {a:YO} (h:Yq w base x a):J7 base w.heap.size [a.map,a.noise,a.limits]:=by
 intro b hb;simp only [List.mem_cons,List.not_mem_nil,or_false] at hb;obtain ⟨h0,h1,h2⟩:=h.blk;rcases hb with rfl|rfl|rfl<;>assumption
theorem Yy.blkL {w:World} {base:Nat} {x:Jf} {a:Jn} (h:Yy w base x a):J7 base w.heap.size [a.room.map,a.room.noise,a.room.limits,a.reg,a.log]:=by
 intro b hb;simp only [List.mem_cons,List.not_mem_nil,or_false] at hb;obtain ⟨h0,h1,h2,h3,h4⟩:=h.blk;rcases hb with rfl|rfl|rfl|rfl|rfl<;>assumption
theorem YG.blkL {w:World} {base:Nat} {x:Track} {a:TrackA} (h:YG w base x a):J7 base w.heap.size [a.spots,a.inputs]:=by
 intro b hb;simp only [List.mem_cons,List.not_mem_nil,or_false] at hb;obtain ⟨h0,h1⟩:=h.blk;rcases hb with rfl|rfl<;>assumption
theorem Jg.blkL {w:World} {base:Nat} {x:Law} {a:LawA} (h:Jg w base x a):J7 base w.heap.size [a.lows,a.highs]:=by
 intro b hb;simp only [List.mem_cons,List.not_mem_nil,or_false] at hb;obtain ⟨h0,h1⟩:=h.blk;rcases hb with rfl|rfl<;>assumption
end Go.Proofs.YtkjimfapbjdafaaGreat
