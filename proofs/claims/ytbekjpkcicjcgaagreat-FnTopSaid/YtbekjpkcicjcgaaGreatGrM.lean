/-
 Equality of slices, regions, rooms and watches: of the program and of the reference.
 Conditions: the slices hold at most 2^20 elements.
-/
import Derived.Test.YtbekjpkcicjcgaaGreatGrN
set_option maxHeartbeats 2000000
set_option maxRecDepth 100000
namespace Go.Proofs.YtbekjpkcicjcgaaGreat
open Go.RowKit
def eqB {α:Type} [DecidableEq α] (xs ys:List α):Bool:=decide (xs=ys)
theorem eqB_len {α:Type} [DecidableEq α] {xs ys:List α} (h:xs.length≠ys.length):eqB xs ys=false:=by
 simp only [eqB,decide_eq_false_iff_not];intro e;exact h (by rw [e])
theorem eqB_no {α:Type} [DecidableEq α] {xs ys:List α} {k:Nat} (h1:k<xs.length) (h2:k<ys.length) (h:xs[k]≠ys[k]):eqB xs ys=false:=by
 simp only [eqB,decide_eq_false_iff_not];intro e;subst e;exact h rfl
theorem eqB_yes {α:Type} [DecidableEq α] {xs ys:List α} (h1:xs.length=ys.length) (h:xs.take xs.length=ys.take xs.length):eqB xs ys=true:=by
 rw [List.take_length] at h;rw [h1,List.take_length] at h;simp [eqB,h]
theorem take_step {α:Type} {xs ys:List α} {k:Nat} (h1:k<xs.length) (h2:k<ys.length) (h:xs.take k=ys.take k) (he:xs[k]=ys[k]):xs.take (k+1)=ys.take (k+1):=by
 rw [Zx xs k h1,Zx ys k h2,h,he]
theorem half_ne {p q:Half} (h:p≠q):(p.a == q.a)=false∨(p.a=q.a/\(p.b == q.b)=false)∨(p.a=q.a/\p.b=q.b/\(p.c == q.c)=false):=by
 obtain ⟨a,b,c⟩:=p;obtain ⟨a',b',c'⟩:=q;by_cases h1:a=a'
 ·by_cases h2:b=b'
  ·by_cases h3:c=c'
   ·subst h1 h2 h3;exact absurd rfl h
   ·exact .inr (.inr ⟨h1,h2,by simpa using h3⟩)
  ·exact .inr (.inl ⟨h1,by simpa using h2⟩)
 ·exact .inl (by simpa using h1)
theorem Sl.drawn {α:Type} {sz:Nat} {enc:α->List Value} {w w':World} {A:Option Addr} {xs:List α} (h:Sl sz enc w A xs) (hd:Drawn w w'):Sl sz enc w' A xs:=by
 obtain ⟨n,rfl⟩:=hd;exact h.drewN n
theorem eqHalves_q (A B:Option Addr) (xs ys:List Half) (c d:Nat) (w:World) (hx:xs.length<=1048576) (_:ys.length<=1048576) (ha:Sl 3 Xe w A xs) (hb:Sl 3 Xe w B ys) :
 Calls Tryz.prog 136 #[.slice A xs.length c,.slice B ys.length d] w λ e w'=>e=.returned (.bool (eqB xs ys))/\∃ n,w'=w.drewN n:=by
 by_cases hl:xs.length=ys.length
 ·have hfin:=λ h=>Lib.hid (eqB_yes (xs:=xs) (ys:=ys) hl h);have hno:=λ k h1 h2 h=>Lib.hid (@eqB_no Half _ xs ys k h1 h2 h);have HL:=Lib.hid hl;have i0:((xs.length:Int) != (ys.length:Int))=false:=by simp [hl]
  clear hl;have hfin2:=Lib.hid hfin;have hno2:=Lib.hid hno;clear hfin hno;go_enter Tryz.func136,Tryz.ntmps136
  go_wp2
  go_loopw [5,13] (λ x i wr=>∃ k:Nat,k<=xs.length/\i=.int .i64 k/\Hid (xs.take k=ys.take k)/\Drawn w wr) (λ _ i _=>xs.length-(intOf i).toNat)
  case atStart=>exact ⟨0,Nat.zero_le _,rfl,by simp [Hid],Drawn.refl _⟩
  case round =>
   obtain ⟨k,hk,rfl,htk,hd⟩:=hrel;by_cases hlt:k<xs.length
   ·have hlt2:k<ys.length:=by have:=HL.out;omega
    obtain ⟨b,off,rfl,hblt,hc⟩:=(ha.drawn hd).at_ hlt;obtain ⟨b',off',rfl,hblt',hc'⟩:=(hb.drawn hd).at_ hlt2;have g0:=hc 0 _ rfl;have g1:=hc 1 _ rfl;have g2:=hc 2 _ rfl;have g3:=hc' 0 _ rfl;have g4:=hc' 1 _ rfl;have g5:=hc' 2 _ rfl;clear hc hc';simp only [Nat.add_zero] at g0 g3;have i1:(0:Int)<=(k:Int):=Oz
    have i2:(k:Int)<(xs.length:Int):=Oz
    have i3:(k:Int)<(ys.length:Int):=Oz
    by_cases he:xs[k]=ys[k]
    ·have hst:=Lib.hid (take_step hlt hlt2 htk.out he);rw [<- he] at g3 g4 g5;generalize xs[k]=p at *;clear he htk;go_wp2
     go_quiet (fail)
     go_wp2
     go_roundw
     case rel=>exact ⟨k+1,by omega,by go_num,hst,Drawn.drewN hd _⟩
     case measure=>simp [intOf];omega
    ·have hst:=hno2.out k hlt hlt2 he;have q:=half_ne he;generalize xs[k]=p at *;generalize ys[k]=p' at *;clear he htk;obtain ⟨a1,b1,c1⟩:=p;obtain ⟨a2,b2,c2⟩:=p';simp only at q g0 g1 g2 g3 g4 g5;rcases q with q|⟨rfl,q⟩|⟨rfl,rfl,q⟩
     all_goals
      go_wp2
      go_quiet (fail)
      go_wp2
      refine bodyPost_ret (v:=.bool false) (by simp [results,Tryz.results136,go_sem]) rfl ⟨by rw [hst.out], ?_⟩;exact (Drawn.drewN hd _).out
   ·obtain rfl:k=xs.length:=Oz
    have hst:=hfin2.out htk.out;clear htk;go_wp2
    go_ret
    exact ⟨Xm hst.out.symm,hd.out⟩
 ·have hst:=Lib.hid (eqB_len hl);have i0:((xs.length:Int) != (ys.length:Int))=true:=by simp;omega
  go_enter Tryz.func136,Tryz.ntmps136
  go_wp2
  go_ret
  exact ⟨Xm hst.out.symm,0,rfl⟩
theorem iSameRegion_c (p q:List Half) (a b:Kw) (w:World) (hp:p.length<=1048576) (hq:q.length<=1048576) (ha:Sl 3 Xe w a.A p) (hb:Sl 3 Xe w b.A q) :
 Calls Tryz.prog 92 #[Zl p a,Zl q b] w λ e w'=>e=.returned (.bool (eqB p q))/\Below w.heap.size w w':=by
 go_enter Tryz.func92,Tryz.ntmps92
 go_wp2_with (fail)
 refine (eqHalves_q a.A b.A p q _ _ _ hp hq (Sl.below ha (by exact Xw)) (Sl.below hb (by exact Xw))).mono ?_;rintro e w' ⟨rfl,n,rfl⟩;go_wp2
 go_ret
 refine ⟨rfl, ?_⟩;exact Xw
theorem sSameRegion_c (p q:List Half) (a b:Kw) (w:World) (hp:p.length<=1048576) (_:q.length<=1048576) (ha:Sl 3 Xe w a.A p) (hb:Sl 3 Xe w b.A q) :
 Calls Tryz.prog 164 #[Zl p a,Zl q b] w λ e w'=>e=.returned (.bool (eqB p q))/\Below w.heap.size w w':=by
 obtain ⟨A,ca⟩:=a;obtain ⟨B,cb⟩:=b;by_cases hl:p.length=q.length
 ·have hfin:=Lib.hid (λ h=>Lib.hid (eqB_yes (xs:=p) (ys:=q) hl h));have hno:=Lib.hid (λ k h1 h2 h=>Lib.hid (@eqB_no Half _ p q k h1 h2 h));have HL:=Lib.hid hl;have i0:((p.length:Int) != (q.length:Int))=false:=by simp [hl]
  clear hl;go_enter Tryz.func164,Tryz.ntmps164
  go_wp2
  go_loopw [5,6,17] (λ _ _ i wr=>∃ k:Nat,k<=p.length/\i=.int .i64 k/\Hid (p.take k=q.take k)/\Below ((w.alloc (.cells #[.slice A p.length ca] 26)).alloc (.cells #[.slice B q.length cb] 26)).heap.size ((w.alloc (.cells #[.slice A p.length ca] 26)).alloc (.cells #[.slice B q.length cb] 26)) wr) (λ _ _ i _=>p.length-(intOf i).toNat)
  case atStart=>exact ⟨0,Nat.zero_le _,rfl,by simp [Hid],Below.refl _ _⟩
  case round =>
   obtain ⟨k,hk,rfl,htk,hbw⟩:=hrel;have r0:=XA hbw;have l0:w.heap.size<wr.heap.size:=XM hbw;have l1:w.heap.size+1<wr.heap.size:=XM hbw;by_cases hlt:k<p.length
   ·have hlt2:k<q.length:=by have:=HL.out;omega
    obtain ⟨b,off,rfl,hblt,hc⟩:=(Sl.below ha (by exact Xw:Below w.heap.size w wr)).at_ hlt;obtain ⟨b',off',rfl,hblt',hc'⟩:=(Sl.below hb (by exact Xw:Below w.heap.size w wr)).at_ hlt2;have g0:=hc 0 _ rfl;have g1:=hc 1 _ rfl;have g2:=hc 2 _ rfl;have g3:=hc' 0 _ rfl;have g4:=hc' 1 _ rfl;have g5:=hc' 2 _ rfl;clear hc hc';simp only [Nat.add_zero] at g0 g3;have i1:(0:Int)<=(k:Int):=Oz
    have i2:(k:Int)<(p.length:Int):=Oz
    have i3:(k:Int)<(q.length:Int):=Oz
    by_cases he:p[k]=q[k]
    ·have hst:=Lib.hid (take_step hlt hlt2 htk.out he);rw [<- he] at g3 g4 g5;generalize p[k]=x at *;clear he htk;go_wp2
     go_quiet (fail)
     go_wp2
     go_roundw
     case rel =>
      refine ⟨k+1,by omega,by go_num,hst, ?_⟩;exact Xw
     case measure=>simp [intOf];omega
    ·have hst:=hno.out k hlt hlt2 he;have q1:=half_ne he;generalize p[k]=x at *;generalize q[k]=x' at *;clear he htk;obtain ⟨a1,b1,c1⟩:=x;obtain ⟨a2,b2,c2⟩:=x';simp only at q1 g0 g1 g2 g3 g4 g5;rcases q1 with q1|⟨rfl,q1⟩|⟨rfl,rfl,q1⟩
     all_goals
      go_wp2
      go_quiet (fail)
      go_wp2
      refine bodyPost_ret (v:=.bool false) (by simp [results,Tryz.results164,go_sem]) rfl ⟨by rw [hst.out], ?_⟩;exact Xw
   ·obtain rfl:k=p.length:=Oz
    have hst:=hfin.out htk.out;clear htk;go_wp2
    go_ret
    refine ⟨Xm hst.out.symm, ?_⟩;exact Xw
 ·have hst:=Lib.hid (eqB_len hl);have i0:((p.length:Int) != (q.length:Int))=true:=by simp;omega
  go_enter Tryz.func164,Tryz.ntmps164
  go_wp2
  go_ret
  refine ⟨Xm hst.out.symm, ?_⟩;exact Xw
def Ka (p:Nat->Bool):Nat->Nat->Int
 | 0,_=>-1
 | f+1,k=>if p k=true then (k:Int) else Ka p f (k+1)
theorem firstGo_hit {p:Nat->Bool} {c k:Nat} (hk:k<c) (h:p k=true):Ka p (c-k) k=k:=by
 obtain ⟨m,hm⟩:∃ m,c-k=m+1:=⟨c-k-1,Oz⟩;rw [hm,Ka,if_pos h]
theorem firstGo_miss {p:Nat->Bool} {c k:Nat} (hk:k<c) (h:p k=false):Ka p (c-k) k=Ka p (c-(k+1)) (k+1):=by
 obtain ⟨m,hm⟩:∃ m,c-k=m+1:=⟨c-k-1,Oz⟩;have hm2:c-(k+1)=m:=Oz
 rw [hm,hm2,Ka,if_neg (by simp [h])]
theorem firstGo_end {p:Nat->Bool} {c:Nat}:Ka p (c-c) c = -1:=by
 rw [Nat.sub_self,Ka]
theorem firstGo_bd {p:Nat->Bool}:∀ (f k:Nat),-1<=Ka p f k/\Ka p f k<(k+f:Nat)
 | 0,k=>by rw [Ka];omega
 | f+1,k=>by
  rw [Ka];split
  ·omega
  ·have:=firstGo_bd (p:=p) f (k+1);omega
def KY (n d start step:Int) (k:Nat):Bool:=decide ((start+k*step)*d<=n)&&decide (n<=(start+k*step+step)*d)
def KK (n d start step:Int) (c:Nat):Int:=Ka (KY n d start step) (c-0) 0
theorem mulT {a d:Int} (ha : -1000<=a/\a<=1000) (hd:1<=d/\d<=5000000000) : -5000000000000<=a*d/\a*d<=5000000000000:=by
 have h1:(1000-a)*d ≥ 0:=Int.mul_nonneg Oz Oz;have h2:(a+1000)*d ≥ 0:=Int.mul_nonneg Oz Oz;rw [Int.sub_mul] at h1;rw [Int.add_mul] at h2;omega
structure StB (d start step:Int) (k:Nat):Prop where
 m:0<=(k:Int)*step/\(k:Int)*step<=10000
 e:((k:Int)+1)*step=(k:Int)*step+step
 x : -1000<=start+(k:Int)*step/\start+(k:Int)*step+step<=1000
 p : -5000000000000<=(start+(k:Int)*step)*d/\(start+(k:Int)*step)*d<=5000000000000
 q : -5000000000000<=(start+(k:Int)*step+step)*d/\(start+(k:Int)*step+step)*d<=5000000000000
theorem stB {d start step:Int} {k c:Nat} (hd:1<=d/\d<=5000000000) (hs : -1000<=start) (hp:1<=step/\step<=100) (hc:c<=100) (he:start+c*step<=1000) (hk:k<c):StB d start step k:=by
 have e:((k:Int)+1)*step=(k:Int)*step+step:=by rw [Int.add_mul,Int.one_mul]
 have h0:0<=(k:Int)*step:=Int.mul_nonneg Oz Oz;have h1:((k:Int)+1)*step<=c*step:=Int.mul_le_mul_of_nonneg_right Oz Oz;have h2:(k:Int)*step<=100*step:=Int.mul_le_mul_of_nonneg_right Oz Oz;exact ⟨⟨h0,Oz⟩,e,⟨Oz,Oz⟩,mulT ⟨Oz,Oz⟩ hd,mulT ⟨Oz,Oz⟩ hd⟩
theorem stripOf_c (n d start step:Int) (c:Nat) (w:World) (hd:1<=d/\d<=5000000000) (hs : -1000<=start) (hp:1<=step/\step<=100) (hc:c<=100) (he:start+c*step<=1000) :
 Calls Tryz.prog 116 #[.int .i64 n,.int .i64 d,.int .i64 start,.int .i64 step,.int .i64 c] w λ e w'=>e=.returned (.int .i64 (KK n d start step c))/\w=w':=by
 go_enter Tryz.func116,Tryz.ntmps116
 go_wp2
 go_loopw [11,12,14] (λ _ _ i wr=>∃ k:Nat,k<=c/\i=.int .i64 k/\Hid (KK n d start step c=Ka (KY n d start step) (c-k) k)/\w=wr) (λ _ _ i _=>c-(intOf i).toNat)
 case atStart=>exact ⟨0,Nat.zero_le _,rfl,rfl,rfl⟩
 case round =>
  obtain ⟨k,hk,rfl,hst,rfl⟩:=hrel;by_cases hlt:k<c
  ·obtain ⟨⟨m1,m2⟩,_,⟨x1,x2⟩,⟨p1,p2⟩,⟨q1,q2⟩⟩:=stB hd hs hp hc he hlt;by_cases h1:(start+(k:Int)*step)*d<=n
   ·by_cases h2:n<=(start+(k:Int)*step+step)*d
    ·have hfin:Hid (KK n d start step c=k):=hst.out.trans (firstGo_hit hlt (by simp [KY,h1,h2]));clear hst;go_wp2
     refine bodyPost_ret (v:=.int .i64 k) (by simp [results,Tryz.results116,go_sem]) rfl ?_;exact ⟨by rw [hfin.out],rfl⟩
    ·have hfin:Hid (KK n d start step c=Ka (KY n d start step) (c-(k+1)) (k+1)):=hst.out.trans (firstGo_miss hlt (by simp [KY,h1];omega));clear hst;go_wp2
     go_roundw
     case rel=>exact ⟨k+1,by omega,by go_num,hfin,by first|rfl|trivial⟩
     case measure=>simp [intOf];omega
   ·have hfin:Hid (KK n d start step c=Ka (KY n d start step) (c-(k+1)) (k+1)):=hst.out.trans (firstGo_miss hlt (by simp [KY,h1]));clear hst;go_wp2
    go_roundw
    case rel=>exact ⟨k+1,by omega,by go_num,hfin,by first|rfl|trivial⟩
    case measure=>simp [intOf];omega
  ·obtain rfl:k=c:=Oz
   have hfin:Hid (KK n d start step k = -1):=hst.out.trans firstGo_end;clear hst;go_wp2
   refine bodyPost_ret (v:=.int .i64 (-1)) (by simp [results,Tryz.results116,go_sem]) rfl ?_;exact ⟨by rw [hfin.out],rfl⟩
def Zz (t:JI) (s:XH):Int × Int :=
 if ZZ t=true/\Xo s=true then
  if KK s.x s.d t.x0 t.step t.nx.toNat<0∨KK s.y s.d t.y0 t.step t.ny.toNat<0 then (-1,-1)
  else (KK s.x s.d t.x0 t.step t.nx.toNat,KK s.y s.d t.y0 t.step t.ny.toNat)
 else (-1,-1)
theorem tableOk_grid {t:JI} (h:ZZ t=true):Yw t=true:=by
 simp only [ZZ,Bool.and_eq_true] at h;exact h.1.1
theorem iCellOf_c (t:JI) (A:Option Addr) (cap:Nat) (s:XH) (w:World) (ht:t.In) (hsi:s.In) (hn:t.cells.length<=1048576) (hs:Sl 1 Kk w A t.cells) :
 Calls Tryz.prog 63 #[tabV t A cap,Yu s] w λ e w'=>e=.returned (.tuple #[.int .i64 (Zz t s).1,.int .i64 (Zz t s).2])/\Below w.heap.size w w':=by
 have c1:=λ W h=>iTableOk_c t A cap W ht hn h;have c2:=λ W=>iSpotOk_c s W hsi;have HA:=(Yd.new w #[.int .i64 t.x0,.int .i64 t.y0,.int .i64 t.step,.int .i64 t.nx,.int .i64 t.ny,.slice A t.cells.length cap] 57).alloc (.cells #[.int .i64 s.x,.int .i64 s.y,.int .i64 s.d] 30);have HB:=Yd.new (w.alloc (.cells #[.int .i64 t.x0,.int .i64 t.y0,.int .i64 t.step,.int .i64 t.nx,.int .i64 t.ny,.slice A t.cells.length cap] 57)) #[.int .i64 s.x,.int .i64 s.y,.int .i64 s.d] 30;simp only [World.size_alloc] at HB;have hg:=λ h=>@tableOk_grid t h;have hq:=λ h=>(@ZF s).1 h;have hdef:Hid (Zz t s=if ZZ t=true/\Xo s=true then (if KK s.x s.d t.x0 t.step t.nx.toNat<0∨KK s.y s.d t.y0 t.step t.ny.toNat<0 then (-1,-1) else (KK s.x s.d t.x0 t.step t.nx.toNat,KK s.y s.d t.y0 t.step t.ny.toNat)) else (-1,-1)):=rfl;generalize ZZ t=b1 at *;generalize Xo s=b2 at *;cases b1
 ·have hfin:Hid (Zz t s=(-1,-1)):=hdef.out;clear hdef hg hq;go_enter Tryz.func63,Tryz.ntmps63
  go_wp2_with (fail)
  refine (c1 _ ((hs.alloc _).alloc _)).mono ?_;rintro e w1 ⟨rfl,hb1⟩;go_wp2
  refine bodyPost_ret (v:=.tuple #[.int .i64 (-1),.int .i64 (-1)]) (by simp [results,Tryz.results63,go_sem]) rfl ⟨by rw [hfin.out], ?_⟩;exact Xw
 ·cases b2
  ·have hfin:Hid (Zz t s=(-1,-1)):=hdef.out;clear hdef hg hq;go_enter Tryz.func63,Tryz.ntmps63
   go_wp2_with (fail)
   refine (c1 _ ((hs.alloc _).alloc _)).mono ?_;rintro e w1 ⟨rfl,hb1⟩;have H2:=HB.below hb1;have hbw:=Xf (Xb (Xb (Below.refl w.heap.size w) _) _) hb1;obtain ⟨cH2_0,fH2_0⟩:=H2.2 0 _ rfl;obtain ⟨cH2_1,fH2_1⟩:=H2.2 1 _ rfl;obtain ⟨cH2_2,fH2_2⟩:=H2.2 2 _ rfl;go_wp2_with (fail)
   refine (c2 _).mono ?_;rintro e w2 ⟨rfl,hb2⟩;have hbw2:=Xf hbw hb2;go_wp2
   refine bodyPost_ret (v:=.tuple #[.int .i64 (-1),.int .i64 (-1)]) (by simp [results,Tryz.results63,go_sem]) rfl ⟨by rw [hfin.out], ?_⟩;exact hbw2
  ·obtain ⟨⟨g1,g2⟩,⟨g3,g4⟩,⟨g5,g6⟩,⟨g7,g8⟩,⟨g9,g10⟩,g11,g12,g13⟩:=Kg.1 (hg rfl);obtain ⟨⟨d1,d2⟩,_⟩:=hq rfl;have hfin:Hid (Zz t s=if KK s.x s.d t.x0 t.step t.nx.toNat<0∨KK s.y s.d t.y0 t.step t.ny.toNat<0 then (-1,-1) else (KK s.x s.d t.x0 t.step t.nx.toNat,KK s.y s.d t.y0 t.step t.ny.toNat)):=hdef.out;clear hdef hg hq;have e3:(t.nx.toNat:Int)=t.nx:=Int.toNat_of_nonneg Oz;have e4:(t.ny.toNat:Int)=t.ny:=Int.toNat_of_nonneg Oz;have c3:=λ W=>stripOf_c s.x s.d t.x0 t.step t.nx.toNat W ⟨d1,d2⟩ g1 ⟨g5,g6⟩ Oz (by rw [e3];exact g12);have c4:=λ W=>stripOf_c s.y s.d t.y0 t.step t.ny.toNat W ⟨d1,d2⟩ g3 ⟨g5,g6⟩ Oz (by rw [e4];exact g13);rw [e3] at c3;rw [e4] at c4;generalize KK s.x s.d t.x0 t.step t.nx.toNat=i at *;generalize KK s.y s.d t.y0 t.step t.ny.toNat=j at *;clear e3 e4;have hfin2:Hid (Zz t s=if i<0∨j<0 then (-1,-1) else (i,j)):=hfin;clear hfin;by_cases hi:i<0
   ·have hfin:Hid (Zz t s=(-1,-1)):=by have:=hfin2.out;rw [if_pos (.inl hi)] at this;exact this
    clear hfin2;go_enter Tryz.func63,Tryz.ntmps63
    go_wp2_with (fail)
    refine (c1 _ ((hs.alloc _).alloc _)).mono ?_;rintro e w1 ⟨rfl,hb1⟩;have H1:=HA.below hb1;have H2:=HB.below hb1;have hbw:=Xf (Xb (Xb (Below.refl w.heap.size w) _) _) hb1;obtain ⟨cH2_0,fH2_0⟩:=H2.2 0 _ rfl;obtain ⟨cH2_1,fH2_1⟩:=H2.2 1 _ rfl;obtain ⟨cH2_2,fH2_2⟩:=H2.2 2 _ rfl;go_wp2_with (fail)
    refine (c2 _).mono ?_;rintro e w2 ⟨rfl,hb2⟩;have H3:=H1.below hb2;have H4:=H2.below hb2;have hbw2:=Xf hbw hb2;clear cH2_0 cH2_1 cH2_2 fH2_0 fH2_1 fH2_2;obtain ⟨cH3_0,fH3_0⟩:=H3.2 0 _ rfl;obtain ⟨cH3_1,fH3_1⟩:=H3.2 1 _ rfl;obtain ⟨cH3_2,fH3_2⟩:=H3.2 2 _ rfl;obtain ⟨cH3_3,fH3_3⟩:=H3.2 3 _ rfl;obtain ⟨cH3_4,fH3_4⟩:=H3.2 4 _ rfl;obtain ⟨cH3_5,fH3_5⟩:=H3.2 5 _ rfl;obtain ⟨cH4_0,fH4_0⟩:=H4.2 0 _ rfl;obtain ⟨cH4_1,fH4_1⟩:=H4.2 1 _ rfl;obtain ⟨cH4_2,fH4_2⟩:=H4.2 2 _ rfl;go_wp2_with (fail)
    refine (c3 _).mono ?_;rintro e w' ⟨rfl,rfl⟩;go_wp2_with (fail)
    refine (c4 _).mono ?_;rintro e w' ⟨rfl,rfl⟩;go_wp2
    refine bodyPost_ret (v:=.tuple #[.int .i64 (-1),.int .i64 (-1)]) (by simp [results,Tryz.results63,go_sem]) rfl ⟨by rw [hfin.out], ?_⟩;exact hbw2
   ·by_cases hj:j<0
    ·have hfin:Hid (Zz t s=(-1,-1)):=by have:=hfin2.out;rw [if_pos (.inr hj)] at this;exact this
     clear hfin2;go_enter Tryz.func63,Tryz.ntmps63
     go_wp2_with (fail)
     refine (c1 _ ((hs.alloc _).alloc _)).mono ?_;rintro e w1 ⟨rfl,hb1⟩;have H1:=HA.below hb1;have H2:=HB.below hb1;have hbw:=Xf (Xb (Xb (Below.refl w.heap.size w) _) _) hb1;obtain ⟨cH2_0,fH2_0⟩:=H2.2 0 _ rfl;obtain ⟨cH2_1,fH2_1⟩:=H2.2 1 _ rfl;obtain ⟨cH2_2,fH2_2⟩:=H2.2 2 _ rfl;go_wp2_with (fail)
     refine (c2 _).mono ?_;rintro e w2 ⟨rfl,hb2⟩;have H3:=H1.below hb2;have H4:=H2.below hb2;have hbw2:=Xf hbw hb2;clear cH2_0 cH2_1 cH2_2 fH2_0 fH2_1 fH2_2;obtain ⟨cH3_0,fH3_0⟩:=H3.2 0 _ rfl;obtain ⟨cH3_1,fH3_1⟩:=H3.2 1 _ rfl;obtain ⟨cH3_2,fH3_2⟩:=H3.2 2 _ rfl;obtain ⟨cH3_3,fH3_3⟩:=H3.2 3 _ rfl;obtain ⟨cH3_4,fH3_4⟩:=H3.2 4 _ rfl;obtain ⟨cH3_5,fH3_5⟩:=H3.2 5 _ rfl;obtain ⟨cH4_0,fH4_0⟩:=H4.2 0 _ rfl;obtain ⟨cH4_1,fH4_1⟩:=H4.2 1 _ rfl;obtain ⟨cH4_2,fH4_2⟩:=H4.2 2 _ rfl;go_wp2_with (fail)
     refine (c3 _).mono ?_;rintro e w' ⟨rfl,rfl⟩;go_wp2_with (fail)
     refine (c4 _).mono ?_;rintro e w' ⟨rfl,rfl⟩;go_wp2
     refine bodyPost_ret (v:=.tuple #[.int .i64 (-1),.int .i64 (-1)]) (by simp [results,Tryz.results63,go_sem]) rfl ⟨by rw [hfin.out], ?_⟩;exact hbw2
    ·have hfin:Hid (Zz t s=(i,j)):=by have:=hfin2.out;rw [if_neg Oz] at this;exact this
     clear hfin2;go_enter Tryz.func63,Tryz.ntmps63
     go_wp2_with (fail)
     refine (c1 _ ((hs.alloc _).alloc _)).mono ?_;rintro e w1 ⟨rfl,hb1⟩;have H1:=HA.below hb1;have H2:=HB.below hb1;have hbw:=Xf (Xb (Xb (Below.refl w.heap.size w) _) _) hb1;obtain ⟨cH2_0,fH2_0⟩:=H2.2 0 _ rfl;obtain ⟨cH2_1,fH2_1⟩:=H2.2 1 _ rfl;obtain ⟨cH2_2,fH2_2⟩:=H2.2 2 _ rfl;go_wp2_with (fail)
     refine (c2 _).mono ?_;rintro e w2 ⟨rfl,hb2⟩;have H3:=H1.below hb2;have H4:=H2.below hb2;have hbw2:=Xf hbw hb2;clear cH2_0 cH2_1 cH2_2 fH2_0 fH2_1 fH2_2;obtain ⟨cH3_0,fH3_0⟩:=H3.2 0 _ rfl;obtain ⟨cH3_1,fH3_1⟩:=H3.2 1 _ rfl;obtain ⟨cH3_2,fH3_2⟩:=H3.2 2 _ rfl;obtain ⟨cH3_3,fH3_3⟩:=H3.2 3 _ rfl;obtain ⟨cH3_4,fH3_4⟩:=H3.2 4 _ rfl;obtain ⟨cH3_5,fH3_5⟩:=H3.2 5 _ rfl;obtain ⟨cH4_0,fH4_0⟩:=H4.2 0 _ rfl;obtain ⟨cH4_1,fH4_1⟩:=H4.2 1 _ rfl;obtain ⟨cH4_2,fH4_2⟩:=H4.2 2 _ rfl;go_wp2_with (fail)
     refine (c3 _).mono ?_;rintro e w' ⟨rfl,rfl⟩;go_wp2_with (fail)
     refine (c4 _).mono ?_;rintro e w' ⟨rfl,rfl⟩;go_wp2
     refine bodyPost_ret (v:=.tuple #[.int .i64 i,.int .i64 j]) (by simp [results,Tryz.results63,go_sem]) rfl ⟨by rw [hfin.out], ?_⟩;exact hbw2
end Go.Proofs.YtbekjpkcicjcgaaGreat
