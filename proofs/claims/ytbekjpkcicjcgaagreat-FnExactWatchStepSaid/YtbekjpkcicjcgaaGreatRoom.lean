/-
 Valid matrices, rooms and modes: of the program and of the reference.
 Conditions: the slices hold at most 2^20 elements.
-/
import Derived.Test.YtbekjpkcicjcgaaGreatGrL
import Derived.Test.YtbekjpkcicjcgaaGreatGrN
set_option maxRecDepth 100000
namespace Go.Proofs.YtbekjpkcicjcgaaGreat
open Go.RowKit
def YC (m:List Int) (q:Int):Bool:=decide (m.length=4)&&ZL q 1 20&&m.all (λ x=>ZL x (-20) 20)
def det (m:List Int):Int:=m.getD 0 0*m.getD 3 0-m.getD 1 0*m.getD 2 0
def Kl (m:List Int) (q:Int):Bool:=YC m q&&det m != 0
def XM (r:XU):Bool:=Kl r.map r.div&&ZL r.bx (-100) 100&&ZL r.by_ (-100) 100&&(ZL r.low (-1000) 1000&&ZL r.high r.low 1000)&&(!decide (r.noise.length=0))&&(!decide (r.limits.length=0))&&Xb r.noise&&Xb r.limits
theorem map_no {xs:List Int} {k:Nat} (h:k<xs.length) (hb:ZL xs[k] (-20) 20=false):xs.all (λ x=>ZL x (-20) 20)=false:=by
 rw [List.all_eq_false];exact ⟨_,List.getElem_mem h,by rw [hb];decide⟩
theorem map_yes {xs:List Int} (h:∀ x∈xs.take xs.length,ZL x (-20) 20=true):xs.all (λ x=>ZL x (-20) 20)=true:=by
 rw [List.take_length] at h;rw [List.all_eq_true];exact h
theorem map_all {xs:List Int} {k:Nat} (h:k<xs.length) (h1:∀ x∈xs.take k,ZL x (-20) 20=true) (h2:ZL xs[k] (-20) 20=true):∀ x∈xs.take (k+1),ZL x (-20) 20=true:=by
 intro x hx;rw [Zj xs k h] at hx;simp only [List.mem_append,List.mem_singleton] at hx;rcases hx with hx|rfl
 ·exact h1 x hx
 ·exact h2
structure YJ (a:Yn):Prop where
 noise:a.noise.A=none->a.noise.c=0
 limits:a.limits.A=none->a.limits.c=0
theorem KF {m:List Int} {q:Int} (h:YC m q=true):∃ a b c d,m=[a,b,c,d]/\(-20<=a/\a<=20)/\(-20<=b/\b<=20)/\(-20<=c/\c<=20)/\(-20<=d/\d<=20):=by
 simp only [YC,Bool.and_eq_true,decide_eq_true_eq] at h;obtain ⟨⟨h1,_⟩,h2⟩:=h;match m,h1 with
 | [a,b,c,d],_ =>
  rw [List.all_eq_true] at h2;have f:∀ x∈[a,b,c,d],-20<=x/\x<=20:=λ x hx=>by
   have:=h2 x hx;simpa [ZL] using this
  exact ⟨a,b,c,d,rfl,f a Sz,f b Sz,f c Sz,f d Sz⟩
theorem Ke {a b:Int} (ha : -20<=a/\a<=20) (hb : -20<=b/\b<=20) : -400<=a*b/\a*b<=400:=by
 have p:=Zr (a:=a) (b:=b) (A:=20) (B:=20) ha hb;omega
theorem Yr.nil {w:World} {base:Nat} {x:XU} {a:Yn} (h:Yr w base x a):YJ a:=⟨h.noise.halves.nilcap,h.limits.halves.nilcap⟩
theorem iIsMap_c (A:Option Addr) (m:List Int) (cap:Nat) (q:Int) (w:World) (hl:m.length<=1048576) (hs:Sl 1 Zm w A m) :
 Calls Tryz.prog 93 #[.slice A m.length cap,.int .i64 q] w λ e w'=>e=.returned (.bool (YC m q))/\w=w':=by
 by_cases h4:m.length=4
 ·have h4':((m.length:Int) != 4)=false:=by simp [h4]
  cases hq:ZL q 1 20
  ·have h1:=Lib.hid (show YC m q=false by simp [YC,hq]);have cq:=λ W=>Zn q 1 20 W;rw [hq] at cq;clear h4;go_enter Tryz.func93,Tryz.ntmps93
   go_wp2_with (fail)
   refine (cq _).mono ?_;rintro e w' ⟨rfl,rfl⟩;go_wp2
   go_ret
   exact ⟨Xi h1.out.symm,rfl⟩
  ·have h1:=Lib.hid (show YC m q=m.all (λ x=>ZL x (-20) 20) by simp [YC,hq,h4]);have cq:=λ W=>Zn q 1 20 W;rw [hq] at cq;clear h4;go_enter Tryz.func93,Tryz.ntmps93
   go_wp2_with (fail)
   refine (cq _).mono ?_;rintro e w' ⟨rfl,rfl⟩;clear cq;go_wp2
   go_loopw [4,6,17] (λ v2 _ i wr=>∃ k:Nat,v2=.bool false/\k<=m.length/\i=.int .i64 k/\Hid (∀ x∈m.take k,ZL x (-20) 20=true)/\w=wr) (λ _ _ i _=>m.length-(intOf i).toNat)
   case atStart=>exact ⟨0,rfl,Nat.zero_le _,rfl,by simp [Hid],rfl⟩
   case round =>
    obtain ⟨k,rfl,hk,rfl,htk,h⟩:=hrel;obtain rfl:w=wr:=h;by_cases hlt:k<m.length
    ·obtain ⟨b,off,rfl,hblt,hc⟩:=hs.at_ hlt;have g0:=hc 0 _ rfl;simp only [Nat.add_zero,Nat.mul_one] at g0;have cx:=λ W=>Zn m[k] (-20) 20 W;have hbad:=Lib.hid (λ h=>@map_no m k hlt h);have hgood:=Lib.hid (λ h=>@map_all m k hlt htk.out h);have i1:(k:Int)<(m.length:Int):=Oz
     clear hc htk;generalize m[k]=x at *;cases hv:ZL x (-20) 20
     ·rw [hv] at cx;have h2:=Lib.hid (h1.out.trans (hbad.out hv));clear hbad hgood h1;go_wp2_with (fail)
      refine (cx _).mono ?_;rintro e w' ⟨rfl,rfl⟩;go_wp2
      go_ret
      exact ⟨Xi h2.out.symm,rfl⟩
     ·rw [hv] at cx;have h2:=Lib.hid (hgood.out hv);clear hbad hgood;go_wp2_with (fail)
      refine (cx _).mono ?_;rintro e w' ⟨rfl,rfl⟩;go_wp2
      go_roundw
      case rel=>exact ⟨k+1,rfl,by omega,by go_num,h2,trivial⟩
      case measure=>simp [intOf];omega
    ·obtain rfl:k=m.length:=Oz
     have h2:=Lib.hid (h1.out.trans (map_yes htk.out));clear htk h1;go_wp2
     go_ret
     exact ⟨Xi h2.out.symm,rfl⟩
 ·have h4':((m.length:Int) != 4)=true:=by simp;omega
  have h1:=Lib.hid (show YC m q=false by simp [YC,h4]);clear h4;go_enter Tryz.func93,Tryz.ntmps93
  go_wp2
  go_ret
  exact ⟨Xi h1.out.symm,rfl⟩
theorem KD (A:Option Addr) (m:List Int) (cap:Nat) (q:Int) (w:World) (hl:m.length<=1048576) (hs:Sl 1 Zm w A m) :
 Calls Tryz.prog 195 #[.slice A m.length cap,.int .i64 q] w λ e w'=>e=.returned (.bool (YC m q))/\w=w':=by
 by_cases h4:m.length=4
 ·have h4':((m.length:Int) != 4)=false:=by simp [h4]
  cases hq:ZL q 1 20
  ·have h1:=Lib.hid (show YC m q=false by simp [YC,hq]);have cq:=λ W=>XT q 1 20 W;rw [hq] at cq;clear h4;go_enter Tryz.func195,Tryz.ntmps195
   go_wp2_with (fail)
   refine (cq _).mono ?_;rintro e w' ⟨rfl,rfl⟩;go_wp2
   go_ret
   exact ⟨Xi h1.out.symm,rfl⟩
  ·have h1:=Lib.hid (show YC m q=m.all (λ x=>ZL x (-20) 20) by simp [YC,hq,h4]);have cq:=λ W=>XT q 1 20 W;rw [hq] at cq;clear h4;go_enter Tryz.func195,Tryz.ntmps195
   go_wp2_with (fail)
   refine (cq _).mono ?_;rintro e w' ⟨rfl,rfl⟩;clear cq;go_wp2
   go_loopw [4,6,17] (λ v2 _ i wr=>∃ k:Nat,v2=.bool false/\k<=m.length/\i=.int .i64 k/\Hid (∀ x∈m.take k,ZL x (-20) 20=true)/\w=wr) (λ _ _ i _=>m.length-(intOf i).toNat)
   case atStart=>exact ⟨0,rfl,Nat.zero_le _,rfl,by simp [Hid],rfl⟩
   case round =>
    obtain ⟨k,rfl,hk,rfl,htk,h⟩:=hrel;obtain rfl:w=wr:=h;by_cases hlt:k<m.length
    ·obtain ⟨b,off,rfl,hblt,hc⟩:=hs.at_ hlt;have g0:=hc 0 _ rfl;simp only [Nat.add_zero,Nat.mul_one] at g0;have cx:=λ W=>XT m[k] (-20) 20 W;have hbad:=Lib.hid (λ h=>@map_no m k hlt h);have hgood:=Lib.hid (λ h=>@map_all m k hlt htk.out h);have i1:(k:Int)<(m.length:Int):=Oz
     clear hc htk;generalize m[k]=x at *;cases hv:ZL x (-20) 20
     ·rw [hv] at cx;have h2:=Lib.hid (h1.out.trans (hbad.out hv));clear hbad hgood h1;go_wp2_with (fail)
      refine (cx _).mono ?_;rintro e w' ⟨rfl,rfl⟩;go_wp2
      go_ret
      exact ⟨Xi h2.out.symm,rfl⟩
     ·rw [hv] at cx;have h2:=Lib.hid (hgood.out hv);clear hbad hgood;go_wp2_with (fail)
      refine (cx _).mono ?_;rintro e w' ⟨rfl,rfl⟩;go_wp2
      go_roundw
      case rel=>exact ⟨k+1,rfl,by omega,by go_num,h2,trivial⟩
      case measure=>simp [intOf];omega
    ·obtain rfl:k=m.length:=Oz
     have h2:=Lib.hid (h1.out.trans (map_yes htk.out));clear htk h1;go_wp2
     go_ret
     exact ⟨Xi h2.out.symm,rfl⟩
 ·have h4':((m.length:Int) != 4)=true:=by simp;omega
  have h1:=Lib.hid (show YC m q=false by simp [YC,h4]);clear h4;go_enter Tryz.func195,Tryz.ntmps195
  go_wp2
  go_ret
  exact ⟨Xi h1.out.symm,rfl⟩
theorem iIsMap_v (A:Option Addr) (m:List Int) (cap:Nat) (q:Int) (v:Bool) (h:YC m q=v) (w:World) (hl:m.length<=1048576) (hs:Sl 1 Zm w A m) :
 Calls Tryz.prog 93 #[.slice A m.length cap,.int .i64 q] w λ e w'=>e=.returned (.bool v)/\w=w':=by
 subst h;exact iIsMap_c A m cap q w hl hs
theorem iTurn_c (A:Option Addr) (m:List Int) (cap:Nat) (q:Int) (w:World) (hl:m.length<=1048576) (hs:Sl 1 Zm w A m) :
 Calls Tryz.prog 36 #[.slice A m.length cap,.int .i64 q] w λ e w'=>e=.returned (.bool (Kl m q))/\Below w.heap.size w w':=by
 cases hm:YC m q
 ·have h1:=Lib.hid (show Kl m q=false by simp [Kl,hm]);go_enter Tryz.func36,Tryz.ntmps36
  go_upto_region 1 with fail
  go_big_quiet ((go_at_call 93;exact Yb (iIsMap_v A m cap q _ hm _ hl hs)))
  go_wp2
  go_ret
  refine ⟨Xi h1.out.symm, ?_⟩;exact Xl
 ·have h1:=Lib.hid (show Kl m q=(det m != 0) by simp [Kl,hm]);obtain ⟨x,y,z,t,rfl,hx,hy,hz,ht⟩:=KF hm;have p1:=Ke hx ht;have p2:=Ke hy hz;have hd:=Lib.hid (show det [x,y,z,t]=x*t-y*z from rfl);obtain ⟨b,off,rfl,hblt,hc⟩:=hs.at_ (k:=0) Sz;have hcs:=hs;obtain ⟨b',off',e,_,hc⟩:=hs Sz;injection e with e;injection e with e1 e2;subst e1;subst e2
  have g0:=hc 0 (by simp) 0 _ rfl;have g1:=hc 1 (by simp) 0 _ rfl;have g2:=hc 2 (by simp) 0 _ rfl;have g3:=hc 3 (by simp) 0 _ rfl;simp only [Nat.zero_mul,Nat.one_mul,Nat.add_zero] at g0 g1 g2 g3;clear hc;go_enter Tryz.func36,Tryz.ntmps36
  go_upto_region 1 with fail
  go_big_quiet ((go_at_call 93;exact Yb (iIsMap_v (some ⟨b,off,none⟩) [x,y,z,t] cap q _ hm _ hl hs)))
  go_wp2
  go_ret
  refine ⟨Xi (by rw [h1.out,hd.out]), ?_⟩;exact Xl
theorem iDrive_c (n:Int) (w:World) :
 Calls Tryz.prog 37 #[.int .i64 n] w λ e w'=>e=.returned (.bool (ZL n (-100) 100))/\w=w':=by
 go_enter Tryz.func37,Tryz.ntmps37
 go_wp2_with (fail)
 refine (Zn _ _ _ _).mono ?_;rintro e w' ⟨rfl,rfl⟩;go_wp2
 go_ret
 exact ⟨rfl,rfl⟩
theorem iRange_c (a b:Int) (w:World) :
 Calls Tryz.prog 38 #[.int .i64 a,.int .i64 b] w λ e w'=>e=.returned (.bool (ZL a (-1000) 1000&&ZL b a 1000))/\w=w':=by
 have key:Hid ((ZL a (-1000) 1000&&ZL b a 1000)=(decide (-1000<=a)&&(decide (a<=b)&&decide (b<=1000)))):=by
  show _=_;rw [Bool.eq_iff_iff];simp only [ZL,Bool.and_eq_true,decide_eq_true_eq];omega
 by_cases h1 : -1000<=a
 ·by_cases h2:a<=b
  ·by_cases h3:b<=1000
   ·go_enter Tryz.func38,Tryz.ntmps38
    go_wp2
    go_ret
    exact ⟨Xi (by rw [key.out,decide_eq_true h1,decide_eq_true h2,decide_eq_true h3];rfl),rfl⟩
   ·have h3':1000<b:=Oz
    go_enter Tryz.func38,Tryz.ntmps38
    go_wp2
    go_ret
    exact ⟨Xi (by rw [key.out,decide_eq_false (by omega:¬ b<=1000)];simp),rfl⟩
  ·have h2':b<a:=Oz
   go_enter Tryz.func38,Tryz.ntmps38
   go_wp2
   go_ret
   exact ⟨Xi (by rw [key.out,decide_eq_false (by omega:¬ a<=b)];simp),rfl⟩
 ·have h1':a < -1000:=Oz
  go_enter Tryz.func38,Tryz.ntmps38
  go_wp2
  go_ret
  exact ⟨Xi (by rw [key.out,decide_eq_false (by omega:¬ -1000<=a)];simp),rfl⟩
set_option maxHeartbeats 60000000 in
theorem iRoomOk_c (x:XU) (a:Yn) (w:World) (hn:Xy x<=1048576) (hin:Zh x) (hs:Ym w x a) (hnl:YJ a) :
 Calls Tryz.prog 7 #[Ya x a] w λ e w'=>e=.returned (.bool (XM x))/\Below w.heap.size w w':=by
 obtain ⟨map,div,bx,by_,low,high,noise,limits⟩:=x;simp only [Xy] at hn;obtain ⟨hm,hno,hli⟩:=hs;obtain ⟨hno⟩:=hno;obtain ⟨hli⟩:=hli;obtain ⟨_,_,_,_,_,_,⟨inn⟩,⟨inl⟩⟩:=hin;obtain ⟨nn,nl⟩:=hnl;obtain ⟨⟨mA,mc⟩,⟨nA,nc⟩,⟨lA,lc⟩⟩:=a;simp only at hm hno hli inn inl nn nl hn;have c0:=λ W h=>iTurn_c mA map mc div W Oz h;have c1:=λ W=>iDrive_c bx W;have c2:=λ W=>iDrive_c by_ W;have c3:=λ W=>iRange_c low high W;have c4:=λ W=>KJ noise ⟨nA,nc⟩ W;have c5:=λ W=>KJ limits ⟨lA,lc⟩ W;have c6:=λ W h=>iRegionOk_c noise ⟨nA,nc⟩ W Oz inn h nn;have c7:=λ W h=>iRegionOk_c limits ⟨lA,lc⟩ W Oz inl h nl;clear inn inl nn nl;cases e0:Kl map div
 ·rw [e0] at c0;replace e0:=Lib.hid e0;go_enter Tryz.func7,Tryz.ntmps7
  go_wp2_with (fail)
  refine (c0 _ (Sl.below hm (by exact Xl))).mono ?_;rintro e w0 ⟨rfl,hb0⟩;have r0:=Xh hb0;have l0_0:w.heap.size<w0.heap.size:=Xo hb0;go_wp2
  go_ret
  refine ⟨Xi (by simp only [XM,e0.out];rfl), ?_⟩;exact Xl
 ·rw [e0] at c0;replace e0:=Lib.hid e0;cases e1:ZL bx (-100) 100
  ·rw [e1] at c1;replace e1:=Lib.hid e1;go_enter Tryz.func7,Tryz.ntmps7
   go_wp2_with (fail)
   refine (c0 _ (Sl.below hm (by exact Xl))).mono ?_;rintro e w0 ⟨rfl,hb0⟩;have r0:=Xh hb0;have l0_0:w.heap.size<w0.heap.size:=Xo hb0;go_wp2_with (fail)
   refine (c1 _).mono ?_;rintro e w' ⟨rfl,rfl⟩;go_wp2
   go_ret
   refine ⟨Xi (by simp only [XM,e0.out,e1.out];rfl), ?_⟩;exact Xl
  ·rw [e1] at c1;replace e1:=Lib.hid e1;cases e2:ZL by_ (-100) 100
   ·rw [e2] at c2;replace e2:=Lib.hid e2;go_enter Tryz.func7,Tryz.ntmps7
    go_wp2_with (fail)
    refine (c0 _ (Sl.below hm (by exact Xl))).mono ?_;rintro e w0 ⟨rfl,hb0⟩;have r0:=Xh hb0;have l0_0:w.heap.size<w0.heap.size:=Xo hb0;go_wp2_with (fail)
    refine (c1 _).mono ?_;rintro e w' ⟨rfl,rfl⟩;go_wp2_with (fail)
    refine (c2 _).mono ?_;rintro e w' ⟨rfl,rfl⟩;go_wp2
    go_ret
    refine ⟨Xi (by simp only [XM,e0.out,e1.out,e2.out];rfl), ?_⟩;exact Xl
   ·rw [e2] at c2;replace e2:=Lib.hid e2;cases e3:(ZL low (-1000) 1000&&ZL high low 1000)
    ·rw [e3] at c3;replace e3:=Lib.hid e3;go_enter Tryz.func7,Tryz.ntmps7
     go_wp2_with (fail)
     refine (c0 _ (Sl.below hm (by exact Xl))).mono ?_;rintro e w0 ⟨rfl,hb0⟩;have r0:=Xh hb0;have l0_0:w.heap.size<w0.heap.size:=Xo hb0;go_wp2_with (fail)
     refine (c1 _).mono ?_;rintro e w' ⟨rfl,rfl⟩;go_wp2_with (fail)
     refine (c2 _).mono ?_;rintro e w' ⟨rfl,rfl⟩;go_wp2_with (fail)
     refine (c3 _).mono ?_;rintro e w' ⟨rfl,rfl⟩;go_wp2
     go_ret
     refine ⟨Xi (by simp only [XM,e0.out,e1.out,e2.out,e3.out];rfl), ?_⟩;exact Xl
    ·rw [e3] at c3;replace e3:=Lib.hid e3;cases e4:decide (List.length noise=0)
     ·rw [e4] at c4;replace e4:=Lib.hid e4;cases e5:decide (List.length limits=0)
      ·rw [e5] at c5;replace e5:=Lib.hid e5;cases e6:Xb noise
       ·rw [e6] at c6;replace e6:=Lib.hid e6;go_enter Tryz.func7,Tryz.ntmps7
        go_wp2_with (fail)
        refine (c0 _ (Sl.below hm (by exact Xl))).mono ?_;rintro e w0 ⟨rfl,hb0⟩;have r0:=Xh hb0;have l0_0:w.heap.size<w0.heap.size:=Xo hb0;go_wp2_with (fail)
        refine (c1 _).mono ?_;rintro e w' ⟨rfl,rfl⟩;go_wp2_with (fail)
        refine (c2 _).mono ?_;rintro e w' ⟨rfl,rfl⟩;go_wp2_with (fail)
        refine (c3 _).mono ?_;rintro e w' ⟨rfl,rfl⟩;go_wp2_with (fail)
        refine (c4 _).mono ?_;rintro e w4 ⟨rfl,hb4⟩;have r4:=Xh hb4;have l4_0:w.heap.size<w4.heap.size:=Xo hb4;go_wp2_with (fail)
        refine (c5 _).mono ?_;rintro e w5 ⟨rfl,hb5⟩;have r5:=Xh hb5;have l5_0:w.heap.size<w5.heap.size:=Xo hb5;go_wp2_with (fail)
        refine (c6 _ (Sl.below hno (by exact Xl))).mono ?_;rintro e w6 ⟨rfl,hb6⟩;have r6:=Xh hb6;have l6_0:w.heap.size<w6.heap.size:=Xo hb6;go_wp2
        go_ret
        refine ⟨Xi (by simp only [XM,e0.out,e1.out,e2.out,e3.out,e4.out,e5.out,e6.out];rfl), ?_⟩;exact Xl
       ·rw [e6] at c6;replace e6:=Lib.hid e6;cases e7:Xb limits
        ·rw [e7] at c7;replace e7:=Lib.hid e7;go_enter Tryz.func7,Tryz.ntmps7
         go_wp2_with (fail)
         refine (c0 _ (Sl.below hm (by exact Xl))).mono ?_;rintro e w0 ⟨rfl,hb0⟩;have r0:=Xh hb0;have l0_0:w.heap.size<w0.heap.size:=Xo hb0;go_wp2_with (fail)
         refine (c1 _).mono ?_;rintro e w' ⟨rfl,rfl⟩;go_wp2_with (fail)
         refine (c2 _).mono ?_;rintro e w' ⟨rfl,rfl⟩;go_wp2_with (fail)
         refine (c3 _).mono ?_;rintro e w' ⟨rfl,rfl⟩;go_wp2_with (fail)
         refine (c4 _).mono ?_;rintro e w4 ⟨rfl,hb4⟩;have r4:=Xh hb4;have l4_0:w.heap.size<w4.heap.size:=Xo hb4;go_wp2_with (fail)
         refine (c5 _).mono ?_;rintro e w5 ⟨rfl,hb5⟩;have r5:=Xh hb5;have l5_0:w.heap.size<w5.heap.size:=Xo hb5;go_wp2_with (fail)
         refine (c6 _ (Sl.below hno (by exact Xl))).mono ?_;rintro e w6 ⟨rfl,hb6⟩;have r6:=Xh hb6;have l6_0:w.heap.size<w6.heap.size:=Xo hb6;go_wp2_with (fail)
         refine (c7 _ (Sl.below hli (by exact Xl))).mono ?_;rintro e w7 ⟨rfl,hb7⟩;have r7:=Xh hb7;have l7_0:w.heap.size<w7.heap.size:=Xo hb7;go_wp2
         go_ret
         refine ⟨Xi (by simp only [XM,e0.out,e1.out,e2.out,e3.out,e4.out,e5.out,e6.out,e7.out];rfl), ?_⟩;exact Xl
        ·rw [e7] at c7;replace e7:=Lib.hid e7;go_enter Tryz.func7,Tryz.ntmps7
         go_wp2_with (fail)
         refine (c0 _ (Sl.below hm (by exact Xl))).mono ?_;rintro e w0 ⟨rfl,hb0⟩;have r0:=Xh hb0;have l0_0:w.heap.size<w0.heap.size:=Xo hb0;go_wp2_with (fail)
         refine (c1 _).mono ?_;rintro e w' ⟨rfl,rfl⟩;go_wp2_with (fail)
         refine (c2 _).mono ?_;rintro e w' ⟨rfl,rfl⟩;go_wp2_with (fail)
         refine (c3 _).mono ?_;rintro e w' ⟨rfl,rfl⟩;go_wp2_with (fail)
         refine (c4 _).mono ?_;rintro e w4 ⟨rfl,hb4⟩;have r4:=Xh hb4;have l4_0:w.heap.size<w4.heap.size:=Xo hb4;go_wp2_with (fail)
         refine (c5 _).mono ?_;rintro e w5 ⟨rfl,hb5⟩;have r5:=Xh hb5;have l5_0:w.heap.size<w5.heap.size:=Xo hb5;go_wp2_with (fail)
         refine (c6 _ (Sl.below hno (by exact Xl))).mono ?_;rintro e w6 ⟨rfl,hb6⟩;have r6:=Xh hb6;have l6_0:w.heap.size<w6.heap.size:=Xo hb6;go_wp2_with (fail)
         refine (c7 _ (Sl.below hli (by exact Xl))).mono ?_;rintro e w7 ⟨rfl,hb7⟩;have r7:=Xh hb7;have l7_0:w.heap.size<w7.heap.size:=Xo hb7;go_wp2
         go_ret
         refine ⟨Xi (by simp only [XM,e0.out,e1.out,e2.out,e3.out,e4.out,e5.out,e6.out,e7.out];rfl), ?_⟩;exact Xl
      ·rw [e5] at c5;replace e5:=Lib.hid e5;go_enter Tryz.func7,Tryz.ntmps7
       go_wp2_with (fail)
       refine (c0 _ (Sl.below hm (by exact Xl))).mono ?_;rintro e w0 ⟨rfl,hb0⟩;have r0:=Xh hb0;have l0_0:w.heap.size<w0.heap.size:=Xo hb0;go_wp2_with (fail)
       refine (c1 _).mono ?_;rintro e w' ⟨rfl,rfl⟩;go_wp2_with (fail)
       refine (c2 _).mono ?_;rintro e w' ⟨rfl,rfl⟩;go_wp2_with (fail)
       refine (c3 _).mono ?_;rintro e w' ⟨rfl,rfl⟩;go_wp2_with (fail)
       refine (c4 _).mono ?_;rintro e w4 ⟨rfl,hb4⟩;have r4:=Xh hb4;have l4_0:w.heap.size<w4.heap.size:=Xo hb4;go_wp2_with (fail)
       refine (c5 _).mono ?_;rintro e w5 ⟨rfl,hb5⟩;have r5:=Xh hb5;have l5_0:w.heap.size<w5.heap.size:=Xo hb5;go_wp2
       go_ret
       refine ⟨Xi (by simp only [XM,e0.out,e1.out,e2.out,e3.out,e4.out,e5.out];rfl), ?_⟩;exact Xl
     ·rw [e4] at c4;replace e4:=Lib.hid e4;go_enter Tryz.func7,Tryz.ntmps7
      go_wp2_with (fail)
      refine (c0 _ (Sl.below hm (by exact Xl))).mono ?_;rintro e w0 ⟨rfl,hb0⟩;have r0:=Xh hb0;have l0_0:w.heap.size<w0.heap.size:=Xo hb0;go_wp2_with (fail)
      refine (c1 _).mono ?_;rintro e w' ⟨rfl,rfl⟩;go_wp2_with (fail)
      refine (c2 _).mono ?_;rintro e w' ⟨rfl,rfl⟩;go_wp2_with (fail)
      refine (c3 _).mono ?_;rintro e w' ⟨rfl,rfl⟩;go_wp2_with (fail)
      refine (c4 _).mono ?_;rintro e w4 ⟨rfl,hb4⟩;have r4:=Xh hb4;have l4_0:w.heap.size<w4.heap.size:=Xo hb4;go_wp2
      go_ret
      refine ⟨Xi (by simp only [XM,e0.out,e1.out,e2.out,e3.out,e4.out];rfl), ?_⟩;exact Xl
end Go.Proofs.YtbekjpkcicjcgaaGreat
