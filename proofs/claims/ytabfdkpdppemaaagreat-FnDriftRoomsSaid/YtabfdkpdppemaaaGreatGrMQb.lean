/-
 Equality of slices, regions, rooms and watches: of the program and of the reference.
 Conditions: the slices hold at most 2^20 elements.
-/
import Derived.Test.YtabfdkpdppemaaaGreatGrM
set_option maxHeartbeats 2000000
namespace Go.Proofs.YtabfdkpdppemaaaGreat
open Go.RowKit
theorem eqInts_q (A B:Option Addr) (xs ys:List Int) (c d:Nat) (w:World) (hx:xs.length<=1048576) (_:ys.length<=1048576) (ha:Sl 1 JA w A xs) (hb:Sl 1 JA w B ys) :
 Calls Tryz.prog 103 #[.slice A xs.length c,.slice B ys.length d] w λ e w'=>e=.returned (.bool (eqB xs ys))/\∃ n,w'=w.drewN n:=by
 by_cases hl:xs.length=ys.length
 ·have hfin:=λ h=>Lib.hid (eqB_yes (xs:=xs) (ys:=ys) hl h);have hno:=λ k h1 h2 h=>Lib.hid (@eqB_no Int _ xs ys k h1 h2 h);have HL:=Lib.hid hl;have i0:((xs.length:Int) != (ys.length:Int))=false:=by simp [hl]
  clear hl;have hfin2:=Lib.hid hfin;have hno2:=Lib.hid hno;clear hfin hno;go_enter Tryz.func103,Tryz.ntmps103
  go_wp2
  go_loopw [5,13] (λ x i wr=>∃ k:Nat,k<=xs.length/\i=.int .i64 k/\Hid (xs.take k=ys.take k)/\KZ w wr) (λ _ i _=>xs.length-(intOf i).toNat)
  case atStart=>exact ⟨0,Nat.zero_le _,rfl,by simp [Hid],KZ.refl _⟩
  case round =>
   obtain ⟨k,hk,rfl,htk,hd⟩:=hrel;by_cases hlt:k<xs.length
   ·have hlt2:k<ys.length:=by have:=HL.out;omega
    obtain ⟨b,off,rfl,hblt,hc⟩:=(ha.drawn hd).at_ hlt;obtain ⟨b',off',rfl,hblt',hc'⟩:=(hb.drawn hd).at_ hlt2;have g0:=hc 0 _ rfl;have g1:=hc' 0 _ rfl;clear hc hc';simp only [Nat.mul_one,Nat.add_zero] at g0 g1;have i1:(0:Int)<=(k:Int):=by omega
    have i2:(k:Int)<(xs.length:Int):=by omega
    have i3:(k:Int)<(ys.length:Int):=by omega
    by_cases he:xs[k]=ys[k]
    ·have hst:=Lib.hid (take_step hlt hlt2 htk.out he);have q:(xs[k] != ys[k])=false:=by simp [he]
     clear he htk;go_wp2
     go_quiet (fail)
     go_wp2
     go_roundw
     case rel=>exact ⟨k+1,by omega,by go_num,hst,KZ.drewN hd _⟩
     case measure=>simp [intOf];omega
    ·have hst:=hno2.out k hlt hlt2 he;have q:(xs[k] != ys[k])=true:=by simp [he]
     clear he htk;go_wp2
     go_quiet (fail)
     go_wp2
     refine bodyPost_ret (v:=.bool false) (by simp [results,Tryz.results103,go_sem]) rfl ⟨by rw [hst.out], ?_⟩;exact (KZ.drewN hd _).out
   ·obtain rfl:k=xs.length:=by omega
    have hst:=hfin2.out htk.out;clear htk;go_wp2
    go_ret
    exact ⟨Xg hst.out.symm,hd.out⟩
 ·have hst:=Lib.hid (eqB_len hl);have i0:((xs.length:Int) != (ys.length:Int))=true:=by simp;omega
  go_enter Tryz.func103,Tryz.ntmps103
  go_wp2
  go_ret
  exact ⟨Xg hst.out.symm,0,rfl⟩
def ZD (x y:XH):Bool:=eqB x.map y.map&&x.div == y.div&&x.bx == y.bx&&x.by_ == y.by_&&x.low == y.low&&x.high == y.high&&eqB x.noise y.noise&&eqB x.limits y.limits
theorem ne_of_bne {a b:Int} (h:(a != b)=true):(a == b)=false:=by simpa using h
theorem X3 {a b:Int} (h:(a != b)=false):(a == b)=true:=by simpa using h
set_option maxRecDepth 100000 in
theorem iSameRooms_c (x y:XH) (a b:Y7) (w:World) (hx:ZF x<=1048576) (hy:ZF y<=1048576) (ha:Ke w x a) (hb:Ke w y b) :
 Calls Tryz.prog 48 #[Ye x a,Ye y b] w λ e w'=>e=.returned (.bool (ZD x y))/\Below w.heap.size w w':=by
 simp only [ZF] at hx hy;have c0:=λ W h1 h2=>eqInts_q a.map.A b.map.A x.map y.map a.map.c b.map.c W (by omega) (by omega) h1 h2;have c6:=λ W h1 h2=>J9 x.noise y.noise a.noise b.noise W (by omega) (by omega) h1 h2;have c7:=λ W h1 h2=>J9 x.limits y.limits a.limits b.limits W (by omega) (by omega) h1 h2;cases e0:eqB x.map y.map
 ·rw [e0] at c0;go_enter Tryz.func48,Tryz.ntmps48
  go_wp2_with (fail)
  refine (c0 _ (Sl.below ha.map (by exact Xi)) (Sl.below hb.map (by exact Xi))).mono ?_;rintro e w' ⟨rfl,nd0,rfl⟩;go_wp2
  go_ret
  refine ⟨Xg (by simp [ZD,e0]), ?_⟩;exact Xi
 ·rw [e0] at c0;cases e1:(x.div != y.div)
  ·cases e2:(x.bx != y.bx)
   ·cases e3:(x.by_ != y.by_)
    ·cases e4:(x.low != y.low)
     ·cases e5:(x.high != y.high)
      ·cases e6:eqB x.noise y.noise
       ·rw [e6] at c6;go_enter Tryz.func48,Tryz.ntmps48
        go_wp2_with (fail)
        refine (c0 _ (Sl.below ha.map (by exact Xi)) (Sl.below hb.map (by exact Xi))).mono ?_;rintro e w' ⟨rfl,nd0,rfl⟩;go_wp2_with (fail)
        refine (c6 _ (Sl.below ha.noise.halves (by exact Xi)) (Sl.below hb.noise.halves (by exact Xi))).mono ?_;rintro e w6 ⟨rfl,hb6⟩;have r6:=Xo hb6;have l6_0:w.heap.size<w6.heap.size:=Xw hb6;have l6_1:w.heap.size+1<w6.heap.size:=Xw hb6;go_wp2
        go_ret
        refine ⟨Xg (by simp [ZD,e0,X3 e1,X3 e2,X3 e3,X3 e4,X3 e5,e6]), ?_⟩;exact Xi
       ·rw [e6] at c6;cases e7:eqB x.limits y.limits
        ·rw [e7] at c7;go_enter Tryz.func48,Tryz.ntmps48
         go_wp2_with (fail)
         refine (c0 _ (Sl.below ha.map (by exact Xi)) (Sl.below hb.map (by exact Xi))).mono ?_;rintro e w' ⟨rfl,nd0,rfl⟩;go_wp2_with (fail)
         refine (c6 _ (Sl.below ha.noise.halves (by exact Xi)) (Sl.below hb.noise.halves (by exact Xi))).mono ?_;rintro e w6 ⟨rfl,hb6⟩;have r6:=Xo hb6;have l6_0:w.heap.size<w6.heap.size:=Xw hb6;have l6_1:w.heap.size+1<w6.heap.size:=Xw hb6;go_wp2_with (fail)
         refine (c7 _ (Sl.below ha.limits.halves (by exact Xi)) (Sl.below hb.limits.halves (by exact Xi))).mono ?_;rintro e w7 ⟨rfl,hb7⟩;have r7:=Xo hb7;have l7_0:w.heap.size<w7.heap.size:=Xw hb7;have l7_1:w.heap.size+1<w7.heap.size:=Xw hb7;go_wp2
         go_ret
         refine ⟨Xg (by simp [ZD,e0,X3 e1,X3 e2,X3 e3,X3 e4,X3 e5,e6,e7]), ?_⟩;exact Xi
        ·rw [e7] at c7;go_enter Tryz.func48,Tryz.ntmps48
         go_wp2_with (fail)
         refine (c0 _ (Sl.below ha.map (by exact Xi)) (Sl.below hb.map (by exact Xi))).mono ?_;rintro e w' ⟨rfl,nd0,rfl⟩;go_wp2_with (fail)
         refine (c6 _ (Sl.below ha.noise.halves (by exact Xi)) (Sl.below hb.noise.halves (by exact Xi))).mono ?_;rintro e w6 ⟨rfl,hb6⟩;have r6:=Xo hb6;have l6_0:w.heap.size<w6.heap.size:=Xw hb6;have l6_1:w.heap.size+1<w6.heap.size:=Xw hb6;go_wp2_with (fail)
         refine (c7 _ (Sl.below ha.limits.halves (by exact Xi)) (Sl.below hb.limits.halves (by exact Xi))).mono ?_;rintro e w7 ⟨rfl,hb7⟩;have r7:=Xo hb7;have l7_0:w.heap.size<w7.heap.size:=Xw hb7;have l7_1:w.heap.size+1<w7.heap.size:=Xw hb7;go_wp2
         go_ret
         refine ⟨Xg (by simp [ZD,e0,X3 e1,X3 e2,X3 e3,X3 e4,X3 e5,e6,e7]), ?_⟩;exact Xi
      ·go_enter Tryz.func48,Tryz.ntmps48
       go_wp2_with (fail)
       refine (c0 _ (Sl.below ha.map (by exact Xi)) (Sl.below hb.map (by exact Xi))).mono ?_;rintro e w' ⟨rfl,nd0,rfl⟩;go_wp2
       go_ret
       refine ⟨Xg (by simp [ZD,e0,X3 e1,X3 e2,X3 e3,X3 e4,ne_of_bne e5]), ?_⟩;exact Xi
     ·go_enter Tryz.func48,Tryz.ntmps48
      go_wp2_with (fail)
      refine (c0 _ (Sl.below ha.map (by exact Xi)) (Sl.below hb.map (by exact Xi))).mono ?_;rintro e w' ⟨rfl,nd0,rfl⟩;go_wp2
      go_ret
      refine ⟨Xg (by simp [ZD,e0,X3 e1,X3 e2,X3 e3,ne_of_bne e4]), ?_⟩;exact Xi
    ·go_enter Tryz.func48,Tryz.ntmps48
     go_wp2_with (fail)
     refine (c0 _ (Sl.below ha.map (by exact Xi)) (Sl.below hb.map (by exact Xi))).mono ?_;rintro e w' ⟨rfl,nd0,rfl⟩;go_wp2
     go_ret
     refine ⟨Xg (by simp [ZD,e0,X3 e1,X3 e2,ne_of_bne e3]), ?_⟩;exact Xi
   ·go_enter Tryz.func48,Tryz.ntmps48
    go_wp2_with (fail)
    refine (c0 _ (Sl.below ha.map (by exact Xi)) (Sl.below hb.map (by exact Xi))).mono ?_;rintro e w' ⟨rfl,nd0,rfl⟩;go_wp2
    go_ret
    refine ⟨Xg (by simp [ZD,e0,X3 e1,ne_of_bne e2]), ?_⟩;exact Xi
  ·go_enter Tryz.func48,Tryz.ntmps48
   go_wp2_with (fail)
   refine (c0 _ (Sl.below ha.map (by exact Xi)) (Sl.below hb.map (by exact Xi))).mono ?_;rintro e w' ⟨rfl,nd0,rfl⟩;go_wp2
   go_ret
   refine ⟨Xg (by simp [ZD,e0,ne_of_bne e1]), ?_⟩;exact Xi
end Go.Proofs.YtabfdkpdppemaaaGreat
