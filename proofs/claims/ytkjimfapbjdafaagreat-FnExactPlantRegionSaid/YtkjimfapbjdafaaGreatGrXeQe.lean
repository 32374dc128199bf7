/-
 Valid modes: of the program and of the reference.
 Conditions: the slices hold at most 2^20 elements.
-/
import Derived.RegionTactic
import Derived.ChangeAlike
import Derived.Deep.DeepCutAuto
import Derived.Deep.RegionHeld3
import Derived.Test.YtkjimfapbjdafaaGreatGrAQe
import Derived.ProofKit
import Derived.OpenShut
import Derived.ChangeOld
import Derived.Below
set_option maxHeartbeats 4000000
set_option maxRecDepth 100000
namespace Go.Proofs.YtkjimfapbjdafaaGreat
open Go.RowKit
def modeIn (x:X3) (m:KB):Bool:=ZD m.low x.low x.high&&ZD m.high m.low x.high
def Zd (x:X3) (ms:List KB):Bool:=ZD ms.length 1 4&&ms.all (modeIn x)&&Xw x
theorem modes_no {x:X3} {xs:List KB} {k:Nat} (h:k<xs.length) (hb:modeIn x xs[k]=false):xs.all (modeIn x)=false:=by
 rw [List.all_eq_false];exact ⟨_,List.getElem_mem h,by rw [hb];decide⟩
theorem modes_yes {x:X3} {xs:List KB} (h:∀ y∈xs.take xs.length,modeIn x y=true):xs.all (modeIn x)=true:=by
 rw [List.take_length] at h;rw [List.all_eq_true];exact h
theorem modes_all {x:X3} {xs:List KB} {k:Nat} (h:k<xs.length) (h1:∀ y∈xs.take k,modeIn x y=true) (h2:modeIn x xs[k]=true):∀ y∈xs.take (k+1),modeIn x y=true:=by
 intro y hy;rw [Kn xs k h] at hy;simp only [List.mem_append,List.mem_singleton] at hy;rcases hy with hy|rfl
 ·exact h1 y hy
 ·exact h2
theorem modeIn_iff {x:X3} {m:KB}:modeIn x m=true ↔ x.low<=m.low/\m.low<=m.high/\m.high<=x.high:=by
 simp only [modeIn,ZD,Bool.and_eq_true,decide_eq_true_eq];omega
theorem iModesOk_c (x:X3) (a:YO) (M:Option Addr) (ms:List KB) (mc:Nat) (w:World) (hn:Xs x<=1048576) (hin:Zu x) (hl:ms.length<=1048576) (hs:YH w x a) (hnl:Zk a) (hm:Sl 2 Jj w M ms) :
 Calls Tryz.prog 88 #[XN x a,.slice M ms.length mc] w λ e w'=>e=.returned (.bool (Zd x ms))/\Below w.heap.size w w':=by
 have hdef:=Lib.hid (show Zd x ms=(ZD ms.length 1 4&&ms.all (modeIn x)&&Xw x) from rfl);have c0:=λ W=>Zj ms.length 1 4 W;have cR:=λ W h=>iRoomOk_c x a W hn hin h hnl;cases e0:ZD ms.length 1 4
 ·rw [e0] at c0;have h1:=Lib.hid (show Zd x ms=false by rw [hdef.out,e0];rfl);clear hdef cR;go_enter Tryz.func88,Tryz.ntmps88
  go_wp2_with (fail)
  refine (c0 _).mono ?_;rintro e w' ⟨rfl,rfl⟩;go_wp2
  go_ret
  refine ⟨Xx h1.out.symm, ?_⟩;exact XA
 ·rw [e0] at c0;rw [e0] at hdef;have H0:YI (w.alloc (.cells #[.slice a.map.A (List.length x.map) a.map.c,.int .i64 x.div,.int .i64 x.bx,.int .i64 x.by_,.int .i64 x.low,.int .i64 x.high,.slice a.noise.A (List.length x.noise) a.noise.c,.slice a.limits.A (List.length x.limits) a.limits.c] 39)) w.heap.size [.slice a.map.A (List.length x.map) a.map.c,.int .i64 x.div,.int .i64 x.bx,.int .i64 x.by_,.int .i64 x.low,.int .i64 x.high,.slice a.noise.A (List.length x.noise) a.noise.c,.slice a.limits.A (List.length x.limits) a.limits.c]:=by
   exact Zp
  have b0:Below w.heap.size w (w.alloc (.cells #[.slice a.map.A (List.length x.map) a.map.c,.int .i64 x.div,.int .i64 x.bx,.int .i64 x.by_,.int .i64 x.low,.int .i64 x.high,.slice a.noise.A (List.length x.noise) a.noise.c,.slice a.limits.A (List.length x.limits) a.limits.c] 39)):=by
   exact XA
  have hs0:=hs.below b0;have hm0:=hm.below b0;clear e0 hin;go_enter Tryz.func88,Tryz.ntmps88
  go_wp2_with (fail)
  refine (c0 _).mono ?_;rintro e w' ⟨rfl,rfl⟩;clear c0;go_upto_region 3 with fail
  generalize w.alloc (.cells #[.slice a.map.A (List.length x.map) a.map.c,.int .i64 x.div,.int .i64 x.bx,.int .i64 x.by_,.int .i64 x.low,.int .i64 x.high,.slice a.noise.A (List.length x.noise) a.noise.c,.slice a.limits.A (List.length x.limits) a.limits.c] 39)=w0 at *;go_wp2
  go_loopw [4,6,13] (λ v2 _ i wr=>∃ k:Nat,v2=.bool false/\k<=ms.length/\i=.int .i64 k/\Hid (∀ y∈ms.take k,modeIn x y=true)/\Below w0.heap.size w0 wr) (λ _ _ i _=>ms.length-(intOf i).toNat)
  case atStart=>exact ⟨0,rfl,Nat.zero_le _,rfl,by simp [Hid],Below.refl _ _⟩
  case round =>
   obtain ⟨k,rfl,hk,rfl,htk,hbr⟩:=hrel;have H1:=H0.below hbr;have b1:=Xn b0 hbr;have hs1:=hs0.below hbr;have l1:=H1.1;obtain ⟨cH1_0,fH1_0⟩:=H1.2 0 _ rfl;obtain ⟨cH1_1,fH1_1⟩:=H1.2 1 _ rfl;obtain ⟨cH1_2,fH1_2⟩:=H1.2 2 _ rfl;obtain ⟨cH1_3,fH1_3⟩:=H1.2 3 _ rfl;obtain ⟨cH1_4,fH1_4⟩:=H1.2 4 _ rfl;obtain ⟨cH1_5,fH1_5⟩:=H1.2 5 _ rfl;obtain ⟨cH1_6,fH1_6⟩:=H1.2 6 _ rfl;obtain ⟨cH1_7,fH1_7⟩:=H1.2 7 _ rfl;by_cases hlt:k<ms.length
   ·obtain ⟨b,off,rfl,hblt,hc⟩:=(hm0.below hbr).at_ hlt;have g0:=hc 0 _ rfl;have g1:=hc 1 _ rfl;simp only [Nat.add_zero] at g0;have hbad:=Lib.hid (λ h=>@modes_no x ms k hlt h);have hgood:=Lib.hid (λ h=>@modes_all x ms k hlt htk.out h);have i1:(k:Int)<(ms.length:Int):=by omega
    clear hc htk;generalize ms[k]=m at *;have hiff:=Lib.hid (@modeIn_iff x m);by_cases hv:modeIn x m=true
    ·have h1:=Lib.hid (hgood.out hv);obtain ⟨p1,p2,p3⟩:=hiff.out.1 hv;clear hbad hgood hiff hv;go_wp2
     go_roundw
     case rel=>exact ⟨k+1,rfl,by omega,by go_num,h1,by exact XA⟩
     case measure=>simp [intOf];omega
    ·have hv':modeIn x m=false:=by simpa using hv
     have h1:=Lib.hid (show Zd x ms=false by rw [hdef.out,hbad.out hv'];simp);have hv2:¬ (x.low<=m.low/\m.low<=m.high/\m.high<=x.high):=λ h=>hv (hiff.out.2 h);clear hbad hgood hiff hv hv' hdef;by_cases p1:x.low<=m.low
     ·by_cases p2:m.low<=m.high
      ·have p3:x.high<m.high:=by omega
       clear hv2;go_wp2
       go_ret
       refine ⟨Xx h1.out.symm, ?_⟩;exact XA
      ·have p3:m.high<m.low:=by omega
       clear hv2 p2;go_wp2
       go_ret
       refine ⟨Xx h1.out.symm, ?_⟩;exact XA
     ·have p3:m.low<x.low:=by omega
      clear hv2 p1;go_wp2
      go_ret
      refine ⟨Xx h1.out.symm, ?_⟩;exact XA
   ·obtain rfl:k=ms.length:=by omega
    have h1:=Lib.hid (show Zd x ms=Xw x by rw [hdef.out,modes_yes htk.out];rfl);clear htk hdef;go_wp2_with (fail)
    refine (cR _ hs1).mono ?_;rintro e w2 ⟨rfl,hb2⟩;go_wp2
    go_ret
    refine ⟨Xx h1.out.symm, ?_⟩;exact XA
theorem sModesOk_c (x:X3) (a:YO) (M:Option Addr) (ms:List KB) (mc:Nat) (w:World) (hn:Xs x<=1048576) (hin:Zu x) (hl:ms.length<=1048576) (hs:YH w x a) (hnl:Zk a) (hm:Sl 2 Jj w M ms) :
 Calls Tryz.prog 83 #[XN x a,.slice M ms.length mc] w λ e w'=>e=.returned (.bool (Zd x ms))/\Below w.heap.size w w':=by
 have hdef:=Lib.hid (show Zd x ms=(ZD ms.length 1 4&&ms.all (modeIn x)&&Xw x) from rfl);have c0:=λ W=>Yo ms.length 1 4 W;have cR:=λ W h=>sRoomOk_c x a W hn hin h hnl;cases eR:Xw x
 ·rw [eR] at cR;have h1:=Lib.hid (show Zd x ms=false by rw [hdef.out,eR];simp);clear hdef c0;go_enter Tryz.func83,Tryz.ntmps83
  go_wp2_with (fail)
  refine (cR _ (YH.below hs (by exact XA))).mono ?_;rintro e w1 ⟨rfl,hb1⟩;go_wp2
  go_ret
  refine ⟨Xx h1.out.symm, ?_⟩;exact XA
 ·rw [eR] at cR;rw [eR] at hdef;cases e0:ZD ms.length 1 4
  ·rw [e0] at c0;have h1:=Lib.hid (show Zd x ms=false by rw [hdef.out,e0];rfl);clear hdef;go_enter Tryz.func83,Tryz.ntmps83
   go_wp2_with (fail)
   refine (cR _ (YH.below hs (by exact XA))).mono ?_;rintro e w1 ⟨rfl,hb1⟩;go_wp2_with (fail)
   refine (c0 _).mono ?_;rintro e w' ⟨rfl,rfl⟩;go_wp2
   go_ret
   refine ⟨Xx h1.out.symm, ?_⟩;exact XA
  ·rw [e0] at c0;rw [e0] at hdef;have H0:YI (w.alloc (.cells #[.slice a.map.A (List.length x.map) a.map.c,.int .i64 x.div,.int .i64 x.bx,.int .i64 x.by_,.int .i64 x.low,.int .i64 x.high,.slice a.noise.A (List.length x.noise) a.noise.c,.slice a.limits.A (List.length x.limits) a.limits.c] 39)) w.heap.size [.slice a.map.A (List.length x.map) a.map.c,.int .i64 x.div,.int .i64 x.bx,.int .i64 x.by_,.int .i64 x.low,.int .i64 x.high,.slice a.noise.A (List.length x.noise) a.noise.c,.slice a.limits.A (List.length x.limits) a.limits.c]:=by
    exact Zp
   have b0:Below w.heap.size w (w.alloc (.cells #[.slice a.map.A (List.length x.map) a.map.c,.int .i64 x.div,.int .i64 x.bx,.int .i64 x.by_,.int .i64 x.low,.int .i64 x.high,.slice a.noise.A (List.length x.noise) a.noise.c,.slice a.limits.A (List.length x.limits) a.limits.c] 39)):=by
    exact XA
   have hm0:=hm.below b0;clear e0 eR hin;go_enter Tryz.func83,Tryz.ntmps83
   go_wp2_with (fail)
   refine (cR _ (YH.below hs (by exact XA))).mono ?_;rintro e w1 ⟨rfl,hb1⟩;go_wp2_with (fail)
   refine (c0 _).mono ?_;rintro e w' ⟨rfl,rfl⟩;have H0':=H0.below hb1;have b0':=Xn b0 hb1;have hm0':=hm0.below hb1;clear c0 cR H0 b0 hm0 hb1;go_upto_region 3 with fail
   go_wp2
   go_loopw [4,6,18] (λ v2 _ i wr=>∃ k:Nat,v2=.bool false/\k<=ms.length/\i=.int .i64 k/\Hid (∀ y∈ms.take k,modeIn x y=true)/\Below w1.heap.size w1 wr) (λ _ _ i _=>ms.length-(intOf i).toNat)
   case atStart=>exact ⟨0,rfl,Nat.zero_le _,rfl,by simp [Hid],Below.refl _ _⟩
   case round =>
    obtain ⟨k,rfl,hk,rfl,htk,hbr⟩:=hrel;have H1:=H0'.below hbr;have b1:=Xn b0' hbr;have l1:=H1.1;obtain ⟨cH1_0,fH1_0⟩:=H1.2 0 _ rfl;obtain ⟨cH1_1,fH1_1⟩:=H1.2 1 _ rfl;obtain ⟨cH1_2,fH1_2⟩:=H1.2 2 _ rfl;obtain ⟨cH1_3,fH1_3⟩:=H1.2 3 _ rfl;obtain ⟨cH1_4,fH1_4⟩:=H1.2 4 _ rfl;obtain ⟨cH1_5,fH1_5⟩:=H1.2 5 _ rfl;obtain ⟨cH1_6,fH1_6⟩:=H1.2 6 _ rfl;obtain ⟨cH1_7,fH1_7⟩:=H1.2 7 _ rfl;by_cases hlt:k<ms.length
    ·obtain ⟨b,off,rfl,hblt,hc⟩:=(hm0'.below hbr).at_ hlt;have g0:=hc 0 _ rfl;have g1:=hc 1 _ rfl;simp only [Nat.add_zero] at g0;have hbad:=Lib.hid (λ h=>@modes_no x ms k hlt h);have hgood:=Lib.hid (λ h=>@modes_all x ms k hlt htk.out h);have i1:(k:Int)<(ms.length:Int):=by omega
     clear hc htk;generalize ms[k]=m at *;have c2:=λ W=>Yo m.low x.low x.high W;have c3:=λ W=>Yo m.high m.low x.high W;have hin:=Lib.hid (show modeIn x m=(ZD m.low x.low x.high&&ZD m.high m.low x.high) from rfl);cases e2:ZD m.low x.low x.high
     ·rw [e2] at c2;have h1:=Lib.hid (show Zd x ms=false by rw [hdef.out,hbad.out (by rw [hin.out,e2];rfl)];simp);clear hbad hgood hin hdef;go_wp2_with (fail)
      refine (c2 _).mono ?_;rintro e w' ⟨rfl,rfl⟩;go_wp2
      go_ret
      refine ⟨Xx h1.out.symm, ?_⟩;exact XA
     ·rw [e2] at c2;cases e3:ZD m.high m.low x.high
      ·rw [e3] at c3;have h1:=Lib.hid (show Zd x ms=false by rw [hdef.out,hbad.out (by rw [hin.out,e2,e3];rfl)];simp);clear hbad hgood hin hdef;go_wp2_with (fail)
       refine (c2 _).mono ?_;rintro e w' ⟨rfl,rfl⟩;go_wp2_with (fail)
       refine (c3 _).mono ?_;rintro e w' ⟨rfl,rfl⟩;go_wp2
       go_ret
       refine ⟨Xx h1.out.symm, ?_⟩;exact XA
      ·rw [e3] at c3;have h1:=Lib.hid (hgood.out (by rw [hin.out,e2,e3];rfl));clear hbad hgood hin hdef;go_wp2_with (fail)
       refine (c2 _).mono ?_;rintro e w' ⟨rfl,rfl⟩;go_wp2_with (fail)
       refine (c3 _).mono ?_;rintro e w' ⟨rfl,rfl⟩;go_wp2
       go_roundw
       case rel=>exact ⟨k+1,rfl,by omega,by go_num,h1,by exact XA⟩
       case measure=>simp [intOf];omega
    ·obtain rfl:k=ms.length:=by omega
     have h1:=Lib.hid (show Zd x ms=true by rw [hdef.out,modes_yes htk.out];rfl);clear htk hdef;go_wp2
     go_ret
     refine ⟨Xx h1.out.symm, ?_⟩;exact XA
def setR (x:X3) (lo hi:Int):X3:=⟨x.map,x.div,x.bx,x.by_,lo,hi,x.noise,x.limits⟩
theorem roomOk_map {x:X3} (h:Xw x=true):x.map.length=4:=by
 simp only [Xw,Jv,Bool.and_eq_true] at h;obtain ⟨m0,m1,m2,m3,e,_⟩:=JR (by first|exact h.1.1.1.1.1.1.1.1|exact h.1.1.1.1.1.1.1|exact h.1.1.1.1.1.1|exact h.1.1.1.1.1|exact h.1.1.1.1|exact h.1.1.1|exact h.1.1);rw [e];rfl
theorem modes_map {x:X3} {ms:List KB} (h:Zd x ms=true):x.map.length=4:=by
 simp only [Zd,Bool.and_eq_true] at h;exact roomOk_map h.2
theorem Sl.some_ {α:Type} {sz c:Nat} {enc:α->List Value} {w:World} {A:Option Addr} {xs:List α} (h:Sl sz enc w A xs) (h0:0<xs.length):A=none->c=0:=by
 intro e;obtain ⟨b,off,e',_⟩:=h h0;rw [e] at e';cases e'
theorem setCell_other_heap (w:World) (p:Addr) (g:Nat) (u:Value) (h:p.block≠g):(w.setCell p u).heap[g]? = w.heap[g]?:=heap_setCell_other w p g u (λ e=>h (by first|exact e|exact e.symm))
theorem XI.ne1 {α:Type} {T sz base n c:Nat} {enc:α->List Value} {w:World} {A:Option Addr} {xs:List α} (h:XI T sz enc w base (.slice A n c) xs) {p:Addr} (hp:∀ q,A=some q->q.block≠p.block) (u:Value):XI T sz enc (w.setCell p u) base (.slice A n c) xs:=by
 obtain ⟨A',c',e,h1,h2⟩:=h;refine ⟨A',c',e,h1, ?_⟩;rcases h2 with h2|⟨g,cap',cur,hv,hg,hh,r⟩
 ·exact .inl h2
 ·refine .inr ⟨g,cap',cur,hv,hg,(setCell_other_heap w p g u (λ e2=>?_)).trans hh,r⟩;injection hv with hv _ _
  exact hp ⟨g,0,none⟩ hv e2.symm
theorem Yq.ne1 {w:World} {base:Nat} {x:X3} {a:YO} (h:Yq w base x a) {p:Addr} (hp:∀ c∈[a.map,a.noise,a.limits],∀ q,c.A=some q->q.block≠p.block) (u:Value):Yq (w.setCell p u) base x a :=
 ⟨h.map.ne1 (hp a.map (by simp)) u,⟨h.noise.halves.ne1 (hp a.noise (by simp)) u⟩,⟨h.limits.halves.ne1 (hp a.limits (by simp)) u⟩,h.apart⟩
theorem iInMode_c (x:X3) (a:YO) (m:KB) (w:World) (hn:Xs x<=1048576) (hs:YH w x a) :
 Calls Tryz.prog 90 #[XN x a,modeV m] w λ e w'=>∃ b,e=.returned (XN (setR x m.low m.high) b)/\Yq w' w.heap.size (setR x m.low m.high) b/\Below w.heap.size w w':=by
 have c1:=λ W h=>iCopyRoom_c x a W hn h;obtain ⟨W,hW⟩:∃ W,W=((w.alloc (.cells #[.slice a.map.A (List.length x.map) a.map.c,.int .i64 x.div,.int .i64 x.bx,.int .i64 x.by_,.int .i64 x.low,.int .i64 x.high,.slice a.noise.A (List.length x.noise) a.noise.c,.slice a.limits.A (List.length x.limits) a.limits.c] 39)).alloc (.cells #[.int .i64 m.low,.int .i64 m.high] 132)).alloc (.cells #[.slice none 0 0,.int .i64 0,.int .i64 0,.int .i64 0,.int .i64 0,.int .i64 0,.slice none 0 0,.slice none 0 0] 39):=⟨_,rfl⟩;have HR:YI W (w.heap.size+1+1) [.slice none 0 0,.int .i64 0,.int .i64 0,.int .i64 0,.int .i64 0,.int .i64 0,.slice none 0 0,.slice none 0 0]:=by
  rw [hW];exact Zp
 have HM:YI W (w.heap.size+1) [.int .i64 m.low,.int .i64 m.high]:=by
  rw [hW];exact Zp
 have HB:YI W w.heap.size [.slice a.map.A (List.length x.map) a.map.c,.int .i64 x.div,.int .i64 x.bx,.int .i64 x.by_,.int .i64 x.low,.int .i64 x.high,.slice a.noise.A (List.length x.noise) a.noise.c,.slice a.limits.A (List.length x.limits) a.limits.c]:=by
  rw [hW];exact Zp
 have b0:Below w.heap.size w W:=by
  rw [hW];exact XA
 have YT:W.heap.size=w.heap.size+1+1+1:=by rw [hW];simp
 have hlt:w.heap.size+1+1<W.heap.size:=by omega
 have hlt1:w.heap.size+1<W.heap.size:=by omega
 have hlt2:w.heap.size<W.heap.size:=by omega
 have hW':=Lib.hid hW;have hs0:=hs.below b0;clear hW YT hs;go_enter Tryz.func90,Tryz.ntmps90
 go_upto_region 1 with fail
 rw [<- hW'.out];clear hW';obtain ⟨cHB_0,fHB_0⟩:=HB.2 0 _ rfl;obtain ⟨cHB_1,fHB_1⟩:=HB.2 1 _ rfl;obtain ⟨cHB_2,fHB_2⟩:=HB.2 2 _ rfl;obtain ⟨cHB_3,fHB_3⟩:=HB.2 3 _ rfl;obtain ⟨cHB_4,fHB_4⟩:=HB.2 4 _ rfl;obtain ⟨cHB_5,fHB_5⟩:=HB.2 5 _ rfl;obtain ⟨cHB_6,fHB_6⟩:=HB.2 6 _ rfl;obtain ⟨cHB_7,fHB_7⟩:=HB.2 7 _ rfl;go_wp2_with (fail)
 refine (c1 _ hs0).mono ?_;rintro e w1 ⟨b,rfl,N1,hb1⟩;have HM1:=(HM.below hb1).alloc (.cells #[.slice b.map.A (List.length x.map) b.map.c,.int .i64 x.div,.int .i64 x.bx,.int .i64 x.by_,.int .i64 x.low,.int .i64 x.high,.slice b.noise.A (List.length x.noise) b.noise.c,.slice b.limits.A (List.length x.limits) b.limits.c] 39);have HR1:=(HR.below hb1).alloc (.cells #[.slice b.map.A (List.length x.map) b.map.c,.int .i64 x.div,.int .i64 x.bx,.int .i64 x.by_,.int .i64 x.low,.int .i64 x.high,.slice b.noise.A (List.length x.noise) b.noise.c,.slice b.limits.A (List.length x.limits) b.limits.c] 39);have b1:=Xd (Xn b0 hb1) (.cells #[.slice b.map.A (List.length x.map) b.map.c,.int .i64 x.div,.int .i64 x.bx,.int .i64 x.by_,.int .i64 x.low,.int .i64 x.high,.slice b.noise.A (List.length x.noise) b.noise.c,.slice b.limits.A (List.length x.limits) b.limits.c] 39);have z1:=hb1.size;have HT:YI (w1.alloc (.cells #[.slice b.map.A (List.length x.map) b.map.c,.int .i64 x.div,.int .i64 x.bx,.int .i64 x.by_,.int .i64 x.low,.int .i64 x.high,.slice b.noise.A (List.length x.noise) b.noise.c,.slice b.limits.A (List.length x.limits) b.limits.c] 39)) w1.heap.size [.slice b.map.A (List.length x.map) b.map.c,.int .i64 x.div,.int .i64 x.bx,.int .i64 x.by_,.int .i64 x.low,.int .i64 x.high,.slice b.noise.A (List.length x.noise) b.noise.c,.slice b.limits.A (List.length x.limits) b.limits.c]:=YI.new _ _ _;have N2:=N1.below (Xd bR (.cells #[.slice b.map.A (List.length x.map) b.map.c,.int .i64 x.div,.int .i64 x.bx,.int .i64 x.by_,.int .i64 x.low,.int .i64 x.high,.slice b.noise.A (List.length x.noise) b.noise.c,.slice b.limits.A (List.length x.limits) b.limits.c] 39)) Xh;have BK:=N1.blkL;have lT:w1.heap.size<(w1.alloc (.cells #[.slice b.map.A (List.length x.map) b.map.c,.int .i64 x.div,.int .i64 x.bx,.int .i64 x.by_,.int .i64 x.low,.int .i64 x.high,.slice b.noise.A (List.length x.noise) b.noise.c,.slice b.limits.A (List.length x.limits) b.limits.c] 39)).heap.size:=by simp
 clear N1 hb1 HB HM HR cHB_0 cHB_1 cHB_2 cHB_3 cHB_4 cHB_5 cHB_6 cHB_7 fHB_0 fHB_1 fHB_2 fHB_3 fHB_4 fHB_5 fHB_6 fHB_7 b0 hs0;go_upto_region 2 with fail
 generalize w1.alloc (.cells #[.slice b.map.A (List.length x.map) b.map.c,.int .i64 x.div,.int .i64 x.bx,.int .i64 x.by_,.int .i64 x.low,.int .i64 x.high,.slice b.noise.A (List.length x.noise) b.noise.c,.slice b.limits.A (List.length x.limits) b.limits.c] 39)=w2 at *;have lM:=HM1.1;have lR:=HR1.1;have hgb:w.heap.size+1+1<w1.heap.size:=by omega
 have hne:=BK.ne (g:=w1.heap.size) (.inr Xh);have hwW:w.heap.size<=W.heap.size:=by omega
 generalize w1.heap.size=g at *;clear z1 c1;obtain ⟨cHM1_0,fHM1_0⟩:=HM1.2 0 _ rfl;obtain ⟨cHM1_1,fHM1_1⟩:=HM1.2 1 _ rfl;obtain ⟨cHT_0,fHT_0⟩:=HT.2 0 _ rfl;obtain ⟨cHT_1,fHT_1⟩:=HT.2 1 _ rfl;obtain ⟨cHT_2,fHT_2⟩:=HT.2 2 _ rfl;obtain ⟨cHT_3,fHT_3⟩:=HT.2 3 _ rfl;obtain ⟨cHT_4,fHT_4⟩:=HT.2 4 _ rfl;obtain ⟨cHT_5,fHT_5⟩:=HT.2 5 _ rfl;obtain ⟨cHT_6,fHT_6⟩:=HT.2 6 _ rfl;obtain ⟨cHT_7,fHT_7⟩:=HT.2 7 _ rfl;have K1:=HT.put 4 (by simp) (.int .i64 m.low);have HR2:=HR1.set_ (p:=⟨g,4,none⟩) (by simp only;omega) (.int .i64 m.low);have K2:=K1.put 5 (by simp) (.int .i64 m.high);have HR3:=HR2.set_ (p:=⟨g,5,none⟩) (by simp only;omega) (.int .i64 m.high);have b2:=(b1.setCell (p:=⟨g,4,none⟩) (by simp only;omega) (.int .i64 m.low)).setCell (p:=⟨g,5,none⟩) (by simp only;omega) (.int .i64 m.high);simp only [List.set_cons_succ,List.set_cons_zero] at K2;have N3:=(N2.ne1 (p:=⟨g,4,none⟩) hne (.int .i64 m.low)).ne1 (p:=⟨g,5,none⟩) hne (.int .i64 m.high);clear K1 HR2 HR1 HM1 b1 N2 HT;go_cut [5] (λ x5 wx=>∃ W',W'=wx/\x5=.pointer (some ⟨g,0,none⟩)/\wx=((w2.setCell ⟨g,4,none⟩ (.int .i64 m.low)).setCell ⟨g,5,none⟩ (.int .i64 m.high)).drew)
 case first =>
  go_region
  all_goals
   go_wp2_with fail
   go_meet
   exact ⟨_,rfl,rfl,rfl⟩
 case rest =>
  obtain ⟨W',rfl,rfl,e⟩:=hcut;have K3:YI W' g [.slice b.map.A (List.length x.map) b.map.c,.int .i64 x.div,.int .i64 x.bx,.int .i64 x.by_,.int .i64 m.low,.int .i64 m.high,.slice b.noise.A (List.length x.noise) b.noise.c,.slice b.limits.A (List.length x.limits) b.limits.c]:=by rw [e];exact K2
  have R3:YI W' (w.heap.size+1+1) [.slice none 0 0,.int .i64 0,.int .i64 0,.int .i64 0,.int .i64 0,.int .i64 0,.slice none 0 0,.slice none 0 0]:=by rw [e];exact HR3
  have B3:Below w.heap.size w W':=by rw [e];exact b2.drew
  have N4:Yq W' W.heap.size x b:=by rw [e];exact N3.drew
  clear e K2 HR3 b2 N3 cHM1_0 cHM1_1 cHT_0 cHT_1 cHT_2 cHT_3 cHT_4 cHT_5 cHT_6 cHT_7;have lK:=K3.1;have lR3:=R3.1;obtain ⟨cK3_0,fK3_0⟩:=K3.2 0 _ rfl;obtain ⟨cK3_1,fK3_1⟩:=K3.2 1 _ rfl;obtain ⟨cK3_2,fK3_2⟩:=K3.2 2 _ rfl;obtain ⟨cK3_3,fK3_3⟩:=K3.2 3 _ rfl;obtain ⟨cK3_4,fK3_4⟩:=K3.2 4 _ rfl;obtain ⟨cK3_5,fK3_5⟩:=K3.2 5 _ rfl;obtain ⟨cK3_6,fK3_6⟩:=K3.2 6 _ rfl;obtain ⟨cK3_7,fK3_7⟩:=K3.2 7 _ rfl;obtain ⟨cR3_0,fR3_0⟩:=R3.2 0 _ rfl;obtain ⟨cR3_1,fR3_1⟩:=R3.2 1 _ rfl;obtain ⟨cR3_2,fR3_2⟩:=R3.2 2 _ rfl;obtain ⟨cR3_3,fR3_3⟩:=R3.2 3 _ rfl;obtain ⟨cR3_4,fR3_4⟩:=R3.2 4 _ rfl;obtain ⟨cR3_5,fR3_5⟩:=R3.2 5 _ rfl;obtain ⟨cR3_6,fR3_6⟩:=R3.2 6 _ rfl;obtain ⟨cR3_7,fR3_7⟩:=R3.2 7 _ rfl;go_wp2
  refine bodyPost_ret (v:=.agg #[.slice b.map.A (List.length x.map) b.map.c,.int .i64 x.div,.int .i64 x.bx,.int .i64 x.by_,.int .i64 m.low,.int .i64 m.high,.slice b.noise.A (List.length x.noise) b.noise.c,.slice b.limits.A (List.length x.limits) b.limits.c]) (by simp [results,Tryz.results90,go_sem,cR3_0,cR3_1,cR3_2,cR3_3,cR3_4,cR3_5,cR3_6,cR3_7]) rfl ⟨b,rfl,⟨?_,⟨?_⟩,⟨?_⟩,N4.apart⟩, ?_⟩
  ·exact (N4.map.lowC (q:=⟨w.heap.size+1+1,0,none⟩) (by simp only;omega) [_,_,_,_,_,_,_,_]).mono (by omega)
  ·exact (N4.noise.halves.lowC (q:=⟨w.heap.size+1+1,0,none⟩) (by simp only;omega) [_,_,_,_,_,_,_,_]).mono (by omega)
  ·exact (N4.limits.halves.lowC (q:=⟨w.heap.size+1+1,0,none⟩) (by simp only;omega) [_,_,_,_,_,_,_,_]).mono (by omega)
  ·exact Kr B3 (by omega) (o:=0) [_,_,_,_,_,_,_,_]
theorem sInMode_c (x:X3) (a:YO) (m:KB) (w:World) (hn:Xs x<=1048576) (hs:YH w x a) (hnl:Zk a) (hmn:a.map.A=none->a.map.c=0) :
 Calls Tryz.prog 85 #[XN x a,modeV m] w λ e w'=>∃ b,e=.returned (XN (setR x m.low m.high) b)/\Yq w' w.heap.size (setR x m.low m.high) b/\Below w.heap.size w w':=by
 have c1:=λ W h=>sCopyRoom_c x a W hn h hnl.noise hnl.limits hmn;obtain ⟨W,hW⟩:∃ W,W=((w.alloc (.cells #[.slice a.map.A (List.length x.map) a.map.c,.int .i64 x.div,.int .i64 x.bx,.int .i64 x.by_,.int .i64 x.low,.int .i64 x.high,.slice a.noise.A (List.length x.noise) a.noise.c,.slice a.limits.A (List.length x.limits) a.limits.c] 39)).alloc (.cells #[.int .i64 m.low,.int .i64 m.high] 132)).alloc (.cells #[.slice none 0 0,.int .i64 0,.int .i64 0,.int .i64 0,.int .i64 0,.int .i64 0,.slice none 0 0,.slice none 0 0] 39):=⟨_,rfl⟩;have HR:YI W (w.heap.size+1+1) [.slice none 0 0,.int .i64 0,.int .i64 0,.int .i64 0,.int .i64 0,.int .i64 0,.slice none 0 0,.slice none 0 0]:=by
  rw [hW];exact Zp
 have HM:YI W (w.heap.size+1) [.int .i64 m.low,.int .i64 m.high]:=by
  rw [hW];exact Zp
 have HB:YI W w.heap.size [.slice a.map.A (List.length x.map) a.map.c,.int .i64 x.div,.int .i64 x.bx,.int .i64 x.by_,.int .i64 x.low,.int .i64 x.high,.slice a.noise.A (List.length x.noise) a.noise.c,.slice a.limits.A (List.length x.limits) a.limits.c]:=by
  rw [hW];exact Zp
 have b0:Below w.heap.size w W:=by
  rw [hW];exact XA
 have YT:W.heap.size=w.heap.size+1+1+1:=by rw [hW];simp
 have hlt:w.heap.size+1+1<W.heap.size:=by omega
 have hlt1:w.heap.size+1<W.heap.size:=by omega
 have hlt2:w.heap.size<W.heap.size:=by omega
 have hW':=Lib.hid hW;have hs0:=hs.below b0;clear hW YT hs;go_enter Tryz.func85,Tryz.ntmps85
 go_upto_region 1 with fail
 rw [<- hW'.out];clear hW';obtain ⟨cHB_0,fHB_0⟩:=HB.2 0 _ rfl;obtain ⟨cHB_1,fHB_1⟩:=HB.2 1 _ rfl;obtain ⟨cHB_2,fHB_2⟩:=HB.2 2 _ rfl;obtain ⟨cHB_3,fHB_3⟩:=HB.2 3 _ rfl;obtain ⟨cHB_4,fHB_4⟩:=HB.2 4 _ rfl;obtain ⟨cHB_5,fHB_5⟩:=HB.2 5 _ rfl;obtain ⟨cHB_6,fHB_6⟩:=HB.2 6 _ rfl;obtain ⟨cHB_7,fHB_7⟩:=HB.2 7 _ rfl;go_wp2_with (fail)
 refine (c1 _ hs0).mono ?_;rintro e w1 ⟨b,rfl,N1,hb1⟩;have HM1:=(HM.below hb1).alloc (.cells #[.slice b.map.A (List.length x.map) b.map.c,.int .i64 x.div,.int .i64 x.bx,.int .i64 x.by_,.int .i64 x.low,.int .i64 x.high,.slice b.noise.A (List.length x.noise) b.noise.c,.slice b.limits.A (List.length x.limits) b.limits.c] 39);have HR1:=(HR.below hb1).alloc (.cells #[.slice b.map.A (List.length x.map) b.map.c,.int .i64 x.div,.int .i64 x.bx,.int .i64 x.by_,.int .i64 x.low,.int .i64 x.high,.slice b.noise.A (List.length x.noise) b.noise.c,.slice b.limits.A (List.length x.limits) b.limits.c] 39);have b1:=Xd (Xn b0 hb1) (.cells #[.slice b.map.A (List.length x.map) b.map.c,.int .i64 x.div,.int .i64 x.bx,.int .i64 x.by_,.int .i64 x.low,.int .i64 x.high,.slice b.noise.A (List.length x.noise) b.noise.c,.slice b.limits.A (List.length x.limits) b.limits.c] 39);have z1:=hb1.size;have HT:YI (w1.alloc (.cells #[.slice b.map.A (List.length x.map) b.map.c,.int .i64 x.div,.int .i64 x.bx,.int .i64 x.by_,.int .i64 x.low,.int .i64 x.high,.slice b.noise.A (List.length x.noise) b.noise.c,.slice b.limits.A (List.length x.limits) b.limits.c] 39)) w1.heap.size [.slice b.map.A (List.length x.map) b.map.c,.int .i64 x.div,.int .i64 x.bx,.int .i64 x.by_,.int .i64 x.low,.int .i64 x.high,.slice b.noise.A (List.length x.noise) b.noise.c,.slice b.limits.A (List.length x.limits) b.limits.c]:=YI.new _ _ _;have N2:=N1.below (Xd bR (.cells #[.slice b.map.A (List.length x.map) b.map.c,.int .i64 x.div,.int .i64 x.bx,.int .i64 x.by_,.int .i64 x.low,.int .i64 x.high,.slice b.noise.A (List.length x.noise) b.noise.c,.slice b.limits.A (List.length x.limits) b.limits.c] 39)) Xh;have BK:=N1.blkL;have lT:w1.heap.size<(w1.alloc (.cells #[.slice b.map.A (List.length x.map) b.map.c,.int .i64 x.div,.int .i64 x.bx,.int .i64 x.by_,.int .i64 x.low,.int .i64 x.high,.slice b.noise.A (List.length x.noise) b.noise.c,.slice b.limits.A (List.length x.limits) b.limits.c] 39)).heap.size:=by simp
 clear N1 hb1 HB HM HR cHB_0 cHB_1 cHB_2 cHB_3 cHB_4 cHB_5 cHB_6 cHB_7 fHB_0 fHB_1 fHB_2 fHB_3 fHB_4 fHB_5 fHB_6 fHB_7 b0 hs0;go_upto_region 2 with fail
 generalize w1.alloc (.cells #[.slice b.map.A (List.length x.map) b.map.c,.int .i64 x.div,.int .i64 x.bx,.int .i64 x.by_,.int .i64 x.low,.int .i64 x.high,.slice b.noise.A (List.length x.noise) b.noise.c,.slice b.limits.A (List.length x.limits) b.limits.c] 39)=w2 at *;have lM:=HM1.1;have lR:=HR1.1;have hgb:w.heap.size+1+1<w1.heap.size:=by omega
 have hne:=BK.ne (g:=w1.heap.size) (.inr Xh);have hwW:w.heap.size<=W.heap.size:=by omega
 generalize w1.heap.size=g at *;clear z1 c1;obtain ⟨cHM1_0,fHM1_0⟩:=HM1.2 0 _ rfl;obtain ⟨cHM1_1,fHM1_1⟩:=HM1.2 1 _ rfl;obtain ⟨cHT_0,fHT_0⟩:=HT.2 0 _ rfl;obtain ⟨cHT_1,fHT_1⟩:=HT.2 1 _ rfl;obtain ⟨cHT_2,fHT_2⟩:=HT.2 2 _ rfl;obtain ⟨cHT_3,fHT_3⟩:=HT.2 3 _ rfl;obtain ⟨cHT_4,fHT_4⟩:=HT.2 4 _ rfl;obtain ⟨cHT_5,fHT_5⟩:=HT.2 5 _ rfl;obtain ⟨cHT_6,fHT_6⟩:=HT.2 6 _ rfl;obtain ⟨cHT_7,fHT_7⟩:=HT.2 7 _ rfl;have K1:=HT.put 4 (by simp) (.int .i64 m.low);have HR2:=HR1.set_ (p:=⟨g,4,none⟩) (by simp only;omega) (.int .i64 m.low);have K2:=K1.put 5 (by simp) (.int .i64 m.high);have HR3:=HR2.set_ (p:=⟨g,5,none⟩) (by simp only;omega) (.int .i64 m.high);have b2:=(b1.setCell (p:=⟨g,4,none⟩) (by simp only;omega) (.int .i64 m.low)).setCell (p:=⟨g,5,none⟩) (by simp only;omega) (.int .i64 m.high);simp only [List.set_cons_succ,List.set_cons_zero] at K2;have N3:=(N2.ne1 (p:=⟨g,4,none⟩) hne (.int .i64 m.low)).ne1 (p:=⟨g,5,none⟩) hne (.int .i64 m.high);clear K1 HR2 HR1 HM1 b1 N2 HT;go_upto_region 4 with fail
 generalize (w2.setCell ⟨g,4,none⟩ (.int .i64 m.low)).setCell ⟨g,5,none⟩ (.int .i64 m.high)=W' at *;have K3:=K2;have R3:=HR3;have B3:=b2;have N4:=N3;clear K2 HR3 b2 N3 cHM1_0 cHM1_1 cHT_0 cHT_1 cHT_2 cHT_3 cHT_4 cHT_5 cHT_6 cHT_7;have lK:=K3.1;have lR3:=R3.1;obtain ⟨cK3_0,fK3_0⟩:=K3.2 0 _ rfl;obtain ⟨cK3_1,fK3_1⟩:=K3.2 1 _ rfl;obtain ⟨cK3_2,fK3_2⟩:=K3.2 2 _ rfl;obtain ⟨cK3_3,fK3_3⟩:=K3.2 3 _ rfl;obtain ⟨cK3_4,fK3_4⟩:=K3.2 4 _ rfl;obtain ⟨cK3_5,fK3_5⟩:=K3.2 5 _ rfl;obtain ⟨cK3_6,fK3_6⟩:=K3.2 6 _ rfl;obtain ⟨cK3_7,fK3_7⟩:=K3.2 7 _ rfl;obtain ⟨cR3_0,fR3_0⟩:=R3.2 0 _ rfl;obtain ⟨cR3_1,fR3_1⟩:=R3.2 1 _ rfl;obtain ⟨cR3_2,fR3_2⟩:=R3.2 2 _ rfl;obtain ⟨cR3_3,fR3_3⟩:=R3.2 3 _ rfl;obtain ⟨cR3_4,fR3_4⟩:=R3.2 4 _ rfl;obtain ⟨cR3_5,fR3_5⟩:=R3.2 5 _ rfl;obtain ⟨cR3_6,fR3_6⟩:=R3.2 6 _ rfl;obtain ⟨cR3_7,fR3_7⟩:=R3.2 7 _ rfl;go_wp2
 refine bodyPost_ret (v:=.agg #[.slice b.map.A (List.length x.map) b.map.c,.int .i64 x.div,.int .i64 x.bx,.int .i64 x.by_,.int .i64 m.low,.int .i64 m.high,.slice b.noise.A (List.length x.noise) b.noise.c,.slice b.limits.A (List.length x.limits) b.limits.c]) (by simp [results,Tryz.results85,go_sem,cR3_0,cR3_1,cR3_2,cR3_3,cR3_4,cR3_5,cR3_6,cR3_7]) rfl ⟨b,rfl,⟨?_,⟨?_⟩,⟨?_⟩,N4.apart⟩, ?_⟩
 ·exact (N4.map.lowC (q:=⟨w.heap.size+1+1,0,none⟩) (by simp only;omega) [_,_,_,_,_,_,_,_]).mono (by omega)
 ·exact (N4.noise.halves.lowC (q:=⟨w.heap.size+1+1,0,none⟩) (by simp only;omega) [_,_,_,_,_,_,_,_]).mono (by omega)
 ·exact (N4.limits.halves.lowC (q:=⟨w.heap.size+1+1,0,none⟩) (by simp only;omega) [_,_,_,_,_,_,_,_]).mono (by omega)
 ·exact Kr B3 (by omega) (o:=0) [_,_,_,_,_,_,_,_]
end Go.Proofs.YtkjimfapbjdafaaGreat
namespace Go.Proofs.YtkjimfapbjdafaaGreat
open Go.RowKit Go.ChangeShapes Go.WideShapes Go.ChangeAt Go.Deep
section
variable {H:Type} {enc:TypeId × Value->H} {P:Program} {w:World} {base:Nat} {spare:Nat->Bool} {held:Bool}
end
theorem openModeS {H:Type} {enc:TypeId × Value->H} {W:World} {base:Nat} {spare:Nat->Bool} {held:Bool} {fuel:Nat} {cs:List Value} {x:DataW H × List MemPlace}
 (h:DataW.trod enc Tryz.prog W base spare held fuel 28 cs=some x) :
 ∃ A cap xs,cs=[.slice A (List.length xs) cap]/\xs.length<=9223372036854775807/\(∀ x∈xs,KB.In x)/\Sl 2 Jj W A xs:=by
 obtain ⟨A,n,cap,hcs,hn,rows,hl,hr,hs⟩:=open_slice_rows (k:=2) Tryz.underlying28 (by kernel_rfl)
  (λ n cs' x' h'=>open_ints_cells Tryz.underlying136 (by kernel_rfl) (by kernel_rfl) (by kernel_rfl) h') (by omega) h
 refine ⟨A,cap,rows.map mkMode, ?_,by simp;omega, ?_,hs.map mkMode λ x hx=>mkMode_C (hr x hx).1⟩
 ·simp [hcs,hl]
 ·intro x hx;simp only [List.mem_map] at hx;obtain ⟨r,hr',rfl⟩:=hx;exact mkMode_In (hr r hr').1 (hr r hr').2
theorem openModeSV {H:Type} {enc:TypeId × Value->H} {W:World} {base b0:Nat} {spare:Nat->Bool} {held:Bool} {r:Reach} {v:Value} {d:DataW H} {p:List MemPlace}
 (hv:Value.okWide Tryz.prog W r b0 28 v) (h:DataW.Trod enc Tryz.prog W base spare held 28 v d p) :
 ∃ A cap,∃ xs:List KB,v=.slice A xs.length cap/\xs.length<=9223372036854775807/\(∀ y∈xs,KB.In y)/\Sl 2 Jj W A xs:=by
 obtain ⟨a0,len,cap,rfl⟩:=okWide_slice Tryz.underlying28 hv;obtain ⟨fuel,hf⟩:=h;obtain ⟨A,cap',xs,e1,h1,h2,h3⟩:=openModeS hf;simp only [Value.cells,List.cons.injEq,and_true] at e1;exact ⟨A,cap',xs,e1,h1,h2,h3⟩
end Go.Proofs.YtkjimfapbjdafaaGreat
namespace Go.Proofs.YtkjimfapbjdafaaGreat
open Go.RowKit
def Yc:KB:=⟨0,0⟩
def Km (r:X3) (m:KB):X3:=setR r m.low m.high
theorem inM_ok {r:X3} {l:List KB} (h:Zd r l=true):∀ m∈l,Xw (Km r m)=true:=by
 intro m hm;simp only [Zd,Bool.and_eq_true] at h;have h3:=modeIn_iff.1 (List.all_eq_true.1 h.1.2 m hm);have h4:=h.2;have B:=roomB h4;have b1:=B.low;have b2:=B.high;simp only [Xw,Jv,Bool.and_eq_true] at h4 ⊢;obtain ⟨⟨⟨⟨⟨⟨⟨g1,g2⟩,g3⟩,_⟩,g5⟩,g6⟩,g7⟩,g8⟩:=h4;refine ⟨⟨⟨⟨⟨⟨⟨g1,g2⟩,g3⟩, ?_, ?_⟩,g5⟩,g6⟩,g7⟩,g8⟩
 ·exact ZG.2 ⟨by show -1000<=m.low;omega,by show m.low<=1000;omega⟩
 ·exact ZG.2 ⟨h3.2.1,by show m.high<=1000;omega⟩
theorem modes_room {r:X3} {l:List KB} (h:Zd r l=true):Xw r=true/\1<=l.length/\l.length<=4:=by
 simp only [Zd,Bool.and_eq_true] at h;have:=ZG.1 h.1.1;exact ⟨h.2,by omega,by omega⟩
theorem inM_in {r:X3} {m:KB} (h:Zu r) (hm:m.In):Zu (Km r m):=⟨h.map,h.div,h.bx,h.by_,hm.1,hm.2,h.noise,h.limits⟩
end Go.Proofs.YtkjimfapbjdafaaGreat
