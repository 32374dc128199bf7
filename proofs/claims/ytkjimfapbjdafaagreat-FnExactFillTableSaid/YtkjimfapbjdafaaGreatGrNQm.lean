/-
 The functions on tables: what they return.
 Conditions: the slice of cells holds at most 2^20 ints.
-/
import Derived.StillTailTactics
import Derived.Test.YtkjimfapbjdafaaGreatGrPQn
import Derived.Deep.QuietTactic
import Derived.BigQuiet
import Derived.JoinedOf
import Derived.Shelf.Bits.Mul64
import Derived.Test.YtkjimfapbjdafaaGreatGrGQl
import Derived.Test.YtkjimfapbjdafaaGreatCopyQq
import Derived.Test.YtkjimfapbjdafaaGreatGrXaQr
set_option maxHeartbeats 2000000
set_option maxRecDepth 100000
namespace Go.Proofs.YtkjimfapbjdafaaGreat
open Go.RowKit
abbrev tabV (t:Tab) (A:Option Addr) (cap:Nat):Value:=.agg #[.int .i64 t.x0,.int .i64 t.y0,.int .i64 t.step,.int .i64 t.nx,.int .i64 t.ny,.slice A t.cells.length cap]
def Y4 (t:Tab):Bool:=ZD t.x0 (-1000) 1000&&ZD t.y0 (-1000) 1000&&ZD t.step 1 100&&ZD t.nx 1 100&&ZD t.ny 1 100&&decide (t.nx*t.ny<=400)&&decide (t.x0+t.nx*t.step<=1000)&&decide (t.y0+t.ny*t.step<=1000)
theorem mul_bd {a b A B:Int} (ha : -A<=a/\a<=A) (hb : -B<=b/\b<=B) : -(A*B)<=a*b/\a*b<=A*B:=by
 have hA:a.natAbs<=A.natAbs:=by omega
 have hB:b.natAbs<=B.natAbs:=by omega
 have hm:=Nat.mul_le_mul hA hB;rw [<- Int.natAbs_mul,<- Int.natAbs_mul] at hm;have hAB:0<=A*B:=Int.mul_nonneg (by omega) (by omega);omega
theorem gridOk_iff {t:Tab}:Y4 t=true ↔ (-1000<=t.x0/\t.x0<=1000)/\(-1000<=t.y0/\t.y0<=1000)/\(1<=t.step/\t.step<=100)/\(1<=t.nx/\t.nx<=100)/\(1<=t.ny/\t.ny<=100)/\t.nx*t.ny<=400/\t.x0+t.nx*t.step<=1000/\t.y0+t.ny*t.step<=1000:=by
 simp only [Y4,Bool.and_eq_true,ZG,decide_eq_true_eq,and_assoc]
theorem igridOk_c (t:Tab) (A:Option Addr) (cap:Nat) (w:World) (_:t.In) :
 Calls Tryz.prog 130 #[tabV t A cap] w λ e w'=>e=.returned (.bool (Y4 t))/\Below w.heap.size w w':=by
 cases e1:ZD t.x0 (-1000) 1000
 ·go_enter Tryz.func130,Tryz.ntmps130
  go_wp2_with (first|(go_at_call 129;refine (Zj _ _ _ _).mono ?_;rintro e w' ⟨rfl,rfl⟩))
  go_ret
  refine ⟨Xx (by simp [Y4,e1]<;>omega), ?_⟩;exact XA
 ·cases e2:ZD t.y0 (-1000) 1000
  ·go_enter Tryz.func130,Tryz.ntmps130
   go_wp2_with (first|(go_at_call 129;refine (Zj _ _ _ _).mono ?_;rintro e w' ⟨rfl,rfl⟩))
   go_ret
   refine ⟨Xx (by simp [Y4,e1,e2]<;>omega), ?_⟩;exact XA
  ·cases e3:ZD t.step 1 100
   ·go_enter Tryz.func130,Tryz.ntmps130
    go_wp2_with (first|(go_at_call 129;refine (Zj _ _ _ _).mono ?_;rintro e w' ⟨rfl,rfl⟩))
    go_ret
    refine ⟨Xx (by simp [Y4,e1,e2,e3]<;>omega), ?_⟩;exact XA
   ·cases e4:ZD t.nx 1 100
    ·go_enter Tryz.func130,Tryz.ntmps130
     go_wp2_with (first|(go_at_call 129;refine (Zj _ _ _ _).mono ?_;rintro e w' ⟨rfl,rfl⟩))
     go_ret
     refine ⟨Xx (by simp [Y4,e1,e2,e3,e4]<;>omega), ?_⟩;exact XA
    ·cases e5:ZD t.ny 1 100
     ·go_enter Tryz.func130,Tryz.ntmps130
      go_wp2_with (first|(go_at_call 129;refine (Zj _ _ _ _).mono ?_;rintro e w' ⟨rfl,rfl⟩))
      go_ret
      refine ⟨Xx (by simp [Y4,e1,e2,e3,e4,e5]<;>omega), ?_⟩;exact XA
     ·obtain ⟨a1,a2⟩:=ZG.1 e1;obtain ⟨a3,a4⟩:=ZG.1 e2;obtain ⟨a5,a6⟩:=ZG.1 e3;obtain ⟨a7,a8⟩:=ZG.1 e4;obtain ⟨a9,a10⟩:=ZG.1 e5;obtain ⟨m1,m2⟩:=mul_bd (A:=100) (B:=100) (a:=t.nx) (b:=t.ny) (by omega) (by omega);obtain ⟨m3,m4⟩:=mul_bd (A:=100) (B:=100) (a:=t.nx) (b:=t.step) (by omega) (by omega);obtain ⟨m5,m6⟩:=mul_bd (A:=100) (B:=100) (a:=t.ny) (b:=t.step) (by omega) (by omega);by_cases e6:t.nx*t.ny<=400
      rotate_left
      ·go_enter Tryz.func130,Tryz.ntmps130
       go_wp2_with (first|(go_at_call 129;refine (Zj _ _ _ _).mono ?_;rintro e w' ⟨rfl,rfl⟩))
       go_ret
       refine ⟨Xx (by simp [Y4,e1,e2,e3,e4,e5]<;>omega), ?_⟩;exact XA
      by_cases e7:t.x0+t.nx*t.step<=1000
      rotate_left
      ·go_enter Tryz.func130,Tryz.ntmps130
       go_wp2_with (first|(go_at_call 129;refine (Zj _ _ _ _).mono ?_;rintro e w' ⟨rfl,rfl⟩))
       go_ret
       refine ⟨Xx (by simp [Y4,e1,e2,e3,e4,e5,e6]<;>omega), ?_⟩;exact XA
      by_cases e8:t.y0+t.ny*t.step<=1000
      rotate_left
      ·go_enter Tryz.func130,Tryz.ntmps130
       go_wp2_with (first|(go_at_call 129;refine (Zj _ _ _ _).mono ?_;rintro e w' ⟨rfl,rfl⟩))
       go_ret
       refine ⟨Xx (by simp [Y4,e1,e2,e3,e4,e5,e6,e7]<;>omega), ?_⟩;exact XA
      go_enter Tryz.func130,Tryz.ntmps130
      go_wp2_with (first|(go_at_call 129;refine (Zj _ _ _ _).mono ?_;rintro e w' ⟨rfl,rfl⟩))
      go_ret
      refine ⟨Xx (by simp [Y4,e1,e2,e3,e4,e5,e6,e7]<;>omega), ?_⟩;exact XA
theorem l16Frame_c (t:Tab) (A:Option Addr) (cap:Nat) (w:World) (_:t.In) :
 Calls Tryz.prog 126 #[tabV t A cap] w λ e w'=>e=.returned (.bool (Y4 t))/\Below w.heap.size w w':=by
 cases e1:ZD t.x0 (-1000) 1000
 ·go_enter Tryz.func126,Tryz.ntmps126
  go_wp2_with (first|(go_at_call 127;refine (Yo _ _ _ _).mono ?_;rintro e w' ⟨rfl,rfl⟩))
  go_ret
  refine ⟨Xx (by simp [Y4,e1]<;>omega), ?_⟩;exact XA
 ·cases e2:ZD t.y0 (-1000) 1000
  ·go_enter Tryz.func126,Tryz.ntmps126
   go_wp2_with (first|(go_at_call 127;refine (Yo _ _ _ _).mono ?_;rintro e w' ⟨rfl,rfl⟩))
   go_ret
   refine ⟨Xx (by simp [Y4,e1,e2]<;>omega), ?_⟩;exact XA
  ·cases e3:ZD t.step 1 100
   ·go_enter Tryz.func126,Tryz.ntmps126
    go_wp2_with (first|(go_at_call 127;refine (Yo _ _ _ _).mono ?_;rintro e w' ⟨rfl,rfl⟩))
    go_ret
    refine ⟨Xx (by simp [Y4,e1,e2,e3]<;>omega), ?_⟩;exact XA
   ·cases e4:ZD t.nx 1 100
    ·go_enter Tryz.func126,Tryz.ntmps126
     go_wp2_with (first|(go_at_call 127;refine (Yo _ _ _ _).mono ?_;rintro e w' ⟨rfl,rfl⟩))
     go_ret
     refine ⟨Xx (by simp [Y4,e1,e2,e3,e4]<;>omega), ?_⟩;exact XA
    ·cases e5:ZD t.ny 1 100
     ·go_enter Tryz.func126,Tryz.ntmps126
      go_wp2_with (first|(go_at_call 127;refine (Yo _ _ _ _).mono ?_;rintro e w' ⟨rfl,rfl⟩))
      go_ret
      refine ⟨Xx (by simp [Y4,e1,e2,e3,e4,e5]<;>omega), ?_⟩;exact XA
     ·obtain ⟨a1,a2⟩:=ZG.1 e1;obtain ⟨a3,a4⟩:=ZG.1 e2;obtain ⟨a5,a6⟩:=ZG.1 e3;obtain ⟨a7,a8⟩:=ZG.1 e4;obtain ⟨a9,a10⟩:=ZG.1 e5;obtain ⟨m1,m2⟩:=mul_bd (A:=100) (B:=100) (a:=t.nx) (b:=t.ny) (by omega) (by omega);obtain ⟨m3,m4⟩:=mul_bd (A:=100) (B:=100) (a:=t.nx) (b:=t.step) (by omega) (by omega);obtain ⟨m5,m6⟩:=mul_bd (A:=100) (B:=100) (a:=t.ny) (b:=t.step) (by omega) (by omega);by_cases e6:t.nx*t.ny<=400
      rotate_left
      ·go_enter Tryz.func126,Tryz.ntmps126
       go_wp2_with (first|(go_at_call 127;refine (Yo _ _ _ _).mono ?_;rintro e w' ⟨rfl,rfl⟩))
       go_ret
       refine ⟨Xx (by simp [Y4,e1,e2,e3,e4,e5]<;>omega), ?_⟩;exact XA
      by_cases e7:t.x0+t.nx*t.step<=1000
      rotate_left
      ·go_enter Tryz.func126,Tryz.ntmps126
       go_wp2_with (first|(go_at_call 127;refine (Yo _ _ _ _).mono ?_;rintro e w' ⟨rfl,rfl⟩))
       go_ret
       refine ⟨Xx (by simp [Y4,e1,e2,e3,e4,e5,e6]<;>omega), ?_⟩;exact XA
      by_cases e8:t.y0+t.ny*t.step<=1000
      rotate_left
      ·go_enter Tryz.func126,Tryz.ntmps126
       go_wp2_with (first|(go_at_call 127;refine (Yo _ _ _ _).mono ?_;rintro e w' ⟨rfl,rfl⟩))
       go_ret
       refine ⟨Xx (by simp [Y4,e1,e2,e3,e4,e5,e6,e7]<;>omega), ?_⟩;exact XA
      go_enter Tryz.func126,Tryz.ntmps126
      go_wp2_with (first|(go_at_call 127;refine (Yo _ _ _ _).mono ?_;rintro e w' ⟨rfl,rfl⟩))
      go_ret
      refine ⟨Xx (by simp [Y4,e1,e2,e3,e4,e5,e6,e7]<;>omega), ?_⟩;exact XA
theorem szTable_c (t:Tab) (A:Option Addr) (cap:Nat) (left:Int) (w:World) (hn:t.cells.length<=9223372036854775807) (h0:0<=left) (h1:left<=1048576) :
 Calls Tryz.prog 42 #[tabV t A cap,.int .i64 left] w λ e w'=>e=.returned (.int .i64 (if left-t.cells.length<0 then -1 else left-t.cells.length))/\Below w.heap.size w w':=by
 have c1:=λ W=>szIntS_c A t.cells.length cap left W hn h0 h1;by_cases h:left-t.cells.length<0
 ·rw [if_pos h] at c1;rw [if_pos h];go_enter Tryz.func42,Tryz.ntmps42
  go_wp2_with (fail)
  refine (c1 _).mono ?_;rintro e w' ⟨rfl,rfl⟩;go_wp2
  go_ret
  refine ⟨rfl, ?_⟩;exact XA
 ·rw [if_neg h] at c1;rw [if_neg h];go_enter Tryz.func42,Tryz.ntmps42
  go_wp2_with (fail)
  refine (c1 _).mono ?_;rintro e w' ⟨rfl,rfl⟩;go_wp2
  go_ret
  refine ⟨rfl, ?_⟩;exact XA
theorem toTable_c (t:Tab) (A:Option Addr) (cap:Nat) (w:World) (hn:t.cells.length<=1048576) (hs:Sl 1 Y6 w A t.cells) :
 Calls Tryz.prog 44 #[tabV t A cap] w λ e w'=>∃ A' cap',e=.returned (tabV t A' cap')/\XI 3 1 Y6 w' w.heap.size (.slice A' t.cells.length cap') t.cells/\Below w.heap.size w w':=by
 go_enter Tryz.func44,Tryz.ntmps44
 go_wp2_with (fail)
 refine (toIntS_c A t.cells cap _ hn ?hsl).mono ?_
 case hsl =>
  refine hs.below ?_;exact XA
 rintro e w1 ⟨v1,rfl,N1,hb1⟩;have hbw:=Xn (Xd (Xd (Xd (Below.refl w.heap.size w) _) _) _) hb1;have H1:YI w1 (w.heap.size+1) [.int .i64 0,.int .i64 0,.int .i64 0,.int .i64 0,.int .i64 0,.slice none 0 0]:=by
  refine YI.below ?_ hb1;have:=YI.new (w.alloc (.cells #[.int .i64 t.x0,.int .i64 t.y0,.int .i64 t.step,.int .i64 t.nx,.int .i64 t.ny,.slice A t.cells.length cap] 67)) #[.int .i64 0,.int .i64 0,.int .i64 0,.int .i64 0,.int .i64 0,.slice none 0 0] 75;simp only [World.size_alloc] at this;exact this.alloc _
 have H2:YI w1 (w.heap.size+1+1) [.int .i64 t.x0,.int .i64 t.y0,.int .i64 t.step,.int .i64 t.nx,.int .i64 t.ny,.slice none 0 0]:=by
  refine YI.below ?_ hb1;have:=YI.new ((w.alloc (.cells #[.int .i64 t.x0,.int .i64 t.y0,.int .i64 t.step,.int .i64 t.nx,.int .i64 t.ny,.slice A t.cells.length cap] 67)).alloc (.cells #[.int .i64 0,.int .i64 0,.int .i64 0,.int .i64 0,.int .i64 0,.slice none 0 0] 75)) #[.int .i64 t.x0,.int .i64 t.y0,.int .i64 t.step,.int .i64 t.nx,.int .i64 t.ny,.slice none 0 0] 75;simp only [World.size_alloc] at this;exact this
 obtain ⟨A1,k1,rfl,hown⟩:=N1;have N1':XI 3 1 Y6 w1 (w.heap.size+1+1+1) (.slice A1 t.cells.length k1) t.cells:=XI.mono ⟨A1,k1,rfl,hown⟩ (by simp);have hz:w.heap.size+1+1<w1.heap.size:=H2.1;obtain ⟨cH1_0,fH1_0⟩:=H1.2 0 _ rfl;obtain ⟨cH1_1,fH1_1⟩:=H1.2 1 _ rfl;obtain ⟨cH1_2,fH1_2⟩:=H1.2 2 _ rfl;obtain ⟨cH1_3,fH1_3⟩:=H1.2 3 _ rfl;obtain ⟨cH1_4,fH1_4⟩:=H1.2 4 _ rfl;obtain ⟨cH1_5,fH1_5⟩:=H1.2 5 _ rfl;obtain ⟨cH2_0,fH2_0⟩:=H2.2 0 _ rfl;obtain ⟨cH2_1,fH2_1⟩:=H2.2 1 _ rfl;obtain ⟨cH2_2,fH2_2⟩:=H2.2 2 _ rfl;obtain ⟨cH2_3,fH2_3⟩:=H2.2 3 _ rfl;obtain ⟨cH2_4,fH2_4⟩:=H2.2 4 _ rfl;obtain ⟨cH2_5,fH2_5⟩:=H2.2 5 _ rfl;clear hown hs H1 H2 hb1;go_wp2
 clear fH1_0 fH1_1 fH1_2 fH1_3 fH1_4 fH1_5 fH2_0 fH2_1 fH2_2 fH2_3 fH2_4 fH2_5 cH2_0 cH2_1 cH2_2 cH2_3 cH2_4 cH2_5;refine bodyPost_ret (v:=.agg #[.int .i64 t.x0,.int .i64 t.y0,.int .i64 t.step,.int .i64 t.nx,.int .i64 t.ny,.slice A1 t.cells.length k1]) (by simp [results,Tryz.results44,go_sem,cH1_0,cH1_1,cH1_2,cH1_3,cH1_4,cH1_5]) rfl ?_;refine ⟨A1,k1,rfl, ?_, ?_⟩
 ·refine XI.mono (base:=w.heap.size+1+1+1) ?_ (by omega);repeat (first|(with_reducible exact N1')|(with_reducible refine XI.low ?_ ?_ _)|(focus (simp;done))|(focus (simp;omega)))
 ·exact XA
theorem eqTable_t (t:Tab) (A B:Option Addr) (c d:Nat) (w:World) (hn:t.cells.length<=1048576) (ha:Sl 1 Y6 w A t.cells) (hb:Sl 1 Y6 w B t.cells) :
 Calls Tryz.prog 47 #[tabV t A c,tabV t B d] w λ e w'=>e=.returned (.bool true)/\Below w.heap.size w w':=by
 go_enter Tryz.func47,Tryz.ntmps47
 go_wp2_with (fail)
 refine (eqIntS_t A B t.cells c d _ hn ?ha ?hb).mono ?_
 case ha =>
  refine ha.below ?_;exact XA
 case hb =>
  refine hb.below ?_;exact XA
 rintro e w1 ⟨rfl,hb1⟩;have hbw:=Xn (Xd (Xd (Below.refl w.heap.size w) _) _) hb1;go_wp2
 go_ret
 exact ⟨rfl,hbw⟩
theorem markTable_g (t:Tab) (A:Option Addr) (cap:Nat) (K:Int) (base:Nat) (w:World) (hn:t.cells.length<=1048576) (hK:0<=K) (hK2:K<=1000000000000) (hv:XI 3 1 Y6 w base (.slice A t.cells.length cap) t.cells) :
 Calls Tryz.prog 52 #[tabV t A cap,.int .i64 K] w λ e w'=>e=.returned (.int .i64 (K+t.cells.length))/\XI 3 1 Y6 w' base (.slice A t.cells.length cap) (K6 K t.cells.length)/\Zr w w' [⟨A,cap⟩]:=by
 have c1:=λ W h=>markIntS_g A t.cells.length cap t.cells K base W rfl hn hK hK2 h;go_enter Tryz.func52,Tryz.ntmps52
 go_wp2_with (fail)
 refine (c1 _ (XI.alloc hv _)).mono ?_;rintro e w1 ⟨rfl,N1,o1⟩;go_wp2
 go_ret
 exact ⟨rfl,N1,(Zr.of_below (Xd bR _) _).trans o1⟩
theorem heldTable_c (t:Tab) (A:Option Addr) (cap:Nat) (K:Int) (w:World) (hn:t.cells.length<=1048576) (hK:0<=K) (hK2:K<=1000000000000) (hs:Sl 1 Y6 w A (K6 K t.cells.length)) :
 Calls Tryz.prog 53 #[tabV t A cap,.int .i64 K] w λ e w'=>e=.returned (.int .i64 (K+t.cells.length))/\Below w.heap.size w w':=by
 have c1:=λ W h=>heldIntS_c A t.cells.length cap K W hn hK hK2 h;have hng:¬ (K+(t.cells.length:Int)<0):=by omega
 go_enter Tryz.func53,Tryz.ntmps53
 go_wp2_with (fail)
 refine (c1 _ (hs.alloc _)).mono ?_;rintro e w1 ⟨rfl,rfl⟩;go_wp2
 go_ret
 refine ⟨rfl, ?_⟩;exact XA
def cellB (t:Tab) (i j:Int):Bool:=decide (0<=i)&&decide (i<t.nx)&&decide (0<=j)&&decide (j<t.ny)
def Xi (t:Tab) (i j:Int):List Ya:=[⟨t.x0+i*t.step,t.y0+j*t.step,1⟩,⟨t.x0+i*t.step+t.step,t.y0+j*t.step,1⟩,⟨t.x0+i*t.step+t.step,t.y0+j*t.step+t.step,1⟩,⟨t.x0+i*t.step,t.y0+j*t.step+t.step,1⟩]
structure CellB (t:Tab) (i j:Int):Prop where
 x : -1000<=t.x0/\t.x0<=1000
 y : -1000<=t.y0/\t.y0<=1000
 s:1<=t.step/\t.step<=100
 is:0<=i*t.step/\i*t.step<=10000
 js:0<=j*t.step/\j*t.step<=10000
theorem cellB_bd {t:Tab} {i j:Int} (h:Y4 t=true) (hb:cellB t i j=true):CellB t i j:=by
 obtain ⟨g1,g2,g3,g4,g5,_⟩:=gridOk_iff.1 h;simp only [cellB,Bool.and_eq_true,decide_eq_true_eq] at hb;obtain ⟨⟨⟨h1,h2⟩,h3⟩,h4⟩:=hb;have m1:=mul_bd (a:=i) (b:=t.step) (A:=100) (B:=100) (by omega) (by omega);have m2:=mul_bd (a:=j) (b:=t.step) (A:=100) (B:=100) (by omega) (by omega);exact ⟨g1,g2,g3,⟨Int.mul_nonneg h1 (by omega),by omega⟩,⟨Int.mul_nonneg h3 (by omega),by omega⟩⟩
theorem cellNew {T base g:Nat} (w:World) (t:Tab) (i j:Int) (hg:g=w.heap.size) (hb:base<=w.heap.size):XI T 3 Zm (w.alloc (.cells #[.int .i64 (t.x0+i*t.step),.int .i64 (t.y0+j*t.step),.int .i64 1,.int .i64 (t.x0+i*t.step+t.step),.int .i64 (t.y0+j*t.step),.int .i64 1,.int .i64 (t.x0+i*t.step+t.step),.int .i64 (t.y0+j*t.step+t.step),.int .i64 1,.int .i64 (t.x0+i*t.step),.int .i64 (t.y0+j*t.step+t.step),.int .i64 1] T)) base (.slice (some ⟨g,0,none⟩) 4 4) (Xi t i j):=by
 subst hg;exact ⟨_,4,rfl,ZX Zt _,.inr ⟨w.heap.size,4,_,rfl,hb,heap_alloc_new w _,Nat.le_refl 4,by decide,rfl,rfl⟩⟩
theorem iCnrs_c (t:Tab) (A:Option Addr) (cap:Nat) (i j:Int) (w:World) (hb:CellB t i j) :
 Calls Tryz.prog 186 #[tabV t A cap,.int .i64 i,.int .i64 j] w λ e w'=>∃ v,e=.returned v/\XI 44 3 Zm w' w.heap.size v (Xi t i j)/\Below w.heap.size w w':=by
 obtain ⟨⟨b1,b2⟩,⟨b3,b4⟩,⟨b5,b6⟩,⟨b7,b8⟩,⟨b9,b10⟩⟩:=hb;go_enter Tryz.func186,Tryz.ntmps186
 go_wp2
 go_big_quiet (fail)
 go_wp2
 go_big_quiet (fail)
 go_wp2
 go_ret
 refine ⟨.slice (some ⟨w.heap.size+1,0,none⟩) 4 4,rfl, ?_, ?_⟩
 ·exact cellNew _ t i j (by simp) (by simp)
 ·exact XA
theorem sCnrs_c (t:Tab) (A:Option Addr) (cap:Nat) (i j:Int) (w:World) (hb:CellB t i j) :
 Calls Tryz.prog 182 #[tabV t A cap,.int .i64 i,.int .i64 j] w λ e w'=>∃ v,e=.returned v/\XI 44 3 Zm w' w.heap.size v (Xi t i j)/\Below w.heap.size w w':=by
 obtain ⟨⟨b1,b2⟩,⟨b3,b4⟩,⟨b5,b6⟩,⟨b7,b8⟩,⟨b9,b10⟩⟩:=hb;go_enter Tryz.func182,Tryz.ntmps182
 go_wp2
 go_ret
 refine ⟨.slice (some ⟨w.heap.size+1,0,none⟩) 4 4,rfl, ?_, ?_⟩
 ·exact cellNew _ t i j (by simp) (by simp)
 ·exact XA
theorem j3_FillTable:(Rows.fnExactFillTableRow.recurses == Tryz.prog.recurses 9)=true:=by kernel_rfl
theorem j4_FillTable:(Rows.fnExactFillTableRow.named == Tryz.prog.varsNamed 9)=true:=by kernel_rfl
theorem j1_FillTable:(Rows.fnExactFillTableRow.inPlace == Tryz.prog.inPlace 9)=true:=by kernel_rfl
theorem j2_FillTable:(Rows.fnExactFillTableRow.unfollowed == Tryz.prog.unfollowed 9)=true:=by kernel_rfl
theorem ratioMin_in {r s:YA} (hr:r.In) (hs:s.In):(Yw r s).In:=by
 unfold Yw;split
 ·split<;>assumption
 ·exact ⟨⟨by decide,by decide⟩,⟨by decide,by decide⟩⟩
def Y3 (a b:ZP):Option ZP:=if Yg a=true/\Yg b=true/\Yg ⟨Yp a.low b.low,Yw a.high b.high⟩=true then some ⟨Yp a.low b.low,Yw a.high b.high⟩ else none
def JS (A:Ya->Option ZP) (l:List Ya):Nat->Option ZP
 | 0=>some Xj
 | k+1=>(JS A l k).bind λ w=>(A (l.getD k XU)).bind λ v=>if k=0 then some v else Y3 w v
theorem accS_none {A:Ya->Option ZP} {l:List Ya} {k:Nat} (h:JS A l k=none):∀ m,JS A l (k+m)=none
 | 0=>h
 | m+1=>by
  have:=accS_none h m;show (JS A l (k+m)).bind _=none;rw [this];rfl
theorem accS_no {A:Ya->Option ZP} {l:List Ya} {k n:Nat} (h:JS A l k=none) (hk:k<=n):JS A l n=none:=by
 obtain ⟨m,rfl⟩:=Nat.le.dest hk;exact accS_none h m
def accH (H:Ya->Bool) (A:Ya->Option ZP) (l:List Ya):Nat->Option ZP
 | 0=>some Xj
 | k+1=>(accH H A l k).bind λ w=>if H (l.getD k XU)=true then (A (l.getD k XU)).bind λ v=>if k=0 then some v else Y3 w v else none
theorem accH_eq {H:Ya->Bool} {A:Ya->Option ZP} {l:List Ya}:∀ k,k<=l.length->accH H A l k=if (l.take k).all H=true then JS A l k else none
 | 0,_=>by rw [accH,JS,List.take_zero];rfl
 | k+1,hk=>by
  have h:k<l.length:=by omega
  rw [accH,accH_eq k (by omega),JS,List.take_add_one,List.getElem?_eq_getElem h,List.all_append,getD_el h];simp only [Option.toList_some,List.all_cons,List.all_nil,Bool.and_true];rcases Bool.eq_false_or_eq_true ((l.take k).all H) with h1|h1
  ·rw [h1,if_pos rfl,Bool.true_and];rcases Bool.eq_false_or_eq_true (H l[k]) with h2|h2
   ·rw [h2];simp
   ·rw [h2];cases JS A l k<;>simp
  ·rw [h1,if_neg (by simp),Bool.false_and,if_neg (by simp)];rfl
theorem accH_none {H:Ya->Bool} {A:Ya->Option ZP} {l:List Ya} {k:Nat} (h:accH H A l k=none):∀ m,accH H A l (k+m)=none
 | 0=>h
 | m+1=>by
  have:=accH_none h m;show (accH H A l (k+m)).bind _=none;rw [this];rfl
theorem accH_first {H:Ya->Bool} {A:Ya->Option ZP} {l:List Ya} {k:Nat} {wv:ZP} (h0:k=0) (hacc:accH H A l k=some wv) (h1:H (l.getD k XU)=true) (h2:(A (l.getD k XU)).isSome=true):accH H A l (k+1)=some ((A (l.getD k XU)).getD Xj):=by
 obtain ⟨v,hv⟩:=Option.isSome_iff_exists.1 h2;rw [accH,hacc,Option.bind_some,if_pos h1,hv,Option.bind_some,if_pos h0,Option.getD_some]
theorem accH_next {H:Ya->Bool} {A:Ya->Option ZP} {l:List Ya} {k:Nat} {wv:ZP} (h0:k≠0) (hacc:accH H A l k=some wv) (h1:H (l.getD k XU)=true) (h2:(A (l.getD k XU)).isSome=true) (h3:(Y3 wv ((A (l.getD k XU)).getD Xj)).isSome=true):accH H A l (k+1)=some ((Y3 wv ((A (l.getD k XU)).getD Xj)).getD Xj):=by
 obtain ⟨v,hv⟩:=Option.isSome_iff_exists.1 h2;rw [hv,Option.getD_some] at h3;obtain ⟨u,hu⟩:=Option.isSome_iff_exists.1 h3;rw [accH,hacc,Option.bind_some,if_pos h1,hv,Option.bind_some,if_neg h0,Option.getD_some,hu,Option.getD_some]
theorem accH_stop1 {H:Ya->Bool} {A:Ya->Option ZP} {l:List Ya} {k:Nat} {wv:ZP} (hacc:accH H A l k=some wv) (h:(!(H (l.getD k XU)) || !((A (l.getD k XU)).isSome))=true):accH H A l (k+1)=none:=by
 rw [accH,hacc,Option.bind_some];rcases Bool.eq_false_or_eq_true (H (l.getD k XU)) with h1|h1
 ·rw [h1] at h;rw [if_pos h1];cases e:A (l.getD k XU) with
  | none=>rfl
  | some v=>rw [e] at h;cases h
 ·rw [if_neg (by rw [h1];simp)]
theorem accH_stop2 {H:Ya->Bool} {A:Ya->Option ZP} {l:List Ya} {k:Nat} {wv:ZP} (h0:k≠0) (hacc:accH H A l k=some wv) (h1:H (l.getD k XU)=true) (h2:(A (l.getD k XU)).isSome=true) (h3:(Y3 wv ((A (l.getD k XU)).getD Xj)).isSome=false):accH H A l (k+1)=none:=by
 obtain ⟨v,hv⟩:=Option.isSome_iff_exists.1 h2;rw [hv,Option.getD_some] at h3;rw [accH,hacc,Option.bind_some,if_pos h1,hv,Option.bind_some,if_neg h0];cases e:Y3 wv v with
 | none=>rfl
 | some u=>rw [e] at h3;cases h3
theorem accH_end {H:Ya->Bool} {A:Ya->Option ZP} {l:List Ya} {k n:Nat} (hk:k<n) (h:accH H A l (k+1)=none):accH H A l n=none:=by
 have:=accH_none h (n-(k+1));rwa [show k+1+(n-(k+1))=n by omega] at this
end Go.Proofs.YtkjimfapbjdafaaGreat
