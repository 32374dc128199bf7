/-
 InputAt: of the program and of the reference.
 Conditions: the table's slice holds at most 2^20 elements.
-/
import Derived.Test.YtabfdkpdppemaaaGreatGrNQc
import Derived.Deep.QuietTactic
import Derived.BigQuiet
set_option maxHeartbeats 2000000
set_option maxRecDepth 100000
namespace Go.Proofs.YtabfdkpdppemaaaGreat
open Go.RowKit
def cellIx (t:Tab) (s:XQ):Nat:=((X1 t s).2*t.nx+(X1 t s).1).toNat
def YI (t:Tab) (s:XQ):Int × Bool :=
 if (X1 t s).1<0 then (0,false)
 else if t.cells.getD (cellIx t s) 0 = -1000000 then (0,false)
 else (t.cells.getD (cellIx t s) 0,true)
theorem tableOk_len {t:Tab} (h:ZG t=true):(t.cells.length:Int)=t.nx*t.ny:=by
 simp only [ZG,Bool.and_eq_true,decide_eq_true_eq] at h;exact h.1.2
theorem cellOf_bd {t:Tab} {s:XQ} (h:0<=(X1 t s).1):ZG t=true/\(X1 t s).1<t.nx/\0<=(X1 t s).2/\(X1 t s).2<t.ny:=by
 unfold X1 at h ⊢;by_cases h1:ZG t=true/\Xv s=true
 ·rw [if_pos h1] at h ⊢;obtain ⟨⟨_,_⟩,⟨_,_⟩,⟨_,_⟩,⟨g7,g8⟩,⟨g9,g10⟩,_⟩:=KO.1 (tableOk_grid h1.1);have b1:=firstGo_bd (p:=JQ s.x s.d t.x0 t.step) (t.nx.toNat-0) 0;have b2:=firstGo_bd (p:=JQ s.y s.d t.y0 t.step) (t.ny.toNat-0) 0;split at h
  ·simp at h
  ·rename_i h2
   rw [if_neg h2];unfold Jl at h2 ⊢;exact ⟨h1.1,by simp only;omega,by simp only;omega,by simp only;omega⟩
 ·rw [if_neg h1] at h;simp at h
structure IxB (t:Tab) (i j:Int):Prop where
 m:0<=j*t.nx/\j*t.nx<=10000
 p:0<=j*t.nx+i/\j*t.nx+i<t.cells.length
theorem ixB {t:Tab} {s:XQ} (h:0<=(X1 t s).1):IxB t (X1 t s).1 (X1 t s).2:=by
 obtain ⟨h1,h2,h3,h4⟩:=cellOf_bd h;have hl:=tableOk_len h1;obtain ⟨⟨_,_⟩,⟨_,_⟩,⟨_,_⟩,⟨g7,g8⟩,⟨g9,g10⟩,_⟩:=KO.1 (tableOk_grid h1);generalize (X1 t s).1=i at *;generalize (X1 t s).2=j at *;have a0:0<=j*t.nx:=Int.mul_nonneg h3 (by omega);have a1:j*t.nx<=100*t.nx:=Int.mul_le_mul_of_nonneg_right (by omega) (by omega);have a2:(j+1)*t.nx<=t.ny*t.nx:=Int.mul_le_mul_of_nonneg_right (by omega) (by omega);rw [Int.add_mul,Int.one_mul,Int.mul_comm t.ny] at a2;exact ⟨⟨a0,by omega⟩,⟨by omega,by omega⟩⟩
theorem iInputAt_c (t:Tab) (A:Option Addr) (cap:Nat) (s:XQ) (w:World) (ht:t.In) (hsi:s.In) (hn:t.cells.length<=1048576) (hs:Sl 1 Z6 w A t.cells) :
 Calls Tryz.prog 43 #[tabV t A cap,YQ s] w λ e w'=>e=.returned (.tuple #[.int .i64 (YI t s).1,.bool (YI t s).2])/\Below w.heap.size w w':=by
 have c1:=λ W h=>iCellOf_c t A cap s W ht hsi hn h;obtain ⟨R,hR⟩:∃ R,R=YI t s:=⟨_,rfl⟩;rw [<- hR];unfold YI at hR;have hd:=Lib.hid hR;clear hR;have hix:=λ h=>@ixB t s h;have hcx:cellIx t s=((X1 t s).2*t.nx+(X1 t s).1).toNat:=rfl;generalize cellIx t s=x at *;generalize (X1 t s).1=i at *;generalize (X1 t s).2=j at *;by_cases hi:i<0
 ·have hfin:=Lib.hid (show R=(0,false) by have:=hd.out;rw [if_pos hi] at this;exact this);clear hd hix hcx;go_enter Tryz.func43,Tryz.ntmps43
  go_wp2_with (fail)
  refine (c1 _ (Sl.below hs (by exact Xp))).mono ?_;rintro e w1 ⟨rfl,hb1⟩;go_wp2
  refine bodyPost_ret (v:=.tuple #[.int .i64 0,.bool false]) (by simp [results,Tryz.results43,go_sem]) rfl ⟨by rw [hfin.out], ?_⟩;exact Xp
 ·obtain ⟨⟨m1,m2⟩,p1,p2⟩:=hix (by omega);obtain ⟨b,off,rfl,hblt,hc⟩:=hs (by omega);have hxl:x<t.cells.length:=by omega
  have hx2:(x:Int)=j*t.nx+i:=by omega
  have hg:=hc x hxl 0 _ rfl;have hgd:t.cells.getD x 0=t.cells[x]:=by rw [List.getD_eq_getElem?_getD,List.getElem?_eq_getElem hxl];rfl
  rw [hgd,if_neg hi] at hd;have g0:w.cell? ⟨b,off+(j*t.nx+i).toNat,none⟩=some (.int .i64 t.cells[x]):=by rw [<- hcx];simpa using hg
  have hs':=Lib.hid hs;clear hc hg hgd hix hs;have HX:=Lib.hid hcx;have HY:=Lib.hid hx2;clear hcx hx2;generalize t.cells[x]=n at *;by_cases hn0:n = -1000000
  ·have hfin:=Lib.hid (show R=(0,false) by have:=hd.out;rw [if_pos hn0] at this;exact this);clear hd;have hq:(n == -1000000)=true:=by simp [hn0]
   have HN:=Lib.hid hn0;clear hn0;go_enter Tryz.func43,Tryz.ntmps43
   go_wp2_with (fail)
   refine (c1 _ (Sl.below hs'.out (by exact Xp))).mono ?_;rintro e w1 ⟨rfl,hb1⟩;have r1:=XD hb1;have l0:w.heap.size<w1.heap.size:=XL hb1;have l1:w.heap.size+1<w1.heap.size:=XL hb1;have g1:w1.cell? ⟨b,off+(j*t.nx+i).toNat,none⟩=some (.int .i64 n):=by
    have hbw:Below w.heap.size w w1:=by
     exact Xp
    exact (hbw.cell (p:=⟨b,off+(j*t.nx+i).toNat,none⟩) hblt).trans g0
   go_wp2
   refine bodyPost_ret (v:=.tuple #[.int .i64 0,.bool false]) (by simp [results,Tryz.results43,go_sem]) rfl ⟨by rw [hfin.out], ?_⟩;exact Xp
  ·have hfin:=Lib.hid (show R=(n,true) by have:=hd.out;rw [if_neg hn0] at this;exact this);clear hd;have hq:(n == -1000000)=false:=by simpa using hn0
   clear hn0;go_enter Tryz.func43,Tryz.ntmps43
   go_wp2_with (fail)
   refine (c1 _ (Sl.below hs'.out (by exact Xp))).mono ?_;rintro e w1 ⟨rfl,hb1⟩;have r1:=XD hb1;have l0:w.heap.size<w1.heap.size:=XL hb1;have l1:w.heap.size+1<w1.heap.size:=XL hb1;have g1:w1.cell? ⟨b,off+(j*t.nx+i).toNat,none⟩=some (.int .i64 n):=by
    have hbw:Below w.heap.size w w1:=by
     exact Xp
    exact (hbw.cell (p:=⟨b,off+(j*t.nx+i).toNat,none⟩) hblt).trans g0
   go_wp2
   refine bodyPost_ret (v:=.tuple #[.int .i64 n,.bool true]) (by simp [results,Tryz.results43,go_sem]) rfl ⟨by rw [hfin.out], ?_⟩;exact Xp
def cellB (t:Tab) (i j:Int):Bool:=decide (0<=i)&&decide (i<t.nx)&&decide (0<=j)&&decide (j<t.ny)
def Xq (t:Tab) (i j:Int):List XQ:=[⟨t.x0+i*t.step,t.y0+j*t.step,1⟩,⟨t.x0+i*t.step+t.step,t.y0+j*t.step,1⟩,⟨t.x0+i*t.step+t.step,t.y0+j*t.step+t.step,1⟩,⟨t.x0+i*t.step,t.y0+j*t.step+t.step,1⟩]
def XR (t:Tab) (i j:Int):List XQ:=if ZG t=true/\cellB t i j=true then Xq t i j else []
theorem tableOk_grid' {t:Tab} (h:ZG t=true):YP t=true:=by
 simp only [ZG,Bool.and_eq_true] at h;exact h.1.1
structure CellB (t:Tab) (i j:Int):Prop where
 x : -1000<=t.x0/\t.x0<=1000
 y : -1000<=t.y0/\t.y0<=1000
 s:1<=t.step/\t.step<=100
 is:0<=i*t.step/\i*t.step<=10000
 js:0<=j*t.step/\j*t.step<=10000
theorem cellB_bd {t:Tab} {i j:Int} (h:YP t=true) (hb:cellB t i j=true):CellB t i j:=by
 obtain ⟨g1,g2,g3,g4,g5,_⟩:=KO.1 h;simp only [cellB,Bool.and_eq_true,decide_eq_true_eq] at hb;obtain ⟨⟨⟨h1,h2⟩,h3⟩,h4⟩:=hb;have m1:=mul_bd (a:=i) (b:=t.step) (A:=100) (B:=100) (by omega) (by omega);have m2:=mul_bd (a:=j) (b:=t.step) (A:=100) (B:=100) (by omega) (by omega);exact ⟨g1,g2,g3,⟨Int.mul_nonneg h1 (by omega),by omega⟩,⟨Int.mul_nonneg h3 (by omega),by omega⟩⟩
theorem cellNew {T base g:Nat} (w:World) (t:Tab) (i j:Int) (hg:g=w.heap.size) (hb:base<=w.heap.size):XU T 3 J7 (w.alloc (.cells #[.int .i64 (t.x0+i*t.step),.int .i64 (t.y0+j*t.step),.int .i64 1,.int .i64 (t.x0+i*t.step+t.step),.int .i64 (t.y0+j*t.step),.int .i64 1,.int .i64 (t.x0+i*t.step+t.step),.int .i64 (t.y0+j*t.step+t.step),.int .i64 1,.int .i64 (t.x0+i*t.step),.int .i64 (t.y0+j*t.step+t.step),.int .i64 1] T)) base (.slice (some ⟨g,0,none⟩) 4 4) (Xq t i j):=by
 subst hg;exact ⟨_,4,rfl,Zu J2 _,.inr ⟨w.heap.size,4,_,rfl,hb,heap_alloc_new w _,Nat.le_refl 4,by decide,rfl,rfl⟩⟩
theorem isCell_c (t:Tab) (A:Option Addr) (cap:Nat) (i j:Int) (w:World) :
 Calls Tryz.prog 149 #[tabV t A cap,.int .i64 i,.int .i64 j] w λ e w'=>e=.returned (.bool (cellB t i j))/\Below w.heap.size w w':=by
 go_enter Tryz.func149,Tryz.ntmps149
 go_wp2
 all_goals
  go_ret
  refine ⟨Xm (by simp [cellB, *]<;>omega), ?_⟩;exact Xp
theorem iCnrs_c (t:Tab) (A:Option Addr) (cap:Nat) (i j:Int) (w:World) (hb:CellB t i j) :
 Calls Tryz.prog 150 #[tabV t A cap,.int .i64 i,.int .i64 j] w λ e w'=>∃ v,e=.returned v/\XU 30 3 J7 w' w.heap.size v (Xq t i j)/\Below w.heap.size w w':=by
 obtain ⟨⟨b1,b2⟩,⟨b3,b4⟩,⟨b5,b6⟩,⟨b7,b8⟩,⟨b9,b10⟩⟩:=hb;go_enter Tryz.func150,Tryz.ntmps150
 go_wp2
 go_big_quiet (fail)
 go_wp2
 go_big_quiet (fail)
 go_wp2
 go_ret
 refine ⟨.slice (some ⟨w.heap.size+1,0,none⟩) 4 4,rfl, ?_, ?_⟩
 ·exact cellNew _ t i j (by simp) (by simp)
 ·exact Xp
theorem iCellCorners_c (t:Tab) (A:Option Addr) (cap:Nat) (i j:Int) (w:World) (ht:t.In) (hn:t.cells.length<=1048576) (hs:Sl 1 Z6 w A t.cells) :
 Calls Tryz.prog 59 #[tabV t A cap,.int .i64 i,.int .i64 j] w λ e w'=>∃ v,e=.returned v/\XU 30 3 J7 w' w.heap.size v (XR t i j)/\Below w.heap.size w w':=by
 have c1:=λ W h=>iTableOk_c t A cap W ht hn h;have c2:=λ W=>isCell_c t A cap i j W;have c3:=λ W h=>iCnrs_c t A cap i j W h;have hdef:=Lib.hid (show XR t i j=if ZG t=true/\cellB t i j=true then Xq t i j else [] from rfl);have hbd:=Lib.hid (λ h1 h2=>@cellB_bd t i j (@tableOk_grid' t h1) h2);cases e1:ZG t
 ·rw [e1] at c1;have hfin:=Lib.hid (show XR t i j=[] by rw [hdef.out,e1];simp);clear e1 hbd hdef c2 c3;go_enter Tryz.func59,Tryz.ntmps59
  go_wp2_with (fail)
  refine (c1 _ (hs.alloc _)).mono ?_;rintro e w1 ⟨rfl,hb1⟩;go_wp2
  go_ret
  refine ⟨_,rfl,by rw [hfin.out];exact ⟨none,0,rfl,World.ownsRow_nil _ _ _ _⟩, ?_⟩;exact Xp
 ·rw [e1] at c1;cases e2:cellB t i j
  ·rw [e2] at c2;have hfin:=Lib.hid (show XR t i j=[] by rw [hdef.out,e2];simp);clear e1 e2 hbd hdef c3;go_enter Tryz.func59,Tryz.ntmps59
   go_wp2_with (fail)
   refine (c1 _ (hs.alloc _)).mono ?_;rintro e w1 ⟨rfl,hb1⟩;have r1:=XD hb1;have l1:w.heap.size<w1.heap.size:=blt hb1 (by simp);go_wp2_with (fail)
   refine (c2 _).mono ?_;rintro e w2 ⟨rfl,hb2⟩;go_wp2
   go_ret
   refine ⟨_,rfl,by rw [hfin.out];exact ⟨none,0,rfl,World.ownsRow_nil _ _ _ _⟩, ?_⟩;exact Xp
  ·rw [e2] at c2;have hfin:=Lib.hid (show XR t i j=Xq t i j by rw [hdef.out,e1,e2];simp);have hcb:=Lib.hid (hbd.out e1 e2);clear e1 e2 hbd hdef;go_enter Tryz.func59,Tryz.ntmps59
   go_wp2_with (fail)
   refine (c1 _ (hs.alloc _)).mono ?_;rintro e w1 ⟨rfl,hb1⟩;have r1:=XD hb1;have l1:w.heap.size<w1.heap.size:=blt hb1 (by simp);go_wp2_with (fail)
   refine (c2 _).mono ?_;rintro e w2 ⟨rfl,hb2⟩;have r2:=XD hb2;have l2:w.heap.size<w2.heap.size:=blt hb2 (by first|omega|simp);go_wp2_with (fail)
   refine (c3 _ hcb.out).mono ?_;rintro e w3 ⟨v,rfl,N3,hb3⟩;have hB:Below w.heap.size w w3:=by exact Xp
   have hle:w.heap.size<=w2.heap.size:=by omega
   clear hb1 hb2 hb3 r1 r2;go_wp2
   go_ret
   exact ⟨_,rfl,by rw [hfin.out];exact N3.mono hle,hB⟩
end Go.Proofs.YtabfdkpdppemaaaGreat
