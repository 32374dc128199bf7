/-
 The corners of a cell of a table: of the program and of the reference.
 Conditions: the table's slice holds at most 2^20 elements.
-/
import Derived.Deep.QuietTactic
import Derived.BigQuiet
import Derived.Test.YtkjimfapbjdafaaGreatLawCellSpanK
import Derived.Test.YtkjimfapbjdafaaGreatAdmDQc
set_option maxRecDepth 100000
namespace Go.Proofs.YtkjimfapbjdafaaGreat
open Go.RowKit
def YF (t:Jp) (i j:Int):List X0:=if XQ t=true/\Jb t i j=true then Xa t i j else []
theorem isCell_c (t:Jp) (A:Option Addr) (cap:Nat) (i j:Int) (w:World) :
 Calls Tryz.prog 115 #[tabV t A cap,.int .i64 i,.int .i64 j] w λ e w'=>e=.returned (.bool (Jb t i j))/\Below w.heap.size w w':=by
 go_enter Tryz.func115,Tryz.ntmps115
 go_wp2
 all_goals
  go_ret
  refine ⟨Xi (by simp [Jb, *]<;>omega), ?_⟩;exact Xo
set_option maxHeartbeats 1000000 in
theorem sCellCorners_c (t:Jp) (A:Option Addr) (cap:Nat) (i j:Int) (w:World) (ht:t.In) (hn:t.cells.length<=1048576) (hs:Sl 1 YQ w A t.cells) :
 Calls Tryz.prog 111 #[tabV t A cap,.int .i64 i,.int .i64 j] w λ e w'=>∃ v,e=.returned v/\XY 44 3 KR w' w.heap.size v (YF t i j)/\Below w.heap.size w w':=by
 have c1:=λ W h=>sTableOk_c t A cap W ht hn h;have c2:=λ W=>XS i 0 (t.nx-1) W;have c2b:=λ W=>XS j 0 (t.ny-1) W;have c3:=λ W h=>sCnrs_c t A cap i j W h;have hdef:=Lib.hid (show YF t i j=if XQ t=true/\Jb t i j=true then Xa t i j else [] from rfl);have hcell:=Lib.hid (show Jb t i j=(Zc i 0 (t.nx-1)&&Zc j 0 (t.ny-1)) by
  rw [Bool.eq_iff_iff];simp only [Jb,Zc,Bool.and_eq_true,decide_eq_true_eq];omega)
 have hbd:=Lib.hid (λ h1 h2=>@cellB_bd t i j (@KV t h1) h2);have hgb:=Lib.hid (λ h1=>KL.1 (@KV t h1));cases e1:XQ t
 ·rw [e1] at c1;have hfin:=Lib.hid (show YF t i j=[] by rw [hdef.out,e1];simp);clear e1 hbd hdef c2 c2b c3 hcell hgb;go_enter Tryz.func111,Tryz.ntmps111
  go_wp2_with (fail)
  refine (c1 _ (hs.alloc _)).mono ?_;rintro e w1 ⟨rfl,hb1⟩;have r1:=Xn hb1;have l1:w.heap.size<w1.heap.size:=blt hb1 (by simp);go_wp2
  go_ret
  refine ⟨_,rfl,by rw [hfin.out];exact ⟨none,0,rfl,World.ownsRow_nil _ _ _ _⟩, ?_⟩;exact Xo
 ·rw [e1] at c1;obtain ⟨_,_,_,⟨n1,n2⟩,⟨n3,n4⟩,_⟩:=hgb.out e1;cases e2:Zc i 0 (t.nx-1)
  ·rw [e2] at c2 hcell;have hfin:=Lib.hid (show YF t i j=[] by rw [hdef.out,hcell.out];simp);clear e1 e2 hbd hdef c3 hcell hgb c2b;go_enter Tryz.func111,Tryz.ntmps111
   go_wp2_with (fail)
   refine (c1 _ (hs.alloc _)).mono ?_;rintro e w1 ⟨rfl,hb1⟩;have r1:=Xn hb1;have l1:w.heap.size<w1.heap.size:=blt hb1 (by simp);go_wp2_with (fail)
   refine (c2 _).mono ?_;rintro e w2 ⟨rfl,rfl⟩;go_wp2
   go_ret
   refine ⟨_,rfl,by rw [hfin.out];exact ⟨none,0,rfl,World.ownsRow_nil _ _ _ _⟩, ?_⟩;exact Xo
  ·cases e3:Zc j 0 (t.ny-1)
   ·rw [e2] at c2 hcell;rw [e3] at c2b hcell;have hfin:=Lib.hid (show YF t i j=[] by rw [hdef.out,hcell.out];simp);clear e1 e2 e3 hbd hdef c3 hcell hgb;go_enter Tryz.func111,Tryz.ntmps111
    go_wp2_with (fail)
    refine (c1 _ (hs.alloc _)).mono ?_;rintro e w1 ⟨rfl,hb1⟩;have r1:=Xn hb1;have l1:w.heap.size<w1.heap.size:=blt hb1 (by simp);go_wp2_with (fail)
    refine (c2 _).mono ?_;rintro e w2 ⟨rfl,rfl⟩;go_wp2_with (fail)
    refine (c2b _).mono ?_;rintro e w2 ⟨rfl,rfl⟩;go_wp2
    go_ret
    refine ⟨_,rfl,by rw [hfin.out];exact ⟨none,0,rfl,World.ownsRow_nil _ _ _ _⟩, ?_⟩;exact Xo
   ·rw [e2] at c2 hcell;rw [e3] at c2b hcell;have hcb:=Lib.hid (hbd.out e1 hcell.out);have hfin:=Lib.hid (show YF t i j=Xa t i j by rw [hdef.out,e1,hcell.out];simp);clear e1 e2 e3 hbd hdef hcell hgb;go_enter Tryz.func111,Tryz.ntmps111
    go_wp2_with (fail)
    refine (c1 _ (hs.alloc _)).mono ?_;rintro e w1 ⟨rfl,hb1⟩;have r1:=Xn hb1;have l1:w.heap.size<w1.heap.size:=blt hb1 (by simp);go_wp2_with (fail)
    refine (c2 _).mono ?_;rintro e w2 ⟨rfl,rfl⟩;go_wp2_with (fail)
    refine (c2b _).mono ?_;rintro e w2 ⟨rfl,rfl⟩;go_wp2_with (fail)
    refine (c3 _ hcb.out).mono ?_;rintro e w3 ⟨v,rfl,N3,hb3⟩;have hB:Below w.heap.size w w3:=by exact Xo
    have hle:w.heap.size<=w1.heap.size:=by omega
    clear hb1 hb3 r1;go_wp2
    go_ret
    exact ⟨_,rfl,by rw [hfin.out];exact N3.mono hle,hB⟩
end Go.Proofs.YtkjimfapbjdafaaGreat
