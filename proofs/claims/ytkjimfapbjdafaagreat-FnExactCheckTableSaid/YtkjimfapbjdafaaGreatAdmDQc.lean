/-
 The inputs that are admitted under a drift: of the program and of the reference.
 Conditions: the slices hold at most 2^20 elements.
-/
import Derived.Test.YtkjimfapbjdafaaGreatGrXgQc
import Derived.Deep.QuietTactic
import Derived.BigQuiet
set_option maxRecDepth 100000
namespace Go.Proofs.YtkjimfapbjdafaaGreat
open Go.RowKit
theorem accS_ok {A:X0->Option YY} (hA:∀ t v,A t=some v->Xu v=true) {l:List X0} {k:Nat} {v:YY} (h:KG A l (k+1)=some v):Xu v=true:=by
 rw [KG] at h;cases e:KG A l k with
 | none=>rw [e] at h;cases h
 | some x =>
  rw [e] at h;simp only [Option.bind_some] at h;cases e2:A (l.getD k Zb) with
  | none=>rw [e2] at h;cases h
  | some y =>
   rw [e2] at h;simp only [Option.bind_some] at h;split at h
   ·cases h;exact hA _ _ e2
   ·exact meetSp_ok h
def Jb (t:Jp) (i j:Int):Bool:=decide (0<=i)&&decide (i<t.nx)&&decide (0<=j)&&decide (j<t.ny)
def Xa (t:Jp) (i j:Int):List X0:=[⟨t.x0+i*t.step,t.y0+j*t.step,1⟩,⟨t.x0+i*t.step+t.step,t.y0+j*t.step,1⟩,⟨t.x0+i*t.step+t.step,t.y0+j*t.step+t.step,1⟩,⟨t.x0+i*t.step,t.y0+j*t.step+t.step,1⟩]
theorem KV {t:Jp} (h:XQ t=true):ZI t=true:=by
 simp only [XQ,Bool.and_eq_true] at h;exact h.1.1
structure CellB (t:Jp) (i j:Int):Prop where
 x : -1000<=t.x0/\t.x0<=1000
 y : -1000<=t.y0/\t.y0<=1000
 s:1<=t.step/\t.step<=100
 is:0<=i*t.step/\i*t.step<=10000
 js:0<=j*t.step/\j*t.step<=10000
theorem cellB_bd {t:Jp} {i j:Int} (h:ZI t=true) (hb:Jb t i j=true):CellB t i j:=by
 obtain ⟨g1,g2,g3,g4,g5,_⟩:=KL.1 h;simp only [Jb,Bool.and_eq_true,decide_eq_true_eq] at hb;obtain ⟨⟨⟨h1,h2⟩,h3⟩,h4⟩:=hb;have m1:=mul_bd (a:=i) (b:=t.step) (A:=100) (B:=100) (by omega) (by omega);have m2:=mul_bd (a:=j) (b:=t.step) (A:=100) (B:=100) (by omega) (by omega);exact ⟨g1,g2,g3,⟨Int.mul_nonneg h1 (by omega),by omega⟩,⟨Int.mul_nonneg h3 (by omega),by omega⟩⟩
theorem cellNew {T base g:Nat} (w:World) (t:Jp) (i j:Int) (hg:g=w.heap.size) (hb:base<=w.heap.size):XY T 3 KR (w.alloc (.cells #[.int .i64 (t.x0+i*t.step),.int .i64 (t.y0+j*t.step),.int .i64 1,.int .i64 (t.x0+i*t.step+t.step),.int .i64 (t.y0+j*t.step),.int .i64 1,.int .i64 (t.x0+i*t.step+t.step),.int .i64 (t.y0+j*t.step+t.step),.int .i64 1,.int .i64 (t.x0+i*t.step),.int .i64 (t.y0+j*t.step+t.step),.int .i64 1] T)) base (.slice (some ⟨g,0,none⟩) 4 4) (Xa t i j):=by
 subst hg;exact ⟨_,4,rfl,Zm KW _,.inr ⟨w.heap.size,4,_,rfl,hb,heap_alloc_new w _,Nat.le_refl 4,by decide,rfl,rfl⟩⟩
theorem iCnrs_c (t:Jp) (A:Option Addr) (cap:Nat) (i j:Int) (w:World) (hb:CellB t i j) :
 Calls Tryz.prog 186 #[tabV t A cap,.int .i64 i,.int .i64 j] w λ e w'=>∃ v,e=.returned v/\XY 44 3 KR w' w.heap.size v (Xa t i j)/\Below w.heap.size w w':=by
 obtain ⟨⟨b1,b2⟩,⟨b3,b4⟩,⟨b5,b6⟩,⟨b7,b8⟩,⟨b9,b10⟩⟩:=hb;go_enter Tryz.func186,Tryz.ntmps186
 go_wp2
 go_big_quiet (fail)
 go_wp2
 go_big_quiet (fail)
 go_wp2
 go_ret
 refine ⟨.slice (some ⟨w.heap.size+1,0,none⟩) 4 4,rfl, ?_, ?_⟩
 ·exact cellNew _ t i j (by simp) (by simp)
 ·exact Xo
theorem sCnrs_c (t:Jp) (A:Option Addr) (cap:Nat) (i j:Int) (w:World) (hb:CellB t i j) :
 Calls Tryz.prog 182 #[tabV t A cap,.int .i64 i,.int .i64 j] w λ e w'=>∃ v,e=.returned v/\XY 44 3 KR w' w.heap.size v (Xa t i j)/\Below w.heap.size w w':=by
 obtain ⟨⟨b1,b2⟩,⟨b3,b4⟩,⟨b5,b6⟩,⟨b7,b8⟩,⟨b9,b10⟩⟩:=hb;go_enter Tryz.func182,Tryz.ntmps182
 go_wp2
 go_ret
 refine ⟨.slice (some ⟨w.heap.size+1,0,none⟩) 4 4,rfl, ?_, ?_⟩
 ·exact cellNew _ t i j (by simp) (by simp)
 ·exact Xo
end Go.Proofs.YtkjimfapbjdafaaGreat
