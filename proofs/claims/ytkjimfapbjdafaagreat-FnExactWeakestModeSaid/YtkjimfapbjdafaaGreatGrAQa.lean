/-
 Words on memory that the contracts of this claim use: a slice that reads as a list of structs, a slice of the call's own.
 Conditions: none.
-/
import Derived.Test.YtkjimfapbjdafaaGreatRows
import Derived.WalkKit
import Derived.WalkSpells
import Derived.WalkLawsBesides
import Derived.Deep.Draws
import Derived.Lib.Hide
import Derived.Deep.Slices
import Derived.Deep.Fields
import Derived.ChangeSame
import Derived.ArgAppend
import Derived.StillTailTactics
import Derived.Test.YtkjimfapbjdafaaGreatGrN
set_option maxRecDepth 100000
namespace Go.Proofs.YtkjimfapbjdafaaGreat
open Go.RowKit
section
variable {α:Type} {sz:Nat} {enc:α->List Value} {w w':World} {A:Option Addr} {xs:List α}
end
section
variable {α:Type} {T sz:Nat} {enc:α->List Value} {w w':World} {v:Value} {xs:List α} {base:Nat}
end
section
variable {α:Type} {T sz:Nat} {enc:α->List Value} {w w':World} {g N k:Nat} {xs:List α}
end
section
variable {w w':World} {g:Nat} {vs:List Value}
end
def mkSpot (r:List Int):X0:=⟨r.getD 0 0,r.getD 1 0,r.getD 2 0⟩
theorem mkSpot_In {r:List Int} (h:r.length=3) (h2:∀ n∈r,YC n):(mkSpot r).In:=by
 match r,h with
 | [a,b,c],_=>simpa [X0.In,mkSpot] using h2
def ZD (x:ZP):List Value:=[.int .i64 x.low,.int .i64 x.high]
abbrev modeV (x:ZP):Value:=.agg #[.int .i64 x.low,.int .i64 x.high]
theorem Kj (x:ZP):(ZD x).length=2:=rfl
def mkMode (r:List Int):ZP:=⟨r.getD 0 0,r.getD 1 0⟩
theorem mkMode_C {r:List Int} (h:r.length=2):ZD (mkMode r)=r.map (Value.int .i64):=by
 match r,h with
 | [a,b],_=>rfl
theorem mkMode_In {r:List Int} (h:r.length=2) (h2:∀ n∈r,YC n):(mkMode r).In:=by
 match r,h with
 | [a,b],_=>simpa [ZP.In,mkMode] using h2
theorem toSpot_c (x:X0) (w:World) :
 Calls Tryz.prog 21 #[YD x] w λ e w'=>e=.returned (YD x)/\Below w.heap.size w w':=by
 go_enter Tryz.func21,Tryz.ntmps21
 go_wp2
 refine bodyPost_ret (v:=.agg #[.int .i64 x.x,.int .i64 x.y,.int .i64 x.d]) (by simp [results,Tryz.results21,go_sem]) rfl ⟨rfl, ?_⟩;exact Xo
theorem toMode_c (x:ZP) (w:World) :
 Calls Tryz.prog 86 #[modeV x] w λ e w'=>e=.returned (modeV x)/\Below w.heap.size w w':=by
 go_enter Tryz.func86,Tryz.ntmps86
 go_wp2
 refine bodyPost_ret (v:=.agg #[.int .i64 x.low,.int .i64 x.high]) (by simp [results,Tryz.results86,go_sem]) rfl ⟨rfl, ?_⟩;exact Xo
theorem eqMode_t (x:ZP) (w:World) :
 Calls Tryz.prog 91 #[modeV x,modeV x] w λ e w'=>e=.returned (.bool true)/\Below w.heap.size w w':=by
 go_enter Tryz.func91,Tryz.ntmps91
 go_wp2
 go_ret
 refine ⟨rfl, ?_⟩;exact Xo
theorem szModeS_c (A:Option Addr) (n cap:Nat) (left:Int) (w:World) (hn:n<=9223372036854775807) (h0:0<=left) (h1:left<=1048576) :
 Calls Tryz.prog 15 #[.slice A n cap,.int .i64 left] w λ e w'=>e=.returned (.int .i64 (if left-n<0 then -1 else left-n))/\w=w':=by
 by_cases h:left-n<0
 all_goals
  go_enter Tryz.func15,Tryz.ntmps15
  go_wp2
  go_ret
  exact ⟨YA (by simp),rfl⟩
theorem eqModeS_t (A B:Option Addr) (xs:List ZP) (c d:Nat) (w:World) (hn:xs.length<=1048576) (ha:Sl 2 ZD w A xs) (hb:Sl 2 ZD w B xs) :
 Calls Tryz.prog 25 #[.slice A xs.length c,.slice B xs.length d] w λ e w'=>e=.returned (.bool true)/\Below w.heap.size w w':=by
 go_enter Tryz.func25,Tryz.ntmps25
 go_wp2
 go_loopw [5] (λ i wr=>∃ k:Nat,k<=xs.length/\i=.int .i64 k/\Below w.heap.size w wr) (λ i _=>xs.length-(intOf i).toNat)
 case atStart=>exact ⟨0,Nat.zero_le _,rfl,Below.refl _ _⟩
 case round =>
  obtain ⟨k,hk,rfl,hbw⟩:=hrel;by_cases hlt:k<xs.length
  ·obtain ⟨b,off,rfl,hblt,hc⟩:=(ha.below hbw).at_ hlt;obtain ⟨b',off',rfl,hblt',hc'⟩:=(hb.below hbw).at_ hlt;have g0:=hc 0 _ rfl;have g1:=hc 1 _ rfl;have g0':=hc' 0 _ rfl;have g1':=hc' 1 _ rfl;clear hc hc';simp only [Nat.add_zero] at g0 g0';generalize xs[k]=x at *;go_wp2
   go_still_tail 8,(by kernel_rfl)
   change wpList _ _ _ _ _ wr.drew
   generalize hwr:wr.drew=w2;have hb2:Below w.heap.size w w2:=by rw [<- hwr];exact hbw.drew
   clear hwr;go_wp2_with (fail)
   refine (eqMode_t x _).mono ?_;rintro e w1 ⟨rfl,hb1⟩;go_wp2
   go_roundw
   case rel=>exact ⟨k+1,by omega,by go_num,hb2.trans (hb1.mono hb2.size)⟩
   case measure=>simp [intOf];omega
  ·go_wp2
   go_ret
   exact ⟨rfl,hbw⟩
theorem JF (A:Option Addr) (xs:List ZP) (cap:Nat) (w:World) (hn:xs.length<=1048576) (hs:Sl 2 ZD w A xs) :
 Calls Tryz.prog 19 #[.slice A xs.length cap] w λ e w'=>∃ v,e=.returned v/\XY 132 2 ZD w' w.heap.size v xs/\Below w.heap.size w w':=by
 obtain ⟨i0,hi0,hz0,hz1,hz2⟩:=info_parts (show (Tryz.prog.info? 132).map (λ i=>(i.zero,i.size,i.bytes))=some (some (.agg #[.int .i64 0,.int .i64 0]),2,16) by kernel_rfl);have hmk:∀ W:World,(Instr.makeSlice 41 (.int .i64 (xs.length:Int)) (.int .i64 (xs.length:Int))).run Tryz.prog W=.ok (.slice (some ⟨W.heap.size,0,none⟩) xs.length xs.length) (W.alloc (.cells (madeCells #[.int .i64 0,.int .i64 0] (xs.length*2)) 132)):=by
  intro W;have h:=run_make (P:=Tryz.prog) W 41 132 i0 _ Tryz.underlying41 hi0 hz0 .i64 .i64 (xs.length:Int) (xs.length:Int) (by omega) (by omega) (by rw [hz2];omega) (by omega);rw [hz1] at h;simpa [Value.cells] using h
 go_enter Tryz.func19,Tryz.ntmps19
 go_wp2
 go_loopw [4] (λ i wr=>∃ k:Nat,k<=xs.length/\i=.int .i64 k/\ZA 132 2 ZD wr w.heap.size (xs.length*2) xs k/\Below w.heap.size w wr) (λ i _=>xs.length-(intOf i).toNat)
 case atStart=>exact ⟨0,Nat.zero_le _,rfl,ZA.start (by simp [madeCells]) Xv,Xm bR _⟩
 case round =>
  obtain ⟨k,hk,rfl,hfill,hbw⟩:=hrel;by_cases hlt:k<xs.length
  ·obtain ⟨b,off,rfl,hblt,hc⟩:=(hs.below hbw).at_ hlt;have g0:=hc 0 _ rfl;have g1:=hc 1 _ rfl;clear hc;simp only [Nat.add_zero] at g0;have hx:xs[k]=xs[k]:=rfl;generalize hxx:xs[k]=x at *;have HX:=Lib.hid hxx;clear hxx hx;go_wp2_with (fail)
   refine (toMode_c x _).mono ?_;rintro e w1 ⟨rfl,hb1⟩;have hfill1:=hfill.below hb1;have hbw1:=Xh hbw hb1;have hm:=Nat.mul_le_mul_right 2 hlt;obtain ⟨u0,c0⟩:=hfill1.cell (m:=k*2) (by omega);have f0:=hfill1.frozen (k*2);obtain ⟨u1,c1⟩:=hfill1.cell (m:=k*2+1) (by omega);have f1:=hfill1.frozen (k*2+1);clear hm;have hst:=hfill1.stored Kj hlt (vs:=ZD x) (by rw [HX.out]);have hst2:=below_setCells (Nat.le_refl w.heap.size) (ZD x) (k*2) _ hbw1;go_wp2
   exact ⟨⟨k+1,by omega,by go_num,hst,hst2⟩,by simp [intOf];omega⟩
  ·obtain rfl:k=xs.length:=by omega
   go_wp2
   go_ret
   exact ⟨_,rfl,hfill.new Kj Xv (by unfold maxLen;omega),hbw⟩
end Go.Proofs.YtkjimfapbjdafaaGreat
