/-
 The first greatest (or least) one of the values of pieces: of the program (extreme) and of the reference (l12Best).
 Conditions: the slice reads as a list of at most 2^20 pieces.
-/
import Derived.Test.YtkjimfapbjdafaaGreatGrE
import Derived.Test.YtkjimfapbjdafaaGreatGrG
import Derived.Deep.RegionHeld3
import Derived.Deep.DeepMust
import Derived.Deep.DeepCutAuto
import Derived.Test.YtkjimfapbjdafaaGreatGrA
import Derived.Test.YtkjimfapbjdafaaGreatGrR
import Derived.Test.YtkjimfapbjdafaaGreatGrN
import Derived.Test.YtkjimfapbjdafaaGreatGrW
import Derived.Test.YtkjimfapbjdafaaGreatGrL
section
namespace Go.Proofs.YtkjimfapbjdafaaGreat
open Go.RowKit
def bestAt (val:Nat→Yd) (g:Int):Nat→Int × Yd
 | 0=>(-1,YW)
 | k+1=>if (bestAt val g k).1<0∨0<g*Xq (val k) (bestAt val g k).2 then ((k:Int),val k) else bestAt val g k
def allOk (val:Nat→Yd) (n:Nat):Bool:=(List.range n).all fun k=>Xp (val k)
def bestR (val:Nat→Yd) (g:Int) (n:Nat):Int × Yd:=if allOk val n=true then bestAt val g n else (-1,YW)
def pc0:JB:=⟨0,0,0,0⟩
def valV (xs:List JB) (s:XJ) (k:Nat):Yd:=pieceVal (xs.getD k pc0) s
def valA (xs:List JB) (s:XJ) (k:Nat):Yd:=pieceAt (xs.getD k pc0) s
end Go.Proofs.YtkjimfapbjdafaaGreat
end
section
namespace Go.Proofs.YtkjimfapbjdafaaGreat
open Go.RowKit
end Go.Proofs.YtkjimfapbjdafaaGreat
end
section
namespace Go.Proofs.YtkjimfapbjdafaaGreat
open Go.RowKit
def piecesOk (xs:List JB):Bool:=xs.all pieceOk&&YR (xs.length:Int) 1 40
def lawOk (x:Law):Bool:=piecesOk x.lows&&piecesOk x.highs
def actL (x:Law) (s:XJ):Int × Yd:=if lawOk x=true then bestR (valA x.lows s) 1 x.lows.length else (-1,YW)
def actH (x:Law) (s:XJ):Int × Yd:=if lawOk x=true then bestR (valA x.highs s) (-1) x.highs.length else (-1,YW)
end Go.Proofs.YtkjimfapbjdafaaGreat
end
namespace Go.Proofs.YtkjimfapbjdafaaGreat
open Go.RowKit
end Go.Proofs.YtkjimfapbjdafaaGreat
namespace Go.Proofs.YtkjimfapbjdafaaGreat
open Go.RowKit
def lawSpan (x:Law) (s:XJ):YX:=⟨(actL x s).2,(actH x s).2⟩
def lawAtOk (x:Law) (s:XJ):Bool:=lawOk x&&Xv (lawSpan x s)
def lawAt (x:Law) (s:XJ):YX:=if lawAtOk x s=true then lawSpan x s else Xd
set_option maxRecDepth 100000 in
theorem eqSpan_t (x:YX) (w:World) :
 Calls Tryz.prog 46 #[Yf x,Yf x] w fun e w'=>e=.returned (.bool true)∧Below w.heap.size w w':=by
 go_enter Tryz.func46,Tryz.ntmps46
 go_wp2_with (fail)
 refine (eqRatio_t x.low _).mono ?_
 rintro e w1 ⟨rfl,hb1⟩
 have r1:=Xn hb1
 have l0:w.heap.size<w1.heap.size:=blt hb1 (by first|(simp;done)|(simp;omega)|omega)
 have l1:w.heap.size+1<w1.heap.size:=blt hb1 (by first|(simp;done)|(simp;omega)|omega)
 go_wp2_with (fail)
 refine (eqRatio_t x.high _).mono ?_
 rintro e w2 ⟨rfl,hb2⟩
 go_wp2
 go_ret
 refine ⟨rfl, ?_⟩
 exact Xo
end Go.Proofs.YtkjimfapbjdafaaGreat
namespace Go.Proofs.YtkjimfapbjdafaaGreat
open Go.RowKit
def movL (f:Half→Option Half) (p:List Half):List Half:=p.map fun h=>(f h).getD Xl
def Jt (f:Half→Option Half) (p:List Half):Bool:=p.all fun h=>(f h).isSome
/-- The region of the points of the frame in the half planes to which those of a region are moved. -/
def movOk (f:Half→Option Half) (p:List Half):Bool:=decide (p.length=0)||(Jt f p&&Z0 (X5 (movL f p)))
def movR (f:Half→Option Half) (p:List Half):List Half:=if p.length=0∨Jt f p=false then [] else Kq (X5 (movL f p))
theorem mov_void {f:Half→Option Half} {p:List Half} (h:p.length=0):movOk f p=true∧movR f p=[]:=by
 unfold movOk movR
 rw [decide_eq_true h,if_pos (.inl h)]
 exact ⟨rfl,rfl⟩
theorem mov_none {f:Half→Option Half} {p:List Half} {k:Nat} (h:k<p.length) (hn:f p[k]=none):movOk f p=false∧movR f p=[]:=by
 have ha:Jt f p=false:=by
  unfold Jt
  rw [List.all_eq_false]
  exact ⟨p[k],List.getElem_mem h,by rw [hn];decide⟩
 unfold movOk movR
 rw [ha,if_pos (.inr rfl),decide_eq_false (by omega)]
 exact ⟨rfl,rfl⟩
theorem mov_all {f:Half→Option Half} {p:List Half} (h:p.length≠0) (ha:Jt f p=true):movOk f p=Z0 (X5 (movL f p))∧movR f p=Kq (X5 (movL f p)):=by
 unfold movOk movR
 rw [ha,decide_eq_false h,if_neg (by intro h2;rcases h2 with h2|h2;exact h h2;cases h2)]
 exact ⟨rfl,rfl⟩
theorem movL_take {f:Half→Option Half} {p:List Half} {k:Nat} {g:Half} (h:k<p.length) (hg:f p[k]=some g):movL f (p.take (k+1))=movL f (p.take k)++[g]:=by
 unfold movL
 rw [Y9 p k h,List.map_append]
 simp [hg]
theorem movAll_take {f:Half→Option Half} {p:List Half} {k:Nat} {g:Half} (h:k<p.length) (h1:Jt f (p.take k)=true) (hg:f p[k]=some g):Jt f (p.take (k+1))=true:=by
 unfold Jt at h1 ⊢
 rw [Y9 p k h,List.all_append,h1]
 simp [hg]
theorem movL_ok {f:Half→Option Half} {p:List Half} (hf:∀ h∈p,∀ g,f h=some g→XD g=true) (ha:Jt f p=true):∀ g∈movL f p,XD g=true:=by
 intro g hg
 unfold movL at hg
 obtain ⟨h,hh,rfl⟩:=List.mem_map.1 hg
 unfold Jt at ha
 have:=List.all_eq_true.1 ha h hh
 cases e:f h with
 | none=>rw [e] at this;cases this
 | some g=>exact hf h hh g e
theorem movL_len (f:Half→Option Half) (p:List Half):(movL f p).length=p.length:=by unfold movL;rw [List.length_map]
theorem halfOf_ok {a b c:Int} {g:Half} (h:Zs a b c=some g):XD g=true:=by
 unfold Zs at h
 split at h
 ·cases h
 split at h
 ·rename_i h2
  cases h
  exact h2
 ·cases h
theorem movR_ok {f:Half→Option Half} {p:List Half} (hf:∀ h∈p,∀ g,f h=some g→XD g=true):Xt (movR f p)=true:=by
 unfold movR
 split
 ·rfl
 ·rename_i h
  have ha:Jt f p=true:=by
   cases e:Jt f p
   ·exact absurd (.inr e) h
   ·rfl
  unfold Kq
  split
  ·rename_i h2
   unfold Z0 at h2
   exact regionOk_meet (movL_ok hf ha) (of_decide_eq_true h2)
  ·rfl
/-! ### Eroded -/
theorem eroH_ok {q:List Half} {h g:Half} (e:Z6 q h=some g):XD g=true:=halfOf_ok e
structure EroB (h:Half) (r:Yd):Prop where
 x : -250000000000000≤h.a*r.d∧h.a*r.d≤250000000000000
 y : -250000000000000≤h.b*r.d∧h.b*r.d≤250000000000000
 c : -500000000000000000≤h.c*r.d∧h.c*r.d≤500000000000000000
 n : -500000000000000000≤r.n∧r.n≤500000000000000000
 d:1≤r.d∧r.d≤5000000000
theorem eroB {h:Half} {q:List Half} (hh:XD h=true) (hq:Xt q=true) (hne:q≠[]):EroB h (JY q h.a h.b):=by
 obtain ⟨a1,a2,a3,_⟩:=ZU.1 hh
 have R:=supR hq hne (a:=h.a) (b:=h.b) ⟨by omega,by omega⟩ ⟨by omega,by omega⟩
 have d1:=R.d
 have p:=mulB (a:=h.a) (b:=(JY q h.a h.b).d) (A:=50000) (B:=5000000000) ⟨by omega,by omega⟩ ⟨by omega,by omega⟩
 have q2:=mulB (a:=h.b) (b:=(JY q h.a h.b).d) (A:=50000) (B:=5000000000) ⟨by omega,by omega⟩ ⟨by omega,by omega⟩
 have r:=mulB (a:=h.c) (b:=(JY q h.a h.b).d) (A:=100000000) (B:=5000000000) ⟨by omega,by omega⟩ ⟨by omega,by omega⟩
 exact ⟨⟨by omega,by omega⟩,⟨by omega,by omega⟩,⟨by omega,by omega⟩,R.n,R.d⟩
/-! ### Boxes -/
def boxHs (x y:Int):List Half:=[⟨1,0,x⟩,⟨0,1,y⟩,⟨-1,0,x⟩,⟨0,-1,y⟩]
def boxR (x y:Int):List Half:=Yh (X5 (boxHs x y))
end Go.Proofs.YtkjimfapbjdafaaGreat
