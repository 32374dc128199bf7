/-
 Copies of slices, of regions and of rooms: of the program and of the reference.
 Conditions: the slices hold at most 2^20 elements.
-/
import Derived.Test.YtabfdkpdppemaaaGreatGrL
import Derived.Test.YtabfdkpdppemaaaGreatGrN
import Derived.Lib.SliceRun
import Derived.ProofKit
import Derived.OpenShut
import Derived.ChangeOld
import Derived.Below
set_option maxRecDepth 100000
namespace Go.Proofs.YtabfdkpdppemaaaGreat
open Go.RowKit
theorem XI.mk0 {α:Type} {T sz:Nat} {enc:α->List Value} (w:World):XI T sz enc (w.alloc (.cells #[] T)) w.heap.size (.slice (some ⟨w.heap.size,0,none⟩) 0 0) ([]:List α) :=
 ⟨_,0,rfl,by simp,.inr ⟨w.heap.size,0,#[],rfl,by simp,by have:=heap_alloc_new w (.cells #[] T);simpa using this,Nat.zero_le _,Nat.zero_le _,by simp,by simp⟩⟩
theorem XR.put {w:World} {g:Nat} {vs:List Value} (h:XR w g vs) (j:Nat) (hj:j<vs.length) (u:Value):XR (w.setCell ⟨g,j,none⟩ u) g (vs.set j u):=by
 refine ⟨by simpa [World.setCell] using h.1,λ i v hv=>?_⟩;by_cases e:i=j
 ·subst e;rw [List.getElem?_set_self hj] at hv;cases hv;have h2:=h.2 i _ (List.getElem?_eq_getElem hj);exact ⟨World.cell?_setCell_same' _ _ _ (by rw [h2.1];rfl),(World.frozen?_setCell _ _ _ _).trans h2.2⟩
 ·rw [List.getElem?_set_ne (Ne.symm e)] at hv;have h2:=h.2 i v hv;exact ⟨(World.cell?_setCell_other w _ _ u (λ q=>e (by injection q with _ q2 _;exact q2.symm))).trans h2.1,(World.frozen?_setCell _ _ _ _).trans h2.2⟩
theorem XI.lowC {α:Type} {T sz base:Nat} {enc:α->List Value} {v:Value} {xs:List α} {w:World} (h:XI T sz enc w base v xs) {q:Addr} (hq:q.block<base) (us:List Value):XI T sz enc (w.setCells q.block q.off us) base v xs:=by
 induction us generalizing w q with
 | nil=>exact h
 | cons u r ih=>exact ih (q:=⟨q.block,q.off+1,none⟩) (h.set_ (p:=⟨q.block,q.off,none⟩) hq u) hq
theorem X5.lowC {w:World} {base:Nat} {x:List Half} {a:Kd} (h:X5 w base x a) {q:Addr} (hq:q.block<base) (us:List Value):X5 (w.setCells q.block q.off us) base x a:=⟨h.halves.lowC hq us⟩
theorem Yf {B:Nat} {a w:World} (h:Below B a w) {g o:Nat} (hg:B<=g) (us:List Value):Below B a (w.setCells g o us):=Zq hg us o w h
def JH:Xz:=⟨0,0,0⟩
def KB (xs:List Xz) (a b:Int) (k:Nat):Int:=a*(xs.getD k JH).x+b*(xs.getD k JH).y
def Kn (xs:List Xz) (k:Nat):Int:=(xs.getD k JH).d
def Ys (xs:List Xz) (a b:Int):Nat->Int × Int × Int
 | 0=>(-1,0,0)
 | k+1=>if (Ys xs a b k).1<0∨0<KH (KB xs a b k) (Kn xs k) (Ys xs a b k).2.1 (Ys xs a b k).2.2 then ((k:Int),KB xs a b k,Kn xs k) else Ys xs a b k
theorem far_get {xs:List Xz} {k:Nat} (h:k<xs.length):xs.getD k JH=xs[k]:=by
 rw [List.getD_eq_getElem?_getD,List.getElem?_eq_getElem h];rfl
end Go.Proofs.YtabfdkpdppemaaaGreat
namespace Go.Proofs.YtabfdkpdppemaaaGreat
open Go.RowKit Go.ChangeShapes Go.WideShapes Go.ChangeAt Go.Deep
theorem own_:ownKnob Tryz.prog.godebug=none:=by kernel_rfl
theorem laidOut_:laidOutB Tryz.prog=true:=by kernel_rfl
section
variable {H:Type} {enc:TypeId × Value->H} {P:Program} {w:World} {base:Nat} {spare:Nat->Bool} {held:Bool}
end
end Go.Proofs.YtabfdkpdppemaaaGreat
