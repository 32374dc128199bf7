/-
 Growing along a direction: the two half planes beside a region, of the program.
 Conditions: valid regions; directions from -100 to 100.
-/
import Derived.Test.YtdncnhcffbgjhaaGreatVa
import Derived.Test.YtdncnhcffbgjhaaGreatPulS
import Derived.Test.YtdncnhcffbgjhaaGreatInv2
import Derived.Test.YtdncnhcffbgjhaaGreatCopy
namespace Go.Proofs.YtdncnhcffbgjhaaGreat
open Go.RowKit
theorem New.lit {α:Type} {T sz g base:Nat} {enc:α→List Value} {w:World} {xs:List α} (hsz:∀ x,(enc x).length=sz) (h:HasT w g T (xs.flatMap enc)) (hb:base≤g) (hm:xs.length≤1000000):New T sz enc w base (.slice (some ⟨g,0,none⟩) xs.length xs.length) xs:=by
 have hl:(xs.flatMap enc).length=xs.length*sz:=by
  clear h hb hm
  induction xs with
  | nil=>simp
  | cons x t ih=>rw [List.flatMap_cons,List.length_append,ih,hsz,List.length_cons,Nat.add_mul,Nat.one_mul,Nat.add_comm]
 refine ⟨_,_,rfl,hl,.inr ⟨g,xs.length,(xs.flatMap enc).toArray,rfl,hb,h,Nat.le_refl _,Nat.le_trans hm (by decide),by simpa using hl, ?_⟩⟩
 exact List.take_of_length_le (by show (xs.flatMap enc).length≤_;omega)
def dirA (bx by_:Int):Int:=(-by_).tdiv ((gcdAll [bx,by_]:Nat):Int)
def dirB (bx by_:Int):Int:=bx.tdiv ((gcdAll [bx,by_]:Nat):Int)
structure DirIn (bx by_:Int):Prop where
 x : -100≤bx∧bx≤100
 y : -100≤by_∧by_≤100
 nz:¬ (bx=0∧by_=0)
structure DirOk (bx by_:Int):Prop where
 g:1≤((gcdAll [bx,by_]:Nat):Int)∧((gcdAll [bx,by_]:Nat):Int)≤100
 a : -100≤dirA bx by_∧dirA bx by_≤100
 b : -100≤dirB bx by_∧dirB bx by_≤100
 nz:¬ (dirA bx by_=0∧dirB bx by_=0)
/-- The half plane of a direction that just holds a region. -/
def sdH (p:List Half) (a b:Int):Option Half:=halfOf (a*(sup p a b).d) (b*(sup p a b).d) (sup p a b).n
def sdL (p:List Half) (a b:Int):List Half:=[(sdH p a b).getD half0,(sdH p (-a) (-b)).getD half0]
structure SdB (p:List Half) (a b:Int):Prop where
 x : -500000000000≤a*(sup p a b).d∧a*(sup p a b).d≤500000000000
 y : -500000000000≤b*(sup p a b).d∧b*(sup p a b).d≤500000000000
 n : -500000000000000000≤(sup p a b).n∧(sup p a b).n≤500000000000000000
def growH (bx by_ lo hi:Int) (h:Half):Option Half:=halfOf h.a h.b (h.c+max (-lo*(h.a*bx+h.b*by_)) (-hi*(h.a*bx+h.b*by_)))
structure GrowB (bx by_ lo hi:Int) (h:Half):Prop where
 x : -5000000≤h.a*bx∧h.a*bx≤5000000
 y : -5000000≤h.b*by_∧h.b*by_≤5000000
 p : -10000000000≤-lo*(h.a*bx+h.b*by_)∧-lo*(h.a*bx+h.b*by_)≤10000000000
 q : -10000000000≤-hi*(h.a*bx+h.b*by_)∧-hi*(h.a*bx+h.b*by_)≤10000000000
structure DrvIn (bx by_ lo hi:Int):Prop where
 x : -100≤bx∧bx≤100
 y : -100≤by_∧by_≤100
 lw : -1000≤lo∧lo≤1000
 hw:lo≤hi∧hi≤1000
def growT (p:List Half) (bx by_:Int):Bool:=decide (p.length=0)||(bx == 0&&by_ == 0)
def sdO (p:List Half) (a b:Int):Bool:=(sdH p a b).isSome&&(sdH p (-a) (-b)).isSome
def grwL (bx by_ lo hi:Int) (p:List Half):List Half:=sdL p (dirA bx by_) (dirB bx by_)++movL (growH bx by_ lo hi) p
def grwOk (bx by_ lo hi:Int) (p:List Half):Bool:=growT p bx by_||(sdO p (dirA bx by_) (dirB bx by_)&&movAll (growH bx by_ lo hi) p&&meetOk (meetL (grwL bx by_ lo hi p)))
def grwR (bx by_ lo hi:Int) (p:List Half):List Half:=if growT p bx by_=true then p else if (sdO p (dirA bx by_) (dirB bx by_)&&movAll (growH bx by_ lo hi) p)=true then meetR (meetL (grwL bx by_ lo hi p)) else []
end Go.Proofs.YtdncnhcffbgjhaaGreat
