/-
 The inputs that are admitted at a state, as fractions; whole boxes of states; the region before a step.
 Conditions: valid rooms, regions and states.
-/
import Derived.Deep.RegionHeld3
import Derived.Deep.DeepMust
import Derived.Deep.DeepCutAuto
import Derived.Test.YtbekjpkcicjcgabGreatDrw
namespace Go.Proofs.YtbekjpkcicjcgabGreat
open Go.RowKit
theorem cmp_le {r s:Yu} (hr:XE r=true) (hs:XE s=true):X7 r s<=0 ↔ r.n*s.d<=s.n*r.d:=by
 rw [cmp_def hr hs,gsgn_le];omega
theorem wgcd (x y:Int):Xh [x,y,1]=1:=by
 obtain ⟨_,_,h⟩:=@gcdAll_dvd x y 1;have:=Int.natAbs_dvd_natAbs.2 h;simp at this;exact this
theorem wspot_ok {x y:Int} (hx : -1000<=x/\x<=1000) (hy : -1000<=y/\y<=1000):XP ⟨x,y,1⟩=true:=by
 unfold XP;rw [wgcd];simp [Zo];omega
section
variable {a b:Bool}
end
theorem drawn_lim {r:XK} (h:Jr r):r.limits.length<=1048576:=by
 have:=Z4 (roomR h.d.ok).limits;omega
theorem reg_in {p:List Half} (h:Xc p=true):∀ g∈p,g.In:=λ g hg=>hIn (KE (Z1 h g hg))
theorem ratIn {r:Yu} (h:XE r=true):r.In:=by
 obtain ⟨a,b,c,d⟩:=rok_bd h;exact ⟨⟨by omega,by omega⟩,⟨by omega,by omega⟩⟩
end Go.Proofs.YtbekjpkcicjcgabGreat
