/-
 The input that is picked: both ways to tell it agree. No program is named here.
 Conditions: none.
-/
import Derived.Test.YtkjimfapbjdafaaGreatLawWeakestModeK
namespace Go.Proofs.YtkjimfapbjdafaaGreat
open Go.RowKit
theorem whole_ok {n:Int} (h : -1000000000000000000<=n/\n<=1000000000000000000):Xq ⟨n,1⟩=true:=by
 have:=(YM (n:=n) (d:=1) h ⟨by omega,by omega⟩).1;rwa [ratio_whole h] at this
theorem rok_bd {r:YO} (h:Xq r=true) : -9223372036854775807<=r.n/\r.n<=9223372036854775807/\0<r.d/\r.d<=9223372036854775807:=by
 obtain ⟨⟨a,b⟩,⟨c,d⟩,_⟩:=Y5.1 h;exact ⟨by omega,by omega,by omega,by omega⟩
theorem div_bd {n d:Int} (h1 : -9223372036854775807<=n) (h2:n<=9223372036854775807) (hd:0<d) : -9223372036854775807<=n / d/\n / d<=9223372036854775807:=JY hd 9223372036854775807 (by omega) (by omega) (by omega)
theorem floor_bd {r:YO} (h:Xq r=true) : -1000000000000000000<=Yu r/\Yu r<=1000000000000000000:=by
 obtain ⟨⟨a,b⟩,⟨c,d⟩,_⟩:=Y5.1 h;unfold Yu;rw [if_pos h];exact JY (by omega) 1000000000000000000 (by omega) (by omega) (by omega)
theorem ceil_bd {r:YO} (h:Xq r=true) : -1000000000000000000<=YP r/\YP r<=1000000000000000000:=by
 obtain ⟨⟨a,b⟩,⟨c,d⟩,_⟩:=Y5.1 h;unfold YP;rw [if_pos h];have:=JY (n:=-r.n) (d:=r.d) (by omega) 1000000000000000000 (by omega) (by omega) (by omega);omega
theorem cmp_def {r s:YO} (hr:Xq r=true) (hs:Xq s=true):Xp r s=sgn (r.n*s.d-s.n*r.d):=by
 unfold Xp;rw [if_pos ⟨hr,hs⟩];rfl
section
variable {v:YY} {wish:Int} (h:Xu v=true)
include h
end
end Go.Proofs.YtkjimfapbjdafaaGreat
