/-
 What the program says of FnExactWeakestMode, by the kernel.
 Conditions: none.
-/
import Derived.JoinedOf
import Derived.Shelf.Bits.Mul64
import Derived.Test.YtkjimfapbjdafaaGreatGrUQf
import Derived.Test.YtkjimfapbjdafaaGreatV1Qa
namespace Go.Proofs.YtkjimfapbjdafaaGreat
open Go.RowKit
theorem j3_WeakestMode:(Rows.fnExactWeakestModeRow.recurses == Tryz.prog.recurses 4)=true:=by kernel_rfl
theorem j4_WeakestMode:(Rows.fnExactWeakestModeRow.named == Tryz.prog.varsNamed 4)=true:=by kernel_rfl
theorem j1_WeakestMode:(Rows.fnExactWeakestModeRow.inPlace == Tryz.prog.inPlace 4)=true:=by kernel_rfl
theorem j2_WeakestMode:(Rows.fnExactWeakestModeRow.unfollowed == Tryz.prog.unfollowed 4)=true:=by kernel_rfl
set_option maxHeartbeats 1000000 in
theorem floorDiv_c (n d:Int) (w:World) (h1 : -9223372036854775807<=n) (h2:n<=9223372036854775807) (hd:0<d) (hd2:d<=9223372036854775807) :
 Calls Tryz.prog 225 #[.int .i64 n,.int .i64 d] w λ e w'=>e=.returned (.int .i64 (n / d))/\∃ k,w'=w.drewN k:=by
 have d0:((d:Int) == 0)=false:=by simp;omega
 have d1:((d:Int) != 0)=true:=by simp;omega
 have d2:((d:Int) == -1)=false:=by simp;omega
 by_cases hn:n<0
 ·have hf:=Lib.hid (floor_neg hn hd);obtain ⟨t1,t2⟩:=tdiv_bd hn hd;go_enter Tryz.func225,Tryz.ntmps225
  go_wp2
  all_goals
   go_ret
   refine ⟨YA ?_,0,rfl⟩;rw [hf.out];first|rw [if_pos (by assumption)]|rw [if_neg (by omega)]
 ·have hf:=Lib.hid (floor_pos (n:=n) (d:=d) (by omega));have m0:=Int.emod_nonneg n (show d≠0 by omega);have q0:0<=n / d:=Int.ediv_nonneg (by omega) (by omega);have q1:=(JY (n:=n) hd 9223372036854775807 (by omega) (by omega) (by omega)).2;go_enter Tryz.func225,Tryz.ntmps225
  go_wp2
  go_ret
  exact ⟨rfl,0,rfl⟩
theorem admAt_ok {r:XT} {p:List Half} {s:X0} {v:YY} (h:XN r p s=some v):Xu v=true:=by
 unfold XN at h;split at h
 ·exact JA h
 ·cases h
end Go.Proofs.YtkjimfapbjdafaaGreat
