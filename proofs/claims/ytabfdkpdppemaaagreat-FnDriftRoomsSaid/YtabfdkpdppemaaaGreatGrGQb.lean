/-
 How fractions are compared: of the program (products of 128 bits) and of the reference (continued remainders); the lesser and the greater one; spans.
 Conditions: the numbers are ints of the machine.
-/
import Derived.Shelf.Bits.Mul64
import Derived.Deep.RegionHeld3
import Derived.Deep.DeepCutAuto
import Derived.Deep.DeepMust
import Derived.Test.YtabfdkpdppemaaaGreatCopy
namespace Go.Proofs.YtabfdkpdppemaaaGreat
open Go.RowKit
theorem sgn_zero:sgn 0=0:=rfl
theorem floor_neg {n d:Int} (hn:n<0) (hd:0<d):n / d=if n.tmod d<0 then n.tdiv d-1 else n.tdiv d:=by
 obtain ⟨m,hm⟩:∃ m:Int,m = -n:=⟨_,rfl⟩;obtain rfl:n = -m:=by omega
 have h1:(-m).tdiv d = -(m / d):=by rw [Int.neg_tdiv,Int.tdiv_eq_ediv_of_nonneg (by omega)]
 have h2:(-m).tmod d = -(m % d):=by rw [Int.neg_tmod,Int.tmod_eq_emod_of_nonneg (by omega)]
 have h3:=Int.mul_ediv_add_emod m d;have h4:=Int.emod_nonneg m (show d≠0 by omega);have h5:=Int.emod_lt_of_pos m hd;rw [h1,h2];split
 ·refine ((Int.ediv_emod_unique (r:=d-m % d) hd).2 ⟨?_,by omega,by omega⟩).1;rw [Int.mul_sub,Int.mul_neg,Int.mul_one];omega
 ·refine ((Int.ediv_emod_unique (r:=0) hd).2 ⟨?_,by omega,by omega⟩).1;rw [Int.mul_neg];omega
theorem floor_pos {n d:Int} (hn:0<=n):n.tdiv d=n / d:=Int.tdiv_eq_ediv_of_nonneg hn
theorem floor_le {n d:Int} (hd:0<d) (B:Int) (h1 : -B<=n) (h2:n<=B) (hB:0<=B) : -B<=n / d/\n / d<=B:=by
 constructor
 ·rw [Int.le_ediv_iff_mul_le hd];have:B*1<=B*d:=Int.mul_le_mul_of_nonneg_left (by omega) hB;rw [Int.neg_mul];omega
 ·exact Int.ediv_le_of_le_mul hd (by have:B*1<=B*d:=Int.mul_le_mul_of_nonneg_left (by omega) hB;omega)
theorem tdiv_bd {n d:Int} (hn:n<0) (hd:0<d):n<=n.tdiv d/\n.tdiv d<=0:=by
 obtain ⟨m,hm⟩:∃ m:Int,m = -n:=⟨_,rfl⟩;obtain rfl:n = -m:=by omega
 have h1:(-m).tdiv d = -(m / d):=by rw [Int.neg_tdiv,Int.tdiv_eq_ediv_of_nonneg (by omega)]
 have h2:0<=m / d:=Int.ediv_nonneg (by omega) (by omega);have h3:=(floor_le hd m (by omega) (Int.le_refl _) (by omega)).2;omega
set_option maxHeartbeats 1000000 in
theorem floorDiv_c (n d:Int) (w:World) (h1 : -9223372036854775807<=n) (h2:n<=9223372036854775807) (hd:0<d) (hd2:d<=9223372036854775807) :
 Calls Tryz.prog 202 #[.int .i64 n,.int .i64 d] w λ e w'=>e=.returned (.int .i64 (n / d))/\∃ k,w'=w.drewN k:=by
 have d0:((d:Int) == 0)=false:=by simp;omega
 have d1:((d:Int) != 0)=true:=by simp;omega
 have d2:((d:Int) == -1)=false:=by simp;omega
 by_cases hn:n<0
 ·have hf:=Lib.hid (floor_neg hn hd);obtain ⟨t1,t2⟩:=tdiv_bd hn hd;go_enter Tryz.func202,Tryz.ntmps202
  go_wp2
  all_goals
   go_ret
   refine ⟨Y0 ?_,0,rfl⟩;rw [hf.out];first|rw [if_pos (by assumption)]|rw [if_neg (by omega)]
 ·have hf:=Lib.hid (floor_pos (n:=n) (d:=d) (by omega));have m0:=Int.emod_nonneg n (show d≠0 by omega);have q0:0<=n / d:=Int.ediv_nonneg (by omega) (by omega);have q1:=(floor_le (n:=n) hd 9223372036854775807 (by omega) (by omega) (by omega)).2;go_enter Tryz.func202,Tryz.ntmps202
  go_wp2
  go_ret
  exact ⟨rfl,0,rfl⟩
theorem sgn_le {x:Int}:sgn x<=0 ↔ x<=0:=by unfold sgn;split<;>(try split)<;>omega
theorem farAt_yes {xs:List Xz} {a b:Int} {k:Nat} (h:(Ys xs a b k).1<0∨0<KH (KB xs a b k) (Kn xs k) (Ys xs a b k).2.1 (Ys xs a b k).2.2):Ys xs a b (k+1)=((k:Int),KB xs a b k,Kn xs k):=by
 rw [Ys,if_pos h]
theorem farAt_no {xs:List Xz} {a b:Int} {k:Nat} (h:¬((Ys xs a b k).1<0∨0<KH (KB xs a b k) (Kn xs k) (Ys xs a b k).2.1 (Ys xs a b k).2.2)):Ys xs a b (k+1)=Ys xs a b k:=by
 rw [Ys,if_neg h]
end Go.Proofs.YtabfdkpdppemaaaGreat
