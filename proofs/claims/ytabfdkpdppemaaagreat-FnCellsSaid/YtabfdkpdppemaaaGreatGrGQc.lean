/-
 How fractions are compared: of the program (products of 128 bits) and of the reference (continued remainders); the lesser and the greater one; spans.
 Conditions: the numbers are ints of the machine.
-/
import Derived.Shelf.Bits.Mul64
import Derived.JoinedOf
import Derived.Test.YtabfdkpdppemaaaGreatRunM
import Derived.Test.YtabfdkpdppemaaaGreatGrNQc
namespace Go.Proofs.YtabfdkpdppemaaaGreat
open Go.RowKit
theorem floor_neg {n d:Int} (hn:n<0) (hd:0<d):n / d=if n.tmod d<0 then n.tdiv d-1 else n.tdiv d:=by
 obtain ⟨m,hm⟩:∃ m:Int,m = -n:=⟨_,rfl⟩;obtain rfl:n = -m:=by omega
 have h1:(-m).tdiv d = -(m / d):=by rw [Int.neg_tdiv,Int.tdiv_eq_ediv_of_nonneg (by omega)]
 have h2:(-m).tmod d = -(m % d):=by rw [Int.neg_tmod,Int.tmod_eq_emod_of_nonneg (by omega)]
 have h3:=Int.mul_ediv_add_emod m d;have h4:=Int.emod_nonneg m (show d≠0 by omega);have h5:=Int.emod_lt_of_pos m hd;rw [h1,h2];split
 ·refine ((Int.ediv_emod_unique (r:=d-m % d) hd).2 ⟨?_,by omega,by omega⟩).1;rw [Int.mul_sub,Int.mul_neg,Int.mul_one];omega
 ·refine ((Int.ediv_emod_unique (r:=0) hd).2 ⟨?_,by omega,by omega⟩).1;rw [Int.mul_neg];omega
theorem floor_pos {n d:Int} (hn:0<=n):n.tdiv d=n / d:=Int.tdiv_eq_ediv_of_nonneg hn
theorem floor_le {n d:Int} (hd:0<d) (B:Int) (h1 : -B<=n) (h2:n<=B) (hB:0<=B) : -B<=n / d/\n / d<=B:=by
 constructor
 ·rw [Int.le_ediv_iff_mul_le hd];have:B*1<=B*d:=Int.mul_le_mul_of_nonneg_left (by omega) hB;rw [Int.neg_mul];omega
 ·exact Int.ediv_le_of_le_mul hd (by have:B*1<=B*d:=Int.mul_le_mul_of_nonneg_left (by omega) hB;omega)
theorem tdiv_bd {n d:Int} (hn:n<0) (hd:0<d):n<=n.tdiv d/\n.tdiv d<=0:=by
 obtain ⟨m,hm⟩:∃ m:Int,m = -n:=⟨_,rfl⟩;obtain rfl:n = -m:=by omega
 have h1:(-m).tdiv d = -(m / d):=by rw [Int.neg_tdiv,Int.tdiv_eq_ediv_of_nonneg (by omega)]
 have h2:0<=m / d:=Int.ediv_nonneg (by omega) (by omega);have h3:=(floor_le hd m (by omega) (Int.le_refl _) (by omega)).2;omega
set_option maxHeartbeats 1000000 in
theorem floorDiv_c (n d:Int) (w:World) (h1 : -9223372036854775807<=n) (h2:n<=9223372036854775807) (hd:0<d) (hd2:d<=9223372036854775807) :
 Calls Tryz.prog 202 #[.int .i64 n,.int .i64 d] w λ e w'=>e=.returned (.int .i64 (n / d))/\∃ k,w'=w.drewN k:=by
 have d0:((d:Int) == 0)=false:=by simp;omega
 have d1:((d:Int) != 0)=true:=by simp;omega
 have d2:((d:Int) == -1)=false:=by simp;omega
 by_cases hn:n<0
 ·have hf:=Lib.hid (floor_neg hn hd);obtain ⟨t1,t2⟩:=tdiv_bd hn hd;go_enter Tryz.func202,Tryz.ntmps202
  go_wp2
  all_goals
   go_ret
   refine ⟨Zr ?_,0,rfl⟩;rw [hf.out];first|rw [if_pos (by assumption)]|rw [if_neg (by omega)]
 ·have hf:=Lib.hid (floor_pos (n:=n) (d:=d) (by omega));have m0:=Int.emod_nonneg n (show d≠0 by omega);have q0:0<=n / d:=Int.ediv_nonneg (by omega) (by omega);have q1:=(floor_le (n:=n) hd 9223372036854775807 (by omega) (by omega) (by omega)).2;go_enter Tryz.func202,Tryz.ntmps202
  go_wp2
  go_ret
  exact ⟨rfl,0,rfl⟩
theorem ratioMin_in {r s:X5} (hr:r.In) (hs:s.In):(YL r s).In:=by
 unfold YL;split
 ·split<;>assumption
 ·exact ⟨⟨by decide,by decide⟩,⟨by decide,by decide⟩⟩
theorem ratioMax_in {r s:X5} (hr:r.In) (hs:s.In):(YM r s).In:=by
 unfold YM;split
 ·split<;>assumption
 ·exact ⟨⟨by decide,by decide⟩,⟨by decide,by decide⟩⟩
theorem j1_FnCells:(Rows.fnCellsRow.inPlace == Tryz.prog.inPlace 9)=true:=by kernel_rfl
theorem j2_FnCells:(Rows.fnCellsRow.unfollowed == Tryz.prog.unfollowed 9)=true:=by kernel_rfl
theorem j3_FnCells:(Rows.fnCellsRow.recurses == Tryz.prog.recurses 9)=true:=by kernel_rfl
theorem j4_FnCells:(Rows.fnCellsRow.named == Tryz.prog.varsNamed 9)=true:=by kernel_rfl
theorem within_next {C:List XQ} {q:List Half} {k:Nat} (h:k<C.length) (h1:(C.take k).all (Zl q)=true) (hb:Zl q (C.getD k Kj)=true):(C.take (k+1)).all (Zl q)=true:=by
 rw [getD_el h] at hb;exact within_step h h1 hb
def meetSp (a b:Zg):Option Zg:=if X6 a=true/\X6 b=true/\X6 ⟨YM a.low b.low,YL a.high b.high⟩=true then some ⟨YM a.low b.low,YL a.high b.high⟩ else none
def Jh (A:XQ->Option Zg) (l:List XQ):Nat->Option Zg
 | 0=>some Xw
 | k+1=>(Jh A l k).bind λ w=>(A (l.getD k Kj)).bind λ v=>if k=0 then some v else meetSp w v
theorem accS_none {A:XQ->Option Zg} {l:List XQ} {k:Nat} (h:Jh A l k=none):∀ m,Jh A l (k+m)=none
 | 0=>h
 | m+1=>by
  have:=accS_none h m;show (Jh A l (k+m)).bind _=none;rw [this];rfl
theorem accS_no {A:XQ->Option Zg} {l:List XQ} {k n:Nat} (h:Jh A l k=none) (hk:k<=n):Jh A l n=none:=by
 obtain ⟨m,rfl⟩:=Nat.le.dest hk;exact accS_none h m
def accH (H:XQ->Bool) (A:XQ->Option Zg) (l:List XQ):Nat->Option Zg
 | 0=>some Xw
 | k+1=>(accH H A l k).bind λ w=>if H (l.getD k Kj)=true then (A (l.getD k Kj)).bind λ v=>if k=0 then some v else meetSp w v else none
theorem accH_eq {H:XQ->Bool} {A:XQ->Option Zg} {l:List XQ}:∀ k,k<=l.length->accH H A l k=if (l.take k).all H=true then Jh A l k else none
 | 0,_=>by rw [accH,Jh,List.take_zero];rfl
 | k+1,hk=>by
  have h:k<l.length:=by omega
  rw [accH,accH_eq k (by omega),Jh,List.take_add_one,List.getElem?_eq_getElem h,List.all_append,getD_el h];simp only [Option.toList_some,List.all_cons,List.all_nil,Bool.and_true];rcases Bool.eq_false_or_eq_true ((l.take k).all H) with h1|h1
  ·rw [h1,if_pos rfl,Bool.true_and];rcases Bool.eq_false_or_eq_true (H l[k]) with h2|h2
   ·rw [h2];simp
   ·rw [h2];cases Jh A l k<;>simp
  ·rw [h1,if_neg (by simp),Bool.false_and,if_neg (by simp)];rfl
end Go.Proofs.YtabfdkpdppemaaaGreat
