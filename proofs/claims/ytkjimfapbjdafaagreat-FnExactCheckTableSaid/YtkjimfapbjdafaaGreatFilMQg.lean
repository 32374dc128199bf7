/-
 The cells of a filled table, row by row and one by one.
 Conditions: none.
-/
import Derived.Test.YtkjimfapbjdafaaGreatLawCheckTableK
import Derived.Test.YtkjimfapbjdafaaGreatFilMQc
namespace Go.Proofs.YtkjimfapbjdafaaGreat
open Go.RowKit
theorem grid_n {t:Jp} (h:ZI t=true):t.nx.toNat*t.ny.toNat<=400/\((t.nx.toNat*t.ny.toNat:Nat):Int)=t.nx*t.ny:=by
 obtain ⟨_,_,_,g4,g5,g6,_⟩:=KL.1 h;have e:((t.nx.toNat*t.ny.toNat:Nat):Int)=t.nx*t.ny:=by
  rw [Int.natCast_mul,Int.toNat_of_nonneg (by omega),Int.toNat_of_nonneg (by omega)]
 exact ⟨by omega,e⟩
def chkC (r:XT) (p e:List Half) (t:Jp) (ok:Bool) (k:Nat):Bool:=t.cells.getD k 0 == -1000000||(ok&&(XO r p e t ((k:Int).tmod t.nx) ((k:Int).tdiv t.nx)).isSome&&Jv ((XO r p e t ((k:Int).tmod t.nx) ((k:Int).tdiv t.nx)).getD Xd) ⟨t.cells.getD k 0,1⟩)
def chkF (r:XT) (p:List Half) (t:Jp):Nat->Nat->Int
 | 0,_=>-1
 | n+1,k=>if chkC r p (Yi r p) t (Yf r p) k=true then chkF r p t n (k+1) else (k:Int)
def chkT (r:XT) (p:List Half) (t:Jp):Int:=if (XQ t&&XW r&&Xt p)=true then chkF r p t t.cells.length 0 else -2
theorem chk_no {r:XT} {p:List Half} {t:Jp} (h:(XQ t&&XW r&&Xt p)=false):chkT r p t = -2:=by unfold chkT;rw [if_neg (by rw [h];simp)]
theorem chk_yes {r:XT} {p:List Half} {t:Jp} (h:(XQ t&&XW r&&Xt p)=true):chkT r p t=chkF r p t t.cells.length 0:=by unfold chkT;rw [if_pos h]
theorem chkF_next {r:XT} {p:List Half} {t:Jp} {N k:Nat} {z:Int} (hk:k<N) (h:chkF r p t (N-k) k=z) (hc:chkC r p (Yi r p) t (Yf r p) k=true):chkF r p t (N-(k+1)) (k+1)=z:=by
 rw [show N-k=(N-(k+1))+1 by omega,chkF,if_pos hc] at h;exact h
theorem chkF_stop {r:XT} {p:List Half} {t:Jp} {N k:Nat} {z:Int} (hk:k<N) (h:chkF r p t (N-k) k=z) (hc:chkC r p (Yi r p) t (Yf r p) k=false):z=(k:Int):=by
 rw [show N-k=(N-(k+1))+1 by omega,chkF,if_neg (by rw [hc];simp)] at h;exact h.symm
theorem chkF_end {r:XT} {p:List Half} {t:Jp} {N:Nat} {z:Int} (h:chkF r p t (N-N) N=z):z = -1:=by
 rw [Nat.sub_self,chkF] at h;exact h.symm
theorem mod_div {k:Nat} {nx:Int} (hx:1<=nx):(k:Int).tmod nx=((k % nx.toNat:Nat):Int)/\(k:Int).tdiv nx=((k / nx.toNat:Nat):Int):=by
 have e:nx=(nx.toNat:Int):=(Int.toNat_of_nonneg (by omega)).symm;constructor
 ·rw [Int.tmod_eq_emod_of_nonneg (by omega)];conv=>lhs;rw [e]
  rw [Int.natCast_emod]
 ·rw [Int.tdiv_eq_ediv_of_nonneg (by omega)];conv=>lhs;rw [e]
  rw [Int.natCast_ediv]
theorem cell_k {t:Jp} {k:Nat} (h:ZI t=true) (hk:(k:Int)<t.nx*t.ny):Jb t ((k:Int).tmod t.nx) ((k:Int).tdiv t.nx)=true:=by
 obtain ⟨_,_,_,g4,g5,_⟩:=KL.1 h;rw [(mod_div (k:=k) g4.1).1,(mod_div (k:=k) g4.1).2];have hn:=(grid_n h).2;have l1:k % t.nx.toNat<t.nx.toNat:=Nat.mod_lt _ (by omega);have l2:k / t.nx.toNat<t.ny.toNat:=Nat.div_lt_of_lt_mul (by omega);generalize k % t.nx.toNat=a at *;generalize k / t.nx.toNat=b at *;unfold Jb;simp only [Bool.and_eq_true,decide_eq_true_eq];omega
end Go.Proofs.YtkjimfapbjdafaaGreat
