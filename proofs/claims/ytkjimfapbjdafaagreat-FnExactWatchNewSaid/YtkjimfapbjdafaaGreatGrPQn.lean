/-
 What the functions that mark results and look whether the marks are held return.
 Conditions: the slices hold at most 2^20 elements.
-/
import Derived.Test.YtkjimfapbjdafaaGreatGrAQa
namespace Go.Proofs.YtkjimfapbjdafaaGreat
open Go.RowKit
set_option maxRecDepth 100000 in
theorem heldIntS_c (A:Option Addr) (n cap:Nat) (K:Int) (w:World) (hn:n<=1048576) (hK:0<=K) (hK2:K<=1000000000000) (hs:Sl 1 Y6 w A (K6 K n)) :
 Calls Tryz.prog 31 #[.slice A n cap,.int .i64 K] w λ e w'=>e=.returned (.int .i64 (K+n))/\w=w':=by
 have hml:(K6 K n).length=n:=by simp [K6]
 go_enter Tryz.func31,Tryz.ntmps31
 go_wp2
 go_loop [1,5] (λ kk i=>∃ k:Nat,k<=n/\i=.int .i64 k/\kk=.int .i64 (K+k)) (λ _ i=>n-(intOf i).toNat)
 case atStart=>exact ⟨0,Nat.zero_le _,rfl,by simp⟩
 case round =>
  obtain ⟨k,hk,rfl,rfl⟩:=hrel;by_cases hlt:k<n
  ·obtain ⟨b,off,rfl,hblt,hc⟩:=hs.at_ (k:=k) (by rw [hml];exact hlt);have hx:(K6 K n)[k]'(by rw [hml];exact hlt)=K+k:=by simp [K6]
   rw [hx] at hc;have g0:=hc 0 _ rfl;clear hc hx hml;simp only [Nat.mul_one,Nat.add_zero] at g0;go_wp2
   refine ⟨⟨k+1,by omega,by go_num, ?_⟩,by simp [intOf];omega⟩;congr 1;omega
  ·obtain rfl:k=n:=by omega
   go_wp2
   go_ret
   exact ⟨rfl,rfl⟩
end Go.Proofs.YtkjimfapbjdafaaGreat
