/-
 What the functions that mark modes, pieces and laws return: they change the marked slices' own blocks alone.
 Conditions: the slices hold at most 2^20 elements.
-/
import Derived.Test.YtkjimfapbjdafaaGreatVaQb
import Derived.Test.YtkjimfapbjdafaaGreatGrXd
namespace Go.Proofs.YtkjimfapbjdafaaGreat
open Go.RowKit
set_option maxRecDepth 100000 in
theorem markModeS_g (A:Option Addr) (n cap:Nat) (xs:List ZP) (K:Int) (base:Nat) (w:World) (hl:xs.length=n) (hn:n<=1048576) (hK:0<=K) (hK2:K<=1000000000000) (hv:XY 132 2 ZD w base (.slice A n cap) xs) :
 Calls Tryz.prog 28 #[.slice A n cap,.int .i64 K] w λ e w'=>e=.returned (.int .i64 (K+n*2))/\XY 132 2 ZD w' base (.slice A n cap) (JI K n)/\Y6 w w' [⟨A,cap⟩]:=by
 obtain ⟨A',cap',he,hown⟩:=hv;injection he with e1 e2 e3
 subst e1 e3 hl;by_cases h0:xs.length=0
 ·have hx:xs=[]:=List.eq_nil_of_length_eq_zero h0;subst hx;simp only [List.length_nil];go_enter Tryz.func28,Tryz.ntmps28
  go_wp2
  go_loopw [1,5] (λ kk i wr=>i=.int .i64 0/\kk=.int .i64 K/\wr=w) (λ _ _ _=>0)
  case atStart=>exact ⟨rfl,rfl,rfl⟩
  case round =>
   obtain ⟨rfl,rfl,rfl⟩:=hrel;go_wp2
   go_ret
   exact ⟨YA (by simp),⟨A,cap,rfl,hown⟩,Y6.refl _ _⟩
 ·obtain ⟨g,hA,hbg,hfill0,hback⟩:=own_filled Kj hown (JI K xs.length) (by simp [JI]) (by omega);subst hA;have hml:(JI K xs.length).length=xs.length:=by simp [JI]
  go_enter Tryz.func28,Tryz.ntmps28
  go_wp2
  go_loopw [1,5] (λ kk i wr=>∃ k:Nat,k<=xs.length/\i=.int .i64 k/\kk=.int .i64 (K+k*2)/\ZA 132 2 ZD wr g (cap*2) (JI K xs.length) k/\Y6 w wr [⟨some ⟨g,0,none⟩,cap⟩]) (λ _ i _=>xs.length-(intOf i).toNat)
  case atStart=>exact ⟨0,Nat.zero_le _,rfl,by simp,hfill0,Y6.refl _ _⟩
  case round =>
   obtain ⟨k,hk,rfl,rfl,hfill,hbw⟩:=hrel;by_cases hlt:k<xs.length
   ·have hm:=Nat.mul_le_mul_right 2 hlt;have hml2:=hfill.room;rw [hml] at hml2;obtain ⟨u0,c0⟩:=hfill.cell (m:=k*2) (by omega);have f0:=hfill.frozen (k*2);obtain ⟨u1,c1⟩:=hfill.cell (m:=k*2+1) (by omega);have f1:=hfill.frozen (k*2+1);clear hm hml2;have hst:=hfill.stored Kj (by rw [hml];exact hlt) (vs:=ZD ⟨K+k*2,K+k*2+1⟩) (by simp [JI]);have hst2:=Y6.setCells (ZD ⟨K+k*2,K+k*2+1⟩) (k*2) _ hbw;go_wp2
    refine ⟨⟨k+1,by omega,by go_num, ?_,hst,hst2⟩,by simp [intOf];omega⟩;congr 1;omega
   ·obtain rfl:k=xs.length:=by omega
    go_wp2
    go_ret
    refine ⟨rfl, ?_,hbw⟩;obtain ⟨A2,c2,e2,o2⟩:=hback _ hfill;rw [hml] at e2 o2;injection e2 with e3 _ e4
    subst e3 e4;exact ⟨_,_,by rw [hml],by rw [hml];exact o2⟩
theorem blkLs_lo {L:List ZS} {B:Nat} (h:∀ a∈L,∀ p,a.A=some p->B<=p.block):∀ m∈blkLs L,B<=m:=by
 intro m hm;obtain ⟨a,ha,p,hp,rfl⟩:=blkLs_in hm;exact h a ha p hp
theorem XY.neL {α:Type} {T sz base n c g T':Nat} {enc:α->List Value} {w:World} {A:Option Addr} {xs:List α} {vs:List Value} (h:XY T sz enc w base (.slice A n c) xs) (hg:Xz w g T' vs) (hT:T≠T'):∀ a∈[(⟨A,c⟩:ZS)],∀ p,a.A=some p->p.block≠g:=all1 (h.typ hg hT)
end Go.Proofs.YtkjimfapbjdafaaGreat
