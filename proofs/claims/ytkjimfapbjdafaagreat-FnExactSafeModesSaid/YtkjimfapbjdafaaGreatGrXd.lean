/-
 What the functions that mark modes, pieces and laws return: they change the marked slices' own blocks alone.
 Conditions: the slices hold at most 2^20 elements.
-/
import Derived.Test.YtkjimfapbjdafaaGreatGrP
import Derived.Test.YtkjimfapbjdafaaGreatGrU
import Derived.Test.YtkjimfapbjdafaaGreatVa
import Derived.Test.YtkjimfapbjdafaaGreatGrF
section
namespace Go.Proofs.YtkjimfapbjdafaaGreat
open Go.RowKit
set_option maxRecDepth 100000 in
theorem markModeS_g (A:Option Addr) (n cap:Nat) (xs:List ZJ) (K:Int) (base:Nat) (w:World) (hl:xs.length=n) (hn:n≤1048576) (hK:0≤K) (hK2:K≤1000000000000) (hv:XY 132 2 ZD w base (.slice A n cap) xs) :
 Calls Tryz.prog 28 #[.slice A n cap,.int .i64 K] w fun e w'=>e=.returned (.int .i64 (K+n*2))∧XY 132 2 ZD w' base (.slice A n cap) (JJ K n)∧Y8 w w' [⟨A,cap⟩]:=by
 obtain ⟨A',cap',he,hown⟩:=hv
 injection he with e1 e2 e3
 subst e1 e3 hl
 by_cases h0:xs.length=0
 ·have hx:xs=[]:=List.eq_nil_of_length_eq_zero h0
  subst hx
  simp only [List.length_nil]
  go_enter Tryz.func28,Tryz.ntmps28
  go_wp2
  go_loopw [1,5] (fun kk i wr=>i=.int .i64 0∧kk=.int .i64 K∧wr=w) (fun _ _ _=>0)
  case atStart=>exact ⟨rfl,rfl,rfl⟩
  case round =>
   obtain ⟨rfl,rfl,rfl⟩:=hrel
   go_wp2
   go_ret
   exact ⟨YF (by simp),⟨A,cap,rfl,hown⟩,Y8.refl _ _⟩
 ·obtain ⟨g,hA,hbg,hfill0,hback⟩:=own_filled Kl hown (JJ K xs.length) (by simp [JJ]) (by omega)
  subst hA
  have hml:(JJ K xs.length).length=xs.length:=by simp [JJ]
  go_enter Tryz.func28,Tryz.ntmps28
  go_wp2
  go_loopw [1,5] (fun kk i wr=>∃ k:Nat,k≤xs.length∧i=.int .i64 k∧kk=.int .i64 (K+k*2)∧ZA 132 2 ZD wr g (cap*2) (JJ K xs.length) k∧Y8 w wr [⟨some ⟨g,0,none⟩,cap⟩]) (fun _ i _=>xs.length-(intOf i).toNat)
  case atStart=>exact ⟨0,Nat.zero_le _,rfl,by simp,hfill0,Y8.refl _ _⟩
  case round =>
   obtain ⟨k,hk,rfl,rfl,hfill,hbw⟩:=hrel
   by_cases hlt:k<xs.length
   ·have hm:=Nat.mul_le_mul_right 2 hlt
    have hml2:=hfill.room
    rw [hml] at hml2
    obtain ⟨u0,c0⟩:=hfill.cell (m:=k*2) (by omega)
    have f0:=hfill.frozen (k*2)
    obtain ⟨u1,c1⟩:=hfill.cell (m:=k*2+1) (by omega)
    have f1:=hfill.frozen (k*2+1)
    clear hm hml2
    have hst:=hfill.stored Kl (by rw [hml];exact hlt) (vs:=ZD ⟨K+k*2,K+k*2+1⟩) (by simp [JJ])
    have hst2:=Y8.setCells (ZD ⟨K+k*2,K+k*2+1⟩) (k*2) _ hbw
    go_wp2
    refine ⟨⟨k+1,by omega,by go_num, ?_,hst,hst2⟩,by simp [intOf];omega⟩
    congr 1;omega
   ·obtain rfl:k=xs.length:=by omega
    go_wp2
    go_ret
    refine ⟨rfl, ?_,hbw⟩
    obtain ⟨A2,c2,e2,o2⟩:=hback _ hfill
    rw [hml] at e2 o2
    injection e2 with e3 _ e4
    subst e3 e4
    exact ⟨_,_,by rw [hml],by rw [hml];exact o2⟩
/-- The slices of a law hold marks. -/
structure LawMk (w:World) (x:Law) (a:LawA) (K:Int):Prop where
 lows:Sl 4 pieceC w a.lows.A (markPieces K x.lows.length)
 highs:Sl 4 pieceC w a.highs.A (markPieces (K+x.lows.length*4) x.highs.length)
theorem LawMk.below {w w':World} {x:Law} {a:LawA} {K:Int} (h:LawMk w x a K) (hb:Below w.heap.size w w'):LawMk w' x a K:=⟨h.lows.below hb,h.highs.below hb⟩
end Go.Proofs.YtkjimfapbjdafaaGreat
end
section
namespace Go.Proofs.YtkjimfapbjdafaaGreat
open Go.RowKit
def blkLs (L:List ZR):List Nat:=L.flatMap fun a=>blkL a.A
theorem blkLs_in {L:List ZR} {m:Nat} (h:m∈blkLs L):∃ a∈L,∃ p,a.A=some p∧p.block=m:=by
 obtain ⟨a,ha,hm⟩:=List.mem_flatMap.1 h
 obtain ⟨p,hp,e⟩:=blkL_in hm
 exact ⟨a,ha,p,hp,e⟩
theorem blkLs_mem {L:List ZR} {a:ZR} {p:Addr} (ha:a∈L) (hp:a.A=some p):p.block∈blkLs L :=
 List.mem_flatMap.2 ⟨a,ha,by rw [hp];simp [blkL]⟩
theorem ZE {L:List ZR} {g:Nat} (h:∀ a∈L,∀ p,a.A=some p→p.block≠g):g ∉ blkLs L:=by
 intro hm
 obtain ⟨a,ha,p,hp,e⟩:=blkLs_in hm
 exact h a ha p hp e
theorem blkLs_lo {L:List ZR} {B:Nat} (h:∀ a∈L,∀ p,a.A=some p→B≤p.block):∀ m∈blkLs L,B≤m:=by
 intro m hm
 obtain ⟨a,ha,p,hp,rfl⟩:=blkLs_in hm
 exact h a ha p hp
theorem Y8.kp {L:List ZR} {w w':World} (h:Y8 w w' L):Kp (blkLs L) w w' :=
 ⟨⟨h.os,h.tape,h.output,h.size,fun k hk=>absurd hk (Nat.not_lt_zero _)⟩,fun g hg hm=>h.block g hg (fun a ha p hp e=>hm (by rw [← e];exact blkLs_mem ha hp))⟩
theorem Kp.only {L:List ZR} {w w':World} (h:Kp (blkLs L) w w'):Y8 w w' L :=
 ⟨h.base.os,h.base.tape,h.base.output,h.base.size,fun k hk hn=>h.block k hk (ZE hn)⟩
theorem XY.neL {α:Type} {T sz base n c g T':Nat} {enc:α→List Value} {w:World} {A:Option Addr} {xs:List α} {vs:List Value} (h:XY T sz enc w base (.slice A n c) xs) (hg:Xy w g T' vs) (hT:T≠T'):∀ a∈[(⟨A,c⟩:ZR)],∀ p,a.A=some p→p.block≠g:=all1 (h.typ hg hT)
end Go.Proofs.YtkjimfapbjdafaaGreat
end
