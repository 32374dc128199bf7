/-
 What the functions that mark modes, pieces and laws return: they change the marked slices' own blocks alone.
 Conditions: the slices hold at most 2^20 elements.
-/
import Derived.Test.YtdncnhcffbgjhaaGreatGrP
import Derived.Test.YtdncnhcffbgjhaaGreatGrU
import Derived.Test.YtdncnhcffbgjhaaGreatVa
import Derived.Test.YtdncnhcffbgjhaaGreatInv2
section
namespace Go.Proofs.YtdncnhcffbgjhaaGreat
open Go.RowKit
set_option maxRecDepth 100000 in
theorem markPieceS_g (A:Option Addr) (n cap:Nat) (xs:List Piece) (K:Int) (base:Nat) (w:World) (hl:xs.length=n) (hn:n≤1048576) (hK:0≤K) (hK2:K≤1000000000000) (hv:New 109 4 pieceC w base (.slice A n cap) xs) :
 Calls Tryz.prog 76 #[.slice A n cap,.int .i64 K] w fun e w'=>e=.returned (.int .i64 (K+n*4))∧New 109 4 pieceC w' base (.slice A n cap) (markPieces K n)∧OnlyL w w' [⟨A,cap⟩]:=by
 obtain ⟨A',cap',he,hown⟩:=hv
 injection he with e1 e2 e3
 subst e1 e3 hl
 by_cases h0:xs.length=0
 ·have hx:xs=[]:=List.eq_nil_of_length_eq_zero h0
  subst hx
  simp only [List.length_nil]
  go_enter Tryz.func76,Tryz.ntmps76
  go_wp2
  go_loopw [1,5] (fun kk i wr=>i=.int .i64 0∧kk=.int .i64 K∧wr=w) (fun _ _ _=>0)
  case atStart=>exact ⟨rfl,rfl,rfl⟩
  case round =>
   obtain ⟨rfl,rfl,rfl⟩:=hrel
   go_wp2
   go_ret
   exact ⟨ret_int (by simp),⟨A,cap,rfl,hown⟩,OnlyL.refl _ _⟩
 ·obtain ⟨g,hA,hbg,hfill0,hback⟩:=own_filled pieceC_len hown (markPieces K xs.length) (by simp [markPieces]) (by omega)
  subst hA
  have hml:(markPieces K xs.length).length=xs.length:=by simp [markPieces]
  go_enter Tryz.func76,Tryz.ntmps76
  go_wp2
  go_loopw [1,5] (fun kk i wr=>∃ k:Nat,k≤xs.length∧i=.int .i64 k∧kk=.int .i64 (K+k*4)∧Filled 109 4 pieceC wr g (cap*4) (markPieces K xs.length) k∧OnlyL w wr [⟨some ⟨g,0,none⟩,cap⟩]) (fun _ i _=>xs.length-(intOf i).toNat)
  case atStart=>exact ⟨0,Nat.zero_le _,rfl,by simp,hfill0,OnlyL.refl _ _⟩
  case round =>
   obtain ⟨k,hk,rfl,rfl,hfill,hbw⟩:=hrel
   by_cases hlt:k<xs.length
   ·have hm:=Nat.mul_le_mul_right 4 hlt
    have hml2:=hfill.room
    rw [hml] at hml2
    obtain ⟨u0,c0⟩:=hfill.cell (m:=k*4) (by omega)
    have f0:=hfill.frozen (k*4)
    obtain ⟨u1,c1⟩:=hfill.cell (m:=k*4+1) (by omega)
    have f1:=hfill.frozen (k*4+1)
    obtain ⟨u2,c2⟩:=hfill.cell (m:=k*4+2) (by omega)
    have f2:=hfill.frozen (k*4+2)
    obtain ⟨u3,c3⟩:=hfill.cell (m:=k*4+3) (by omega)
    have f3:=hfill.frozen (k*4+3)
    clear hm hml2
    have hst:=hfill.stored pieceC_len (by rw [hml];exact hlt) (vs:=pieceC ⟨K+k*4,K+k*4+1,K+k*4+1+1,K+k*4+1+1+1⟩) (by simp [markPieces])
    have hst2:=OnlyL.setCells (pieceC ⟨K+k*4,K+k*4+1,K+k*4+1+1,K+k*4+1+1+1⟩) (k*4) _ hbw
    go_wp2
    refine ⟨⟨k+1,by omega,by go_num, ?_,hst,hst2⟩,by simp [intOf];omega⟩
    congr 1;omega
   ·obtain rfl:k=xs.length:=by omega
    go_wp2
    go_ret
    refine ⟨rfl, ?_,hbw⟩
    obtain ⟨A2,c2,e2,o2⟩:=hback _ hfill
    rw [hml] at e2 o2
    injection e2 with e3 _ e4
    subst e3 e4
    exact ⟨_,_,by rw [hml],by rw [hml];exact o2⟩
/-- The slices of a law hold marks. -/
structure LawMk (w:World) (x:Law) (a:LawA) (K:Int):Prop where
 lows:Sl 4 pieceC w a.lows.A (markPieces K x.lows.length)
 highs:Sl 4 pieceC w a.highs.A (markPieces (K+x.lows.length*4) x.highs.length)
theorem LawMk.below {w w':World} {x:Law} {a:LawA} {K:Int} (h:LawMk w x a K) (hb:Below w.heap.size w w'):LawMk w' x a K:=⟨h.lows.below hb,h.highs.below hb⟩
set_option maxRecDepth 100000 in
set_option maxHeartbeats 1000000 in
theorem markLaw_g (x:Law) (a:LawA) (K:Int) (base:Nat) (w:World) (hn:lawLen x≤1048576) (hK:0≤K) (hK2:K≤1000000) (hv:LawNew w base x a) :
 Calls Tryz.prog 22 #[lawV x a,.int .i64 K] w fun e w'=>e=.returned (.int .i64 (K+x.lows.length*4+x.highs.length*4))∧LawMk w' x a K∧OnlyL w w' [a.lows,a.highs]:=by
 obtain ⟨lows,highs⟩:=x
 simp only [lawLen] at hn
 obtain ⟨N1,N2,hap⟩:=hv
 simp only [List.pairwise_cons,List.mem_cons,List.not_mem_nil,or_false] at hap
 obtain ⟨p1,_⟩:=hap
 have p12:=p1 _ rfl
 clear p1
 simp only at N1 N2 ⊢
 have c1:=fun W h=>markPieceS_g a.lows.A lows.length a.lows.c lows K base W rfl (by omega) hK (by omega) h
 have c2:=fun W h=>markPieceS_g a.highs.A highs.length a.highs.c highs (K+lows.length*4) base W rfl (by omega) (by omega) (by omega) h
 have b0:=below_al (Below.refl w.heap.size w) (.cells #[.slice a.lows.A lows.length a.lows.c,.slice a.highs.A highs.length a.highs.c] 32)
 have H0:Has (w.alloc (.cells #[.slice a.lows.A lows.length a.lows.c,.slice a.highs.A highs.length a.highs.c] 32)) w.heap.size [.slice a.lows.A lows.length a.lows.c,.slice a.highs.A highs.length a.highs.c]:=Has.new _ _ _
 have k1:∀ p,a.lows.A=some p→p.block≠w.heap.size:=N1.blk.ne_ge leR
 have N1':=N1.below b0 leR
 have N2':=N2.below b0 leR
 have B0:=OnlyL.of_below b0 [a.lows,a.highs]
 clear N1 N2 b0 hn
 go_enter Tryz.func22,Tryz.ntmps22
 go_wp2_with (fail)
 refine (c1 _ N1').mono ?_
 rintro e w1 ⟨rfl,M1,o1⟩
 have H1:=H0.far o1 (all1 k1)
 have O1:=B0.trans (o1.mono (by intro x hx;simp only [List.mem_singleton] at hx;subst hx;simp))
 have R2:=N2'.far o1 (all1 p12.symm)
 have lH1:=H1.1
 clear N1' N2' o1 B0 H0 c1
 obtain ⟨cH1_0,fH1_0⟩:=H1.2 0 _ rfl
 obtain ⟨cH1_1,fH1_1⟩:=H1.2 1 _ rfl
 go_wp2_with (fail)
 refine (c2 _ R2).mono ?_
 rintro e w2 ⟨rfl,M2,o2⟩
 have O2:=O1.trans (o2.mono (by intro x hx;simp only [List.mem_singleton] at hx;subst hx;simp))
 have S1:=(M1.out pieceC_len).far (c:=a.lows.c) o2 (all1 p12)
 have S2:=M2.out pieceC_len
 clear M1 o2 O1 R2 c2 M2
 go_wp2
 go_ret
 exact ⟨rfl,⟨S1,S2⟩,O2⟩
set_option maxRecDepth 100000 in
set_option maxHeartbeats 1000000 in
theorem heldLaw_c (x:Law) (a:LawA) (K:Int) (w:World) (hn:lawLen x≤1048576) (hK:0≤K) (hK2:K≤1000000) (hs:LawMk w x a K) :
 Calls Tryz.prog 23 #[lawV x a,.int .i64 K] w fun e w'=>e=.returned (.int .i64 (K+x.lows.length*4+x.highs.length*4))∧Below w.heap.size w w':=by
 obtain ⟨lows,highs⟩:=x
 simp only [lawLen] at hn
 obtain ⟨s1,s2⟩:=hs
 simp only at s1 s2 ⊢
 have c1:=fun W h=>heldPieceS_c a.lows.A lows.length a.lows.c K W (by omega) hK (by omega) h
 have c2:=fun W h=>heldPieceS_c a.highs.A highs.length a.highs.c (K+lows.length*4) W (by omega) (by omega) (by omega) h
 have n1:¬ (K+(lows.length:Int)*4<0):=by omega
 have n2:¬ (K+(lows.length:Int)*4+(highs.length:Int)*4<0):=by omega
 go_enter Tryz.func23,Tryz.ntmps23
 go_wp2_with (fail)
 refine (c1 _ (s1.alloc _)).mono ?_
 rintro e w1 ⟨rfl,rfl⟩
 go_wp2_with (fail)
 refine (c2 _ (s2.alloc _)).mono ?_
 rintro e w2 ⟨rfl,rfl⟩
 go_wp2
 go_ret
 refine ⟨rfl, ?_⟩
 exact belA
end Go.Proofs.YtdncnhcffbgjhaaGreat
end
section
namespace Go.Proofs.YtdncnhcffbgjhaaGreat
open Go.RowKit
def blkLs (L:List SlA):List Nat:=L.flatMap fun a=>blkL a.A
theorem blkLs_in {L:List SlA} {m:Nat} (h:m∈blkLs L):∃ a∈L,∃ p,a.A=some p∧p.block=m:=by
 obtain ⟨a,ha,hm⟩:=List.mem_flatMap.1 h
 obtain ⟨p,hp,e⟩:=blkL_in hm
 exact ⟨a,ha,p,hp,e⟩
theorem blkLs_mem {L:List SlA} {a:SlA} {p:Addr} (ha:a∈L) (hp:a.A=some p):p.block∈blkLs L :=
 List.mem_flatMap.2 ⟨a,ha,by rw [hp];simp [blkL]⟩
theorem blkLs_nin {L:List SlA} {g:Nat} (h:∀ a∈L,∀ p,a.A=some p→p.block≠g):g ∉ blkLs L:=by
 intro hm
 obtain ⟨a,ha,p,hp,e⟩:=blkLs_in hm
 exact h a ha p hp e
theorem blkLs_lo {L:List SlA} {B:Nat} (h:∀ a∈L,∀ p,a.A=some p→B≤p.block):∀ m∈blkLs L,B≤m:=by
 intro m hm
 obtain ⟨a,ha,p,hp,rfl⟩:=blkLs_in hm
 exact h a ha p hp
theorem OnlyL.kp {L:List SlA} {w w':World} (h:OnlyL w w' L):Kp (blkLs L) w w' :=
 ⟨⟨h.os,h.tape,h.output,h.size,fun k hk=>absurd hk (Nat.not_lt_zero _)⟩,fun g hg hm=>h.block g hg (fun a ha p hp e=>hm (by rw [← e];exact blkLs_mem ha hp))⟩
theorem Kp.only {L:List SlA} {w w':World} (h:Kp (blkLs L) w w'):OnlyL w w' L :=
 ⟨h.base.os,h.base.tape,h.base.output,h.base.size,fun k hk hn=>h.block k hk (blkLs_nin hn)⟩
end Go.Proofs.YtdncnhcffbgjhaaGreat
end
