/-
 Words on memory that the contracts of this claim use: a slice that reads as a list of structs, a slice of the call's own.
 Conditions: none.
-/
import Derived.Test.YtkjimfapbjdafaaGreatRows
import Derived.WalkKit
import Derived.WalkSpells
import Derived.WalkLawsBesides
import Derived.Deep.Draws
import Derived.Lib.Hide
import Derived.Deep.Slices
import Derived.Deep.Fields
import Derived.ChangeSame
import Derived.ArgAppend
import Derived.JoinedOf
import Derived.Deep.RegionHeld3
import Derived.Test.YtkjimfapbjdafaaGreatGrGQl
import Derived.Deep.QuietTactic
import Derived.BigQuiet
import Derived.StillTailTactics
import Derived.ProofKit
import Derived.OpenShut
import Derived.ChangeOld
import Derived.Below
import Derived.Test.YtkjimfapbjdafaaGreatGrOQb
set_option maxRecDepth 100000
namespace Go.Proofs.YtkjimfapbjdafaaGreat
open Go.RowKit
section
variable {α:Type} {sz:Nat} {enc:α->List Value} {w w':World} {A:Option Addr} {xs:List α}
end
section
variable {α:Type} {T sz:Nat} {enc:α->List Value} {w w':World} {v:Value} {xs:List α} {base:Nat}
end
section
variable {α:Type} {T sz:Nat} {enc:α->List Value} {w w':World} {g N k:Nat} {xs:List α}
end
section
variable {w w':World} {g:Nat} {vs:List Value}
end
theorem mkSpot_C {r:List Int} (h:r.length=3):Zm (mkSpot r)=r.map (Value.int .i64):=by
 match r,h with
 | [a,b,c],_=>rfl
abbrev trackV (x:Track) (a:TrackA):Value:=.agg #[.slice a.spots.A (List.length x.spots) a.spots.c,.slice a.inputs.A (List.length x.inputs) a.inputs.c]
def trackLen (x:Track):Nat:=List.length x.spots+List.length x.inputs
theorem j3_RunLoop:(Rows.fnExactRunLoopRow.recurses == Tryz.prog.recurses 11)=true:=by kernel_rfl
theorem j4_RunLoop:(Rows.fnExactRunLoopRow.named == Tryz.prog.varsNamed 11)=true:=by kernel_rfl
theorem j1_RunLoop:(Rows.fnExactRunLoopRow.inPlace == Tryz.prog.inPlace 11)=true:=by kernel_rfl
theorem j2_RunLoop:(Rows.fnExactRunLoopRow.unfollowed == Tryz.prog.unfollowed 11)=true:=by kernel_rfl
theorem spotC_one (t:Ya):∀ u∈Zm t,u.oneCell'=true:=by
 intro u hu;simp [Zm] at hu;rcases hu with rfl|rfl|rfl<;>rfl
variable {r:X3} {p:List Half} {s:Ya} {ws:List Int} {ns:List Ya}
theorem YG.nil (w:World) (base:Nat):YG w base ⟨[],[]⟩ ⟨⟨none,0⟩,⟨none,0⟩⟩ :=
 ⟨XI.nilN _ _ _ _ _,XI.nilN _ _ _ _ _,apart2 (λ p q h=>by cases h)⟩
end Go.Proofs.YtkjimfapbjdafaaGreat
namespace Go.Proofs.YtkjimfapbjdafaaGreat
open Go.RowKit
theorem eqSpot_t (x:Ya) (w:World) :
 Calls Tryz.prog 143 #[Yj x,Yj x] w λ e w'=>e=.returned (.bool true)/\Below w.heap.size w w':=by
 go_enter Tryz.func143,Tryz.ntmps143
 go_wp2
 go_ret
 refine ⟨rfl, ?_⟩;exact XA
theorem eqRatioS_t (A B:Option Addr) (xs:List YA) (c d:Nat) (w:World) (hn:xs.length<=1048576) (ha:Sl 2 Jw w A xs) (hb:Sl 2 Jw w B xs) :
 Calls Tryz.prog 142 #[.slice A xs.length c,.slice B xs.length d] w λ e w'=>e=.returned (.bool true)/\Below w.heap.size w w':=by
 go_enter Tryz.func142,Tryz.ntmps142
 go_wp2
 go_loopw [5] (λ i wr=>∃ k:Nat,k<=xs.length/\i=.int .i64 k/\Below w.heap.size w wr) (λ i _=>xs.length-(intOf i).toNat)
 case atStart=>exact ⟨0,Nat.zero_le _,rfl,Below.refl _ _⟩
 case round =>
  obtain ⟨k,hk,rfl,hbw⟩:=hrel;by_cases hlt:k<xs.length
  ·obtain ⟨b,off,rfl,hblt,hc⟩:=(ha.below hbw).at_ hlt;obtain ⟨b',off',rfl,hblt',hc'⟩:=(hb.below hbw).at_ hlt;have g0:=hc 0 _ rfl;have g1:=hc 1 _ rfl;have g0':=hc' 0 _ rfl;have g1':=hc' 1 _ rfl;clear hc hc';simp only [Nat.add_zero] at g0 g0';generalize xs[k]=x at *;go_wp2
   go_still_tail 8,(by kernel_rfl)
   change wpList _ _ _ _ _ wr.drew
   generalize hwr:wr.drew=w2;have hb2:Below w.heap.size w w2:=by rw [<- hwr];exact hbw.drew
   clear hwr;go_wp2_with (fail)
   refine (eqRatio_t x _).mono ?_;rintro e w1 ⟨rfl,hb1⟩;go_wp2
   go_roundw
   case rel=>exact ⟨k+1,by omega,by go_num,hb2.trans (hb1.mono hb2.size)⟩
   case measure=>simp [intOf];omega
  ·go_wp2
   go_ret
   exact ⟨rfl,hbw⟩
theorem szSpotS_c (A:Option Addr) (n cap:Nat) (left:Int) (w:World) (hn:n<=9223372036854775807) (h0:0<=left) (h1:left<=1048576) :
 Calls Tryz.prog 60 #[.slice A n cap,.int .i64 left] w λ e w'=>e=.returned (.int .i64 (if left-n<0 then -1 else left-n))/\w=w':=by
 by_cases h:left-n<0
 all_goals
  go_enter Tryz.func60,Tryz.ntmps60
  go_wp2
  go_ret
  exact ⟨Zo (by simp),rfl⟩
theorem eqSpotS_t (A B:Option Addr) (xs:List Ya) (c d:Nat) (w:World) (hn:xs.length<=1048576) (ha:Sl 3 Zm w A xs) (hb:Sl 3 Zm w B xs) :
 Calls Tryz.prog 66 #[.slice A xs.length c,.slice B xs.length d] w λ e w'=>e=.returned (.bool true)/\Below w.heap.size w w':=by
 go_enter Tryz.func66,Tryz.ntmps66
 go_wp2
 go_loopw [5] (λ i wr=>∃ k:Nat,k<=xs.length/\i=.int .i64 k/\Below w.heap.size w wr) (λ i _=>xs.length-(intOf i).toNat)
 case atStart=>exact ⟨0,Nat.zero_le _,rfl,Below.refl _ _⟩
 case round =>
  obtain ⟨k,hk,rfl,hbw⟩:=hrel;by_cases hlt:k<xs.length
  ·obtain ⟨b,off,rfl,hblt,hc⟩:=(ha.below hbw).at_ hlt;obtain ⟨b',off',rfl,hblt',hc'⟩:=(hb.below hbw).at_ hlt;have g0:=hc 0 _ rfl;have g1:=hc 1 _ rfl;have g2:=hc 2 _ rfl;have g0':=hc' 0 _ rfl;have g1':=hc' 1 _ rfl;have g2':=hc' 2 _ rfl;clear hc hc';simp only [Nat.add_zero] at g0 g0';generalize xs[k]=x at *;go_wp2
   go_still_tail 8,(by kernel_rfl)
   change wpList _ _ _ _ _ wr.drew
   generalize hwr:wr.drew=w2;have hb2:Below w.heap.size w w2:=by rw [<- hwr];exact hbw.drew
   clear hwr;go_wp2_with (fail)
   refine (eqSpot_t x _).mono ?_;rintro e w1 ⟨rfl,hb1⟩;go_wp2
   go_roundw
   case rel=>exact ⟨k+1,by omega,by go_num,hb2.trans (hb1.mono hb2.size)⟩
   case measure=>simp [intOf];omega
  ·go_wp2
   go_ret
   exact ⟨rfl,hbw⟩
theorem toSpotS_c (A:Option Addr) (xs:List Ya) (cap:Nat) (w:World) (hn:xs.length<=1048576) (hs:Sl 3 Zm w A xs) :
 Calls Tryz.prog 63 #[.slice A xs.length cap] w λ e w'=>∃ v,e=.returned v/\XI 44 3 Zm w' w.heap.size v xs/\Below w.heap.size w w':=by
 obtain ⟨i0,hi0,hz0,hz1,hz2⟩:=info_parts (show (Tryz.prog.info? 44).map (λ i=>(i.zero,i.size,i.bytes))=some (some (.agg #[.int .i64 0,.int .i64 0,.int .i64 0]),3,24) by kernel_rfl);have hmk:∀ W:World,(Instr.makeSlice 98 (.int .i64 (xs.length:Int)) (.int .i64 (xs.length:Int))).run Tryz.prog W=.ok (.slice (some ⟨W.heap.size,0,none⟩) xs.length xs.length) (W.alloc (.cells (madeCells #[.int .i64 0,.int .i64 0,.int .i64 0] (xs.length*3)) 44)):=by
  intro W;have h:=run_make (P:=Tryz.prog) W 98 44 i0 _ Tryz.underlying98 hi0 hz0 .i64 .i64 (xs.length:Int) (xs.length:Int) (by omega) (by omega) (by rw [hz2];omega) (by omega);rw [hz1] at h;simpa [Value.cells] using h
 go_enter Tryz.func63,Tryz.ntmps63
 go_wp2
 go_loopw [4] (λ i wr=>∃ k:Nat,k<=xs.length/\i=.int .i64 k/\Kg 44 3 Zm wr w.heap.size (xs.length*3) xs k/\Below w.heap.size w wr) (λ i _=>xs.length-(intOf i).toNat)
 case atStart=>exact ⟨0,Nat.zero_le _,rfl,Kg.start (by simp [madeCells]) Xh,Xd bR _⟩
 case round =>
  obtain ⟨k,hk,rfl,hfill,hbw⟩:=hrel;by_cases hlt:k<xs.length
  ·obtain ⟨b,off,rfl,hblt,hc⟩:=(hs.below hbw).at_ hlt;have g0:=hc 0 _ rfl;have g1:=hc 1 _ rfl;have g2:=hc 2 _ rfl;clear hc;simp only [Nat.add_zero] at g0;have hx:xs[k]=xs[k]:=rfl;generalize hxx:xs[k]=x at *;have HX:=Lib.hid hxx;clear hxx hx;go_wp2_with (fail)
   refine (toSpot_c x _).mono ?_;rintro e w1 ⟨rfl,hb1⟩;have hfill1:=hfill.below hb1;have hbw1:=Xn hbw hb1;have hm:=Nat.mul_le_mul_right 3 hlt;obtain ⟨u0,c0⟩:=hfill1.cell (m:=k*3) (by omega);have f0:=hfill1.frozen (k*3);obtain ⟨u1,c1⟩:=hfill1.cell (m:=k*3+1) (by omega);have f1:=hfill1.frozen (k*3+1);obtain ⟨u2,c2⟩:=hfill1.cell (m:=k*3+2) (by omega);have f2:=hfill1.frozen (k*3+2);clear hm;have hst:=hfill1.stored Zt hlt (vs:=Zm x) (by rw [HX.out]);have hst2:=below_setCells (Nat.le_refl w.heap.size) (Zm x) (k*3) _ hbw1;go_wp2
   exact ⟨⟨k+1,by omega,by go_num,hst,hst2⟩,by simp [intOf];omega⟩
  ·obtain rfl:k=xs.length:=by omega
   go_wp2
   go_ret
   exact ⟨_,rfl,hfill.new Zt Xh (by unfold maxLen;omega),hbw⟩
set_option maxHeartbeats 1000000 in
theorem eqTrack_t (x:Track) (a b:TrackA) (w:World) (hn:trackLen x<=1048576) (ha:TrackSl w x a) (hb:TrackSl w x b) :
 Calls Tryz.prog 65 #[trackV x a,trackV x b] w λ e w'=>e=.returned (.bool true)/\Below w.heap.size w w':=by
 simp only [trackLen] at hn;go_enter Tryz.func65,Tryz.ntmps65
 go_wp2_with (fail)
 refine (eqSpotS_t a.spots.A b.spots.A x.spots _ _ _ (by omega) (Sl.below ha.spots (by exact XA)) (Sl.below hb.spots (by exact XA))).mono ?_;rintro e w0 ⟨rfl,hb0⟩;have r0:=Xz hb0;have l0:w.heap.size<w0.heap.size:=XO hb0;have m0:w.heap.size+1<w0.heap.size:=XO hb0;go_wp2_with (fail)
 refine (eqRatioS_t a.inputs.A b.inputs.A x.inputs _ _ _ (by omega) (Sl.below ha.inputs (by exact XA)) (Sl.below hb.inputs (by exact XA))).mono ?_;rintro e w1 ⟨rfl,hb1⟩;have r1:=Xz hb1;have l1:w.heap.size<w1.heap.size:=XO hb1;have m1:w.heap.size+1<w1.heap.size:=XO hb1;go_wp2
 go_ret
 refine ⟨rfl, ?_⟩;exact XA
end Go.Proofs.YtkjimfapbjdafaaGreat
namespace Go.Proofs.YtkjimfapbjdafaaGreat
open Go.RowKit Go.ChangeShapes Go.WideShapes Go.ChangeAt Go.Deep
section
variable {H:Type} {enc:TypeId × Value->H} {P:Program} {w:World} {base:Nat} {spare:Nat->Bool} {held:Bool}
end
theorem openSpotS {H:Type} {enc:TypeId × Value->H} {W:World} {base:Nat} {spare:Nat->Bool} {held:Bool} {fuel:Nat} {cs:List Value} {x:DataW H × List MemPlace}
 (h:DataW.trod enc Tryz.prog W base spare held fuel 96 cs=some x) :
 ∃ A cap xs,cs=[.slice A (List.length xs) cap]/\xs.length<=9223372036854775807/\(∀ x∈xs,Ya.In x)/\Sl 3 Zm W A xs:=by
 obtain ⟨A,n,cap,hcs,hn,rows,hl,hr,hs⟩:=open_slice_rows (k:=3) Tryz.underlying96 (by kernel_rfl)
  (λ n cs' x' h'=>open_ints_cells Tryz.underlying30 (by kernel_rfl) (by kernel_rfl) (by kernel_rfl) h') (by omega) h
 refine ⟨A,cap,rows.map mkSpot, ?_,by simp;omega, ?_,hs.map mkSpot λ x hx=>mkSpot_C (hr x hx).1⟩
 ·simp [hcs,hl]
 ·intro x hx;simp only [List.mem_map] at hx;obtain ⟨r,hr',rfl⟩:=hx;exact mkSpot_In (hr r hr').1 (hr r hr').2
theorem openIntSV {H:Type} {enc:TypeId × Value->H} {W:World} {base b0:Nat} {spare:Nat->Bool} {held:Bool} {r:Reach} {v:Value} {d:DataW H} {p:List MemPlace}
 (hv:Value.okWide Tryz.prog W r b0 22 v) (h:DataW.Trod enc Tryz.prog W base spare held 22 v d p) :
 ∃ A cap,∃ xs:List Int,v=.slice A xs.length cap/\xs.length<=9223372036854775807/\(∀ y∈xs,Zv y)/\Sl 1 Y6 W A xs:=by
 obtain ⟨a0,len,cap,rfl⟩:=okWide_slice Tryz.underlying22 hv;obtain ⟨fuel,hf⟩:=h;obtain ⟨A,cap',xs,e1,h1,h2,h3⟩:=open_intS Tryz.underlying22 Tryz.underlying3 (by kernel_rfl) hf;simp only [Value.cells,List.cons.injEq,and_true] at e1;exact ⟨A,cap',xs,e1,h1,h2,h3⟩
theorem openSpotSV {H:Type} {enc:TypeId × Value->H} {W:World} {base b0:Nat} {spare:Nat->Bool} {held:Bool} {r:Reach} {v:Value} {d:DataW H} {p:List MemPlace}
 (hv:Value.okWide Tryz.prog W r b0 96 v) (h:DataW.Trod enc Tryz.prog W base spare held 96 v d p) :
 ∃ A cap,∃ xs:List Ya,v=.slice A xs.length cap/\xs.length<=9223372036854775807/\(∀ y∈xs,Ya.In y)/\Sl 3 Zm W A xs:=by
 obtain ⟨a0,len,cap,rfl⟩:=okWide_slice Tryz.underlying96 hv;obtain ⟨fuel,hf⟩:=h;obtain ⟨A,cap',xs,e1,h1,h2,h3⟩:=openSpotS hf;simp only [Value.cells,List.cons.injEq,and_true] at e1;exact ⟨A,cap',xs,e1,h1,h2,h3⟩
end Go.Proofs.YtkjimfapbjdafaaGreat
namespace Go.Proofs.YtkjimfapbjdafaaGreat
open Go.RowKit
theorem heldRatioS_c (A:Option Addr) (n cap:Nat) (K:Int) (w:World) (hn:n<=1048576) (hK:0<=K) (hK2:K<=1000000000000) (hs:Sl 2 Jw w A (KR K n)) :
 Calls Tryz.prog 146 #[.slice A n cap,.int .i64 K] w λ e w'=>e=.returned (.int .i64 (K+n*2))/\w=w':=by
 have hml:(KR K n).length=n:=by simp [KR]
 go_enter Tryz.func146,Tryz.ntmps146
 go_wp2
 go_loop [1,5] (λ kk i=>∃ k:Nat,k<=n/\i=.int .i64 k/\kk=.int .i64 (K+k*2)) (λ _ i=>n-(intOf i).toNat)
 case atStart=>exact ⟨0,Nat.zero_le _,rfl,by simp⟩
 case round =>
  obtain ⟨k,hk,rfl,rfl⟩:=hrel;by_cases hlt:k<n
  ·obtain ⟨b,off,rfl,hblt,hc⟩:=hs.at_ (k:=k) (by rw [hml];exact hlt);have hx:(KR K n)[k]'(by rw [hml];exact hlt)=⟨K+k*2,K+k*2+1⟩:=by simp [KR]
   rw [hx] at hc;have g0:=hc 0 _ rfl;have g1:=hc 1 _ rfl;clear hc hx hml;simp only [Nat.add_zero] at g0;go_wp2
   refine ⟨⟨k+1,by omega,by go_num, ?_⟩,by simp [intOf];omega⟩;congr 1;omega
  ·obtain rfl:k=n:=by omega
   go_wp2
   go_ret
   exact ⟨rfl,rfl⟩
theorem heldSpotS_c (A:Option Addr) (n cap:Nat) (K:Int) (w:World) (hn:n<=1048576) (hK:0<=K) (hK2:K<=1000000000000) (hs:Sl 3 Zm w A (Jt K n)) :
 Calls Tryz.prog 145 #[.slice A n cap,.int .i64 K] w λ e w'=>e=.returned (.int .i64 (K+n*3))/\w=w':=by
 have hml:(Jt K n).length=n:=by simp [Jt]
 go_enter Tryz.func145,Tryz.ntmps145
 go_wp2
 go_loop [1,5] (λ kk i=>∃ k:Nat,k<=n/\i=.int .i64 k/\kk=.int .i64 (K+k*3)) (λ _ i=>n-(intOf i).toNat)
 case atStart=>exact ⟨0,Nat.zero_le _,rfl,by simp⟩
 case round =>
  obtain ⟨k,hk,rfl,rfl⟩:=hrel;by_cases hlt:k<n
  ·obtain ⟨b,off,rfl,hblt,hc⟩:=hs.at_ (k:=k) (by rw [hml];exact hlt);have hx:(Jt K n)[k]'(by rw [hml];exact hlt)=⟨K+k*3,K+k*3+1,K+k*3+1+1⟩:=by simp [Jt]
   rw [hx] at hc;have g0:=hc 0 _ rfl;have g1:=hc 1 _ rfl;have g2:=hc 2 _ rfl;clear hc hx hml;simp only [Nat.add_zero] at g0;go_wp2
   refine ⟨⟨k+1,by omega,by go_num, ?_⟩,by simp [intOf];omega⟩;congr 1;omega
  ·obtain rfl:k=n:=by omega
   go_wp2
   go_ret
   exact ⟨rfl,rfl⟩
theorem markSpotS_g (A:Option Addr) (n cap:Nat) (xs:List Ya) (K:Int) (base:Nat) (w:World) (hl:xs.length=n) (hn:n<=1048576) (hK:0<=K) (hK2:K<=1000000000000) (hv:XI 44 3 Zm w base (.slice A n cap) xs) :
 Calls Tryz.prog 67 #[.slice A n cap,.int .i64 K] w λ e w'=>e=.returned (.int .i64 (K+n*3))/\XI 44 3 Zm w' base (.slice A n cap) (Jt K n)/\Zr w w' [⟨A,cap⟩]:=by
 obtain ⟨A',cap',he,hown⟩:=hv;injection he with e1 e2 e3
 subst e1 e3 hl;by_cases h0:xs.length=0
 ·have hx:xs=[]:=List.eq_nil_of_length_eq_zero h0;subst hx;simp only [List.length_nil];go_enter Tryz.func67,Tryz.ntmps67
  go_wp2
  go_loopw [1,5] (λ kk i wr=>i=.int .i64 0/\kk=.int .i64 K/\wr=w) (λ _ _ _=>0)
  case atStart=>exact ⟨rfl,rfl,rfl⟩
  case round =>
   obtain ⟨rfl,rfl,rfl⟩:=hrel;go_wp2
   go_ret
   exact ⟨Zo (by simp),⟨A,cap,rfl,hown⟩,Zr.refl _ _⟩
 ·obtain ⟨g,hA,hbg,hfill0,hback⟩:=own_filled Zt hown (Jt K xs.length) (by simp [Jt]) (by omega);subst hA;have hml:(Jt K xs.length).length=xs.length:=by simp [Jt]
  go_enter Tryz.func67,Tryz.ntmps67
  go_wp2
  go_loopw [1,5] (λ kk i wr=>∃ k:Nat,k<=xs.length/\i=.int .i64 k/\kk=.int .i64 (K+k*3)/\Kg 44 3 Zm wr g (cap*3) (Jt K xs.length) k/\Zr w wr [⟨some ⟨g,0,none⟩,cap⟩]) (λ _ i _=>xs.length-(intOf i).toNat)
  case atStart=>exact ⟨0,Nat.zero_le _,rfl,by simp,hfill0,Zr.refl _ _⟩
  case round =>
   obtain ⟨k,hk,rfl,rfl,hfill,hbw⟩:=hrel;by_cases hlt:k<xs.length
   ·have hm:=Nat.mul_le_mul_right 3 hlt;have hml2:=hfill.room;rw [hml] at hml2;obtain ⟨u0,c0⟩:=hfill.cell (m:=k*3) (by omega);have f0:=hfill.frozen (k*3);obtain ⟨u1,c1⟩:=hfill.cell (m:=k*3+1) (by omega);have f1:=hfill.frozen (k*3+1);obtain ⟨u2,c2⟩:=hfill.cell (m:=k*3+2) (by omega);have f2:=hfill.frozen (k*3+2);clear hm hml2;have hst:=hfill.stored Zt (by rw [hml];exact hlt) (vs:=Zm ⟨K+k*3,K+k*3+1,K+k*3+1+1⟩) (by simp [Jt]);have hst2:=Zr.setCells (Zm ⟨K+k*3,K+k*3+1,K+k*3+1+1⟩) (k*3) _ hbw;go_wp2
    refine ⟨⟨k+1,by omega,by go_num, ?_,hst,hst2⟩,by simp [intOf];omega⟩;congr 1;omega
   ·obtain rfl:k=xs.length:=by omega
    go_wp2
    go_ret
    refine ⟨rfl, ?_,hbw⟩;obtain ⟨A2,c2,e2,o2⟩:=hback _ hfill;rw [hml] at e2 o2;injection e2 with e3 _ e4
    subst e3 e4;exact ⟨_,_,by rw [hml],by rw [hml];exact o2⟩
end Go.Proofs.YtkjimfapbjdafaaGreat
