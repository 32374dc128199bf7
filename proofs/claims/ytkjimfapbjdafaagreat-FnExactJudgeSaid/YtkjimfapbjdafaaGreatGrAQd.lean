/-
 Words on memory that the contracts of this claim use: a slice that reads as a list of structs, a slice of the call's own.
 Conditions: none.
-/
import Derived.Test.YtkjimfapbjdafaaGreatRows
import Derived.WalkKit
import Derived.WalkSpells
import Derived.WalkLawsBesides
import Derived.Deep.Draws
import Derived.Lib.Hide
import Derived.Deep.Slices
import Derived.Deep.Fields
import Derived.ChangeSame
import Derived.ArgAppend
import Derived.Test.YtkjimfapbjdafaaGreatGrAQc
import Derived.JoinedOf
import Derived.StillTailTactics
import Derived.ProofKit
import Derived.OpenShut
import Derived.ChangeOld
import Derived.Below
import Derived.Test.YtkjimfapbjdafaaGreatGrOQb
set_option maxHeartbeats 2000000
set_option maxRecDepth 100000
namespace Go.Proofs.YtkjimfapbjdafaaGreat
open Go.RowKit
section
variable {α:Type} {sz:Nat} {enc:α->List Value} {w w':World} {A:Option Addr} {xs:List α}
end
section
variable {α:Type} {T sz:Nat} {enc:α->List Value} {w w':World} {v:Value} {xs:List α} {base:Nat}
end
section
variable {α:Type} {T sz:Nat} {enc:α->List Value} {w w':World} {g N k:Nat} {xs:List α}
end
section
variable {w w':World} {g:Nat} {vs:List Value}
end
def mkRatio (r:List Int):YA:=⟨r.getD 0 0,r.getD 1 0⟩
theorem mkRatio_In {r:List Int} (h:r.length=2) (h2:∀ n∈r,Zv n):(mkRatio r).In:=by
 match r,h with
 | [a,b],_=>simpa [YA.In,mkRatio] using h2
structure WatchIn (x:Jf):Prop where
 room:Zu x.room
 reg:RegionIn x.reg
 log:∀ y∈x.log,Zv y
theorem j3_Judge:(Rows.fnExactJudgeRow.recurses == Tryz.prog.recurses 10)=true:=by kernel_rfl
theorem j4_Judge:(Rows.fnExactJudgeRow.named == Tryz.prog.varsNamed 10)=true:=by kernel_rfl
theorem j1_Judge:(Rows.fnExactJudgeRow.inPlace == Tryz.prog.inPlace 10)=true:=by kernel_rfl
theorem j2_Judge:(Rows.fnExactJudgeRow.unfollowed == Tryz.prog.unfollowed 10)=true:=by kernel_rfl
theorem toRatio_c (x:YA) (w:World) :
 Calls Tryz.prog 57 #[X7 x] w λ e w'=>e=.returned (X7 x)/\Below w.heap.size w w':=by
 go_enter Tryz.func57,Tryz.ntmps57
 go_wp2
 refine bodyPost_ret (v:=.agg #[.int .i64 x.n,.int .i64 x.d]) (by simp [results,Tryz.results57,go_sem]) rfl ⟨rfl, ?_⟩;exact XA
theorem szWatch_c (x:Jf) (a:Jn) (left:Int) (w:World) (hn:List.length x.room.map<=9223372036854775807/\List.length x.room.noise<=9223372036854775807/\List.length x.room.limits<=9223372036854775807/\List.length x.reg<=9223372036854775807/\List.length x.log<=9223372036854775807) (h0:0<=left) (h1:left<=1048576) :
 Calls Tryz.prog 54 #[watchV x a,.int .i64 left] w λ e w'=>e=.returned (.int .i64 (if left-Zx x<0 then -1 else left-Zx x))/\Below w.heap.size w w':=by
 obtain ⟨hn0,hn1,hn2,hn3,hn4⟩:=hn;have hlen:Hid (((Zx x:Nat):Int)=((Xs x.room:Nat):Int)+((Xm x.reg:Nat):Int)+((List.length x.log:Nat):Int)):=by show _=_;simp only [Xm,Xs,Zx];(try omega)
 have p0:(0:Int)<=((Xs x.room:Nat):Int):=by omega
 have p1:(0:Int)<=((Xm x.reg:Nat):Int):=by omega
 have p2:(0:Int)<=((List.length x.log:Nat):Int):=by omega
 by_cases c0:left-((Xs x.room:Nat):Int)<0
 ·have hfin:(if left-((Zx x:Nat):Int)<0 then (-1:Int) else left-((Zx x:Nat):Int)) = -1:=by have:=hlen.out;rw [if_pos (by omega)]
  rw [hfin];clear hfin;go_enter Tryz.func54,Tryz.ntmps54
  go_wp2_with (fail)
  refine (J8 x.room a.room (left) _ ⟨hn0,hn1,hn2⟩ (by omega) (by omega)).mono ?_;rw [if_pos (by omega)];rintro e w0 ⟨rfl,hb0⟩;have r0:=Xz hb0;have l0:w.heap.size<w0.heap.size:=XO hb0;go_wp2
  go_ret
  refine ⟨rfl, ?_⟩;exact XA
 ·by_cases c1:left-((Xs x.room:Nat):Int)-((Xm x.reg:Nat):Int)<0
  ·have hfin:(if left-((Zx x:Nat):Int)<0 then (-1:Int) else left-((Zx x:Nat):Int)) = -1:=by have:=hlen.out;rw [if_pos (by omega)]
   rw [hfin];clear hfin;go_enter Tryz.func54,Tryz.ntmps54
   go_wp2_with (fail)
   refine (J8 x.room a.room (left) _ ⟨hn0,hn1,hn2⟩ (by omega) (by omega)).mono ?_;rw [if_neg (by omega)];rintro e w0 ⟨rfl,hb0⟩;have r0:=Xz hb0;have l0:w.heap.size<w0.heap.size:=XO hb0;go_wp2_with (fail)
   refine (KD x.reg a.reg (left-((Xs x.room:Nat):Int)) _ hn3 (by omega) (by omega)).mono ?_;rw [if_pos (by omega)];rintro e w1 ⟨rfl,hb1⟩;have r1:=Xz hb1;have l1:w.heap.size<w1.heap.size:=XO hb1;go_wp2
   go_ret
   refine ⟨rfl, ?_⟩;exact XA
  ·by_cases c2:left-((Xs x.room:Nat):Int)-((Xm x.reg:Nat):Int)-((List.length x.log:Nat):Int)<0
   ·have hfin:(if left-((Zx x:Nat):Int)<0 then (-1:Int) else left-((Zx x:Nat):Int)) = -1:=by have:=hlen.out;rw [if_pos (by omega)]
    rw [hfin];clear hfin;go_enter Tryz.func54,Tryz.ntmps54
    go_wp2_with (fail)
    refine (J8 x.room a.room (left) _ ⟨hn0,hn1,hn2⟩ (by omega) (by omega)).mono ?_;rw [if_neg (by omega)];rintro e w0 ⟨rfl,hb0⟩;have r0:=Xz hb0;have l0:w.heap.size<w0.heap.size:=XO hb0;go_wp2_with (fail)
    refine (KD x.reg a.reg (left-((Xs x.room:Nat):Int)) _ hn3 (by omega) (by omega)).mono ?_;rw [if_neg (by omega)];rintro e w1 ⟨rfl,hb1⟩;have r1:=Xz hb1;have l1:w.heap.size<w1.heap.size:=XO hb1;go_wp2_with (fail)
    refine (szIntS_c a.log.A (List.length x.log) a.log.c (left-((Xs x.room:Nat):Int)-((Xm x.reg:Nat):Int)) _ hn4 (by omega) (by omega)).mono ?_;rw [if_pos (by omega)];rintro e w' ⟨rfl,rfl⟩;go_wp2
    go_ret
    refine ⟨rfl, ?_⟩;exact XA
   ·have hfin:(if left-((Zx x:Nat):Int)<0 then (-1:Int) else left-((Zx x:Nat):Int))=left-((Xs x.room:Nat):Int)-((Xm x.reg:Nat):Int)-((List.length x.log:Nat):Int):=by have:=hlen.out;(rw [if_neg (by omega)];omega)
    rw [hfin];clear hfin;go_enter Tryz.func54,Tryz.ntmps54
    go_wp2_with (fail)
    refine (J8 x.room a.room (left) _ ⟨hn0,hn1,hn2⟩ (by omega) (by omega)).mono ?_;rw [if_neg (by omega)];rintro e w0 ⟨rfl,hb0⟩;have r0:=Xz hb0;have l0:w.heap.size<w0.heap.size:=XO hb0;go_wp2_with (fail)
    refine (KD x.reg a.reg (left-((Xs x.room:Nat):Int)) _ hn3 (by omega) (by omega)).mono ?_;rw [if_neg (by omega)];rintro e w1 ⟨rfl,hb1⟩;have r1:=Xz hb1;have l1:w.heap.size<w1.heap.size:=XO hb1;go_wp2_with (fail)
    refine (szIntS_c a.log.A (List.length x.log) a.log.c (left-((Xs x.room:Nat):Int)-((Xm x.reg:Nat):Int)) _ hn4 (by omega) (by omega)).mono ?_;rw [if_neg (by omega)];rintro e w' ⟨rfl,rfl⟩;go_wp2
    go_ret
    refine ⟨rfl, ?_⟩;exact XA
theorem eqWatch_t (x:Jf) (a b:Jn) (w:World) (hn:Zx x<=1048576) (ha:WatchSl w x a) (hb:WatchSl w x b) :
 Calls Tryz.prog 36 #[watchV x a,watchV x b] w λ e w'=>e=.returned (.bool true)/\Below w.heap.size w w':=by
 simp only [Zx] at hn;go_enter Tryz.func36,Tryz.ntmps36
 go_wp2_with (fail)
 refine (eqRoom_t x.room a.room b.room _ (by simp only [Xs];omega) (YH.below ha.room (by exact XA)) (YH.below hb.room (by exact XA))).mono ?_;rintro e w0 ⟨rfl,hb0⟩;have r0:=Xz hb0;have l0:w.heap.size<w0.heap.size:=XO hb0;have m0:w.heap.size+1<w0.heap.size:=XO hb0;go_wp2_with (fail)
 refine (JO x.reg a.reg b.reg _ (by simp only [Xm];omega) (ZS.below ha.reg (by exact XA)) (ZS.below hb.reg (by exact XA))).mono ?_;rintro e w1 ⟨rfl,hb1⟩;have r1:=Xz hb1;have l1:w.heap.size<w1.heap.size:=XO hb1;have m1:w.heap.size+1<w1.heap.size:=XO hb1;go_wp2_with (fail)
 refine (eqIntS_t a.log.A b.log.A x.log _ _ _ (by omega) (Sl.below ha.log (by exact XA)) (Sl.below hb.log (by exact XA))).mono ?_;rintro e w2 ⟨rfl,hb2⟩;have r2:=Xz hb2;have l2:w.heap.size<w2.heap.size:=XO hb2;have m2:w.heap.size+1<w2.heap.size:=XO hb2;go_wp2
 go_ret
 refine ⟨rfl, ?_⟩;exact XA
theorem toWatch_c (x:Jf) (a:Jn) (w:World) (hn:Zx x<=1048576) (hs:WatchSl w x a) :
 Calls Tryz.prog 56 #[watchV x a] w λ e w'=>∃ a',e=.returned (watchV x a')/\Yy w' w.heap.size x a'/\Below w.heap.size w w':=by
 simp only [Zx] at hn;go_enter Tryz.func56,Tryz.ntmps56
 go_wp2_with (fail)
 refine (KZ x.room a.room _ (by simp only [Xs];omega) (YH.below hs.room (by exact XA))).mono ?_;rintro e w0 ⟨a0,rfl,N0,hb0⟩;have K0:=N0.blk;replace N0:=N0.mono (base':=w.heap.size+1+1+1) (by first|(simp;done)|(simp;omega)|omega);have r0:=Xz hb0;have f0:=(bcell hb0).2;have l0:w.heap.size<w0.heap.size:=XO hb0;have m0:w.heap.size+1<w0.heap.size:=XO hb0;have n0:w.heap.size+1+1<w0.heap.size:=XO hb0;go_wp2_with (fail)
 refine (Kw x.reg a.reg _ (by simp only [Xm];omega) (ZS.below hs.reg (by exact XA))).mono ?_;rintro e w1 ⟨a1,rfl,N1,hb1⟩;have K1:=N1.blk;replace N1:=N1.mono (base':=w.heap.size+1+1+1) (by first|(simp;done)|(simp;omega)|omega);have r1:=Xz hb1;have f1:=(bcell hb1).2;have s1:w0.heap.size<=w1.heap.size:=by simpa using hb1.size
 have l1:w.heap.size<w1.heap.size:=XO hb1;have m1:w.heap.size+1<w1.heap.size:=XO hb1;have n1:w.heap.size+1+1<w1.heap.size:=XO hb1;go_wp2_with (fail)
 refine (toIntS_c a.log.A x.log _ _ (by omega) (Sl.below hs.log (by exact XA))).mono ?_;rintro e w2 ⟨v2,rfl,N2,hb2⟩;obtain ⟨A2,k2,rfl,ho2⟩:=N2;have N2:XI 3 1 Y6 w2 _ (.slice A2 (List.length x.log) k2) x.log:=⟨A2,k2,rfl,ho2⟩;clear ho2;have K2:=N2.blk;replace N2:=N2.mono (base':=w.heap.size+1+1+1) (by first|(simp;done)|(simp;omega)|omega);have r2:=Xz hb2;have f2:=(bcell hb2).2;have s2:w1.heap.size<=w2.heap.size:=by simpa using hb2.size
 have l2:w.heap.size<w2.heap.size:=XO hb2;have m2:w.heap.size+1<w2.heap.size:=XO hb2;have n2:w.heap.size+1+1<w2.heap.size:=XO hb2;have H:YI w2 (w.heap.size+1) [.slice none 0 0,.int .i64 0,.int .i64 0,.int .i64 0,.int .i64 0,.int .i64 0,.slice none 0 0,.slice none 0 0,.slice none 0 0,.slice none 0 0]:=by
  exact Zp
 obtain ⟨cH_0,fH_0⟩:=H.2 0 _ rfl;obtain ⟨cH_1,fH_1⟩:=H.2 1 _ rfl;obtain ⟨cH_2,fH_2⟩:=H.2 2 _ rfl;obtain ⟨cH_3,fH_3⟩:=H.2 3 _ rfl;obtain ⟨cH_4,fH_4⟩:=H.2 4 _ rfl;obtain ⟨cH_5,fH_5⟩:=H.2 5 _ rfl;obtain ⟨cH_6,fH_6⟩:=H.2 6 _ rfl;obtain ⟨cH_7,fH_7⟩:=H.2 7 _ rfl;obtain ⟨cH_8,fH_8⟩:=H.2 8 _ rfl;obtain ⟨cH_9,fH_9⟩:=H.2 9 _ rfl;go_wp2
 refine bodyPost_ret (v:=watchV x ⟨a0,a1,⟨A2,k2⟩⟩) (by simp [results,Tryz.results56,go_sem,cH_0,cH_1,cH_2,cH_3,cH_4,cH_5,cH_6,cH_7,cH_8,cH_9]) rfl ?_;refine ⟨⟨a0,a1,⟨A2,k2⟩⟩,rfl,⟨?_, ?_, ?_, ?_⟩, ?_⟩
 ·refine Yq.mono (base:=w.heap.size+1+1+1) ?_ (by omega);repeat (first|(with_reducible exact N0)|(with_reducible refine Yq.low ?_ (by first|(simp;done)|(simp;omega)|omega) _)|(with_reducible refine Yq.below ?_ (by assumption) Xh))
 ·refine XT.mono (base:=w.heap.size+1+1+1) ?_ (by omega);repeat (first|(with_reducible exact N1)|(with_reducible refine XT.low ?_ (by first|(simp;done)|(simp;omega)|omega) _)|(with_reducible refine XT.below ?_ (by assumption) Xh))
 ·refine XI.mono (base:=w.heap.size+1+1+1) ?_ (by omega);repeat (first|(with_reducible exact N2)|(with_reducible refine XI.low ?_ (by first|(simp;done)|(simp;omega)|omega) _)|(with_reducible refine XI.below ?_ (by assumption) Xh))
 ·simp only [List.pairwise_cons,List.mem_cons,List.not_mem_nil,or_false,forall_eq_or_imp,forall_eq,false_implies,implies_true,List.Pairwise.nil,and_true];have Q0:=N0.apart;simp only [List.pairwise_cons,List.mem_cons,List.not_mem_nil,or_false,forall_eq_or_imp,forall_eq,false_implies,implies_true,List.Pairwise.nil,and_true] at Q0;exact ⟨⟨Q0.1.1,Q0.1.2,Blk.apart (K0.1) (K1) (by first|(simp;done)|(simp;omega)|omega),Blk.apart (K0.1) (K2) (by first|(simp;done)|(simp;omega)|omega)⟩,⟨Q0.2,Blk.apart (K0.2.1) (K1) (by first|(simp;done)|(simp;omega)|omega),Blk.apart (K0.2.1) (K2) (by first|(simp;done)|(simp;omega)|omega)⟩,⟨Blk.apart (K0.2.2) (K1) (by first|(simp;done)|(simp;omega)|omega),Blk.apart (K0.2.2) (K2) (by first|(simp;done)|(simp;omega)|omega)⟩,Blk.apart (K1) (K2) (by first|(simp;done)|(simp;omega)|omega)⟩
 ·exact XA
end Go.Proofs.YtkjimfapbjdafaaGreat
namespace Go.Proofs.YtkjimfapbjdafaaGreat
open Go.RowKit Go.ChangeShapes Go.WideShapes Go.ChangeAt Go.Deep
section
variable {H:Type} {enc:TypeId × Value->H} {P:Program} {w:World} {base:Nat} {spare:Nat->Bool} {held:Bool}
end
theorem openRatio {H:Type} {enc:TypeId × Value->H} {W:World} {base b0:Nat} {spare:Nat->Bool} {held:Bool} {r:Reach} {v:Value} {d:DataW H} {p:List MemPlace}
 (hv:Value.okWide Tryz.prog W r b0 88 v) (h:DataW.Trod enc Tryz.prog W base spare held 88 v d p):∃ x:YA,x.In/\v=X7 x:=by
 obtain ⟨ns,hl,hin,rfl⟩:=open_agg_ints Tryz.underlying88 (by kernel_rfl) (by kernel_rfl) (by kernel_rfl) hv h;refine ⟨mkRatio ns,mkRatio_In hl hin, ?_⟩;match ns,hl with
 | [a,b],_=>rfl
theorem openWatchC {H:Type} {enc:TypeId × Value->H} {W:World} {base:Nat} {spare:Nat->Bool} {held:Bool} {fuel:Nat} {cs:List Value} {y:DataW H × List MemPlace}
 (h:DataW.trod enc Tryz.prog W base spare held fuel 87 cs=some y) :
 ∃ (x:Jf) (a:Jn),WatchIn x/\cs=[.slice a.room.map.A (List.length x.room.map) a.room.map.c,.int .i64 x.room.div,.int .i64 x.room.bx,.int .i64 x.room.by_,.int .i64 x.room.low,.int .i64 x.room.high,.slice a.room.noise.A (List.length x.room.noise) a.room.noise.c,.slice a.room.limits.A (List.length x.room.limits) a.room.limits.c,.slice a.reg.A (List.length x.reg) a.reg.c,.slice a.log.A (List.length x.log) a.log.c]/\(List.length x.room.map<=9223372036854775807/\List.length x.room.noise<=9223372036854775807/\List.length x.room.limits<=9223372036854775807/\List.length x.reg<=9223372036854775807/\List.length x.log<=9223372036854775807)/\WatchSl W x a:=by
 obtain ⟨xs,n,rfl,_,hl,hxl,hf⟩:=DataW.trod_struct Tryz.underlying87 h;have hl:cs.length=10:=hl.trans (by kernel_rfl);have hxl:xs.length=3:=hxl;match cs,hl with
 | [c0,c1,c2,c3,c4,c5,c6,c7,c8,c9],_ =>
  have t0:DataW.trod enc Tryz.prog W base spare held n 27 [c0,c1,c2,c3,c4,c5,c6,c7]=some (xs[0]'(by omega)):=by
   have q:DataW.trod enc Tryz.prog W base spare held n 27 (List.take (Tryz.prog.cellsOf 27) (List.drop 0 [c0,c1,c2,c3,c4,c5,c6,c7,c8,c9]))=xs[0]?:=hf 0 _ rfl;rw [show Tryz.prog.cellsOf 27=8 from by kernel_rfl,List.getElem?_eq_getElem (by omega)] at q;exact q
  have t1:DataW.trod enc Tryz.prog W base spare held n 25 [c8]=some (xs[1]'(by omega)):=by
   have q:DataW.trod enc Tryz.prog W base spare held n 25 (List.take (Tryz.prog.cellsOf 25) (List.drop 8 [c0,c1,c2,c3,c4,c5,c6,c7,c8,c9]))=xs[1]?:=hf 1 _ rfl;rw [show Tryz.prog.cellsOf 25=1 from by kernel_rfl,List.getElem?_eq_getElem (by omega)] at q;exact q
  have t2:DataW.trod enc Tryz.prog W base spare held n 22 [c9]=some (xs[2]'(by omega)):=by
   have q:DataW.trod enc Tryz.prog W base spare held n 22 (List.take (Tryz.prog.cellsOf 22) (List.drop 9 [c0,c1,c2,c3,c4,c5,c6,c7,c8,c9]))=xs[2]?:=hf 2 _ rfl;rw [show Tryz.prog.cellsOf 22=1 from by kernel_rfl,List.getElem?_eq_getElem (by omega)] at q;exact q
  obtain ⟨x0,a0,i0,e0,l0,S0⟩:=openRoomC t0;simp only [List.cons.injEq,and_true] at e0;obtain ⟨rfl,rfl,rfl,rfl,rfl,rfl,rfl,rfl⟩:=e0;obtain ⟨x1,a1,i1,e1,l1,S1⟩:=openRegionC t1;simp only [List.cons.injEq,and_true] at e1;subst e1;obtain ⟨A2,k2,s2,e2,l2,i2,S2⟩:=open_intS Tryz.underlying22 Tryz.underlying3 (by kernel_rfl) t2;simp only [List.cons.injEq,and_true] at e2;subst e2;exact ⟨⟨x0,x1,s2⟩,⟨a0,a1,⟨A2,k2⟩⟩,⟨i0,i1,i2⟩,rfl,⟨l0.1,l0.2.1,l0.2.2,l1,l2⟩,⟨S0,S1,S2⟩⟩
theorem openWatch {H:Type} {enc:TypeId × Value->H} {W:World} {base b0:Nat} {spare:Nat->Bool} {held:Bool} {r:Reach} {v:Value} {d:DataW H} {p:List MemPlace}
 (hv:Value.okWide Tryz.prog W r b0 87 v) (h:DataW.Trod enc Tryz.prog W base spare held 87 v d p) :
 ∃ (x:Jf) (a:Jn),WatchIn x/\v=watchV x a/\(List.length x.room.map<=9223372036854775807/\List.length x.room.noise<=9223372036854775807/\List.length x.room.limits<=9223372036854775807/\List.length x.reg<=9223372036854775807/\List.length x.log<=9223372036854775807)/\WatchSl W x a:=by
 obtain ⟨cs,rfl,_⟩:=okWide_struct Tryz.underlying87 hv;obtain ⟨fuel,hf⟩:=h;obtain ⟨x,a,h1,h2,h3,h4⟩:=openWatchC (cs:=cs.toList) (by simpa [Value.cells] using hf);refine ⟨x,a,h1, ?_,h3,h4⟩;cases cs;simp only at h2;rw [h2]
end Go.Proofs.YtkjimfapbjdafaaGreat
