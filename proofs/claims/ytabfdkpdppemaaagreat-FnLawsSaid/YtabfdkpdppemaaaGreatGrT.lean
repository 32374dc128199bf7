/-
 The first greatest (or least) one of the values of pieces: of the program (extreme) and of the reference (l12Best).
 Conditions: the slice reads as a list of at most 2^20 pieces.
-/
import Derived.Deep.RegionHeld3
import Derived.Deep.DeepMust
import Derived.Deep.DeepCutAuto
import Derived.Test.YtabfdkpdppemaaaGreatGrAQa
set_option maxHeartbeats 8000000
set_option maxRecDepth 100000
namespace Go.Proofs.YtabfdkpdppemaaaGreat
open Go.RowKit
def Zo (val:Nat->X5) (g:Int):Nat->Int × X5
 | 0=>(-1,Y3)
 | k+1=>if (Zo val g k).1<0∨0<g*Xu (val k) (Zo val g k).2 then ((k:Int),val k) else Zo val g k
def allOk (val:Nat->X5) (n:Nat):Bool:=(List.range n).all λ k=>Xe (val k)
def J0 (val:Nat->X5) (g:Int) (n:Nat):Int × X5:=if allOk val n=true then Zo val g n else (-1,Y3)
theorem bestAt_bd (val:Nat->X5) (g:Int):∀ k:Nat,-1<=(Zo val g k).1/\(Zo val g k).1<(k:Int)
 | 0=>by simp [Zo]
 | k+1=>by
  have:=bestAt_bd val g k;rw [Zo];split
  ·exact ⟨by simp only;omega,by simp only;omega⟩
  ·omega
theorem allOk_no {val:Nat->X5} {n k:Nat} (h:k<n) (hk:Xe (val k)=false):allOk val n=false:=by
 unfold allOk;rw [List.all_eq_false];exact ⟨k,List.mem_range.2 h,by simp [hk]⟩
theorem allOk_yes {val:Nat->X5} {n:Nat} (h:∀ k,k<n->Xe (val k)=true):allOk val n=true:=by
 unfold allOk;rw [List.all_eq_true];intro k hk;exact h k (List.mem_range.1 hk)
theorem bestAt_in {val:Nat->X5} {g:Int}:∀ k:Nat,(∀ j,j<k->Xe (val j)=true)->(Zo val g k).2.In
 | 0,_=>by simp only [Zo];exact ⟨⟨by decide,by decide⟩,⟨by decide,by decide⟩⟩
 | k+1,h=>by
  have:=bestAt_in (g:=g) k (λ j hj=>h j (by omega));rw [Zo];split
  ·have hb:=ratioOk_bd (h k (by omega));exact ⟨⟨by simp only;omega,by simp only;omega⟩,⟨by simp only;omega,by simp only;omega⟩⟩
  ·exact this
theorem bestAt_yes {val:Nat->X5} {g:Int} {k:Nat} (h:(Zo val g k).1<0∨0<g*Xu (val k) (Zo val g k).2):Zo val g (k+1)=((k:Int),val k):=by
 rw [Zo,if_pos h]
theorem bestAt_no {val:Nat->X5} {g:Int} {k:Nat} (h:¬((Zo val g k).1<0∨0<g*Xu (val k) (Zo val g k).2)):Zo val g (k+1)=Zo val g k:=by
 rw [Zo,if_neg h]
theorem bestAt_congr {v v':Nat->X5} {g:Int}:∀ n:Nat,(∀ k,k<n->v k=v' k)->Zo v g n=Zo v' g n
 | 0,_=>rfl
 | n+1,h=>by rw [Zo,Zo,bestAt_congr n (λ k hk=>h k (by omega)),h n (by omega)]
theorem bestR_congr {v v':Nat->X5} {g:Int} {n:Nat} (h:∀ k,k<n->v k=v' k):J0 v g n=J0 v' g n:=by
 unfold J0;rw [bestAt_congr n h];have:allOk v n=allOk v' n:=by
  rw [Bool.eq_iff_iff];unfold allOk;rw [List.all_eq_true,List.all_eq_true];constructor
  ·intro hh k hk;rw [<- h k (List.mem_range.1 hk)];exact hh k hk
  ·intro hh k hk;rw [h k (List.mem_range.1 hk)];exact hh k hk
 rw [this]
def ZA:Yu:=⟨0,0,0,0⟩
def valV (xs:List Yu) (s:XQ) (k:Nat):X5:=JE (xs.getD k ZA) s
def valA (xs:List Yu) (s:XQ) (k:Nat):X5:=Xo (xs.getD k ZA) s
theorem valV_at {xs:List Yu} {s:XQ} {k:Nat} (h:k<xs.length):valV xs s k=JE xs[k] s:=by
 unfold valV;rw [List.getD_eq_getElem?_getD,List.getElem?_eq_getElem h];rfl
theorem valA_at {xs:List Yu} {s:XQ} {k:Nat} (h:k<xs.length):valA xs s k=Xo xs[k] s:=by
 unfold valA;rw [List.getD_eq_getElem?_getD,List.getElem?_eq_getElem h];rfl
theorem extreme_c (A:Option Addr) (xs:List Yu) (cap:Nat) (s:XQ) (g:Int) (w:World) (hg:g=1∨g = -1) (hn:xs.length<=1048576) (hall:∀ q∈xs,Zs q=true) (hsp:Xv s=true) (hs:Sl 4 J5 w A xs) :
 Calls Tryz.prog 152 #[.slice A xs.length cap,YQ s,.int .i64 g] w λ e w'=>e=.returned (.tuple #[.int .i64 (J0 (valV xs s) g xs.length).1,XO (J0 (valV xs s) g xs.length).2,.bool (allOk (valV xs s) xs.length)])/\Below w.heap.size w w':=by
 obtain ⟨g1,g2⟩ : -1<=g/\g<=1:=by omega
 have HG:=Lib.hid hg;have HALL:=Lib.hid hall;clear hg hall;go_enter Tryz.func152,Tryz.ntmps152
 go_wp2
 go_loopw [9,11,12,13,14,18] (λ b _ _ _ _ i wr=>∃ k:Nat,k<=xs.length/\i=.int .i64 k/\b=.int .i64 (Zo (valV xs s) g k).1/\Hid (∀ j,j<k->Xe (valV xs s j)=true)/\Yk wr (w.heap.size+1+1) [.int .i64 (Zo (valV xs s) g k).2.n,.int .i64 (Zo (valV xs s) g k).2.d]/\Below (w.heap.size+1+1) ((w.alloc (.cells #[.int .i64 s.x,.int .i64 s.y,.int .i64 s.d] 30)).alloc (.cells #[.int .i64 0,.int .i64 0] 36)) wr) (λ _ _ _ _ _ i _=>xs.length-(intOf i).toNat)
 case atStart =>
  refine ⟨0,Nat.zero_le _,rfl,rfl,by simp [Hid], ?_, ?_⟩
  ·exact Yk.new_at (by simp) _ _ rfl
  ·exact bR.alloc (by simp) _
 case round =>
  obtain ⟨k,hk,rfl,rfl,hok,HB,hbr⟩:=hrel;have hbr':Below ((w.alloc (.cells #[.int .i64 s.x,.int .i64 s.y,.int .i64 s.d] 30)).alloc (.cells #[.int .i64 0,.int .i64 0] 36)).heap.size ((w.alloc (.cells #[.int .i64 s.x,.int .i64 s.y,.int .i64 s.d] 30)).alloc (.cells #[.int .i64 0,.int .i64 0] 36)) wr:=by simpa using hbr
  have HS:Yk wr w.heap.size [.int .i64 s.x,.int .i64 s.y,.int .i64 s.d]:=by
   exact ZK
  have HZ:Yk wr (w.heap.size+1) [.int .i64 0,.int .i64 0]:=by
   exact ZK
  have hbw:Below w.heap.size w wr:=by
   exact Xp
  have hsw:Sl 4 J5 wr A xs:=Sl.below hs hbw;obtain ⟨bb1,bb2⟩:=bestAt_bd (valV xs s) g k;have hin:=bestAt_in (g:=g) k hok.out;have lS:=HS.1;obtain ⟨cHS_0,fHS_0⟩:=HS.2 0 _ rfl;obtain ⟨cHS_1,fHS_1⟩:=HS.2 1 _ rfl;obtain ⟨cHS_2,fHS_2⟩:=HS.2 2 _ rfl;clear hbr' hs;by_cases hlt:k<xs.length
  ·obtain ⟨b,off,rfl,hblt,hc⟩:=hsw.at_ hlt;have g0:=hc 0 _ rfl;have g1':=hc 1 _ rfl;have g2':=hc 2 _ rfl;have g3:=hc 3 _ rfl;have c1:=λ W=>ipieceAt_c xs[k] s W (HALL.out _ (List.getElem_mem hlt)) hsp;rw [<- valV_at (s:=s) hlt] at c1;have hyes:=Lib.hid (λ h=>@bestAt_yes (valV xs s) g k h);have hno:=Lib.hid (λ h=>@bestAt_no (valV xs s) g k h);have hbad:=Lib.hid (λ h=>@allOk_no (valV xs s) _ _ hlt h);have hok1:=Lib.hid (λ(h:Xe (valV xs s k)=true)=>show ∀ j,j<k+1->Xe (valV xs s j)=true from by
    intro j hj;rcases Nat.lt_or_ge j k with h2|h2
    ·exact hok.out j h2
    ·obtain rfl:j=k:=by omega
     exact h)
   have i1:(k:Int)<(xs.length:Int):=by omega
   clear hc hok;simp only [Nat.add_zero] at g0;generalize xs[k]=q at *;have hvin:=λ h=>@ratioOk_bd (valV xs s k) h;generalize Zo (valV xs s) g k=st at *;generalize valV xs s k=v at *;cases hv:Xe v
   ·rw [hv] at c1;have e1:=Lib.hid (show J0 (valV xs s) g xs.length=(-1,Y3) by unfold J0;rw [hbad.out hv];rfl);have e2:=Lib.hid (hbad.out hv);clear hyes hno hbad hok1;go_wp2_with (fail)
    refine (c1 _).mono ?_;rintro e w1 ⟨rfl,hb1⟩;have H:=(HZ.alloc (.cells #[.int .i64 q.a,.int .i64 q.b,.int .i64 q.c,.int .i64 q.d] 109)).below hb1;have lH:=H.1;obtain ⟨cH_0,fH_0⟩:=H.2 0 _ rfl;obtain ⟨cH_1,fH_1⟩:=H.2 1 _ rfl;go_wp2
    refine bodyPost_ret (v:=.tuple #[.int .i64 (-1),.agg #[.int .i64 0,.int .i64 0],.bool false]) (by simp [results,Tryz.results152,go_sem,cH_0,cH_1,H.1]) rfl ⟨by rw [e1.out,e2.out];rfl, ?_⟩;exact Xp
   ·rw [hv] at c1;have hvi:=hvin hv;have hok2:=Lib.hid (hok1.out hv);have hbd:=ratioCmp_bd v st.2;have c2:=λ W=>Z8 v st.2 W ⟨⟨by omega,by omega⟩,⟨by omega,by omega⟩⟩ hin;clear hvin hbad hok1 hin hvi;generalize Xu v st.2=cm at *;obtain ⟨cm1,cm2⟩:=hbd;have hm : -1<=g*cm/\g*cm<=1:=by rcases HG.out with h|h<;>subst h<;>omega
    obtain ⟨hm1,hm2⟩:=hm;go_wp2_with (fail)
    refine (c1 _).mono ?_;rintro e w1 ⟨rfl,hb1⟩;have HB1:=(HB.alloc (.cells #[.int .i64 q.a,.int .i64 q.b,.int .i64 q.c,.int .i64 q.d] 109)).below hb1;have HB2:=HB1.alloc (.cells #[.int .i64 v.n,.int .i64 v.d] 36);have HV:=Yk.new w1 #[.int .i64 v.n,.int .i64 v.d] 36;have hlw:=hbr.size;simp only [World.size_alloc] at hlw;have hs1:=hb1.size;simp only [World.size_alloc] at hs1;have BW:=(((hbr.alloc hlw (.cells #[.int .i64 q.a,.int .i64 q.b,.int .i64 q.c,.int .i64 q.d] 109)).trans (hb1.mono (by simp;omega)))).alloc (show w.heap.size+1+1<=w1.heap.size by omega) (.cells #[.int .i64 v.n,.int .i64 v.d] 36);have nv:w1.heap.size≠w.heap.size+1+1:=by omega
    clear hb1 hbr hbw HS HZ hsw HB HB1 c1 cHS_0 cHS_1 cHS_2 fHS_0 fHS_1 fHS_2 lS g0 g1' g2' g3 hs1 hlw hblt;go_upto_region 8 with fail
    generalize hW:w1.alloc (.cells #[.int .i64 v.n,.int .i64 v.d] 36)=w2 at *;clear hW;generalize hgv:w1.heap.size=gv at *;clear hgv;have lV:=HV.1;have lB:=HB2.1;by_cases hb0:st.1<0
    ·have hbest:=Lib.hid (hyes.out (.inl hb0));clear hyes hno c2;obtain ⟨cHV_0,fHV_0⟩:=HV.2 0 _ rfl;obtain ⟨cHV_1,fHV_1⟩:=HV.2 1 _ rfl;obtain ⟨cHB2_0,fHB2_0⟩:=HB2.2 0 _ rfl;obtain ⟨cHB2_1,fHB2_1⟩:=HB2.2 1 _ rfl;go_upto_region 9 with fail
     have k0:((w2.setCell ⟨w.heap.size+1+1,0,none⟩ (.int .i64 v.n)).setCell ⟨w.heap.size+1+1,1,none⟩ (.int .i64 v.d)).cell? ⟨gv,0,none⟩=some (.int .i64 v.n):=by
      rw [World.cell?_setCell_other _ _ _ _ (by intro h;injection h with h1;omega),World.cell?_setCell_other _ _ _ _ (by intro h;injection h with h1;omega)];assumption
     have k1:((w2.setCell ⟨w.heap.size+1+1,0,none⟩ (.int .i64 v.n)).setCell ⟨w.heap.size+1+1,1,none⟩ (.int .i64 v.d)).cell? ⟨gv,1,none⟩=some (.int .i64 v.d):=by
      rw [World.cell?_setCell_other _ _ _ _ (by intro h;injection h with h1;omega),World.cell?_setCell_other _ _ _ _ (by intro h;injection h with h1;omega)];assumption
     go_region_held3 (λ w'=>w'.cell? ⟨gv,0,none⟩=some (.int .i64 v.n)/\w'.cell? ⟨gv,1,none⟩=some (.int .i64 v.d)) (first|go_keep|exact ⟨k0,k1⟩)
      (fail)
     go_wp2
     go_roundw
     case rel =>
      refine ⟨k+1,by omega,by go_num,by rw [hbest.out],hok2, ?_, ?_⟩
      ·rw [hbest.out];exact Yk.stored HB2 [_,_] rfl
      ·exact (BW.drew.setCell Xg _).setCell Xg _
     case measure=>simp [intOf];omega
    ·by_cases hp:0<g*cm
     ·have hbest:=Lib.hid (hyes.out (.inr hp));clear hyes hno;obtain ⟨cHV_0,fHV_0⟩:=HV.2 0 _ rfl;obtain ⟨cHV_1,fHV_1⟩:=HV.2 1 _ rfl;obtain ⟨cHB2_0,fHB2_0⟩:=HB2.2 0 _ rfl;obtain ⟨cHB2_1,fHB2_1⟩:=HB2.2 1 _ rfl;go_wp2_with (fail)
      refine (c2 _).mono ?_;rintro e w3 ⟨rfl,hb3⟩;clear cHV_0 cHV_1 cHB2_0 cHB2_1 fHV_0 fHV_1 fHB2_0 fHB2_1;have HV3:=HV.below hb3;have HB3:=HB2.below hb3;have BW3:=BW.trans (hb3.mono (Nat.le_of_lt lB));obtain ⟨cHV3_0,fHV3_0⟩:=HV3.2 0 _ rfl;obtain ⟨cHV3_1,fHV3_1⟩:=HV3.2 1 _ rfl;obtain ⟨cHB3_0,fHB3_0⟩:=HB3.2 0 _ rfl;obtain ⟨cHB3_1,fHB3_1⟩:=HB3.2 1 _ rfl;clear HV HB2 BW hb3 c2;go_upto_region 9 with fail
      have k0:((w3.setCell ⟨w.heap.size+1+1,0,none⟩ (.int .i64 v.n)).setCell ⟨w.heap.size+1+1,1,none⟩ (.int .i64 v.d)).cell? ⟨gv,0,none⟩=some (.int .i64 v.n):=by
       rw [World.cell?_setCell_other _ _ _ _ (by intro h;injection h with h1;omega),World.cell?_setCell_other _ _ _ _ (by intro h;injection h with h1;omega)];assumption
      have k1:((w3.setCell ⟨w.heap.size+1+1,0,none⟩ (.int .i64 v.n)).setCell ⟨w.heap.size+1+1,1,none⟩ (.int .i64 v.d)).cell? ⟨gv,1,none⟩=some (.int .i64 v.d):=by
       rw [World.cell?_setCell_other _ _ _ _ (by intro h;injection h with h1;omega),World.cell?_setCell_other _ _ _ _ (by intro h;injection h with h1;omega)];assumption
      go_region_held3 (λ w'=>w'.cell? ⟨gv,0,none⟩=some (.int .i64 v.n)/\w'.cell? ⟨gv,1,none⟩=some (.int .i64 v.d)) (first|go_keep|exact ⟨k0,k1⟩)
       (fail)
      go_wp2
      go_roundw
      case rel =>
       refine ⟨k+1,by omega,by go_num,by rw [hbest.out],hok2, ?_, ?_⟩
       ·rw [hbest.out];exact Yk.stored HB3 [_,_] rfl
       ·exact (BW3.drew.setCell Xg _).setCell Xg _
      case measure=>simp [intOf];omega
     ·have hbest:=Lib.hid (hno.out (by omega));clear hyes hno;obtain ⟨cHV_0,fHV_0⟩:=HV.2 0 _ rfl;obtain ⟨cHV_1,fHV_1⟩:=HV.2 1 _ rfl;obtain ⟨cHB2_0,fHB2_0⟩:=HB2.2 0 _ rfl;obtain ⟨cHB2_1,fHB2_1⟩:=HB2.2 1 _ rfl;go_wp2_with (fail)
      refine (c2 _).mono ?_;rintro e w3 ⟨rfl,hb3⟩;have HB3:=HB2.below hb3;have BW3:=BW.trans (hb3.mono (Nat.le_of_lt lB));go_wp2
      go_roundw
      case rel =>
       refine ⟨k+1,by omega,by go_num,by rw [hbest.out],hok2, ?_,BW3⟩;rw [hbest.out];exact HB3
      case measure=>simp [intOf];omega
  ·obtain rfl:k=xs.length:=by omega
   have e2:=Lib.hid (allOk_yes hok.out);have e1:=Lib.hid (show J0 (valV xs s) g xs.length=Zo (valV xs s) g xs.length by unfold J0;rw [e2.out];rfl);clear hok hin;generalize Zo (valV xs s) g xs.length=st at *;obtain ⟨cHB_0,fHB_0⟩:=HB.2 0 _ rfl;obtain ⟨cHB_1,fHB_1⟩:=HB.2 1 _ rfl;obtain ⟨cHZ_0,fHZ_0⟩:=HZ.2 0 _ rfl;obtain ⟨cHZ_1,fHZ_1⟩:=HZ.2 1 _ rfl;go_upto_region 11 with fail
   go_region_held3 (λ w'=>w'.cell? ⟨w.heap.size+1+1,0,none⟩=some (.int .i64 st.2.n)/\w'.cell? ⟨w.heap.size+1+1,1,none⟩=some (.int .i64 st.2.d)) (first|go_keep|(refine ⟨?_, ?_⟩<;>(show (World.setCell (World.setCell _ _ _) _ _).cell? _=_;rw [World.cell?_setCell_other _ _ _ _ (by intro h;injection h with h1;omega),World.cell?_setCell_other _ _ _ _ (by intro h;injection h with h1;omega)];assumption)))
    (fail)
   go_wp2
   refine bodyPost_ret (v:=.tuple #[.int .i64 st.1,.agg #[.int .i64 st.2.n,.int .i64 st.2.d],.bool true]) (by simp [results,Tryz.results152,go_sem,cHZ_0,cHZ_1]) rfl ⟨by rw [e1.out,e2.out], ?_⟩;exact Xp
def Kf (xs:List Yu):Bool:=xs.all Zs&&Z7 (xs.length:Int) 1 40
def lawOk (x:Law):Bool:=Kf x.lows&&Kf x.highs
def actL (x:Law) (s:XQ):Int × X5:=if lawOk x=true then J0 (valA x.lows s) 1 x.lows.length else (-1,Y3)
def actH (x:Law) (s:XQ):Int × X5:=if lawOk x=true then J0 (valA x.highs s) (-1) x.highs.length else (-1,Y3)
theorem JO {xs:List Yu} (h:Kf xs=true):∀ q∈xs,Zs q=true:=by
 simp only [Kf,Bool.and_eq_true,List.all_eq_true] at h;exact h.1
theorem piecesOk_len {xs:List Yu} (h:Kf xs=true):1<=xs.length/\xs.length<=40:=by
 simp only [Kf,Bool.and_eq_true,YX] at h;omega
theorem lawOk_iff {x:Law}:lawOk x=true ↔ Kf x.lows=true/\Kf x.highs=true:=by simp [lawOk]
theorem best_same {xs:List Yu} {s:XQ} {g:Int} (h:Kf xs=true) (hs:Xv s=true):J0 (valV xs s) g xs.length=J0 (valA xs s) g xs.length:=by
 apply bestR_congr;intro k hk;rw [valV_at hk,valA_at hk];unfold Xo;rw [if_pos ⟨JO h _ (List.getElem_mem hk),hs⟩]
theorem best_bad {xs:List Yu} {s:XQ} {g:Int} (h:Kf xs=true) (hs:Xv s=false):J0 (valA xs s) g xs.length=(-1,Y3):=by
 have hl:=(piecesOk_len h).1;have:allOk (valA xs s) xs.length=false:=by
  apply allOk_no (k:=0) (by omega);rw [valA_at (by omega)];unfold Xo;rw [if_neg (by simp [hs])];exact ratioOk_zero
 unfold J0;rw [this];rfl
theorem bestR_bad {val:Nat->X5} {g:Int} {n:Nat} (h:allOk val n=false):(J0 val g n).2=Y3:=by
 unfold J0;rw [h];rfl
theorem bestR_in {val:Nat->X5} {g:Int} {n:Nat}:(J0 val g n).2.In:=by
 unfold J0;split
 ·rename_i h
  apply bestAt_in;intro j hj;unfold allOk at h;rw [List.all_eq_true] at h;exact h j (List.mem_range.2 hj)
 ·exact ⟨⟨by decide,by decide⟩,⟨by decide,by decide⟩⟩
theorem iPieces_c (A:Option Addr) (xs:List Yu) (cap:Nat) (w:World) (hn:xs.length<=1048576) (hin:∀ q∈xs,q.In) (hs:Sl 4 J5 w A xs) :
 Calls Tryz.prog 153 #[.slice A xs.length cap] w λ e w'=>e=.returned (.bool (Kf xs))/\Below w.heap.size w w':=by
 have c1:=λ W=>Ye (xs.length:Int) 1 40 W;have HI:=Lib.hid hin;clear hin;go_enter Tryz.func153,Tryz.ntmps153
 go_wp2
 go_loopw [4,7] (λ _ i wr=>∃ k:Nat,k<=xs.length/\i=.int .i64 k/\Hid ((xs.take k).all Zs=true)/\Below w.heap.size w wr) (λ _ i _=>xs.length-(intOf i).toNat)
 case atStart=>exact ⟨0,Nat.zero_le _,rfl,rfl,Below.refl _ _⟩
 case round =>
  obtain ⟨k,hk,rfl,hall,hbw⟩:=hrel;by_cases hlt:k<xs.length
  ·obtain ⟨b,off,rfl,hblt,hc⟩:=(hs.below hbw).at_ hlt;have g0:=hc 0 _ rfl;have g1:=hc 1 _ rfl;have g2:=hc 2 _ rfl;have g3:=hc 3 _ rfl;have c2:=λ W=>iPieceOk_c xs[k] W (HI.out _ (List.getElem_mem hlt));have hyes:=Lib.hid (λ(h:Zs xs[k]=true)=>show (xs.take (k+1)).all Zs=true from by rw [ZC xs k hlt,List.all_append,hall.out];simp [h]);have hno:=Lib.hid (λ(h:Zs xs[k]=false)=>show Kf xs=false from by
    have:xs.all Zs=false:=by rw [List.all_eq_false];exact ⟨_,List.getElem_mem hlt,by simp [h]⟩
    simp [Kf,this])
   clear hc hall;simp only [Nat.add_zero] at g0;generalize xs[k]=q at *;cases hq:Zs q
   ·rw [hq] at c2;have hfin:=Lib.hid (hno.out hq);clear hyes hno;go_wp2_with (fail)
    refine (c2 _).mono ?_;rintro e w1 ⟨rfl,hb1⟩;go_wp2
    go_ret
    refine ⟨Xm hfin.out.symm, ?_⟩;exact Xp
   ·rw [hq] at c2;have hfin:=Lib.hid (hyes.out hq);clear hyes hno;go_wp2_with (fail)
    refine (c2 _).mono ?_;rintro e w1 ⟨rfl,hb1⟩;go_wp2
    go_roundw
    case rel =>
     refine ⟨k+1,by omega,by go_num,hfin, ?_⟩;exact Xp
    case measure=>simp [intOf];omega
  ·obtain rfl:k=xs.length:=by omega
   rw [List.take_length] at hall;have hfin:=Lib.hid (show Kf xs=Z7 (xs.length:Int) 1 40 by unfold Kf;rw [hall.out];rfl);clear hall;go_wp2_with (fail)
   refine (c1 _).mono ?_;rintro e w' ⟨rfl,rfl⟩;go_wp2
   go_ret
   exact ⟨Xm hfin.out.symm,hbw⟩
theorem iLawOk_c (x:Law) (a:LawA) (w:World) (hn:lawLen x<=1048576) (hin:LawIn x) (hs:LawSl w x a) :
 Calls Tryz.prog 64 #[lawV x a] w λ e w'=>e=.returned (.bool (lawOk x))/\Below w.heap.size w w':=by
 simp only [lawLen] at hn;have c0:=λ W h=>iPieces_c a.lows.A x.lows a.lows.c W (by omega) hin.lows h;have c1:=λ W h=>iPieces_c a.highs.A x.highs a.highs.c W (by omega) hin.highs h;cases e0:Kf x.lows
 ·rw [e0] at c0;have hv:=Lib.hid (show lawOk x=false by simp [lawOk,e0]);go_enter Tryz.func64,Tryz.ntmps64
  go_wp2_with (fail)
  refine (c0 _ (Sl.below hs.lows (by exact Xp))).mono ?_;rintro e w1 ⟨rfl,hb1⟩;go_wp2
  go_ret
  refine ⟨Xm hv.out.symm, ?_⟩;exact Xp
 ·rw [e0] at c0;have hv:=Lib.hid (show lawOk x=Kf x.highs by simp [lawOk,e0]);generalize Kf x.highs=q at *;go_enter Tryz.func64,Tryz.ntmps64
  go_wp2_with (fail)
  refine (c0 _ (Sl.below hs.lows (by exact Xp))).mono ?_;rintro e w1 ⟨rfl,hb1⟩;have r1:=XD hb1;have l1:w.heap.size<w1.heap.size:=XL hb1;go_wp2_with (fail)
  refine (c1 _ (Sl.below hs.highs (by exact Xp))).mono ?_;rintro e w2 ⟨rfl,hb2⟩;go_wp2
  go_ret
  refine ⟨Xm hv.out.symm, ?_⟩;exact Xp
theorem iActiveLow_c (x:Law) (a:LawA) (s:XQ) (w:World) (hn:lawLen x<=1048576) (hin:LawIn x) (hsi:s.In) (hs:LawSl w x a) :
 Calls Tryz.prog 62 #[lawV x a,YQ s] w λ e w'=>e=.returned (.int .i64 (actL x s).1)/\Below w.heap.size w w':=by
 have c0:=λ W h=>iLawOk_c x a W hn hin h;have c1:=λ W=>Jj s W hsi;simp only [lawLen] at hn;cases e0:lawOk x
 ·rw [e0] at c0;have hv:=Lib.hid (show (actL x s).1 = -1 by simp [actL,e0]);go_enter Tryz.func62,Tryz.ntmps62
  go_wp2_with (fail)
  refine (c0 _ (LawSl.below hs (by exact Xp))).mono ?_;rintro e w1 ⟨rfl,hb1⟩;go_wp2
  go_ret
  refine ⟨Zr hv.out.symm, ?_⟩;exact Xp
 ·rw [e0] at c0;have hl:=lawOk_iff.1 e0;cases e1:Xv s
  ·rw [e1] at c1;have hv:=Lib.hid (show (actL x s).1 = -1 by unfold actL;rw [if_pos e0];first|rw [best_bad hl.1 e1]|rw [best_bad hl.2 e1]);clear hl;go_enter Tryz.func62,Tryz.ntmps62
   go_wp2_with (fail)
   refine (c0 _ (LawSl.below hs (by exact Xp))).mono ?_;rintro e w1 ⟨rfl,hb1⟩;have r1:=XD hb1;have l1:w.heap.size+1<w1.heap.size:=XL hb1;go_wp2_with (fail)
   refine (c1 _).mono ?_;rintro e w2 ⟨rfl,hb2⟩;go_wp2
   go_ret
   refine ⟨Zr hv.out.symm, ?_⟩;exact Xp
  ·rw [e1] at c1;have c2:=λ W h=>extreme_c a.lows.A x.lows a.lows.c s 1 W (by decide) (by omega) (JO (by first|exact hl.1|exact hl.2)) e1 h;have hv:=Lib.hid (show (actL x s)=J0 (valV x.lows s) 1 x.lows.length by unfold actL;rw [if_pos e0];first|rw [best_same hl.1 e1]|rw [best_same hl.2 e1]);rw [<- hv.out] at c2;generalize actL x s=R at *;generalize allOk (valV x.lows s) x.lows.length=ok at *;clear hv hl e0 e1;go_enter Tryz.func62,Tryz.ntmps62
   go_wp2_with (fail)
   refine (c0 _ (LawSl.below hs (by exact Xp))).mono ?_;rintro e w1 ⟨rfl,hb1⟩;have r1:=XD hb1;have l0:w.heap.size<w1.heap.size:=XL hb1;have l1:w.heap.size+1<w1.heap.size:=XL hb1;go_wp2_with (fail)
   refine (c1 _).mono ?_;rintro e w2 ⟨rfl,hb2⟩;have r2:=XD hb2;have m0:w.heap.size<w2.heap.size:=XL hb2;have m1:w.heap.size+1<w2.heap.size:=XL hb2;go_wp2_with (fail)
   refine (c2 _ (Sl.below hs.lows (by exact Xp))).mono ?_;rintro e w3 ⟨rfl,hb3⟩;go_wp2
   go_ret
   refine ⟨rfl, ?_⟩;exact Xp
theorem iActiveHigh_c (x:Law) (a:LawA) (s:XQ) (w:World) (hn:lawLen x<=1048576) (hin:LawIn x) (hsi:s.In) (hs:LawSl w x a) :
 Calls Tryz.prog 63 #[lawV x a,YQ s] w λ e w'=>e=.returned (.int .i64 (actH x s).1)/\Below w.heap.size w w':=by
 have c0:=λ W h=>iLawOk_c x a W hn hin h;have c1:=λ W=>Jj s W hsi;simp only [lawLen] at hn;cases e0:lawOk x
 ·rw [e0] at c0;have hv:=Lib.hid (show (actH x s).1 = -1 by simp [actH,e0]);go_enter Tryz.func63,Tryz.ntmps63
  go_wp2_with (fail)
  refine (c0 _ (LawSl.below hs (by exact Xp))).mono ?_;rintro e w1 ⟨rfl,hb1⟩;go_wp2
  go_ret
  refine ⟨Zr hv.out.symm, ?_⟩;exact Xp
 ·rw [e0] at c0;have hl:=lawOk_iff.1 e0;cases e1:Xv s
  ·rw [e1] at c1;have hv:=Lib.hid (show (actH x s).1 = -1 by unfold actH;rw [if_pos e0];first|rw [best_bad hl.1 e1]|rw [best_bad hl.2 e1]);clear hl;go_enter Tryz.func63,Tryz.ntmps63
   go_wp2_with (fail)
   refine (c0 _ (LawSl.below hs (by exact Xp))).mono ?_;rintro e w1 ⟨rfl,hb1⟩;have r1:=XD hb1;have l1:w.heap.size+1<w1.heap.size:=XL hb1;go_wp2_with (fail)
   refine (c1 _).mono ?_;rintro e w2 ⟨rfl,hb2⟩;go_wp2
   go_ret
   refine ⟨Zr hv.out.symm, ?_⟩;exact Xp
  ·rw [e1] at c1;have c2:=λ W h=>extreme_c a.highs.A x.highs a.highs.c s (-1) W (by decide) (by omega) (JO (by first|exact hl.1|exact hl.2)) e1 h;have hv:=Lib.hid (show (actH x s)=J0 (valV x.highs s) (-1) x.highs.length by unfold actH;rw [if_pos e0];first|rw [best_same hl.1 e1]|rw [best_same hl.2 e1]);rw [<- hv.out] at c2;generalize actH x s=R at *;generalize allOk (valV x.highs s) x.highs.length=ok at *;clear hv hl e0 e1;go_enter Tryz.func63,Tryz.ntmps63
   go_wp2_with (fail)
   refine (c0 _ (LawSl.below hs (by exact Xp))).mono ?_;rintro e w1 ⟨rfl,hb1⟩;have r1:=XD hb1;have l0:w.heap.size<w1.heap.size:=XL hb1;have l1:w.heap.size+1<w1.heap.size:=XL hb1;go_wp2_with (fail)
   refine (c1 _).mono ?_;rintro e w2 ⟨rfl,hb2⟩;have r2:=XD hb2;have m0:w.heap.size<w2.heap.size:=XL hb2;have m1:w.heap.size+1<w2.heap.size:=XL hb2;go_wp2_with (fail)
   refine (c2 _ (Sl.below hs.highs (by exact Xp))).mono ?_;rintro e w3 ⟨rfl,hb3⟩;go_wp2
   go_ret
   refine ⟨rfl, ?_⟩;exact Xp
end Go.Proofs.YtabfdkpdppemaaaGreat
