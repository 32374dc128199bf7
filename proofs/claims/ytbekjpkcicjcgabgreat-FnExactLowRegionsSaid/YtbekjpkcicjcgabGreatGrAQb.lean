/-
 Words on memory that the contracts of this claim use: a slice that reads as a list of structs, a slice of the call's own.
 Conditions: none.
-/
import Derived.Test.YtbekjpkcicjcgabGreatRows
import Derived.WalkKit
import Derived.WalkSpells
import Derived.WalkLawsBesides
import Derived.Deep.Draws
import Derived.Lib.Hide
import Derived.Deep.Slices
import Derived.Deep.Fields
import Derived.ChangeSame
import Derived.ArgAppend
import Derived.Deep.RegionHeld3
import Derived.Deep.RegionWith
import Derived.Test.YtbekjpkcicjcgabGreatGrG
import Derived.StillTailTactics
import Derived.Test.YtbekjpkcicjcgabGreatGrN
set_option maxHeartbeats 4000000
set_option maxRecDepth 100000
namespace Go.Proofs.YtbekjpkcicjcgabGreat
open Go.RowKit
section
variable {α:Type} {sz:Nat} {enc:α->List Value} {w w':World} {A:Option Addr} {xs:List α}
end
section
variable {α:Type} {T sz:Nat} {enc:α->List Value} {w w':World} {v:Value} {xs:List α} {base:Nat}
end
section
variable {α:Type} {T sz:Nat} {enc:α->List Value} {w w':World} {g N k:Nat} {xs:List α}
end
theorem below_setCells {a:World} {g:Nat} (hg:a.heap.size<=g) (vs:List Value) (o:Nat) (w:World) (h:Below a.heap.size a w):Below a.heap.size a (w.setCells g o vs):=Kd hg vs o w h
theorem own_filled {α:Type} {T sz:Nat} {enc:α->List Value} (XU:∀ x,(enc x).length=sz) {w:World} {base cap:Nat} {A:Option Addr} {xs:List α} (h:w.ownsRow base T sz (.slice A xs.length cap) xs.length (xs.flatMap enc))
 (ys:List α) (hl:ys.length=xs.length) (h0:0<xs.length) :
 ∃ g,A=some ⟨g,0,none⟩/\base<=g/\Zb T sz enc w g (cap*sz) ys 0/\∀ w',Zb T sz enc w' g (cap*sz) ys xs.length->XI T sz enc w' base (.slice (some ⟨g,0,none⟩) xs.length cap) ys:=by
 obtain ⟨h1,h2⟩:=h;rcases h2 with ⟨_,h2⟩|⟨g,cap',cur,hv,hg,hh,hcap,hmax,hsize,htake⟩
 ·omega
 ·injection hv with hA _ hc
  subst hc;refine ⟨g,hA,hg,⟨cur,hh,hsize, ?_,λ _ _ h0=>absurd h0 (Nat.not_lt_zero _)⟩,λ w' hf=>?_⟩
  ·rw [hl];exact Nat.mul_le_mul_right _ hcap
  ·rw [<- hl] at hf hcap ⊢;exact hf.newCap XU hg hcap hmax
section
variable {w w':World} {g:Nat} {vs:List Value}
end
def mkHalf (r:List Int):Half:=⟨r.getD 0 0,r.getD 1 0,r.getD 2 0⟩
theorem mkHalf_C {r:List Int} (h:r.length=3):Xe (mkHalf r)=r.map (Value.int .i64):=by
 match r,h with
 | [a,b,c],_=>rfl
theorem mkHalf_In {r:List Int} (h:r.length=3) (h2:∀ n∈r,Yo n):(mkHalf r).In:=by
 match r,h with
 | [a,b,c],_=>simpa [Half.In,mkHalf] using h2
def mkPiece (r:List Int):Xm:=⟨r.getD 0 0,r.getD 1 0,r.getD 2 0,r.getD 3 0⟩
theorem mkPiece_C {r:List Int} (h:r.length=4):Yy (mkPiece r)=r.map (Value.int .i64):=by
 match r,h with
 | [a,b,c,d],_=>rfl
theorem mkPiece_In {r:List Int} (h:r.length=4) (h2:∀ n∈r,Yo n):(mkPiece r).In:=by
 match r,h with
 | [a,b,c,d],_=>simpa [Xm.In,mkPiece] using h2
def Xr (x:List Half):Nat:=List.length x
theorem sPieceOk_c (q:Xm) (w:World) (hq:q.In) :
 Calls Tryz.prog 124 #[XZ q] w λ e w'=>e=.returned (.bool (XM q))/\Below w.heap.size w w':=by
 obtain ⟨h1,h2,h3,h4⟩:=hq;have hxy:=JG h1 h2;have hcd:=JG h3 h4;cases e0:Zo q.d 1 1000000000000
 ·go_enter Tryz.func124,Tryz.ntmps124
  go_wp2
  go_big_quiet ((first|(go_at_call 96;exact XT (ZW _ _ _ _ (by assumption) _))|(go_at_call 108;exact KQ (Y1 _ _ _ (by assumption) (by assumption)))))
  go_wp2
  go_ret
  refine ⟨Xi (by simp [XM,e0]), ?_⟩;exact Xn
 ·cases e1:Zo q.a (-1000000000000) 1000000000000
  ·go_enter Tryz.func124,Tryz.ntmps124
   go_wp2
   go_big_quiet ((first|(go_at_call 96;exact XT (ZW _ _ _ _ (by assumption) _))|(go_at_call 108;exact KQ (Y1 _ _ _ (by assumption) (by assumption)))))
   go_wp2
   go_ret
   refine ⟨Xi (by simp [XM,e0,e1]), ?_⟩;exact Xn
  ·cases e2:Zo q.b (-1000000000000) 1000000000000
   ·go_enter Tryz.func124,Tryz.ntmps124
    go_wp2
    go_big_quiet ((first|(go_at_call 96;exact XT (ZW _ _ _ _ (by assumption) _))|(go_at_call 108;exact KQ (Y1 _ _ _ (by assumption) (by assumption)))))
    go_wp2
    go_ret
    refine ⟨Xi (by simp [XM,e0,e1,e2]), ?_⟩;exact Xn
   ·cases e3:Zo q.c (-1000000000000) 1000000000000
    ·go_enter Tryz.func124,Tryz.ntmps124
     go_wp2
     go_big_quiet ((first|(go_at_call 96;exact XT (ZW _ _ _ _ (by assumption) _))|(go_at_call 108;exact KQ (Y1 _ _ _ (by assumption) (by assumption)))))
     go_wp2
     go_ret
     refine ⟨Xi (by simp [XM,e0,e1,e2,e3]), ?_⟩;exact Xn
    ·have hfin:Hid (XM q=(YO (YO q.a q.b) (YO q.c q.d) == 1)):=by
      have g1:=YQ.1 e0;have g2:=YQ.1 e1;have g3:=YQ.1 e2;have g4:=YQ.1 e3;have g5:=Jn h1 h2;have g6:=Jn h3 h4;show _=_;rw [ZU (YF (a:=YO q.a q.b) (by omega)) (YF (a:=YO q.c q.d) (by omega)),ZU (YF (a:=q.a) (by omega)) (YF (a:=q.b) (by omega)),ZU (YF (a:=q.c) (by omega)) (YF (a:=q.d) (by omega))];rw [Bool.eq_iff_iff];simp [XM,e0,e1,e2,e3,gcd4,Nat.gcd_assoc];omega
     cases e4:(YO (YO q.a q.b) (YO q.c q.d) == 1);all_goals
      go_enter Tryz.func124,Tryz.ntmps124
      go_wp2
      go_big_quiet ((first|(go_at_call 96;exact XT (ZW _ _ _ _ (by assumption) _))|(go_at_call 108;exact KQ (Y1 _ _ _ (by assumption) (by assumption)))))
      go_wp2
      go_ret
      refine ⟨Xi (by rw [hfin.out,e4]), ?_⟩;exact Xn
theorem szIntS_c (A:Option Addr) (n cap:Nat) (left:Int) (w:World) (hn:n<=9223372036854775807) (h0:0<=left) (h1:left<=1048576) :
 Calls Tryz.prog 50 #[.slice A n cap,.int .i64 left] w λ e w'=>e=.returned (.int .i64 (if left-n<0 then -1 else left-n))/\w=w':=by
 by_cases h:left-n<0
 all_goals
  go_enter Tryz.func50,Tryz.ntmps50
  go_wp2
  go_ret
  exact ⟨YH (by simp),rfl⟩
theorem toIntS_c (A:Option Addr) (xs:List Int) (cap:Nat) (w:World) (hn:xs.length<=1048576) (hs:Sl 1 KX w A xs) :
 Calls Tryz.prog 60 #[.slice A xs.length cap] w λ e w'=>∃ v,e=.returned v/\XI 3 1 KX w' w.heap.size v xs/\Below w.heap.size w w':=by
 obtain ⟨i0,hi0,hz0,hz1,hz2⟩:=info_parts (show (Tryz.prog.info? 3).map (λ i=>(i.zero,i.size,i.bytes))=some (some (.int .i64 0),1,8) by kernel_rfl);have hmk:∀ W:World,(Instr.makeSlice 23 (.int .i64 (xs.length:Int)) (.int .i64 (xs.length:Int))).run Tryz.prog W=.ok (.slice (some ⟨W.heap.size,0,none⟩) xs.length xs.length) (W.alloc (.cells (madeCells #[.int .i64 0] xs.length) 3)):=by
  intro W;have h:=run_make (P:=Tryz.prog) W 23 3 i0 _ Tryz.underlying23 hi0 hz0 .i64 .i64 (xs.length:Int) (xs.length:Int) (by omega) (by omega) (by rw [hz2];omega) (by omega);rw [hz1] at h;simpa [Value.cells] using h
 go_enter Tryz.func60,Tryz.ntmps60
 go_wp2
 go_loopw [4] (λ i wr=>∃ k:Nat,k<=xs.length/\i=.int .i64 k/\Zb 3 1 KX wr w.heap.size (xs.length*1) xs k/\Below w.heap.size w wr) (λ i _=>xs.length-(intOf i).toNat)
 case atStart=>exact ⟨0,Nat.zero_le _,rfl,Zb.start (by simp [madeCells]) Xs,Xa bR _⟩
 case round =>
  obtain ⟨k,hk,rfl,hfill,hbw⟩:=hrel;by_cases hlt:k<xs.length
  ·obtain ⟨b,off,rfl,hblt,hc⟩:=(hs.below hbw).at_ hlt;have g0:=hc 0 _ rfl;clear hc;simp only [Nat.mul_one,Nat.add_zero] at g0;obtain ⟨u0,c0⟩:=hfill.cell (m:=k) (by omega);have f0:=hfill.frozen k;have hst:=hfill.stored Zc hlt (vs:=KX xs[k]) rfl;have hst2:=below_setCells (Nat.le_refl w.heap.size) (KX xs[k]) (k*1) _ hbw;rw [Nat.mul_one] at hst hst2;generalize xs[k]=x at *;go_wp2
   exact ⟨⟨k+1,by omega,by go_num,hst,hst2⟩,by simp [intOf];omega⟩
  ·obtain rfl:k=xs.length:=by omega
   go_wp2
   go_ret
   exact ⟨_,rfl,hfill.new Zc Xs (by unfold maxLen;omega),hbw⟩
theorem eqIntS_t (A B:Option Addr) (xs:List Int) (c d:Nat) (w:World) (hn:xs.length<=1048576) (ha:Sl 1 KX w A xs) (hb:Sl 1 KX w B xs) :
 Calls Tryz.prog 63 #[.slice A xs.length c,.slice B xs.length d] w λ e w'=>e=.returned (.bool true)/\Below w.heap.size w w':=by
 go_enter Tryz.func63,Tryz.ntmps63
 go_wp2
 go_loopw [5] (λ i wr=>∃ k:Nat,k<=xs.length/\i=.int .i64 k/\Below w.heap.size w wr) (λ i _=>xs.length-(intOf i).toNat)
 case atStart=>exact ⟨0,Nat.zero_le _,rfl,Below.refl _ _⟩
 case round =>
  obtain ⟨k,hk,rfl,hbw⟩:=hrel;by_cases hlt:k<xs.length
  ·obtain ⟨b,off,rfl,hblt,hc⟩:=(ha.below hbw).at_ hlt;obtain ⟨b',off',rfl,hblt',hc'⟩:=(hb.below hbw).at_ hlt;have g0:=hc 0 _ rfl;have g1:=hc' 0 _ rfl;clear hc hc';simp only [Nat.mul_one,Nat.add_zero] at g0 g1;generalize xs[k]=x at *;have i1:(0:Int)<=(k:Int):=by omega
   have i2:(k:Int)<(xs.length:Int):=by omega
   go_wp2
   go_quiet (fail)
   go_wp2
   exact ⟨⟨k+1,by omega,by go_num,Zf hbw _⟩,by simp [intOf];omega⟩
  ·go_wp2
   go_ret
   exact ⟨rfl,hbw⟩
theorem toHalf_c (x:Half) (w:World) :
 Calls Tryz.prog 104 #[Yf x] w λ e w'=>e=.returned (Yf x)/\Below w.heap.size w w':=by
 go_enter Tryz.func104,Tryz.ntmps104
 go_wp2
 refine bodyPost_ret (v:=.agg #[.int .i64 x.a,.int .i64 x.b,.int .i64 x.c]) (by simp [results,Tryz.results104,go_sem]) rfl ⟨rfl, ?_⟩;exact Xn
theorem eqHalf_t (x:Half) (w:World) :
 Calls Tryz.prog 106 #[Yf x,Yf x] w λ e w'=>e=.returned (.bool true)/\Below w.heap.size w w':=by
 go_enter Tryz.func106,Tryz.ntmps106
 go_wp2
 go_ret
 refine ⟨rfl, ?_⟩;exact Xn
theorem toPiece_c (x:Xm) (w:World) :
 Calls Tryz.prog 105 #[XZ x] w λ e w'=>e=.returned (XZ x)/\Below w.heap.size w w':=by
 go_enter Tryz.func105,Tryz.ntmps105
 go_wp2
 refine bodyPost_ret (v:=.agg #[.int .i64 x.a,.int .i64 x.b,.int .i64 x.c,.int .i64 x.d]) (by simp [results,Tryz.results105,go_sem]) rfl ⟨rfl, ?_⟩;exact Xn
theorem eqPiece_t (x:Xm) (w:World) :
 Calls Tryz.prog 107 #[XZ x,XZ x] w λ e w'=>e=.returned (.bool true)/\Below w.heap.size w w':=by
 go_enter Tryz.func107,Tryz.ntmps107
 go_wp2
 go_ret
 refine ⟨rfl, ?_⟩;exact Xn
theorem szHalfS_c (A:Option Addr) (n cap:Nat) (left:Int) (w:World) (hn:n<=9223372036854775807) (h0:0<=left) (h1:left<=1048576) :
 Calls Tryz.prog 51 #[.slice A n cap,.int .i64 left] w λ e w'=>e=.returned (.int .i64 (if left-n<0 then -1 else left-n))/\w=w':=by
 by_cases h:left-n<0
 all_goals
  go_enter Tryz.func51,Tryz.ntmps51
  go_wp2
  go_ret
  exact ⟨YH (by simp),rfl⟩
theorem eqHalfS_t (A B:Option Addr) (xs:List Half) (c d:Nat) (w:World) (hn:xs.length<=1048576) (ha:Sl 3 Xe w A xs) (hb:Sl 3 Xe w B xs) :
 Calls Tryz.prog 64 #[.slice A xs.length c,.slice B xs.length d] w λ e w'=>e=.returned (.bool true)/\Below w.heap.size w w':=by
 go_enter Tryz.func64,Tryz.ntmps64
 go_wp2
 go_loopw [5] (λ i wr=>∃ k:Nat,k<=xs.length/\i=.int .i64 k/\Below w.heap.size w wr) (λ i _=>xs.length-(intOf i).toNat)
 case atStart=>exact ⟨0,Nat.zero_le _,rfl,Below.refl _ _⟩
 case round =>
  obtain ⟨k,hk,rfl,hbw⟩:=hrel;by_cases hlt:k<xs.length
  ·obtain ⟨b,off,rfl,hblt,hc⟩:=(ha.below hbw).at_ hlt;obtain ⟨b',off',rfl,hblt',hc'⟩:=(hb.below hbw).at_ hlt;have g0:=hc 0 _ rfl;have g1:=hc 1 _ rfl;have g2:=hc 2 _ rfl;have g0':=hc' 0 _ rfl;have g1':=hc' 1 _ rfl;have g2':=hc' 2 _ rfl;clear hc hc';simp only [Nat.add_zero] at g0 g0';generalize xs[k]=x at *;go_wp2
   go_still_tail 8,(by kernel_rfl)
   change wpList _ _ _ _ _ wr.drew
   generalize hwr:wr.drew=w2;have hb2:Below w.heap.size w w2:=by rw [<- hwr];exact hbw.drew
   clear hwr;go_wp2_with (fail)
   refine (eqHalf_t x _).mono ?_;rintro e w1 ⟨rfl,hb1⟩;go_wp2
   go_roundw
   case rel=>exact ⟨k+1,by omega,by go_num,hb2.trans (hb1.mono hb2.size)⟩
   case measure=>simp [intOf];omega
  ·go_wp2
   go_ret
   exact ⟨rfl,hbw⟩
theorem toHalfS_c (A:Option Addr) (xs:List Half) (cap:Nat) (w:World) (hn:xs.length<=1048576) (hs:Sl 3 Xe w A xs) :
 Calls Tryz.prog 61 #[.slice A xs.length cap] w λ e w'=>∃ v,e=.returned v/\XI 85 3 Xe w' w.heap.size v xs/\Below w.heap.size w w':=by
 obtain ⟨i0,hi0,hz0,hz1,hz2⟩:=info_parts (show (Tryz.prog.info? 85).map (λ i=>(i.zero,i.size,i.bytes))=some (some (.agg #[.int .i64 0,.int .i64 0,.int .i64 0]),3,24) by kernel_rfl);have hmk:∀ W:World,(Instr.makeSlice 24 (.int .i64 (xs.length:Int)) (.int .i64 (xs.length:Int))).run Tryz.prog W=.ok (.slice (some ⟨W.heap.size,0,none⟩) xs.length xs.length) (W.alloc (.cells (madeCells #[.int .i64 0,.int .i64 0,.int .i64 0] (xs.length*3)) 85)):=by
  intro W;have h:=run_make (P:=Tryz.prog) W 24 85 i0 _ Tryz.underlying24 hi0 hz0 .i64 .i64 (xs.length:Int) (xs.length:Int) (by omega) (by omega) (by rw [hz2];omega) (by omega);rw [hz1] at h;simpa [Value.cells] using h
 go_enter Tryz.func61,Tryz.ntmps61
 go_wp2
 go_loopw [4] (λ i wr=>∃ k:Nat,k<=xs.length/\i=.int .i64 k/\Zb 85 3 Xe wr w.heap.size (xs.length*3) xs k/\Below w.heap.size w wr) (λ i _=>xs.length-(intOf i).toNat)
 case atStart=>exact ⟨0,Nat.zero_le _,rfl,Zb.start (by simp [madeCells]) Xs,Xa bR _⟩
 case round =>
  obtain ⟨k,hk,rfl,hfill,hbw⟩:=hrel;by_cases hlt:k<xs.length
  ·obtain ⟨b,off,rfl,hblt,hc⟩:=(hs.below hbw).at_ hlt;have g0:=hc 0 _ rfl;have g1:=hc 1 _ rfl;have g2:=hc 2 _ rfl;clear hc;simp only [Nat.add_zero] at g0;have hx:xs[k]=xs[k]:=rfl;generalize hxx:xs[k]=x at *;have HX:=Lib.hid hxx;clear hxx hx;go_wp2_with (fail)
   refine (toHalf_c x _).mono ?_;rintro e w1 ⟨rfl,hb1⟩;have hfill1:=hfill.below hb1;have hbw1:=Xg hbw hb1;have hm:=Nat.mul_le_mul_right 3 hlt;obtain ⟨u0,c0⟩:=hfill1.cell (m:=k*3) (by omega);have f0:=hfill1.frozen (k*3);obtain ⟨u1,c1⟩:=hfill1.cell (m:=k*3+1) (by omega);have f1:=hfill1.frozen (k*3+1);obtain ⟨u2,c2⟩:=hfill1.cell (m:=k*3+2) (by omega);have f2:=hfill1.frozen (k*3+2);clear hm;have hst:=hfill1.stored Xu hlt (vs:=Xe x) (by rw [HX.out]);have hst2:=below_setCells (Nat.le_refl w.heap.size) (Xe x) (k*3) _ hbw1;go_wp2
   exact ⟨⟨k+1,by omega,by go_num,hst,hst2⟩,by simp [intOf];omega⟩
  ·obtain rfl:k=xs.length:=by omega
   go_wp2
   go_ret
   exact ⟨_,rfl,hfill.new Xu Xs (by unfold maxLen;omega),hbw⟩
theorem szPieceS_c (A:Option Addr) (n cap:Nat) (left:Int) (w:World) (hn:n<=9223372036854775807) (h0:0<=left) (h1:left<=1048576) :
 Calls Tryz.prog 52 #[.slice A n cap,.int .i64 left] w λ e w'=>e=.returned (.int .i64 (if left-n<0 then -1 else left-n))/\w=w':=by
 by_cases h:left-n<0
 all_goals
  go_enter Tryz.func52,Tryz.ntmps52
  go_wp2
  go_ret
  exact ⟨YH (by simp),rfl⟩
theorem eqPieceS_t (A B:Option Addr) (xs:List Xm) (c d:Nat) (w:World) (hn:xs.length<=1048576) (ha:Sl 4 Yy w A xs) (hb:Sl 4 Yy w B xs) :
 Calls Tryz.prog 65 #[.slice A xs.length c,.slice B xs.length d] w λ e w'=>e=.returned (.bool true)/\Below w.heap.size w w':=by
 go_enter Tryz.func65,Tryz.ntmps65
 go_wp2
 go_loopw [5] (λ i wr=>∃ k:Nat,k<=xs.length/\i=.int .i64 k/\Below w.heap.size w wr) (λ i _=>xs.length-(intOf i).toNat)
 case atStart=>exact ⟨0,Nat.zero_le _,rfl,Below.refl _ _⟩
 case round =>
  obtain ⟨k,hk,rfl,hbw⟩:=hrel;by_cases hlt:k<xs.length
  ·obtain ⟨b,off,rfl,hblt,hc⟩:=(ha.below hbw).at_ hlt;obtain ⟨b',off',rfl,hblt',hc'⟩:=(hb.below hbw).at_ hlt;have g0:=hc 0 _ rfl;have g1:=hc 1 _ rfl;have g2:=hc 2 _ rfl;have g3:=hc 3 _ rfl;have g0':=hc' 0 _ rfl;have g1':=hc' 1 _ rfl;have g2':=hc' 2 _ rfl;have g3':=hc' 3 _ rfl;clear hc hc';simp only [Nat.add_zero] at g0 g0';generalize xs[k]=x at *;go_wp2
   go_still_tail 8,(by kernel_rfl)
   change wpList _ _ _ _ _ wr.drew
   generalize hwr:wr.drew=w2;have hb2:Below w.heap.size w w2:=by rw [<- hwr];exact hbw.drew
   clear hwr;go_wp2_with (fail)
   refine (eqPiece_t x _).mono ?_;rintro e w1 ⟨rfl,hb1⟩;go_wp2
   go_roundw
   case rel=>exact ⟨k+1,by omega,by go_num,hb2.trans (hb1.mono hb2.size)⟩
   case measure=>simp [intOf];omega
  ·go_wp2
   go_ret
   exact ⟨rfl,hbw⟩
theorem toPieceS_c (A:Option Addr) (xs:List Xm) (cap:Nat) (w:World) (hn:xs.length<=1048576) (hs:Sl 4 Yy w A xs) :
 Calls Tryz.prog 62 #[.slice A xs.length cap] w λ e w'=>∃ v,e=.returned v/\XI 49 4 Yy w' w.heap.size v xs/\Below w.heap.size w w':=by
 obtain ⟨i0,hi0,hz0,hz1,hz2⟩:=info_parts (show (Tryz.prog.info? 49).map (λ i=>(i.zero,i.size,i.bytes))=some (some (.agg #[.int .i64 0,.int .i64 0,.int .i64 0,.int .i64 0]),4,32) by kernel_rfl);have hmk:∀ W:World,(Instr.makeSlice 34 (.int .i64 (xs.length:Int)) (.int .i64 (xs.length:Int))).run Tryz.prog W=.ok (.slice (some ⟨W.heap.size,0,none⟩) xs.length xs.length) (W.alloc (.cells (madeCells #[.int .i64 0,.int .i64 0,.int .i64 0,.int .i64 0] (xs.length*4)) 49)):=by
  intro W;have h:=run_make (P:=Tryz.prog) W 34 49 i0 _ Tryz.underlying34 hi0 hz0 .i64 .i64 (xs.length:Int) (xs.length:Int) (by omega) (by omega) (by rw [hz2];omega) (by omega);rw [hz1] at h;simpa [Value.cells] using h
 go_enter Tryz.func62,Tryz.ntmps62
 go_wp2
 go_loopw [4] (λ i wr=>∃ k:Nat,k<=xs.length/\i=.int .i64 k/\Zb 49 4 Yy wr w.heap.size (xs.length*4) xs k/\Below w.heap.size w wr) (λ i _=>xs.length-(intOf i).toNat)
 case atStart=>exact ⟨0,Nat.zero_le _,rfl,Zb.start (by simp [madeCells]) Xs,Xa bR _⟩
 case round =>
  obtain ⟨k,hk,rfl,hfill,hbw⟩:=hrel;by_cases hlt:k<xs.length
  ·obtain ⟨b,off,rfl,hblt,hc⟩:=(hs.below hbw).at_ hlt;have g0:=hc 0 _ rfl;have g1:=hc 1 _ rfl;have g2:=hc 2 _ rfl;have g3:=hc 3 _ rfl;clear hc;simp only [Nat.add_zero] at g0;have hx:xs[k]=xs[k]:=rfl;generalize hxx:xs[k]=x at *;have HX:=Lib.hid hxx;clear hxx hx;go_wp2_with (fail)
   refine (toPiece_c x _).mono ?_;rintro e w1 ⟨rfl,hb1⟩;have hfill1:=hfill.below hb1;have hbw1:=Xg hbw hb1;have hm:=Nat.mul_le_mul_right 4 hlt;obtain ⟨u0,c0⟩:=hfill1.cell (m:=k*4) (by omega);have f0:=hfill1.frozen (k*4);obtain ⟨u1,c1⟩:=hfill1.cell (m:=k*4+1) (by omega);have f1:=hfill1.frozen (k*4+1);obtain ⟨u2,c2⟩:=hfill1.cell (m:=k*4+2) (by omega);have f2:=hfill1.frozen (k*4+2);obtain ⟨u3,c3⟩:=hfill1.cell (m:=k*4+3) (by omega);have f3:=hfill1.frozen (k*4+3);clear hm;have hst:=hfill1.stored Zv hlt (vs:=Yy x) (by rw [HX.out]);have hst2:=below_setCells (Nat.le_refl w.heap.size) (Yy x) (k*4) _ hbw1;go_wp2
   exact ⟨⟨k+1,by omega,by go_num,hst,hst2⟩,by simp [intOf];omega⟩
  ·obtain rfl:k=xs.length:=by omega
   go_wp2
   go_ret
   exact ⟨_,rfl,hfill.new Zv Xs (by unfold maxLen;omega),hbw⟩
theorem K6 (x:List Half) (a:ZC) (left:Int) (w:World) (hn:List.length x<=9223372036854775807) (h0:0<=left) (h1:left<=1048576) :
 Calls Tryz.prog 14 #[Yr x a,.int .i64 left] w λ e w'=>e=.returned (.int .i64 (if left-Xr x<0 then -1 else left-Xr x))/\Below w.heap.size w w':=by
 have hn0:=hn;have hlen:Hid (((Xr x:Nat):Int)=((List.length x:Nat):Int)):=by show _=_;simp only [Xr];(try omega)
 have p0:(0:Int)<=((List.length x:Nat):Int):=by omega
 by_cases c0:left-((List.length x:Nat):Int)<0
 ·have hfin:(if left-((Xr x:Nat):Int)<0 then (-1:Int) else left-((Xr x:Nat):Int)) = -1:=by have:=hlen.out;rw [if_pos (by omega)]
  rw [hfin];clear hfin;go_enter Tryz.func14,Tryz.ntmps14
  go_wp2_with (fail)
  refine (szHalfS_c a.A (List.length x) a.c (left) _ hn0 (by omega) (by omega)).mono ?_;rw [if_pos (by omega)];rintro e w' ⟨rfl,rfl⟩;go_wp2
  go_ret
  refine ⟨rfl, ?_⟩;exact Xn
 ·have hfin:(if left-((Xr x:Nat):Int)<0 then (-1:Int) else left-((Xr x:Nat):Int))=left-((List.length x:Nat):Int):=by have:=hlen.out;(rw [if_neg (by omega)];omega)
  rw [hfin];clear hfin;go_enter Tryz.func14,Tryz.ntmps14
  go_wp2_with (fail)
  refine (szHalfS_c a.A (List.length x) a.c (left) _ hn0 (by omega) (by omega)).mono ?_;rw [if_neg (by omega)];rintro e w' ⟨rfl,rfl⟩;go_wp2
  go_ret
  refine ⟨rfl, ?_⟩;exact Xn
theorem eqRegion_t (x:List Half) (a b:ZC) (w:World) (hn:Xr x<=1048576) (ha:Zn w x a) (hb:Zn w x b) :
 Calls Tryz.prog 22 #[Yr x a,Yr x b] w λ e w'=>e=.returned (.bool true)/\Below w.heap.size w w':=by
 simp only [Xr] at hn;go_enter Tryz.func22,Tryz.ntmps22
 go_wp2_with (fail)
 refine (eqHalfS_t a.A b.A x _ _ _ (by omega) (Sl.below ha.halves (by exact Xn)) (Sl.below hb.halves (by exact Xn))).mono ?_;rintro e w0 ⟨rfl,hb0⟩;have r0:=Xt hb0;have l0:w.heap.size<w0.heap.size:=XN hb0;have m0:w.heap.size+1<w0.heap.size:=XN hb0;go_wp2
 go_ret
 refine ⟨rfl, ?_⟩;exact Xn
theorem Jw (x:List Half) (a:ZC) (w:World) (hn:Xr x<=1048576) (hs:Zn w x a) :
 Calls Tryz.prog 18 #[Yr x a] w λ e w'=>∃ a',e=.returned (Yr x a')/\XJ w' w.heap.size x a'/\Below w.heap.size w w':=by
 simp only [Xr] at hn;go_enter Tryz.func18,Tryz.ntmps18
 go_wp2_with (fail)
 refine (toHalfS_c a.A x _ _ (by omega) (Sl.below hs.halves (by exact Xn))).mono ?_;rintro e w0 ⟨v0,rfl,N0,hb0⟩;obtain ⟨A0,k0,rfl,ho0⟩:=N0;have N0:XI 85 3 Xe w0 _ (.slice A0 (List.length x) k0) x:=⟨A0,k0,rfl,ho0⟩;clear ho0;have K0:=N0.blk;replace N0:=N0.mono (base':=w.heap.size+1+1+1) (by first|(simp;done)|(simp;omega)|omega);have r0:=Xt hb0;have f0:=(bcell hb0).2;have l0:w.heap.size<w0.heap.size:=XN hb0;have m0:w.heap.size+1<w0.heap.size:=XN hb0;have n0:w.heap.size+1+1<w0.heap.size:=XN hb0;have H:X0 w0 (w.heap.size+1) [.slice none 0 0]:=by
  exact ZQ
 obtain ⟨cH_0,fH_0⟩:=H.2 0 _ rfl;go_wp2
 refine bodyPost_ret (v:=Yr x ⟨A0,k0⟩) (by simp [results,Tryz.results18,go_sem,cH_0]) rfl ?_;refine ⟨⟨A0,k0⟩,rfl,⟨?_⟩, ?_⟩
 ·refine XI.mono (base:=w.heap.size+1+1+1) ?_ (by omega);repeat (first|(with_reducible exact N0)|(with_reducible refine XI.low ?_ (by first|(simp;done)|(simp;omega)|omega) _)|(with_reducible refine XI.below ?_ (by assumption) Xs))
 ·exact Xn
theorem szRoom_c (x:XK) (a:Yq) (left:Int) (w:World) (hn:List.length x.map<=9223372036854775807/\List.length x.noise<=9223372036854775807/\List.length x.limits<=9223372036854775807) (h0:0<=left) (h1:left<=1048576) :
 Calls Tryz.prog 13 #[Ye x a,.int .i64 left] w λ e w'=>e=.returned (.int .i64 (if left-XA x<0 then -1 else left-XA x))/\Below w.heap.size w w':=by
 obtain ⟨hn0,hn1,hn2⟩:=hn;have hlen:Hid (((XA x:Nat):Int)=((List.length x.map:Nat):Int)+((Xr x.noise:Nat):Int)+((Xr x.limits:Nat):Int)):=by show _=_;simp only [Xr,XA];(try omega)
 have p0:(0:Int)<=((List.length x.map:Nat):Int):=by omega
 have p1:(0:Int)<=((Xr x.noise:Nat):Int):=by omega
 have p2:(0:Int)<=((Xr x.limits:Nat):Int):=by omega
 by_cases c0:left-((List.length x.map:Nat):Int)<0
 ·have hfin:(if left-((XA x:Nat):Int)<0 then (-1:Int) else left-((XA x:Nat):Int)) = -1:=by have:=hlen.out;rw [if_pos (by omega)]
  rw [hfin];clear hfin;go_enter Tryz.func13,Tryz.ntmps13
  go_wp2_with (fail)
  refine (szIntS_c a.map.A (List.length x.map) a.map.c (left) _ hn0 (by omega) (by omega)).mono ?_;rw [if_pos (by omega)];rintro e w' ⟨rfl,rfl⟩;go_wp2
  go_ret
  refine ⟨rfl, ?_⟩;exact Xn
 ·by_cases c1:left-((List.length x.map:Nat):Int)-((Xr x.noise:Nat):Int)<0
  ·have hfin:(if left-((XA x:Nat):Int)<0 then (-1:Int) else left-((XA x:Nat):Int)) = -1:=by have:=hlen.out;rw [if_pos (by omega)]
   rw [hfin];clear hfin;go_enter Tryz.func13,Tryz.ntmps13
   go_wp2_with (fail)
   refine (szIntS_c a.map.A (List.length x.map) a.map.c (left) _ hn0 (by omega) (by omega)).mono ?_;rw [if_neg (by omega)];rintro e w' ⟨rfl,rfl⟩;go_wp2_with (fail)
   refine (K6 x.noise a.noise (left-((List.length x.map:Nat):Int)) _ hn1 (by omega) (by omega)).mono ?_;rw [if_pos (by omega)];rintro e w1 ⟨rfl,hb1⟩;have r1:=Xt hb1;have l1:w.heap.size<w1.heap.size:=XN hb1;go_wp2
   go_ret
   refine ⟨rfl, ?_⟩;exact Xn
  ·by_cases c2:left-((List.length x.map:Nat):Int)-((Xr x.noise:Nat):Int)-((Xr x.limits:Nat):Int)<0
   ·have hfin:(if left-((XA x:Nat):Int)<0 then (-1:Int) else left-((XA x:Nat):Int)) = -1:=by have:=hlen.out;rw [if_pos (by omega)]
    rw [hfin];clear hfin;go_enter Tryz.func13,Tryz.ntmps13
    go_wp2_with (fail)
    refine (szIntS_c a.map.A (List.length x.map) a.map.c (left) _ hn0 (by omega) (by omega)).mono ?_;rw [if_neg (by omega)];rintro e w' ⟨rfl,rfl⟩;go_wp2_with (fail)
    refine (K6 x.noise a.noise (left-((List.length x.map:Nat):Int)) _ hn1 (by omega) (by omega)).mono ?_;rw [if_neg (by omega)];rintro e w1 ⟨rfl,hb1⟩;have r1:=Xt hb1;have l1:w.heap.size<w1.heap.size:=XN hb1;go_wp2_with (fail)
    refine (K6 x.limits a.limits (left-((List.length x.map:Nat):Int)-((Xr x.noise:Nat):Int)) _ hn2 (by omega) (by omega)).mono ?_;rw [if_pos (by omega)];rintro e w2 ⟨rfl,hb2⟩;have r2:=Xt hb2;have l2:w.heap.size<w2.heap.size:=XN hb2;go_wp2
    go_ret
    refine ⟨rfl, ?_⟩;exact Xn
   ·have hfin:(if left-((XA x:Nat):Int)<0 then (-1:Int) else left-((XA x:Nat):Int))=left-((List.length x.map:Nat):Int)-((Xr x.noise:Nat):Int)-((Xr x.limits:Nat):Int):=by have:=hlen.out;(rw [if_neg (by omega)];omega)
    rw [hfin];clear hfin;go_enter Tryz.func13,Tryz.ntmps13
    go_wp2_with (fail)
    refine (szIntS_c a.map.A (List.length x.map) a.map.c (left) _ hn0 (by omega) (by omega)).mono ?_;rw [if_neg (by omega)];rintro e w' ⟨rfl,rfl⟩;go_wp2_with (fail)
    refine (K6 x.noise a.noise (left-((List.length x.map:Nat):Int)) _ hn1 (by omega) (by omega)).mono ?_;rw [if_neg (by omega)];rintro e w1 ⟨rfl,hb1⟩;have r1:=Xt hb1;have l1:w.heap.size<w1.heap.size:=XN hb1;go_wp2_with (fail)
    refine (K6 x.limits a.limits (left-((List.length x.map:Nat):Int)-((Xr x.noise:Nat):Int)) _ hn2 (by omega) (by omega)).mono ?_;rw [if_neg (by omega)];rintro e w2 ⟨rfl,hb2⟩;have r2:=Xt hb2;have l2:w.heap.size<w2.heap.size:=XN hb2;go_wp2
    go_ret
    refine ⟨rfl, ?_⟩;exact Xn
theorem eqRoom_t (x:XK) (a b:Yq) (w:World) (hn:XA x<=1048576) (ha:Y4 w x a) (hb:Y4 w x b) :
 Calls Tryz.prog 21 #[Ye x a,Ye x b] w λ e w'=>e=.returned (.bool true)/\Below w.heap.size w w':=by
 simp only [XA] at hn;go_enter Tryz.func21,Tryz.ntmps21
 go_wp2_with (fail)
 refine (eqIntS_t a.map.A b.map.A x.map _ _ _ (by omega) (Sl.below ha.map (by exact Xn)) (Sl.below hb.map (by exact Xn))).mono ?_;rintro e w0 ⟨rfl,hb0⟩;have r0:=Xt hb0;have l0:w.heap.size<w0.heap.size:=XN hb0;have m0:w.heap.size+1<w0.heap.size:=XN hb0;go_wp2_with (fail)
 refine (eqRegion_t x.noise a.noise b.noise _ (by simp only [Xr];omega) (Zn.below ha.noise (by exact Xn)) (Zn.below hb.noise (by exact Xn))).mono ?_;rintro e w1 ⟨rfl,hb1⟩;have r1:=Xt hb1;have l1:w.heap.size<w1.heap.size:=XN hb1;have m1:w.heap.size+1<w1.heap.size:=XN hb1;go_wp2_with (fail)
 refine (eqRegion_t x.limits a.limits b.limits _ (by simp only [Xr];omega) (Zn.below ha.limits (by exact Xn)) (Zn.below hb.limits (by exact Xn))).mono ?_;rintro e w2 ⟨rfl,hb2⟩;have r2:=Xt hb2;have l2:w.heap.size<w2.heap.size:=XN hb2;have m2:w.heap.size+1<w2.heap.size:=XN hb2;go_wp2
 go_ret
 refine ⟨rfl, ?_⟩;exact Xn
theorem toRoom_c (x:XK) (a:Yq) (w:World) (hn:XA x<=1048576) (hs:Y4 w x a) :
 Calls Tryz.prog 17 #[Ye x a] w λ e w'=>∃ a',e=.returned (Ye x a')/\Yi w' w.heap.size x a'/\Below w.heap.size w w':=by
 simp only [XA] at hn;go_enter Tryz.func17,Tryz.ntmps17
 go_wp2_with (fail)
 refine (toIntS_c a.map.A x.map _ _ (by omega) (Sl.below hs.map (by exact Xn))).mono ?_;rintro e w0 ⟨v0,rfl,N0,hb0⟩;obtain ⟨A0,k0,rfl,ho0⟩:=N0;have N0:XI 3 1 KX w0 _ (.slice A0 (List.length x.map) k0) x.map:=⟨A0,k0,rfl,ho0⟩;clear ho0;have K0:=N0.blk;replace N0:=N0.mono (base':=w.heap.size+1+1+1) (by first|(simp;done)|(simp;omega)|omega);have r0:=Xt hb0;have f0:=(bcell hb0).2;have l0:w.heap.size<w0.heap.size:=XN hb0;have m0:w.heap.size+1<w0.heap.size:=XN hb0;have n0:w.heap.size+1+1<w0.heap.size:=XN hb0;go_wp2_with (fail)
 refine (Jw x.noise a.noise _ (by simp only [Xr];omega) (Zn.below hs.noise (by exact Xn))).mono ?_;rintro e w1 ⟨a1,rfl,N1,hb1⟩;have K1:=N1.blk;replace N1:=N1.mono (base':=w.heap.size+1+1+1) (by first|(simp;done)|(simp;omega)|omega);have r1:=Xt hb1;have f1:=(bcell hb1).2;have s1:w0.heap.size<=w1.heap.size:=by simpa using hb1.size
 have l1:w.heap.size<w1.heap.size:=XN hb1;have m1:w.heap.size+1<w1.heap.size:=XN hb1;have n1:w.heap.size+1+1<w1.heap.size:=XN hb1;go_wp2_with (fail)
 refine (Jw x.limits a.limits _ (by simp only [Xr];omega) (Zn.below hs.limits (by exact Xn))).mono ?_;rintro e w2 ⟨a2,rfl,N2,hb2⟩;have K2:=N2.blk;replace N2:=N2.mono (base':=w.heap.size+1+1+1) (by first|(simp;done)|(simp;omega)|omega);have r2:=Xt hb2;have f2:=(bcell hb2).2;have s2:w1.heap.size<=w2.heap.size:=by simpa using hb2.size
 have l2:w.heap.size<w2.heap.size:=XN hb2;have m2:w.heap.size+1<w2.heap.size:=XN hb2;have n2:w.heap.size+1+1<w2.heap.size:=XN hb2;have H:X0 w2 (w.heap.size+1) [.slice none 0 0,.int .i64 0,.int .i64 0,.int .i64 0,.int .i64 0,.int .i64 0,.slice none 0 0,.slice none 0 0]:=by
  exact ZQ
 obtain ⟨cH_0,fH_0⟩:=H.2 0 _ rfl;obtain ⟨cH_1,fH_1⟩:=H.2 1 _ rfl;obtain ⟨cH_2,fH_2⟩:=H.2 2 _ rfl;obtain ⟨cH_3,fH_3⟩:=H.2 3 _ rfl;obtain ⟨cH_4,fH_4⟩:=H.2 4 _ rfl;obtain ⟨cH_5,fH_5⟩:=H.2 5 _ rfl;obtain ⟨cH_6,fH_6⟩:=H.2 6 _ rfl;obtain ⟨cH_7,fH_7⟩:=H.2 7 _ rfl;go_wp2
 refine bodyPost_ret (v:=Ye x ⟨⟨A0,k0⟩,a1,a2⟩) (by simp [results,Tryz.results17,go_sem,cH_0,cH_1,cH_2,cH_3,cH_4,cH_5,cH_6,cH_7]) rfl ?_;refine ⟨⟨⟨A0,k0⟩,a1,a2⟩,rfl,⟨?_, ?_, ?_, ?_⟩, ?_⟩
 ·refine XI.mono (base:=w.heap.size+1+1+1) ?_ (by omega);repeat (first|(with_reducible exact N0)|(with_reducible refine XI.low ?_ (by first|(simp;done)|(simp;omega)|omega) _)|(with_reducible refine XI.below ?_ (by assumption) Xs))
 ·refine XJ.mono (base:=w.heap.size+1+1+1) ?_ (by omega);repeat (first|(with_reducible exact N1)|(with_reducible refine XJ.low ?_ (by first|(simp;done)|(simp;omega)|omega) _)|(with_reducible refine XJ.below ?_ (by assumption) Xs))
 ·refine XJ.mono (base:=w.heap.size+1+1+1) ?_ (by omega);repeat (first|(with_reducible exact N2)|(with_reducible refine XJ.low ?_ (by first|(simp;done)|(simp;omega)|omega) _)|(with_reducible refine XJ.below ?_ (by assumption) Xs))
 ·simp only [List.pairwise_cons,List.mem_cons,List.not_mem_nil,or_false,forall_eq_or_imp,forall_eq,false_implies,implies_true,List.Pairwise.nil,and_true];exact ⟨⟨Blk.apart (K0) (K1) (by first|(simp;done)|(simp;omega)|omega),Blk.apart (K0) (K2) (by first|(simp;done)|(simp;omega)|omega)⟩,Blk.apart (K1) (K2) (by first|(simp;done)|(simp;omega)|omega)⟩
 ·exact Xn
theorem szLaw_c (x:KS) (a:KW) (left:Int) (w:World) (hn:List.length x.lows<=9223372036854775807/\List.length x.highs<=9223372036854775807) (h0:0<=left) (h1:left<=1048576) :
 Calls Tryz.prog 15 #[lawV x a,.int .i64 left] w λ e w'=>e=.returned (.int .i64 (if left-YJ x<0 then -1 else left-YJ x))/\Below w.heap.size w w':=by
 obtain ⟨hn0,hn1⟩:=hn;have hlen:Hid (((YJ x:Nat):Int)=((List.length x.lows:Nat):Int)+((List.length x.highs:Nat):Int)):=by show _=_;simp only [YJ];(try omega)
 have p0:(0:Int)<=((List.length x.lows:Nat):Int):=by omega
 have p1:(0:Int)<=((List.length x.highs:Nat):Int):=by omega
 by_cases c0:left-((List.length x.lows:Nat):Int)<0
 ·have hfin:(if left-((YJ x:Nat):Int)<0 then (-1:Int) else left-((YJ x:Nat):Int)) = -1:=by have:=hlen.out;rw [if_pos (by omega)]
  rw [hfin];clear hfin;go_enter Tryz.func15,Tryz.ntmps15
  go_wp2_with (fail)
  refine (szPieceS_c a.lows.A (List.length x.lows) a.lows.c (left) _ hn0 (by omega) (by omega)).mono ?_;rw [if_pos (by omega)];rintro e w' ⟨rfl,rfl⟩;go_wp2
  go_ret
  refine ⟨rfl, ?_⟩;exact Xn
 ·by_cases c1:left-((List.length x.lows:Nat):Int)-((List.length x.highs:Nat):Int)<0
  ·have hfin:(if left-((YJ x:Nat):Int)<0 then (-1:Int) else left-((YJ x:Nat):Int)) = -1:=by have:=hlen.out;rw [if_pos (by omega)]
   rw [hfin];clear hfin;go_enter Tryz.func15,Tryz.ntmps15
   go_wp2_with (fail)
   refine (szPieceS_c a.lows.A (List.length x.lows) a.lows.c (left) _ hn0 (by omega) (by omega)).mono ?_;rw [if_neg (by omega)];rintro e w' ⟨rfl,rfl⟩;go_wp2_with (fail)
   refine (szPieceS_c a.highs.A (List.length x.highs) a.highs.c (left-((List.length x.lows:Nat):Int)) _ hn1 (by omega) (by omega)).mono ?_;rw [if_pos (by omega)];rintro e w' ⟨rfl,rfl⟩;go_wp2
   go_ret
   refine ⟨rfl, ?_⟩;exact Xn
  ·have hfin:(if left-((YJ x:Nat):Int)<0 then (-1:Int) else left-((YJ x:Nat):Int))=left-((List.length x.lows:Nat):Int)-((List.length x.highs:Nat):Int):=by have:=hlen.out;(rw [if_neg (by omega)];omega)
   rw [hfin];clear hfin;go_enter Tryz.func15,Tryz.ntmps15
   go_wp2_with (fail)
   refine (szPieceS_c a.lows.A (List.length x.lows) a.lows.c (left) _ hn0 (by omega) (by omega)).mono ?_;rw [if_neg (by omega)];rintro e w' ⟨rfl,rfl⟩;go_wp2_with (fail)
   refine (szPieceS_c a.highs.A (List.length x.highs) a.highs.c (left-((List.length x.lows:Nat):Int)) _ hn1 (by omega) (by omega)).mono ?_;rw [if_neg (by omega)];rintro e w' ⟨rfl,rfl⟩;go_wp2
   go_ret
   refine ⟨rfl, ?_⟩;exact Xn
theorem eqLaw_t (x:KS) (a b:KW) (w:World) (hn:YJ x<=1048576) (ha:J3 w x a) (hb:J3 w x b) :
 Calls Tryz.prog 23 #[lawV x a,lawV x b] w λ e w'=>e=.returned (.bool true)/\Below w.heap.size w w':=by
 simp only [YJ] at hn;go_enter Tryz.func23,Tryz.ntmps23
 go_wp2_with (fail)
 refine (eqPieceS_t a.lows.A b.lows.A x.lows _ _ _ (by omega) (Sl.below ha.lows (by exact Xn)) (Sl.below hb.lows (by exact Xn))).mono ?_;rintro e w0 ⟨rfl,hb0⟩;have r0:=Xt hb0;have l0:w.heap.size<w0.heap.size:=XN hb0;have m0:w.heap.size+1<w0.heap.size:=XN hb0;go_wp2_with (fail)
 refine (eqPieceS_t a.highs.A b.highs.A x.highs _ _ _ (by omega) (Sl.below ha.highs (by exact Xn)) (Sl.below hb.highs (by exact Xn))).mono ?_;rintro e w1 ⟨rfl,hb1⟩;have r1:=Xt hb1;have l1:w.heap.size<w1.heap.size:=XN hb1;have m1:w.heap.size+1<w1.heap.size:=XN hb1;go_wp2
 go_ret
 refine ⟨rfl, ?_⟩;exact Xn
theorem toLaw_c (x:KS) (a:KW) (w:World) (hn:YJ x<=1048576) (hs:J3 w x a) :
 Calls Tryz.prog 19 #[lawV x a] w λ e w'=>∃ a',e=.returned (lawV x a')/\XS w' w.heap.size x a'/\Below w.heap.size w w':=by
 simp only [YJ] at hn;go_enter Tryz.func19,Tryz.ntmps19
 go_wp2_with (fail)
 refine (toPieceS_c a.lows.A x.lows _ _ (by omega) (Sl.below hs.lows (by exact Xn))).mono ?_;rintro e w0 ⟨v0,rfl,N0,hb0⟩;obtain ⟨A0,k0,rfl,ho0⟩:=N0;have N0:XI 49 4 Yy w0 _ (.slice A0 (List.length x.lows) k0) x.lows:=⟨A0,k0,rfl,ho0⟩;clear ho0;have K0:=N0.blk;replace N0:=N0.mono (base':=w.heap.size+1+1+1) (by first|(simp;done)|(simp;omega)|omega);have r0:=Xt hb0;have f0:=(bcell hb0).2;have l0:w.heap.size<w0.heap.size:=XN hb0;have m0:w.heap.size+1<w0.heap.size:=XN hb0;have n0:w.heap.size+1+1<w0.heap.size:=XN hb0;go_wp2_with (fail)
 refine (toPieceS_c a.highs.A x.highs _ _ (by omega) (Sl.below hs.highs (by exact Xn))).mono ?_;rintro e w1 ⟨v1,rfl,N1,hb1⟩;obtain ⟨A1,k1,rfl,ho1⟩:=N1;have N1:XI 49 4 Yy w1 _ (.slice A1 (List.length x.highs) k1) x.highs:=⟨A1,k1,rfl,ho1⟩;clear ho1;have K1:=N1.blk;replace N1:=N1.mono (base':=w.heap.size+1+1+1) (by first|(simp;done)|(simp;omega)|omega);have r1:=Xt hb1;have f1:=(bcell hb1).2;have s1:w0.heap.size<=w1.heap.size:=by simpa using hb1.size
 have l1:w.heap.size<w1.heap.size:=XN hb1;have m1:w.heap.size+1<w1.heap.size:=XN hb1;have n1:w.heap.size+1+1<w1.heap.size:=XN hb1;have H:X0 w1 (w.heap.size+1) [.slice none 0 0,.slice none 0 0]:=by
  exact ZQ
 obtain ⟨cH_0,fH_0⟩:=H.2 0 _ rfl;obtain ⟨cH_1,fH_1⟩:=H.2 1 _ rfl;go_wp2
 refine bodyPost_ret (v:=lawV x ⟨⟨A0,k0⟩,⟨A1,k1⟩⟩) (by simp [results,Tryz.results19,go_sem,cH_0,cH_1]) rfl ?_;refine ⟨⟨⟨A0,k0⟩,⟨A1,k1⟩⟩,rfl,⟨?_, ?_, ?_⟩, ?_⟩
 ·refine XI.mono (base:=w.heap.size+1+1+1) ?_ (by omega);repeat (first|(with_reducible exact N0)|(with_reducible refine XI.low ?_ (by first|(simp;done)|(simp;omega)|omega) _)|(with_reducible refine XI.below ?_ (by assumption) Xs))
 ·refine XI.mono (base:=w.heap.size+1+1+1) ?_ (by omega);repeat (first|(with_reducible exact N1)|(with_reducible refine XI.low ?_ (by first|(simp;done)|(simp;omega)|omega) _)|(with_reducible refine XI.below ?_ (by assumption) Xs))
 ·simp only [List.pairwise_cons,List.mem_cons,List.not_mem_nil,or_false,forall_eq,false_implies,implies_true,List.Pairwise.nil,and_true];exact Blk.apart (K0) (K1) (by first|(simp;done)|(simp;omega)|omega)
 ·exact Xn
end Go.Proofs.YtbekjpkcicjcgabGreat
