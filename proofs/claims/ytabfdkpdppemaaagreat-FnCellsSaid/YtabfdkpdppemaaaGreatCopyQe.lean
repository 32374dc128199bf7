/-
 Copies of slices, of regions and of rooms: of the program and of the reference.
 Conditions: the slices hold at most 2^20 elements.
-/
import Derived.Lib.SliceRun
import Derived.Deep.RegionHeld3
import Derived.Deep.DeepMust
import Derived.Deep.DeepCutAuto
import Derived.Test.YtabfdkpdppemaaaGreatDrw
set_option maxHeartbeats 4000000
set_option maxRecDepth 100000
namespace Go.Proofs.YtabfdkpdppemaaaGreat
open Go.RowKit
theorem intC_one (x:Int):∀ u∈Z6 x,u.oneCell'=true:=by
 intro u hu;simp only [Z6,List.mem_cons,List.not_mem_nil,or_false] at hu;subst hu;rfl
theorem Xx.belowB {B g T:Nat} {w w':World} {vs:List Value} (h:Xx w g T vs) (hb:Below B w w') (hg:g<B):Xx w' g T vs:=(hb.block g hg).trans h
theorem within_step {C:List XQ} {q:List Half} {k:Nat} (h:k<C.length) (h1:(C.take k).all (Zl q)=true) (hb:Zl q C[k]=true):(C.take (k+1)).all (Zl q)=true:=by
 rw [List.take_add_one,List.getElem?_eq_getElem h,List.all_append,h1];simp [hb]
def Kd (p:Nat->Bool):Nat->Nat->Int
 | 0,_=>-1
 | f+1,k=>if p k=true then (k:Int) else Kd p f (k+1)
def JQ (n d start step:Int) (k:Nat):Bool:=decide ((start+k*step)*d<=n)&&decide (n<=(start+k*step+step)*d)
def Jl (n d start step:Int) (c:Nat):Int:=Kd (JQ n d start step) (c-0) 0
theorem firstGo_hit {p:Nat->Bool} {c k:Nat} (hk:k<c) (h:p k=true):Kd p (c-k) k=k:=by
 obtain ⟨m,hm⟩:∃ m,c-k=m+1:=⟨c-k-1,by omega⟩;rw [hm,Kd,if_pos h]
theorem firstGo_miss {p:Nat->Bool} {c k:Nat} (hk:k<c) (h:p k=false):Kd p (c-k) k=Kd p (c-(k+1)) (k+1):=by
 obtain ⟨m,hm⟩:∃ m,c-k=m+1:=⟨c-k-1,by omega⟩;have hm2:c-(k+1)=m:=by omega
 rw [hm,hm2,Kd,if_neg (by simp [h])]
theorem firstGo_end {p:Nat->Bool} {c:Nat}:Kd p (c-c) c = -1:=by
 rw [Nat.sub_self,Kd]
theorem Jc.belowB {w w':World} {g B:Nat} (h:Jc w w' g) (hB:B<=w.heap.size) (hg:B<=g):Below B w w':=h.below hB (λ x hx p hp=>by
 rw [List.mem_singleton] at hx;subst hx;cases hp;exact hg)
theorem curByte_c (bs:List Int) (B:Option Addr) (c g:Nat) (w:World) (hn:bs.length<=1048576) (hin:∀ y∈bs,InB y) (hs:Sl 1 byteC w B bs) (hc:Cur w g B bs.length c) (hap:∀ b off,B=some ⟨b,off,none⟩->0<bs.length->b≠g) :
 Calls Tryz.prog 132 #[.pointer (some ⟨g,0,none⟩)] w λ e w'=>∃ x:Int,e=.returned (.int .i64 x)/\(0<=x/\x<=255)/\Cur w' g B bs.length c/\Jc w w' g:=by
 obtain ⟨i,h,i0,i1,HT⟩:=hc;have HH:=HT.has;obtain ⟨cHH_0,fHH_0⟩:=HH.2 0 _ rfl;obtain ⟨cHH_1,fHH_1⟩:=HH.2 1 _ rfl;obtain ⟨cHH_2,fHH_2⟩:=HH.2 2 _ rfl;have lg:=HH.1;go_enter Tryz.func132,Tryz.ntmps132
 go_upto_region 2 with fail
 generalize wrap64 (wrap64 (h*6364136223846793005)+1442695040888963407)=h2;have T1:Xx (w.setCell ⟨g,2,none⟩ (.int .i64 h2)) g 221 [.slice B bs.length c,.int .i64 i,.int .i64 h2]:=HT.set_ 2 _;have O1:Jc w (w.setCell ⟨g,2,none⟩ (.int .i64 h2)) g:=Jc.set_ 2 _;have S1:=hs.farG O1 hap;clear HH cHH_0 cHH_1 cHH_2 fHH_0 fHH_1 fHH_2 lg HT hs;generalize w.setCell ⟨g,2,none⟩ (.int .i64 h2)=w1 at *;have H1:=T1.has;obtain ⟨cH1_0,fH1_0⟩:=H1.2 0 _ rfl;obtain ⟨cH1_1,fH1_1⟩:=H1.2 1 _ rfl;obtain ⟨cH1_2,fH1_2⟩:=H1.2 2 _ rfl;have lg:=H1.1;by_cases hlt:i<(bs.length:Int)
 ·obtain ⟨k,rfl⟩:=Int.eq_ofNat_of_zero_le i0;have hk:k<bs.length:=by omega
  obtain ⟨b,off,hB,hblt,hcell⟩:=S1.at_ hk;have g0:=hcell 0 _ rfl;have ib:=hin _ (List.getElem_mem hk);have hne:=hap b off hB (by omega);subst hB;simp only [Nat.mul_one,Nat.add_zero] at g0;clear hcell;generalize bs[k]=y at *;obtain ⟨y0,y1⟩:=ib;go_big_quiet (fail)
  go_upto_region 3 with fail
  rw [i64_and255];obtain ⟨z0,z1⟩:=@quiet_and (bits BinOp.xor IntKind.i64 (h2 / 8589934592) (h2 / 35184372088832));generalize (bits BinOp.xor IntKind.i64 (h2 / 8589934592) (h2 / 35184372088832)) % 256=z at *;clear z0 z1;go_big_quiet (fail)
  go_upto_region 4 with fail
  go_big_quiet (fail)
  go_upto_region 5 with fail
  rw [i64_and255];obtain ⟨z0,z1⟩:=@quiet_and (wrap64 (z+y));generalize wrap64 (z+y) % 256=x at *;go_wp2
  go_ret
  refine ⟨x,rfl,⟨z0,z1⟩,⟨(k:Int)+1,h2,by omega,by omega,Xx.set_ (vs:=[.slice (some ⟨b,off,none⟩) bs.length c,.int .i64 (k:Int),.int .i64 h2]) ?_ 1 _⟩,O1.trans ?_⟩
  ·exact T1
  ·exact (Jc.drewN (g:=g) (KM.refl w1 _) _).trans (Jc.set_ 1 _)
 ·go_big_quiet (fail)
  go_upto_region 3 with fail
  rw [i64_and255];obtain ⟨z0,z1⟩:=@quiet_and (bits BinOp.xor IntKind.i64 (h2 / 8589934592) (h2 / 35184372088832));generalize (bits BinOp.xor IntKind.i64 (h2 / 8589934592) (h2 / 35184372088832)) % 256=z at *;go_big_quiet (fail)
  go_wp2
  go_ret
  refine ⟨z,rfl,⟨z0,z1⟩,⟨i,h2,i0,i1,T1⟩,O1.trans ?_⟩;exact Jc.drewN (g:=g) (KM.refl w1 _) _
theorem cur26_c (bs:List Int) (B:Option Addr) (c:Nat) (n:Int) (w:World) (h0:0<=n) (h1:n<=1000) (hn:bs.length<=1048576) (hin:∀ y∈bs,InB y) (hs:Sl 1 byteC w B bs) :
 Calls Tryz.prog 95 #[.slice B bs.length c,.int .i64 n] w λ e w'=>∃ g:Nat,e=.returned (.pointer (some ⟨g,0,none⟩))/\w.heap.size<=g/\Cur w' g B bs.length c/\Below w.heap.size w w':=by
 have k1:=curNew_c bs B c w hn hin hs;go_enter Tryz.func95,Tryz.ntmps95
 go_wp2_with (fail)
 refine k1.mono ?_;rintro e w1 ⟨g,rfl,hg,C1,hb1⟩;have hap:∀ b off,B=some ⟨b,off,none⟩->0<bs.length->b≠g:=λ b off e hp=>by have:=hs.blt hp b off e;omega
 go_wp2
 go_loopw [6] (λ i wr=>∃ k:Int,0<=k/\k<=n/\i=.int .i64 k/\Cur wr g B bs.length c/\Below w.heap.size w wr) (λ i _=>(n-intOf i).toNat)
 case atStart=>exact ⟨0,Int.le_refl _,h0,rfl,C1,hb1⟩
 case round =>
  obtain ⟨k,k0,hk,rfl,C,hbw⟩:=hrel;by_cases hlt:k<n
  ·have k2:=curByte_c bs B c g wr hn hin (hs.below hbw) C hap;obtain ⟨i,h,_,_,T⟩:=C;have lg:=Yd T;clear T;go_wp2_with (fail)
   refine k2.mono ?_;rintro e w2 ⟨x,rfl,_,C2,O2⟩;have hb2:=hbw.trans (O2.belowB hbw.size hg);go_wp2
   go_roundw
   case rel=>exact ⟨k+1,by omega,by omega,by go_num,C2,hb2⟩
   case measure=>simp [intOf];omega
  ·go_wp2
   go_ret
   exact ⟨g,rfl,hg,C,hbw⟩
theorem cur26Q_c (bs:List Int) (B:Option Addr) (c:Nat) (n:Int) (w:World) (h0:0<=n) (h1:n<=1000) (hn:bs.length<=1048576) (hin:∀ y∈bs,InB y) (hs:Sl 1 byteC w B bs) :
 Calls Tryz.prog 95 #[.slice B bs.length c,.int .i64 n] w λ e w'=>∃ (g:Nat) (sq:Nat->Int),e=.returned (.pointer (some ⟨g,0,none⟩))/\w.heap.size<=g/\YC w' g B c bs sq 0/\Below w.heap.size w w':=by
 refine (cur26_c bs B c n w h0 h1 hn hin hs).mono ?_;rintro e w1 ⟨g,rfl,hg,C1,hb1⟩;obtain ⟨sq,Q⟩:=YC.of C1;exact ⟨g,sq,rfl,hg,Q,hb1⟩
variable {r:XK} {s:XQ} {e:List Half} {k:Nat} {v:Zg} {h:Half}
end Go.Proofs.YtabfdkpdppemaaaGreat
namespace Go.Proofs.YtabfdkpdppemaaaGreat
open Go.RowKit
theorem span_In {s:Zg} (h:X6 s=true):s.In:=⟨ratio_In (spanOk_r h).1,ratio_In (spanOk_r h).2⟩
theorem span0_In:Xw.In:=by
 have h:Zi 0:=⟨by decide,by decide⟩;exact ⟨⟨h,h⟩,⟨h,h⟩⟩
theorem optIn {x:Option Zg} (h:∀ v,x=some v->X6 v=true):(x.getD Xw).In:=by
 cases x with
 | none=>exact span0_In
 | some v=>exact span_In (h v rfl)
end Go.Proofs.YtabfdkpdppemaaaGreat
