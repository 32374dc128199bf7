/-
 The drawing of numbers from bytes, of the reference's verifier: what is drawn lies in its bounds, and only the cursor changes.
 Conditions: at most 2^20 bytes.
-/
import Derived.Test.YtabfdkpdppemaaaGreatNewR
set_option maxHeartbeats 4000000
set_option maxRecDepth 100000
namespace Go.Proofs.YtabfdkpdppemaaaGreat
open Go.RowKit
theorem Jh (n:Int):bits .and .i64 n 255=n % 256:=by
 have h255:(BitVec.ofInt 64 255).toNat=2 ^ 8-1:=by decide
 have key:(BitVec.ofInt 64 n &&& BitVec.ofInt 64 255).toNat=(n % ((2 ^ 64:Nat):Int)).toNat % 2 ^ 8:=by
  rw [BitVec.toNat_and,BitVec.toNat_ofInt,h255,Nat.and_two_pow_sub_one_eq_mod]
 show IntKind.i64.wrap ((BitVec.ofInt 64 n &&& BitVec.ofInt 64 255).toNat:Nat)=n % 256;rw [key,IntKind.wrap_i64];omega
def Cur (w:World) (g:Nat) (B:Option Addr) (n c:Nat):Prop:=∃ i h:Int,0<=i/\i<=(n:Int)/\Xr w g 221 [.slice B n c,.int .i64 i,.int .i64 h]
abbrev ZJ (w w':World) (g:Nat):Prop:=Zs w w' [⟨some ⟨g,0,none⟩,0⟩]
theorem ZJ.ne {w w':World} {g k:Nat} (h:ZJ w w' g) (hk:k<w.heap.size) (hn:g≠k):w'.heap[k]? = w.heap[k]?:=h.block k hk (λ a ha p hp=>by
 rw [List.mem_singleton] at ha;subst ha;cases hp;exact hn)
theorem ZJ.set_ {w:World} {g:Nat} (j:Nat) (u:Value):ZJ w (w.setCell ⟨g,j,none⟩ u) g:=Zs.setCells [u] j w (Zs.refl _ _)
theorem Xr.far {w w':World} {g k T:Nat} {vs:List Value} (h:Xr w k T vs) (ho:ZJ w w' g) (hn:g≠k):Xr w' k T vs:=(ho.ne (XF h) hn).trans h
theorem Sl.farG {α:Type} {sz:Nat} {enc:α->List Value} {w w':World} {A:Option Addr} {xs:List α} {g:Nat} (h:Sl sz enc w A xs) (ho:ZJ w w' g) (ha:∀ b off,A=some ⟨b,off,none⟩->0<xs.length->b≠g):Sl sz enc w' A xs:=by
 intro hn;obtain ⟨b,off,rfl,hlt,hc⟩:=h hn;refine ⟨b,off,rfl,Nat.lt_of_lt_of_le hlt ho.size,λ i hi j u hu=>?_⟩;exact (World.cell?_of_block (w:=w) (a:=⟨b,off+i*sz+j,none⟩) (ho.ne hlt (λ e=>ha b off rfl hn e.symm))).trans (hc i hi j u hu)
theorem ZJ.belowB {w w':World} {g B:Nat} (h:ZJ w w' g) (hB:B<=w.heap.size) (hg:B<=g):Below B w w':=h.below hB (λ x hx p hp=>by
 rw [List.mem_singleton] at hx;subst hx;cases hp;exact hg)
theorem ZJ.drewN {w w':World} {g:Nat} (h:ZJ w w' g) (n:Nat):ZJ w (w'.drewN n) g:=h.trans (Zs.of_below (Yz bR n) _)
theorem KP {x:Int}:0<=x % 256/\x % 256<=255:=by omega
theorem curByte_c (bs:List Int) (B:Option Addr) (c g:Nat) (w:World) (hn:bs.length<=1048576) (hin:∀ y∈bs,InB y) (hs:Sl 1 Jw w B bs) (hc:Cur w g B bs.length c) (hap:∀ b off,B=some ⟨b,off,none⟩->0<bs.length->b≠g) :
 Calls Tryz.prog 132 #[.pointer (some ⟨g,0,none⟩)] w λ e w'=>∃ x:Int,e=.returned (.int .i64 x)/\(0<=x/\x<=255)/\Cur w' g B bs.length c/\ZJ w w' g:=by
 obtain ⟨i,h,i0,i1,HT⟩:=hc;have HH:=HT.has;obtain ⟨cHH_0,fHH_0⟩:=HH.2 0 _ rfl;obtain ⟨cHH_1,fHH_1⟩:=HH.2 1 _ rfl;obtain ⟨cHH_2,fHH_2⟩:=HH.2 2 _ rfl;have lg:=HH.1;go_enter Tryz.func132,Tryz.ntmps132
 go_upto_region 2 with fail
 generalize wrap64 (wrap64 (h*6364136223846793005)+1442695040888963407)=h2;have T1:Xr (w.setCell ⟨g,2,none⟩ (.int .i64 h2)) g 221 [.slice B bs.length c,.int .i64 i,.int .i64 h2]:=HT.set_ 2 _;have O1:ZJ w (w.setCell ⟨g,2,none⟩ (.int .i64 h2)) g:=ZJ.set_ 2 _;have S1:=hs.farG O1 hap;clear HH cHH_0 cHH_1 cHH_2 fHH_0 fHH_1 fHH_2 lg HT hs;generalize w.setCell ⟨g,2,none⟩ (.int .i64 h2)=w1 at *;have H1:=T1.has;obtain ⟨cH1_0,fH1_0⟩:=H1.2 0 _ rfl;obtain ⟨cH1_1,fH1_1⟩:=H1.2 1 _ rfl;obtain ⟨cH1_2,fH1_2⟩:=H1.2 2 _ rfl;have lg:=H1.1;by_cases hlt:i<(bs.length:Int)
 ·obtain ⟨k,rfl⟩:=Int.eq_ofNat_of_zero_le i0;have hk:k<bs.length:=by omega
  obtain ⟨b,off,hB,hblt,hcell⟩:=S1.at_ hk;have g0:=hcell 0 _ rfl;have ib:=hin _ (List.getElem_mem hk);have hne:=hap b off hB (by omega);subst hB;simp only [Nat.mul_one,Nat.add_zero] at g0;clear hcell;generalize bs[k]=y at *;obtain ⟨y0,y1⟩:=ib;go_big_quiet (fail)
  go_upto_region 3 with fail
  rw [Jh];obtain ⟨z0,z1⟩:=@KP (bits BinOp.xor IntKind.i64 (h2 / 8589934592) (h2 / 35184372088832));generalize (bits BinOp.xor IntKind.i64 (h2 / 8589934592) (h2 / 35184372088832)) % 256=z at *;clear z0 z1;go_big_quiet (fail)
  go_upto_region 4 with fail
  go_big_quiet (fail)
  go_upto_region 5 with fail
  rw [Jh];obtain ⟨z0,z1⟩:=@KP (wrap64 (z+y));generalize wrap64 (z+y) % 256=x at *;go_wp2
  go_ret
  refine ⟨x,rfl,⟨z0,z1⟩,⟨(k:Int)+1,h2,by omega,by omega,Xr.set_ (vs:=[.slice (some ⟨b,off,none⟩) bs.length c,.int .i64 (k:Int),.int .i64 h2]) ?_ 1 _⟩,O1.trans ?_⟩
  ·exact T1
  ·exact (ZJ.drewN (g:=g) (Zs.refl w1 _) _).trans (ZJ.set_ 1 _)
 ·go_big_quiet (fail)
  go_upto_region 3 with fail
  rw [Jh];obtain ⟨z0,z1⟩:=@KP (bits BinOp.xor IntKind.i64 (h2 / 8589934592) (h2 / 35184372088832));generalize (bits BinOp.xor IntKind.i64 (h2 / 8589934592) (h2 / 35184372088832)) % 256=z at *;go_big_quiet (fail)
  go_wp2
  go_ret
  refine ⟨z,rfl,⟨z0,z1⟩,⟨i,h2,i0,i1,T1⟩,O1.trans ?_⟩;exact ZJ.drewN (g:=g) (Zs.refl w1 _) _
theorem curNew_c (bs:List Int) (B:Option Addr) (c:Nat) (w:World) (hn:bs.length<=1048576) (hin:∀ y∈bs,InB y) (hs:Sl 1 Jw w B bs) :
 Calls Tryz.prog 90 #[.slice B bs.length c] w λ e w'=>∃ g:Nat,e=.returned (.pointer (some ⟨g,0,none⟩))/\w.heap.size<=g/\Cur w' g B bs.length c/\Below w.heap.size w w':=by
 go_enter Tryz.func90,Tryz.ntmps90
 go_wp2
 go_loopw [3,4] (λ hv i wr=>∃ k:Nat,∃ h:Int,k<=bs.length/\i=.int .i64 k/\hv=.int .i64 h/\Below w.heap.size w wr) (λ _ i _=>bs.length-(intOf i).toNat)
 case atStart=>exact ⟨0,_,Nat.zero_le _,rfl,rfl,Below.refl _ _⟩
 case round =>
  obtain ⟨k,h,hk,rfl,rfl,hbw⟩:=hrel;by_cases hlt:k<bs.length
  ·by_cases h4:(k:Int)<4000
   ·obtain ⟨b,off,rfl,hblt,hc⟩:=(hs.below hbw).at_ hlt;have g0:=hc 0 _ rfl;simp only [Nat.add_zero,Nat.mul_one] at g0;obtain ⟨y0,y1⟩:=hin _ (List.getElem_mem hlt);clear hc;generalize bs[k]=y at *;go_wp2
    go_roundw
    case rel=>exact ⟨k+1,_,by omega,by go_num,rfl,hbw⟩
    case measure=>simp [intOf];omega
   ·go_wp2
    go_ret
    refine ⟨_,rfl,hbw.size,⟨0,_,Int.le_refl _,by omega,Xr.new wr [.slice B bs.length c,.int .i64 0,.int .i64 h] 221⟩,Xc hbw _⟩
  ·go_wp2
   go_ret
   refine ⟨_,rfl,hbw.size,⟨0,_,Int.le_refl _,by omega,Xr.new wr [.slice B bs.length c,.int .i64 0,.int .i64 h] 221⟩,Xc hbw _⟩
theorem cur26_c (bs:List Int) (B:Option Addr) (c:Nat) (n:Int) (w:World) (h0:0<=n) (h1:n<=1000) (hn:bs.length<=1048576) (hin:∀ y∈bs,InB y) (hs:Sl 1 Jw w B bs) :
 Calls Tryz.prog 95 #[.slice B bs.length c,.int .i64 n] w λ e w'=>∃ g:Nat,e=.returned (.pointer (some ⟨g,0,none⟩))/\w.heap.size<=g/\Cur w' g B bs.length c/\Below w.heap.size w w':=by
 have k1:=curNew_c bs B c w hn hin hs;go_enter Tryz.func95,Tryz.ntmps95
 go_wp2_with (fail)
 refine k1.mono ?_;rintro e w1 ⟨g,rfl,hg,C1,hb1⟩;have hap:∀ b off,B=some ⟨b,off,none⟩->0<bs.length->b≠g:=λ b off e hp=>by have:=hs.blt hp b off e;omega
 go_wp2
 go_loopw [6] (λ i wr=>∃ k:Int,0<=k/\k<=n/\i=.int .i64 k/\Cur wr g B bs.length c/\Below w.heap.size w wr) (λ i _=>(n-intOf i).toNat)
 case atStart=>exact ⟨0,Int.le_refl _,h0,rfl,C1,hb1⟩
 case round =>
  obtain ⟨k,k0,hk,rfl,C,hbw⟩:=hrel;by_cases hlt:k<n
  ·have k2:=curByte_c bs B c g wr hn hin (hs.below hbw) C hap;obtain ⟨i,h,_,_,T⟩:=C;have lg:=XF T;clear T;go_wp2_with (fail)
   refine k2.mono ?_;rintro e w2 ⟨x,rfl,_,C2,O2⟩;have hb2:=hbw.trans (O2.belowB hbw.size hg);go_wp2
   go_roundw
   case rel=>exact ⟨k+1,by omega,by omega,by go_num,C2,hb2⟩
   case measure=>simp [intOf];omega
  ·go_wp2
   go_ret
   exact ⟨g,rfl,hg,C,hbw⟩
end Go.Proofs.YtabfdkpdppemaaaGreat
