/-
 The drawing of numbers from bytes, each as a value that the bytes fix: the sequence of a cursor.
 Conditions: at most 2^20 bytes.
-/
import Derived.Test.YtabfdkpdppemaaaGreatCur
import Derived.Test.YtabfdkpdppemaaaGreatGrU
set_option maxHeartbeats 4000000
namespace Go.Proofs.YtabfdkpdppemaaaGreat
open Go.RowKit
def cNext (bs:List Int) (s:Int × Int):Int × (Int × Int) :=
 if s.1<bs.length then ((wrap64 ((bits BinOp.xor IntKind.i64 ((wrap64 (wrap64 (s.2*6364136223846793005)+1442695040888963407)) / 8589934592) ((wrap64 (wrap64 (s.2*6364136223846793005)+1442695040888963407)) / 35184372088832)) % 256+bs.getD s.1.toNat 0)) % 256,s.1+1,wrap64 (wrap64 (s.2*6364136223846793005)+1442695040888963407))
 else ((bits BinOp.xor IntKind.i64 ((wrap64 (wrap64 (s.2*6364136223846793005)+1442695040888963407)) / 8589934592) ((wrap64 (wrap64 (s.2*6364136223846793005)+1442695040888963407)) / 35184372088832)) % 256,s.1,wrap64 (wrap64 (s.2*6364136223846793005)+1442695040888963407))
def cIter (bs:List Int):Nat->Int × Int->Int × Int
 | 0,s=>s
 | n+1,s=>cIter bs n (cNext bs s).2
def cSeq (bs:List Int) (s:Int × Int) (j:Nat):Int:=(cNext bs (cIter bs j s)).1
theorem cNext_bd (bs:List Int) (s:Int × Int):0<=(cNext bs s).1/\(cNext bs s).1<=255:=by
 unfold cNext;split
 ·exact KP
 ·exact KP
def Yo (w:World) (g:Nat) (B:Option Addr) (c:Nat) (bs:List Int) (sq:Nat->Int) (k:Nat):Prop:=∃ i h:Int,0<=i/\i<=(bs.length:Int)/\(∀ j,sq (k+j)=cSeq bs (i,h) j)/\Xr w g 221 [.slice B bs.length c,.int .i64 i,.int .i64 h]
theorem Yo.of {w:World} {g:Nat} {B:Option Addr} {c:Nat} {bs:List Int} (h:Cur w g B bs.length c):∃ sq,Yo w g B c bs sq 0:=by
 obtain ⟨i,h,i0,i1,T⟩:=h;exact ⟨cSeq bs (i,h),i,h,i0,i1,λ j=>by rw [Nat.zero_add],T⟩
section
variable {w w':World} {g:Nat} {B:Option Addr} {c:Nat} {bs:List Int} {sq:Nat->Int} {k:Nat}
theorem Yo.bd (h:Yo w g B c bs sq k) (j:Nat):0<=sq (k+j)/\sq (k+j)<=255:=by
 obtain ⟨i,h,_,_,hq,_⟩:=h;rw [hq j];exact cNext_bd _ _
theorem Yo.has (h:Yo w g B c bs sq k):∃ vs,Xr w g 221 vs:=by
 obtain ⟨i,h,_,_,_,T⟩:=h;exact ⟨_,T⟩
theorem Yo.lt (h:Yo w g B c bs sq k):g<w.heap.size:=by
 obtain ⟨_,T⟩:=h.has;exact T.lt
theorem Yo.bel (h:Yo w g B c bs sq k) (hb:Below w.heap.size w w'):Yo w' g B c bs sq k:=by
 obtain ⟨i,h,a,b,d,T⟩:=h;exact ⟨i,h,a,b,d,T.bel hb⟩
theorem Yo.oth {g' T':Nat} {vs':List Value} (h:Yo w g B c bs sq k) (hT:Xr w g' T' vs') (hne:T'≠221) (us:List Value) (o:Nat):Yo (w.setCells g' o us) g B c bs sq k:=by
 obtain ⟨i,h,a,b,d,T⟩:=h;exact ⟨i,h,a,b,d,T.other (T.ne hT (λ e=>hne e.symm)) us o⟩
theorem Yo.kp {M:List Nat} (h:Yo w g B c bs sq k) (hk:Kp M w w') (hg:g ∉ M):Yo w' g B c bs sq k:=by
 obtain ⟨i,h,a,b,d,T⟩:=h;exact ⟨i,h,a,b,d,T.kp hk hg⟩
theorem Yo.shift (h:Yo w g B c bs sq k):Yo w g B c bs (λ j=>sq (k+j)) 0:=by
 obtain ⟨i,h,a,b,d,T⟩:=h;exact ⟨i,h,a,b,λ j=>by rw [Nat.zero_add];exact d j,T⟩
end
set_option maxRecDepth 100000 in
theorem curByteQ_c (bs:List Int) (B:Option Addr) (c g:Nat) (sq:Nat->Int) (k:Nat) (w:World) (hn:bs.length<=1048576) (hin:∀ y∈bs,InB y) (hs:Sl 1 Jw w B bs) (hc:Yo w g B c bs sq k) (hap:∀ b off,B=some ⟨b,off,none⟩->0<bs.length->b≠g) :
 Calls Tryz.prog 132 #[.pointer (some ⟨g,0,none⟩)] w λ e w'=>e=.returned (.int .i64 (sq k))/\Yo w' g B c bs sq (k+1)/\ZJ w w' g:=by
 obtain ⟨i,h,i0,i1,hq,HT⟩:=hc;have hv:sq k=(cNext bs (i,h)).1:=hq 0;have hr:∀ j,sq (k+1+j)=cSeq bs (cNext bs (i,h)).2 j:=λ j=>by
  have:=hq (j+1);rw [show k+1+j=k+(j+1) by omega];exact this
 clear hq;have HH:=HT.has;obtain ⟨cHH_0,fHH_0⟩:=HH.2 0 _ rfl;obtain ⟨cHH_1,fHH_1⟩:=HH.2 1 _ rfl;obtain ⟨cHH_2,fHH_2⟩:=HH.2 2 _ rfl;have lg:=HH.1;unfold cNext at hv hr;simp only at hv hr;go_enter Tryz.func132,Tryz.ntmps132
 go_upto_region 2 with fail
 generalize wrap64 (wrap64 (h*6364136223846793005)+1442695040888963407)=h2 at hv hr ⊢;have T1:Xr (w.setCell ⟨g,2,none⟩ (.int .i64 h2)) g 221 [.slice B bs.length c,.int .i64 i,.int .i64 h2]:=HT.set_ 2 _;have O1:ZJ w (w.setCell ⟨g,2,none⟩ (.int .i64 h2)) g:=ZJ.set_ 2 _;have S1:=hs.farG O1 hap;clear HH cHH_0 cHH_1 cHH_2 fHH_0 fHH_1 fHH_2 lg HT hs;generalize w.setCell ⟨g,2,none⟩ (.int .i64 h2)=w1 at *;have H1:=T1.has;obtain ⟨cH1_0,fH1_0⟩:=H1.2 0 _ rfl;obtain ⟨cH1_1,fH1_1⟩:=H1.2 1 _ rfl;obtain ⟨cH1_2,fH1_2⟩:=H1.2 2 _ rfl;have lg:=H1.1;by_cases hlt:i<(bs.length:Int)
 ·obtain ⟨m,rfl⟩:=Int.eq_ofNat_of_zero_le i0;have hk:m<bs.length:=by omega
  rw [if_pos hlt] at hv hr;simp only at hr hv;have hgd:bs.getD (m:Int).toNat 0=bs[m]:=by
   rw [show (m:Int).toNat=m from rfl];simp [List.getD_eq_getElem?_getD,hk]
  have hgd2:bs.getD (Int.ofNat m).toNat 0=bs[m]:=hgd;have hv2:=Lib.hid hv;have hr2:=Lib.hid hr;clear hv hr;obtain ⟨b,off,hB,hblt,hcell⟩:=S1.at_ hk;have g0:=hcell 0 _ rfl;have ib:=hin _ (List.getElem_mem hk);have hne:=hap b off hB (by omega);subst hB;simp only [Nat.mul_one,Nat.add_zero] at g0;clear hcell;have hgd3:=Lib.hid hgd;have hgd4:=Lib.hid hgd2;clear hgd hgd2;generalize bs[m]=y at *;obtain ⟨y0,y1⟩:=ib;go_big_quiet (fail)
  go_upto_region 3 with fail
  rw [Jh];obtain ⟨z0,z1⟩:=@KP (bits BinOp.xor IntKind.i64 (h2 / 8589934592) (h2 / 35184372088832));generalize (bits BinOp.xor IntKind.i64 (h2 / 8589934592) (h2 / 35184372088832)) % 256=z at *;clear z0 z1;go_big_quiet (fail)
  go_upto_region 4 with fail
  go_big_quiet (fail)
  go_upto_region 5 with fail
  rw [Jh];obtain ⟨z0,z1⟩:=@KP (wrap64 (z+y));have hv3:=hv2.out;first|rw [hgd3.out] at hv3|rw [hgd4.out] at hv3
  have hv4:=Lib.hid hv3;clear hv2 hv3 hgd3 hgd4;generalize wrap64 (z+y) % 256=x at *;go_wp2
  go_ret
  refine ⟨by rw [hv4.out];rfl,⟨(m:Int)+1,h2,by omega,by omega,hr2.out,Xr.set_ (vs:=[.slice (some ⟨b,off,none⟩) bs.length c,.int .i64 (m:Int),.int .i64 h2]) ?_ 1 _⟩,O1.trans ?_⟩
  ·exact T1
  ·exact (ZJ.drewN (g:=g) (Zs.refl w1 _) _).trans (ZJ.set_ 1 _)
 ·rw [if_neg hlt] at hv hr;simp only at hr hv;have hv2:=Lib.hid hv;have hr2:=Lib.hid hr;clear hv hr;go_big_quiet (fail)
  go_upto_region 3 with fail
  rw [Jh];obtain ⟨z0,z1⟩:=@KP (bits BinOp.xor IntKind.i64 (h2 / 8589934592) (h2 / 35184372088832));generalize (bits BinOp.xor IntKind.i64 (h2 / 8589934592) (h2 / 35184372088832)) % 256=z at *;go_big_quiet (fail)
  go_wp2
  go_ret
  refine ⟨by rw [hv2.out];rfl,⟨i,h2,i0,i1,hr2.out,T1⟩,O1.trans ?_⟩;exact ZJ.drewN (g:=g) (Zs.refl w1 _) _
theorem Yy (bs:List Int) (B:Option Addr) (c g:Nat) (m:Int) (sq:Nat->Int) (k:Nat) (w:World) (h1:1<=m) (h2:m<=256) (hn:bs.length<=1048576) (hin:∀ y∈bs,InB y) (hs:Sl 1 Jw w B bs) (hc:Yo w g B c bs sq k) (hap:∀ b off,B=some ⟨b,off,none⟩->0<bs.length->b≠g) :
 Calls Tryz.prog 92 #[.pointer (some ⟨g,0,none⟩),.int .i64 m] w λ e w'=>e=.returned (.int .i64 (sq k % m))/\Yo w' g B c bs sq (k+1)/\ZJ w w' g:=by
 have k1:=curByteQ_c bs B c g sq k w hn hin hs hc hap;obtain ⟨x0,x1⟩:=hc.bd 0;rw [Nat.add_zero] at x0 x1;have d0:((m:Int) == 0)=false:=by simp;omega
 have d1:((m:Int) != 0)=true:=by simp;omega
 have d2:((m:Int) == -1)=false:=by simp;omega
 clear hin hs hc hap;go_enter Tryz.func92,Tryz.ntmps92
 go_wp2_with (fail)
 refine k1.mono ?_;rintro e w1 ⟨rfl,C1,O1⟩;go_wp2
 go_ret
 exact ⟨rfl,C1,O1⟩
theorem curOnceQ_c (bs:List Int) (B:Option Addr) (c g:Nat) (m:Int) (sq:Nat->Int) (k:Nat) (w:World) (h1:1<=m) (h2:m<=256) (hn:bs.length<=1048576) (hin:∀ y∈bs,InB y) (hs:Sl 1 Jw w B bs) (hc:Yo w g B c bs sq k) (hap:∀ b off,B=some ⟨b,off,none⟩->0<bs.length->b≠g) :
 Calls Tryz.prog 181 #[.pointer (some ⟨g,0,none⟩),.int .i64 m] w λ e w'=>e=.returned (.bool (sq k % m == 0))/\Yo w' g B c bs sq (k+1)/\ZJ w w' g:=by
 have k1:=Yy bs B c g m sq k w h1 h2 hn hin hs hc hap;clear hin hs hc hap;generalize sq k % m=x at *;go_enter Tryz.func181,Tryz.ntmps181
 go_wp2_with (fail)
 refine k1.mono ?_;rintro e w1 ⟨rfl,C1,O1⟩;go_wp2
 go_ret
 exact ⟨rfl,C1,O1⟩
theorem curPickQ_c (bs:List Int) (B:Option Addr) (c g:Nat) (l:List Int) (A:Option Addr) (d:Nat) (sq:Nat->Int) (k:Nat) (w:World) (h1:1<=l.length) (h2:l.length<=256) (hn:bs.length<=1048576) (hin:∀ y∈bs,InB y) (hs:Sl 1 Jw w B bs) (hc:Yo w g B c bs sq k) (hap:∀ b off,B=some ⟨b,off,none⟩->0<bs.length->b≠g) (hl:Sl 1 JA w A l) (hap2:∀ b off,A=some ⟨b,off,none⟩->0<l.length->b≠g) :
 Calls Tryz.prog 179 #[.pointer (some ⟨g,0,none⟩),.slice A l.length d] w λ e w'=>e=.returned (.int .i64 (l.getD (sq k % (l.length:Int)).toNat 0))/\Yo w' g B c bs sq (k+1)/\ZJ w w' g:=by
 have k1:=Yy bs B c g (l.length:Int) sq k w (by omega) (by omega) hn hin hs hc hap;obtain ⟨m,hm⟩:=Int.eq_ofNat_of_zero_le (Int.emod_nonneg (sq k) (show (l.length:Int)≠0 by omega));have hlt:m<l.length:=by
  have:=Int.emod_lt_of_pos (sq k) (show (0:Int)<(l.length:Int) by omega);omega
 rw [hm] at k1;have hm2:=Lib.hid hm;clear hm hin hs hc hap;go_enter Tryz.func179,Tryz.ntmps179
 go_wp2_with (fail)
 refine k1.mono ?_;rintro e w1 ⟨rfl,C1,O1⟩;obtain ⟨b,off,hA,hblt,hcell⟩:=(hl.farG O1 hap2).at_ hlt;have g0:=hcell 0 _ rfl;subst hA;simp only [Nat.mul_one,Nat.add_zero] at g0;clear hcell k1;go_wp2
 go_ret
 refine ⟨?_,C1,O1⟩;rw [hm2.out];simp [List.getD_eq_getElem?_getD,hlt]
end Go.Proofs.YtabfdkpdppemaaaGreat
