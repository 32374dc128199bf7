/-
 The drawing of numbers from bytes, each as a value that the bytes fix: the sequence of a cursor.
 Conditions: at most 2^20 bytes.
-/
import Derived.Test.YtbekjpkcicjcgaaGreatMark5
import Derived.Laws.StructEq
set_option maxHeartbeats 4000000
namespace Go.Proofs.YtbekjpkcicjcgaaGreat
open Go.RowKit
def cNext (bs:List Int) (s:Int × Int):Int × (Int × Int) :=
 if s.1<bs.length then ((wrap64 ((bits BinOp.xor IntKind.i64 ((wrap64 (wrap64 (s.2*6364136223846793005)+1442695040888963407)) / 8589934592) ((wrap64 (wrap64 (s.2*6364136223846793005)+1442695040888963407)) / 35184372088832)) % 256+bs.getD s.1.toNat 0)) % 256,s.1+1,wrap64 (wrap64 (s.2*6364136223846793005)+1442695040888963407))
 else ((bits BinOp.xor IntKind.i64 ((wrap64 (wrap64 (s.2*6364136223846793005)+1442695040888963407)) / 8589934592) ((wrap64 (wrap64 (s.2*6364136223846793005)+1442695040888963407)) / 35184372088832)) % 256,s.1,wrap64 (wrap64 (s.2*6364136223846793005)+1442695040888963407))
def cIter (bs:List Int):Nat->Int × Int->Int × Int
 | 0,s=>s
 | n+1,s=>cIter bs n (cNext bs s).2
def cSeq (bs:List Int) (s:Int × Int) (j:Nat):Int:=(cNext bs (cIter bs j s)).1
theorem cNext_bd (bs:List Int) (s:Int × Int):0<=(cNext bs s).1/\(cNext bs s).1<=255:=by
 unfold cNext;split
 ·exact JS
 ·exact JS
def Yq (w:World) (g:Nat) (B:Option Addr) (c:Nat) (bs:List Int) (sq:Nat->Int) (k:Nat):Prop:=∃ i h:Int,0<=i/\i<=(bs.length:Int)/\(∀ j,sq (k+j)=cSeq bs (i,h) j)/\Xq w g 131 [Sv B bs.length c,Vi i,Vi h]
theorem Yq.of {w:World} {g:Nat} {B:Option Addr} {c:Nat} {bs:List Int} (h:Cur w g B bs.length c):∃ sq,Yq w g B c bs sq 0:=by
 obtain ⟨i,h,i0,i1,T⟩:=h;exact ⟨cSeq bs (i,h),i,h,i0,i1,λ j=>by rw [Nat.zero_add],T⟩
section
variable {w w':World} {g:Nat} {B:Option Addr} {c:Nat} {bs:List Int} {sq:Nat->Int} {k:Nat}
theorem Yq.bd (h:Yq w g B c bs sq k) (j:Nat):0<=sq (k+j)/\sq (k+j)<=255:=by
 obtain ⟨i,h,_,_,hq,_⟩:=h;rw [hq j];exact cNext_bd _ _
theorem Yq.has (h:Yq w g B c bs sq k):∃ vs,Xq w g 131 vs:=by
 obtain ⟨i,h,_,_,_,T⟩:=h;exact ⟨_,T⟩
theorem Yq.lt (h:Yq w g B c bs sq k):g<w.heap.size:=by
 obtain ⟨_,T⟩:=h.has;exact T.lt
theorem Yq.bel (h:Yq w g B c bs sq k) (hb:Below w.heap.size w w'):Yq w' g B c bs sq k:=by
 obtain ⟨i,h,a,b,d,T⟩:=h;exact ⟨i,h,a,b,d,T.bel hb⟩
theorem Yq.oth {g' T':Nat} {vs':List Value} (h:Yq w g B c bs sq k) (hT:Xq w g' T' vs') (hne:T'≠131) (us:List Value) (o:Nat):Yq (w.setCells g' o us) g B c bs sq k:=by
 obtain ⟨i,h,a,b,d,T⟩:=h;exact ⟨i,h,a,b,d,T.other (T.ne hT (λ e=>hne e.symm)) us o⟩
theorem Yq.kp {M:List Nat} (h:Yq w g B c bs sq k) (hk:Kp M w w') (hg:g ∉ M):Yq w' g B c bs sq k:=by
 obtain ⟨i,h,a,b,d,T⟩:=h;exact ⟨i,h,a,b,d,T.kp hk hg⟩
theorem Yq.shift (h:Yq w g B c bs sq k):Yq w g B c bs (λ j=>sq (k+j)) 0:=by
 obtain ⟨i,h,a,b,d,T⟩:=h;exact ⟨i,h,a,b,λ j=>by rw [Nat.zero_add];exact d j,T⟩
end
set_option maxRecDepth 100000 in
theorem curByteQ_c (bs:List Int) (B:Option Addr) (c g:Nat) (sq:Nat->Int) (k:Nat) (w:World) (hn:bs.length<=1048576) (hin:∀ y∈bs,InB y) (hs:Sl 1 byteC w B bs) (hc:Yq w g B c bs sq k) (hap:∀ b off,B=some ⟨b,off,none⟩->0<bs.length->b≠g) :
 Calls Tryz.prog 90 #[.pointer (some ⟨g,0,none⟩)] w λ e w'=>e=.returned (.int .i64 (sq k))/\Yq w' g B c bs sq (k+1)/\KA w w' g:=by
 obtain ⟨i,h,i0,i1,hq,HT⟩:=hc;have hv:sq k=(cNext bs (i,h)).1:=hq 0;have hr:∀ j,sq (k+1+j)=cSeq bs (cNext bs (i,h)).2 j:=λ j=>by
  have:=hq (j+1);rw [show k+1+j=k+(j+1) by omega];exact this
 clear hq;have HH:=HT.has;obtain ⟨cHH_0,fHH_0⟩:=HH.2 0 _ rfl;obtain ⟨cHH_1,fHH_1⟩:=HH.2 1 _ rfl;obtain ⟨cHH_2,fHH_2⟩:=HH.2 2 _ rfl;have lg:=HH.1;unfold cNext at hv hr;simp only at hv hr;go_enter Tryz.func90,Tryz.ntmps90
 go_upto_region 2 with fail
 generalize wrap64 (wrap64 (h*6364136223846793005)+1442695040888963407)=h2 at hv hr ⊢;have T1:Xq (w.setCell ⟨g,2,none⟩ (.int .i64 h2)) g 131 [.slice B bs.length c,.int .i64 i,.int .i64 h2]:=HT.set_ 2 _;have O1:KA w (w.setCell ⟨g,2,none⟩ (.int .i64 h2)) g:=KA.set_ 2 _;have S1:=hs.farG O1 hap;clear HH cHH_0 cHH_1 cHH_2 fHH_0 fHH_1 fHH_2 lg HT hs;generalize w.setCell ⟨g,2,none⟩ (.int .i64 h2)=w1 at *;have H1:=T1.has;obtain ⟨cH1_0,fH1_0⟩:=H1.2 0 _ rfl;obtain ⟨cH1_1,fH1_1⟩:=H1.2 1 _ rfl;obtain ⟨cH1_2,fH1_2⟩:=H1.2 2 _ rfl;have lg:=H1.1;by_cases hlt:i<(bs.length:Int)
 ·obtain ⟨m,rfl⟩:=Int.eq_ofNat_of_zero_le i0;have hk:m<bs.length:=Oz
  rw [if_pos hlt] at hv hr;simp only at hr hv;have hgd:bs.getD (m:Int).toNat 0=bs[m]:=by
   rw [show (m:Int).toNat=m from rfl];simp [List.getD_eq_getElem?_getD,hk]
  have hgd2:bs.getD (Int.ofNat m).toNat 0=bs[m]:=hgd;have hv2:=Lib.hid hv;have hr2:=Lib.hid hr;clear hv hr;obtain ⟨b,off,hB,hblt,hcell⟩:=S1.at_ hk;have g0:=hcell 0 _ rfl;have ib:=hin _ (List.getElem_mem hk);have hne:=hap b off hB (by omega);subst hB;simp only [Nat.mul_one,Nat.add_zero] at g0;clear hcell;have hgd3:=Lib.hid hgd;have hgd4:=Lib.hid hgd2;clear hgd hgd2;generalize bs[m]=y at *;obtain ⟨y0,y1⟩:=ib;go_big_quiet (fail)
  go_upto_region 3 with fail
  rw [i64_and255];obtain ⟨z0,z1⟩:=@JS (bits BinOp.xor IntKind.i64 (h2 / 8589934592) (h2 / 35184372088832));generalize (bits BinOp.xor IntKind.i64 (h2 / 8589934592) (h2 / 35184372088832)) % 256=z at *;clear z0 z1;go_big_quiet (fail)
  go_upto_region 4 with fail
  go_big_quiet (fail)
  go_upto_region 5 with fail
  rw [i64_and255];obtain ⟨z0,z1⟩:=@JS (wrap64 (z+y));have hv3:=hv2.out;first|rw [hgd3.out] at hv3|rw [hgd4.out] at hv3
  have hv4:=Lib.hid hv3;clear hv2 hv3 hgd3 hgd4;generalize wrap64 (z+y) % 256=x at *;go_wp2
  go_ret
  refine ⟨by rw [hv4.out];rfl,⟨(m:Int)+1,h2,Oz,Oz,hr2.out,Xq.set_ (vs:=[.slice (some ⟨b,off,none⟩) bs.length c,.int .i64 (m:Int),.int .i64 h2]) ?_ 1 _⟩,O1.trans ?_⟩
  ·exact T1
  ·exact (KA.drewN (g:=g) (Kd.refl w1 _) _).trans (KA.set_ 1 _)
 ·rw [if_neg hlt] at hv hr;simp only at hr hv;have hv2:=Lib.hid hv;have hr2:=Lib.hid hr;clear hv hr;go_big_quiet (fail)
  go_upto_region 3 with fail
  rw [i64_and255];obtain ⟨z0,z1⟩:=@JS (bits BinOp.xor IntKind.i64 (h2 / 8589934592) (h2 / 35184372088832));generalize (bits BinOp.xor IntKind.i64 (h2 / 8589934592) (h2 / 35184372088832)) % 256=z at *;go_big_quiet (fail)
  go_wp2
  go_ret
  refine ⟨by rw [hv2.out];rfl,⟨i,h2,i0,i1,hr2.out,T1⟩,O1.trans ?_⟩;exact KA.drewN (g:=g) (Kd.refl w1 _) _
theorem Yp (bs:List Int) (B:Option Addr) (c g:Nat) (m:Int) (sq:Nat->Int) (k:Nat) (w:World) (h1:1<=m) (h2:m<=256) (hn:bs.length<=1048576) (hin:∀ y∈bs,InB y) (hs:Sl 1 byteC w B bs) (hc:Yq w g B c bs sq k) (hap:∀ b off,B=some ⟨b,off,none⟩->0<bs.length->b≠g) :
 Calls Tryz.prog 34 #[.pointer (some ⟨g,0,none⟩),.int .i64 m] w λ e w'=>e=.returned (.int .i64 (sq k % m))/\Yq w' g B c bs sq (k+1)/\KA w w' g:=by
 have k1:=curByteQ_c bs B c g sq k w hn hin hs hc hap;obtain ⟨x0,x1⟩:=hc.bd 0;rw [Nat.add_zero] at x0 x1;have d0:((m:Int) == 0)=false:=by simp;omega
 have d1:((m:Int) != 0)=true:=by simp;omega
 have d2:((m:Int) == -1)=false:=by simp;omega
 clear hin hs hc hap;go_enter Tryz.func34,Tryz.ntmps34
 go_wp2_with (fail)
 refine k1.mono ?_;rintro e w1 ⟨rfl,C1,O1⟩;go_wp2
 go_ret
 exact ⟨rfl,C1,O1⟩
theorem curOnceQ_c (bs:List Int) (B:Option Addr) (c g:Nat) (m:Int) (sq:Nat->Int) (k:Nat) (w:World) (h1:1<=m) (h2:m<=256) (hn:bs.length<=1048576) (hin:∀ y∈bs,InB y) (hs:Sl 1 byteC w B bs) (hc:Yq w g B c bs sq k) (hap:∀ b off,B=some ⟨b,off,none⟩->0<bs.length->b≠g) :
 Calls Tryz.prog 87 #[.pointer (some ⟨g,0,none⟩),.int .i64 m] w λ e w'=>e=.returned (.bool (sq k % m == 0))/\Yq w' g B c bs sq (k+1)/\KA w w' g:=by
 have k1:=Yp bs B c g m sq k w h1 h2 hn hin hs hc hap;clear hin hs hc hap;generalize sq k % m=x at *;go_enter Tryz.func87,Tryz.ntmps87
 go_wp2_with (fail)
 refine k1.mono ?_;rintro e w1 ⟨rfl,C1,O1⟩;go_wp2
 go_ret
 exact ⟨rfl,C1,O1⟩
theorem curPickQ_c (bs:List Int) (B:Option Addr) (c g:Nat) (l:List Int) (A:Option Addr) (d:Nat) (sq:Nat->Int) (k:Nat) (w:World) (h1:1<=l.length) (h2:l.length<=256) (hn:bs.length<=1048576) (hin:∀ y∈bs,InB y) (hs:Sl 1 byteC w B bs) (hc:Yq w g B c bs sq k) (hap:∀ b off,B=some ⟨b,off,none⟩->0<bs.length->b≠g) (hl:Sl 1 Kk w A l) (hap2:∀ b off,A=some ⟨b,off,none⟩->0<l.length->b≠g) :
 Calls Tryz.prog 85 #[.pointer (some ⟨g,0,none⟩),.slice A l.length d] w λ e w'=>e=.returned (.int .i64 (l.getD (sq k % (l.length:Int)).toNat 0))/\Yq w' g B c bs sq (k+1)/\KA w w' g:=by
 have k1:=Yp bs B c g (l.length:Int) sq k w Oz Oz hn hin hs hc hap;obtain ⟨m,hm⟩:=Int.eq_ofNat_of_zero_le (Int.emod_nonneg (sq k) (show (l.length:Int)≠0 by omega));have hlt:m<l.length:=by
  have:=Int.emod_lt_of_pos (sq k) (show (0:Int)<(l.length:Int) by omega);omega
 rw [hm] at k1;have hm2:=Lib.hid hm;clear hm hin hs hc hap;go_enter Tryz.func85,Tryz.ntmps85
 go_wp2_with (fail)
 refine k1.mono ?_;rintro e w1 ⟨rfl,C1,O1⟩;obtain ⟨b,off,hA,hblt,hcell⟩:=(hl.farG O1 hap2).at_ hlt;have g0:=hcell 0 _ rfl;subst hA;simp only [Nat.mul_one,Nat.add_zero] at g0;clear hcell k1;go_wp2
 go_ret
 refine ⟨?_,C1,O1⟩;rw [hm2.out];simp [List.getD_eq_getElem?_getD,hlt]
theorem XG.farG {α:Type} {T sz base g T':Nat} {enc:α->List Value} {w w':World} {v:Value} {xs:List α} {vs:List Value} (h:XG T sz enc w base v xs) (hc:Xq w g T' vs) (hne:T≠T') (ho:KA w w' g):XG T sz enc w' base v xs:=by
 obtain ⟨A,c,rfl,o⟩:=h;have N:XG T sz enc w base (Sv A xs.length c) xs:=⟨A,c,rfl,o⟩;refine N.far ho (λ b hb p q hp hq=>?_);rw [List.mem_singleton] at hb;subst hb;cases hq;exact N.typ hc hne p hp
section
variable {a:Act} {w:World} {N:Act->World->Prop} {Q:Exit->Act->World->Prop} {o:Oper} {x y:Operand} {T':TypeId}
theorem wp_neR (h:o.op=.binOp .neq 46 x y T') {r s:XU} (ex:a.eval x=XY r) (ey:a.eval y=XY s) (hn:N (a.put o.dst (Bv (!decide (r=s)))) w):o.wp Tryz.prog a w N Q:=by
 refine opv ?_ hn;unfold execOp;rw [h];simp only;rw [ex,ey];obtain ⟨a,b⟩:=r;obtain ⟨c,d⟩:=s;simp [go_sem];by_cases h1:a=c<;>by_cases h2:b=d<;>simp [h1,h2]
end
def blkLs (L:List Kt):List Nat:=L.flatMap λ a=>blkL a.A
theorem blkLs_in {L:List Kt} {m:Nat} (h:m∈blkLs L):∃ a∈L,∃ p,a.A=some p/\p.block=m:=by
 obtain ⟨a,ha,hm⟩:=List.mem_flatMap.1 h;obtain ⟨p,hp,e⟩:=blkL_in hm;exact ⟨a,ha,p,hp,e⟩
theorem blkLs_mem {L:List Kt} {a:Kt} {p:Addr} (ha:a∈L) (hp:a.A=some p):p.block∈blkLs L :=
 List.mem_flatMap.2 ⟨a,ha,by rw [hp];simp [blkL]⟩
theorem blkLs_nin {L:List Kt} {g:Nat} (h:∀ a∈L,∀ p,a.A=some p->p.block≠g):g ∉ blkLs L:=by
 intro hm;obtain ⟨a,ha,p,hp,e⟩:=blkLs_in hm;exact h a ha p hp e
theorem Kd.kp {L:List Kt} {w w':World} (h:Kd w w' L):Kp (blkLs L) w w' :=
 ⟨⟨h.os,h.tape,h.output,h.size,λ k hk=>absurd hk (Nat.not_lt_zero _)⟩,λ g hg hm=>h.block g hg (λ a ha p hp e=>hm (by rw [<- e];exact blkLs_mem ha hp))⟩
theorem Kp.only {L:List Kt} {w w':World} (h:Kp (blkLs L) w w'):Kd w w' L :=
 ⟨h.base.os,h.base.tape,h.base.output,h.base.size,λ k hk hn=>h.block k hk (blkLs_nin hn)⟩
theorem Kp.onlyG {w w':World} {g:Nat} (h:Kp [g] w w'):KA w w' g:=Kp.only (L:=[⟨some ⟨g,0,none⟩,0⟩]) h
theorem KA.kpG {w w':World} {g:Nat} (h:KA w w' g):Kp [g] w w':=Kd.kp h
theorem XG.farK {α:Type} {T sz base g T':Nat} {enc:α->List Value} {w w':World} {v:Value} {xs:List α} {vs:List Value} (h:XG T sz enc w base v xs) (hc:Xq w g T' vs) (hne:T≠T') (k:Kp [g] w w'):XG T sz enc w' base v xs:=h.farG hc hne k.onlyG
theorem KH {T base g g' T':Nat} {w w':World} {vs vs':List Value} (h:Xq w g' T vs/\base<=g') (hc:Xq w g T' vs') (hne:T≠T') (k:Kp [g] w w'):Xq w' g' T vs/\base<=g' :=
 ⟨h.1.kp k (λ e=>Xq.ne hc h.1 (λ e=>hne e.symm) (List.mem_singleton.1 e)),h.2⟩
section
variable {W w w':World} {a:Act} {s T T' g g':Nat} {z vs':List Value} {b:Bool} {C:World->List Value->Prop}
theorem Xq.farK {vs:List Value} (h:Xq w g T vs) (hc:Xq w g' T' vs') (hne:T≠T') (k:Kp [g'] w w'):Xq w' g T vs:=h.kp k (λ e=>Xq.ne hc h (λ e=>hne e.symm) (List.mem_singleton.1 e))
theorem X6.farK (h:X6 W a w s T z b C) (hc:Xq w g' T' vs') (hT:T≠T') (k:Kp [g'] w w') (hC:∀ vs,C w vs->C w' vs):X6 W a w' s T z b C:=by
 obtain ⟨g,e,hg2,y,n⟩:=h;exact ⟨g,e,hg2,λ h=>(y h).farK hc hT k,λ h=>by obtain ⟨vs,h1,h2⟩:=n h;exact ⟨vs,h1.farK hc hT k,hC vs h2⟩⟩
theorem XW.farK (h:XW w g T z b C) (hc:Xq w g' T' vs') (hT:T≠T') (k:Kp [g'] w w') (hC:∀ vs,C w vs->C w' vs):XW w' g T z b C :=
 ⟨λ q=>(h.1 q).farK hc hT k,λ q=>by obtain ⟨vs,h1,h2⟩:=h.2 q;exact ⟨vs,h1.farK hc hT k,hC vs h2⟩⟩
end
theorem Sl.kpG {α:Type} {sz:Nat} {enc:α->List Value} {w w':World} {A:Option Addr} {xs:List α} {g:Nat} (h:Sl sz enc w A xs) (k:Kp [g] w w') (ha:∀ b off,A=some ⟨b,off,none⟩->0<xs.length->b≠g):Sl sz enc w' A xs:=h.farG k.onlyG ha
theorem Yq.at {w:World} {g:Nat} {B:Option Addr} {c:Nat} {bs:List Int} {sq:Nat->Int} {i j:Nat} (h:Yq w g B c bs sq i) (e:i=j):Yq w g B c bs sq j:=e ▸ h
theorem YA {b:Bool} (h:b=true):b.toNat=1:=by rw [h];rfl
theorem Zt {b:Bool} (h:b=false):b.toNat=0:=by rw [h];rfl
structure Zg (w:World) (base:Nat) (x:XD) (a:Y7):Prop where
 map:XG 3 1 Kk w base (Sv a.map.A (List.length x.map) a.map.c) x.map
 noise:XG 136 3 Xe w base (Sv a.noise.A (List.length x.noise) a.noise.c) x.noise
 limits:XG 136 3 Xe w base (Sv a.limits.A (List.length x.limits) a.limits.c) x.limits
section
variable {w w':World} {base:Nat} {x:XD} {a:Y7}
theorem Zg.sl (h:Zg w base x a):ZX w x a:=⟨h.map.out ZI,⟨h.noise.out Xx⟩,⟨h.limits.out Xx⟩⟩
theorem Zg.nil (h:Zg w base x a):Jl a:=⟨h.noise.nilcap,h.limits.nilcap⟩
theorem Zg.below {B:Nat} (h:Zg w base x a) (hb:Below B w w') (hB:w.heap.size<=B):Zg w' base x a:=⟨h.map.below hb hB,h.noise.below hb hB,h.limits.below hb hB⟩
theorem Zg.mono {base':Nat} (h:Zg w base x a) (hb:base'<=base):Zg w base' x a:=⟨h.map.mono hb,h.noise.mono hb,h.limits.mono hb⟩
theorem Zg.farK {g T':Nat} {vs:List Value} (h:Zg w base x a) (hc:Xq w g T' vs) (h1:3≠T') (h2:136≠T') (k:Kp [g] w w'):Zg w' base x a:=⟨h.map.farK hc h1 k,h.noise.farK hc h2 k,h.limits.farK hc h2 k⟩
theorem Zg.kpT {M:List Nat} (h:Zg w base x a) (k:Kp M w w') (hM:∀ m∈M,m<base):Zg w' base x a :=
 ⟨h.map.kp k (hi:=w.heap.size) (λ p hp=>(h.map.blk p hp).2) Xy (λ m hm=>.inl (hM m hm)),h.noise.kp k (hi:=w.heap.size) (λ p hp=>(h.noise.blk p hp).2) Xy (λ m hm=>.inl (hM m hm)),h.limits.kp k (hi:=w.heap.size) (λ p hp=>(h.limits.blk p hp).2) Xy (λ m hm=>.inl (hM m hm))⟩
theorem Zg.otherT {g T':Nat} {vs:List Value} (h:Zg w base x a) (hc:Xq w g T' vs) (h1:3≠T') (h2:136≠T') (us:List Value) (o:Nat):Zg (w.setCells g o us) base x a :=
 ⟨h.map.otherC (h.map.typ hc h1) us o,h.noise.otherC (h.noise.typ hc h2) us o,h.limits.otherC (h.limits.typ hc h2) us o⟩
end
end Go.Proofs.YtbekjpkcicjcgaaGreat
