/-
 The drawing of numbers from bytes, of the reference's verifier: what is drawn lies in its bounds, and only the cursor changes.
 Conditions: at most 2^20 bytes.
-/
import Derived.Maps.AppendAt
import Derived.Test.YtabfdkpdppemaaaGreatGrXb
set_option maxHeartbeats 4000000
set_option maxRecDepth 100000
namespace Go.Proofs.YtabfdkpdppemaaaGreat
open Go.RowKit
theorem i64_and255 (n:Int):bits .and .i64 n 255=n % 256:=by
 have h255:(BitVec.ofInt 64 255).toNat=2 ^ 8-1:=by decide
 have key:(BitVec.ofInt 64 n &&& BitVec.ofInt 64 255).toNat=(n % ((2 ^ 64:Nat):Int)).toNat % 2 ^ 8:=by
  rw [BitVec.toNat_and,BitVec.toNat_ofInt,h255,Nat.and_two_pow_sub_one_eq_mod]
 show IntKind.i64.wrap ((BitVec.ofInt 64 n &&& BitVec.ofInt 64 255).toNat:Nat)=n % 256;rw [key,IntKind.wrap_i64];omega
def Cur (w:World) (g:Nat) (B:Option Addr) (n c:Nat):Prop:=∃ i h:Int,0<=i/\i<=(n:Int)/\Xn w g 221 [.slice B n c,.int .i64 i,.int .i64 h]
abbrev KX (w w':World) (g:Nat):Prop:=KA w w' [⟨some ⟨g,0,none⟩,0⟩]
theorem KX.ne {w w':World} {g k:Nat} (h:KX w w' g) (hk:k<w.heap.size) (hn:g≠k):w'.heap[k]? = w.heap[k]?:=h.block k hk (λ a ha p hp=>by
 rw [List.mem_singleton] at ha;subst ha;cases hp;exact hn)
theorem KX.set_ {w:World} {g:Nat} (j:Nat) (u:Value):KX w (w.setCell ⟨g,j,none⟩ u) g:=KA.setCells [u] j w (KA.refl _ _)
theorem Xn.far {w w':World} {g k T:Nat} {vs:List Value} (h:Xn w k T vs) (ho:KX w w' g) (hn:g≠k):Xn w' k T vs:=(ho.ne (X5 h) hn).trans h
theorem Sl.farG {α:Type} {sz:Nat} {enc:α->List Value} {w w':World} {A:Option Addr} {xs:List α} {g:Nat} (h:Sl sz enc w A xs) (ho:KX w w' g) (ha:∀ b off,A=some ⟨b,off,none⟩->0<xs.length->b≠g):Sl sz enc w' A xs:=by
 intro hn;obtain ⟨b,off,rfl,hlt,hc⟩:=h hn;refine ⟨b,off,rfl,Nat.lt_of_lt_of_le hlt ho.size,λ i hi j u hu=>?_⟩;exact (World.cell?_of_block (w:=w) (a:=⟨b,off+i*sz+j,none⟩) (ho.ne hlt (λ e=>ha b off rfl hn e.symm))).trans (hc i hi j u hu)
theorem KX.drewN {w w':World} {g:Nat} (h:KX w w' g) (n:Nat):KX w (w'.drewN n) g:=h.trans (KA.of_below (ZJ bR n) _)
theorem quiet_and {x:Int}:0<=x % 256/\x % 256<=255:=by omega
theorem curNew_c (bs:List Int) (B:Option Addr) (c:Nat) (w:World) (hn:bs.length<=1048576) (hin:∀ y∈bs,InB y) (hs:Sl 1 byteC w B bs) :
 Calls Tryz.prog 90 #[.slice B bs.length c] w λ e w'=>∃ g:Nat,e=.returned (.pointer (some ⟨g,0,none⟩))/\w.heap.size<=g/\Cur w' g B bs.length c/\Below w.heap.size w w':=by
 go_enter Tryz.func90,Tryz.ntmps90
 go_wp2
 go_loopw [3,4] (λ hv i wr=>∃ k:Nat,∃ h:Int,k<=bs.length/\i=.int .i64 k/\hv=.int .i64 h/\Below w.heap.size w wr) (λ _ i _=>bs.length-(intOf i).toNat)
 case atStart=>exact ⟨0,_,Nat.zero_le _,rfl,rfl,Below.refl _ _⟩
 case round =>
  obtain ⟨k,h,hk,rfl,rfl,hbw⟩:=hrel;by_cases hlt:k<bs.length
  ·by_cases h4:(k:Int)<4000
   ·obtain ⟨b,off,rfl,hblt,hc⟩:=(hs.below hbw).at_ hlt;have g0:=hc 0 _ rfl;simp only [Nat.add_zero,Nat.mul_one] at g0;obtain ⟨y0,y1⟩:=hin _ (List.getElem_mem hlt);clear hc;generalize bs[k]=y at *;go_wp2
    go_roundw
    case rel=>exact ⟨k+1,_,by omega,by go_num,rfl,hbw⟩
    case measure=>simp [intOf];omega
   ·go_wp2
    go_ret
    refine ⟨_,rfl,hbw.size,⟨0,_,Int.le_refl _,by omega,Xn.new wr [.slice B bs.length c,.int .i64 0,.int .i64 h] 221⟩,Xc hbw _⟩
  ·go_wp2
   go_ret
   refine ⟨_,rfl,hbw.size,⟨0,_,Int.le_refl _,by omega,Xn.new wr [.slice B bs.length c,.int .i64 0,.int .i64 h] 221⟩,Xc hbw _⟩
theorem XH.kpN {α:Type} {T sz base n c:Nat} {enc:α->List Value} {M:List Nat} {w w':World} {A:Option Addr} {xs:List α} (h:XH T sz enc w base (.slice A n c) xs) (k:Kp M w w') (hA:∀ p,A=some p->p.block ∉ M):XH T sz enc w' base (.slice A n c) xs:=by
 obtain ⟨A',cap,e,h1,h2⟩:=h;refine ⟨A',cap,e,h1, ?_⟩;rcases h2 with h2|⟨q,cap',cur,hv,hg,hh,r⟩
 ·exact .inl h2
 ·have hA2:A=some ⟨q,0,none⟩:=by injection hv
  exact .inr ⟨q,cap',cur,hv,hg,(k.block q (X5 hh) (hA _ hA2)).trans hh,r⟩
theorem apart2 {A B:Ks} (h:∀ p q,A.A=some p->B.A=some q->p.block≠q.block):List.Pairwise Apart [A,B]:=by
 simp only [List.pairwise_cons,List.mem_cons,List.not_mem_nil,or_false,forall_eq,List.Pairwise.nil,and_true];exact ⟨h,λ _ hf=>hf.elim⟩
theorem Jp.nil (w:World) (base:Nat):Jp w base ⟨[],[]⟩ ⟨⟨none,0⟩,⟨none,0⟩⟩ :=
 ⟨XH.nilN _ _ _ _ _,XH.nilN _ _ _ _ _,apart2 (λ p q hp _=>by cases hp)⟩
theorem K9 {g:Nat} {L M:List Nat} (h:g ∉ L) (h2:g ∉ M):g ∉ L++M:=λ hm=>(List.mem_append.1 hm).elim h h2
theorem XH.farG {α:Type} {T sz base g T':Nat} {enc:α->List Value} {w w':World} {v:Value} {xs:List α} {vs:List Value} (h:XH T sz enc w base v xs) (hc:Xn w g T' vs) (hne:T≠T') (ho:KX w w' g):XH T sz enc w' base v xs:=by
 obtain ⟨A,c,rfl,o⟩:=h;have N:XH T sz enc w base (.slice A xs.length c) xs:=⟨A,c,rfl,o⟩;refine N.far ho (λ b hb p q hp hq=>?_);rw [List.mem_singleton] at hb;subst hb;cases hq;exact N.typ hc hne p hp
theorem rp_eq {r:Xv} {p:List Half} (hr:XK r=true) (hp:Xe p=true):rpOk r p=ZH (Kg r.noise) p/\JQ r p=ZY r p:=by
 unfold rpOk JQ ZY;rw [hr,hp,if_pos ⟨rfl,rfl⟩];exact ⟨rfl,rfl⟩
def cNext (bs:List Int) (s:Int × Int):Int × (Int × Int) :=
 if s.1<bs.length then ((wrap64 ((bits BinOp.xor IntKind.i64 ((wrap64 (wrap64 (s.2*6364136223846793005)+1442695040888963407)) / 8589934592) ((wrap64 (wrap64 (s.2*6364136223846793005)+1442695040888963407)) / 35184372088832)) % 256+bs.getD s.1.toNat 0)) % 256,s.1+1,wrap64 (wrap64 (s.2*6364136223846793005)+1442695040888963407))
 else ((bits BinOp.xor IntKind.i64 ((wrap64 (wrap64 (s.2*6364136223846793005)+1442695040888963407)) / 8589934592) ((wrap64 (wrap64 (s.2*6364136223846793005)+1442695040888963407)) / 35184372088832)) % 256,s.1,wrap64 (wrap64 (s.2*6364136223846793005)+1442695040888963407))
def cIter (bs:List Int):Nat->Int × Int->Int × Int
 | 0,s=>s
 | n+1,s=>cIter bs n (cNext bs s).2
def cSeq (bs:List Int) (s:Int × Int) (j:Nat):Int:=(cNext bs (cIter bs j s)).1
theorem cNext_bd (bs:List Int) (s:Int × Int):0<=(cNext bs s).1/\(cNext bs s).1<=255:=by
 unfold cNext;split
 ·exact quiet_and
 ·exact quiet_and
def Yn (w:World) (g:Nat) (B:Option Addr) (c:Nat) (bs:List Int) (sq:Nat->Int) (k:Nat):Prop:=∃ i h:Int,0<=i/\i<=(bs.length:Int)/\(∀ j,sq (k+j)=cSeq bs (i,h) j)/\Xn w g 221 [.slice B bs.length c,.int .i64 i,.int .i64 h]
theorem Yn.of {w:World} {g:Nat} {B:Option Addr} {c:Nat} {bs:List Int} (h:Cur w g B bs.length c):∃ sq,Yn w g B c bs sq 0:=by
 obtain ⟨i,h,i0,i1,T⟩:=h;exact ⟨cSeq bs (i,h),i,h,i0,i1,λ j=>by rw [Nat.zero_add],T⟩
section
variable {w w':World} {g:Nat} {B:Option Addr} {c:Nat} {bs:List Int} {sq:Nat->Int} {k:Nat}
theorem Yn.bd (h:Yn w g B c bs sq k) (j:Nat):0<=sq (k+j)/\sq (k+j)<=255:=by
 obtain ⟨i,h,_,_,hq,_⟩:=h;rw [hq j];exact cNext_bd _ _
theorem Yn.has (h:Yn w g B c bs sq k):∃ vs,Xn w g 221 vs:=by
 obtain ⟨i,h,_,_,_,T⟩:=h;exact ⟨_,T⟩
theorem Yn.lt (h:Yn w g B c bs sq k):g<w.heap.size:=by
 obtain ⟨_,T⟩:=h.has;exact T.lt
theorem Yn.bel (h:Yn w g B c bs sq k) (hb:Below w.heap.size w w'):Yn w' g B c bs sq k:=by
 obtain ⟨i,h,a,b,d,T⟩:=h;exact ⟨i,h,a,b,d,T.bel hb⟩
theorem Yn.oth {g' T':Nat} {vs':List Value} (h:Yn w g B c bs sq k) (hT:Xn w g' T' vs') (hne:T'≠221) (us:List Value) (o:Nat):Yn (w.setCells g' o us) g B c bs sq k:=by
 obtain ⟨i,h,a,b,d,T⟩:=h;exact ⟨i,h,a,b,d,T.other (T.ne hT (λ e=>hne e.symm)) us o⟩
theorem Yn.kp {M:List Nat} (h:Yn w g B c bs sq k) (hk:Kp M w w') (hg:g ∉ M):Yn w' g B c bs sq k:=by
 obtain ⟨i,h,a,b,d,T⟩:=h;exact ⟨i,h,a,b,d,T.kp hk hg⟩
theorem Yn.shift (h:Yn w g B c bs sq k):Yn w g B c bs (λ j=>sq (k+j)) 0:=by
 obtain ⟨i,h,a,b,d,T⟩:=h;exact ⟨i,h,a,b,λ j=>by rw [Nat.zero_add];exact d j,T⟩
end
theorem curByteQ_c (bs:List Int) (B:Option Addr) (c g:Nat) (sq:Nat->Int) (k:Nat) (w:World) (hn:bs.length<=1048576) (hin:∀ y∈bs,InB y) (hs:Sl 1 byteC w B bs) (hc:Yn w g B c bs sq k) (hap:∀ b off,B=some ⟨b,off,none⟩->0<bs.length->b≠g) :
 Calls Tryz.prog 132 #[.pointer (some ⟨g,0,none⟩)] w λ e w'=>e=.returned (.int .i64 (sq k))/\Yn w' g B c bs sq (k+1)/\KX w w' g:=by
 obtain ⟨i,h,i0,i1,hq,HT⟩:=hc;have hv:sq k=(cNext bs (i,h)).1:=hq 0;have hr:∀ j,sq (k+1+j)=cSeq bs (cNext bs (i,h)).2 j:=λ j=>by
  have:=hq (j+1);rw [show k+1+j=k+(j+1) by omega];exact this
 clear hq;have HH:=HT.has;obtain ⟨cHH_0,fHH_0⟩:=HH.2 0 _ rfl;obtain ⟨cHH_1,fHH_1⟩:=HH.2 1 _ rfl;obtain ⟨cHH_2,fHH_2⟩:=HH.2 2 _ rfl;have lg:=HH.1;unfold cNext at hv hr;simp only at hv hr;go_enter Tryz.func132,Tryz.ntmps132
 go_upto_region 2 with fail
 generalize wrap64 (wrap64 (h*6364136223846793005)+1442695040888963407)=h2 at hv hr ⊢;have T1:Xn (w.setCell ⟨g,2,none⟩ (.int .i64 h2)) g 221 [.slice B bs.length c,.int .i64 i,.int .i64 h2]:=HT.set_ 2 _;have O1:KX w (w.setCell ⟨g,2,none⟩ (.int .i64 h2)) g:=KX.set_ 2 _;have S1:=hs.farG O1 hap;clear HH cHH_0 cHH_1 cHH_2 fHH_0 fHH_1 fHH_2 lg HT hs;generalize w.setCell ⟨g,2,none⟩ (.int .i64 h2)=w1 at *;have H1:=T1.has;obtain ⟨cH1_0,fH1_0⟩:=H1.2 0 _ rfl;obtain ⟨cH1_1,fH1_1⟩:=H1.2 1 _ rfl;obtain ⟨cH1_2,fH1_2⟩:=H1.2 2 _ rfl;have lg:=H1.1;by_cases hlt:i<(bs.length:Int)
 ·obtain ⟨m,rfl⟩:=Int.eq_ofNat_of_zero_le i0;have hk:m<bs.length:=by omega
  rw [if_pos hlt] at hv hr;simp only at hr hv;have hgd:bs.getD (m:Int).toNat 0=bs[m]:=by
   rw [show (m:Int).toNat=m from rfl];simp [List.getD_eq_getElem?_getD,hk]
  have hgd2:bs.getD (Int.ofNat m).toNat 0=bs[m]:=hgd;have hv2:=Lib.hid hv;have hr2:=Lib.hid hr;clear hv hr;obtain ⟨b,off,hB,hblt,hcell⟩:=S1.at_ hk;have g0:=hcell 0 _ rfl;have ib:=hin _ (List.getElem_mem hk);have hne:=hap b off hB (by omega);subst hB;simp only [Nat.mul_one,Nat.add_zero] at g0;clear hcell;have hgd3:=Lib.hid hgd;have hgd4:=Lib.hid hgd2;clear hgd hgd2;generalize bs[m]=y at *;obtain ⟨y0,y1⟩:=ib;go_big_quiet (fail)
  go_upto_region 3 with fail
  rw [i64_and255];obtain ⟨z0,z1⟩:=@quiet_and (bits BinOp.xor IntKind.i64 (h2 / 8589934592) (h2 / 35184372088832));generalize (bits BinOp.xor IntKind.i64 (h2 / 8589934592) (h2 / 35184372088832)) % 256=z at *;clear z0 z1;go_big_quiet (fail)
  go_upto_region 4 with fail
  go_big_quiet (fail)
  go_upto_region 5 with fail
  rw [i64_and255];obtain ⟨z0,z1⟩:=@quiet_and (wrap64 (z+y));have hv3:=hv2.out;first|rw [hgd3.out] at hv3|rw [hgd4.out] at hv3
  have hv4:=Lib.hid hv3;clear hv2 hv3 hgd3 hgd4;generalize wrap64 (z+y) % 256=x at *;go_wp2
  go_ret
  refine ⟨by rw [hv4.out];rfl,⟨(m:Int)+1,h2,by omega,by omega,hr2.out,Xn.set_ (vs:=[.slice (some ⟨b,off,none⟩) bs.length c,.int .i64 (m:Int),.int .i64 h2]) ?_ 1 _⟩,O1.trans ?_⟩
  ·exact T1
  ·exact (KX.drewN (g:=g) (KA.refl w1 _) _).trans (KX.set_ 1 _)
 ·rw [if_neg hlt] at hv hr;simp only at hr hv;have hv2:=Lib.hid hv;have hr2:=Lib.hid hr;clear hv hr;go_big_quiet (fail)
  go_upto_region 3 with fail
  rw [i64_and255];obtain ⟨z0,z1⟩:=@quiet_and (bits BinOp.xor IntKind.i64 (h2 / 8589934592) (h2 / 35184372088832));generalize (bits BinOp.xor IntKind.i64 (h2 / 8589934592) (h2 / 35184372088832)) % 256=z at *;go_big_quiet (fail)
  go_wp2
  go_ret
  refine ⟨by rw [hv2.out];rfl,⟨i,h2,i0,i1,hr2.out,T1⟩,O1.trans ?_⟩;exact KX.drewN (g:=g) (KA.refl w1 _) _
theorem Yq (bs:List Int) (B:Option Addr) (c g:Nat) (m:Int) (sq:Nat->Int) (k:Nat) (w:World) (h1:1<=m) (h2:m<=256) (hn:bs.length<=1048576) (hin:∀ y∈bs,InB y) (hs:Sl 1 byteC w B bs) (hc:Yn w g B c bs sq k) (hap:∀ b off,B=some ⟨b,off,none⟩->0<bs.length->b≠g) :
 Calls Tryz.prog 92 #[.pointer (some ⟨g,0,none⟩),.int .i64 m] w λ e w'=>e=.returned (.int .i64 (sq k % m))/\Yn w' g B c bs sq (k+1)/\KX w w' g:=by
 have k1:=curByteQ_c bs B c g sq k w hn hin hs hc hap;obtain ⟨x0,x1⟩:=hc.bd 0;rw [Nat.add_zero] at x0 x1;have d0:((m:Int) == 0)=false:=by simp;omega
 have d1:((m:Int) != 0)=true:=by simp;omega
 have d2:((m:Int) == -1)=false:=by simp;omega
 clear hin hs hc hap;go_enter Tryz.func92,Tryz.ntmps92
 go_wp2_with (fail)
 refine k1.mono ?_;rintro e w1 ⟨rfl,C1,O1⟩;go_wp2
 go_ret
 exact ⟨rfl,C1,O1⟩
theorem curOnceQ_c (bs:List Int) (B:Option Addr) (c g:Nat) (m:Int) (sq:Nat->Int) (k:Nat) (w:World) (h1:1<=m) (h2:m<=256) (hn:bs.length<=1048576) (hin:∀ y∈bs,InB y) (hs:Sl 1 byteC w B bs) (hc:Yn w g B c bs sq k) (hap:∀ b off,B=some ⟨b,off,none⟩->0<bs.length->b≠g) :
 Calls Tryz.prog 181 #[.pointer (some ⟨g,0,none⟩),.int .i64 m] w λ e w'=>e=.returned (.bool (sq k % m == 0))/\Yn w' g B c bs sq (k+1)/\KX w w' g:=by
 have k1:=Yq bs B c g m sq k w h1 h2 hn hin hs hc hap;clear hin hs hc hap;generalize sq k % m=x at *;go_enter Tryz.func181,Tryz.ntmps181
 go_wp2_with (fail)
 refine k1.mono ?_;rintro e w1 ⟨rfl,C1,O1⟩;go_wp2
 go_ret
 exact ⟨rfl,C1,O1⟩
theorem curPickQ_c (bs:List Int) (B:Option Addr) (c g:Nat) (l:List Int) (A:Option Addr) (d:Nat) (sq:Nat->Int) (k:Nat) (w:World) (h1:1<=l.length) (h2:l.length<=256) (hn:bs.length<=1048576) (hin:∀ y∈bs,InB y) (hs:Sl 1 byteC w B bs) (hc:Yn w g B c bs sq k) (hap:∀ b off,B=some ⟨b,off,none⟩->0<bs.length->b≠g) (hl:Sl 1 Kf w A l) (hap2:∀ b off,A=some ⟨b,off,none⟩->0<l.length->b≠g) :
 Calls Tryz.prog 179 #[.pointer (some ⟨g,0,none⟩),.slice A l.length d] w λ e w'=>e=.returned (.int .i64 (l.getD (sq k % (l.length:Int)).toNat 0))/\Yn w' g B c bs sq (k+1)/\KX w w' g:=by
 have k1:=Yq bs B c g (l.length:Int) sq k w (by omega) (by omega) hn hin hs hc hap;obtain ⟨m,hm⟩:=Int.eq_ofNat_of_zero_le (Int.emod_nonneg (sq k) (show (l.length:Int)≠0 by omega));have hlt:m<l.length:=by
  have:=Int.emod_lt_of_pos (sq k) (show (0:Int)<(l.length:Int) by omega);omega
 rw [hm] at k1;have hm2:=Lib.hid hm;clear hm hin hs hc hap;go_enter Tryz.func179,Tryz.ntmps179
 go_wp2_with (fail)
 refine k1.mono ?_;rintro e w1 ⟨rfl,C1,O1⟩;obtain ⟨b,off,hA,hblt,hcell⟩:=(hl.farG O1 hap2).at_ hlt;have g0:=hcell 0 _ rfl;subst hA;simp only [Nat.mul_one,Nat.add_zero] at g0;clear hcell k1;go_wp2
 go_ret
 refine ⟨?_,C1,O1⟩;rw [hm2.out];simp [List.getD_eq_getElem?_getD,hlt]
theorem Kp.onlyG {w w':World} {g:Nat} (h:Kp [g] w w'):KX w w' g:=Kp.only (L:=[⟨some ⟨g,0,none⟩,0⟩]) h
theorem KX.kpG {w w':World} {g:Nat} (h:KX w w' g):Kp [g] w w':=KA.kp h
theorem XH.farK {α:Type} {T sz base g T':Nat} {enc:α->List Value} {w w':World} {v:Value} {xs:List α} {vs:List Value} (h:XH T sz enc w base v xs) (hc:Xn w g T' vs) (hne:T≠T') (k:Kp [g] w w'):XH T sz enc w' base v xs:=h.farG hc hne k.onlyG
theorem Ja {T base g g' T':Nat} {w w':World} {vs vs':List Value} (h:Xn w g' T vs/\base<=g') (hc:Xn w g T' vs') (hne:T≠T') (k:Kp [g] w w'):Xn w' g' T vs/\base<=g' :=
 ⟨h.1.kp k (λ e=>Xn.ne hc h.1 (λ e=>hne e.symm) (List.mem_singleton.1 e)),h.2⟩
section
variable {W w w':World} {a:Act} {s T T' g g':Nat} {z vs':List Value} {b:Bool} {C:World->List Value->Prop}
theorem Xn.farK {vs:List Value} (h:Xn w g T vs) (hc:Xn w g' T' vs') (hne:T≠T') (k:Kp [g'] w w'):Xn w' g T vs:=h.kp k (λ e=>Xn.ne hc h (λ e=>hne e.symm) (List.mem_singleton.1 e))
theorem XL.farK (h:XL W a w s T z b C) (hc:Xn w g' T' vs') (hT:T≠T') (k:Kp [g'] w w') (hC:∀ vs,C w vs->C w' vs):XL W a w' s T z b C:=by
 obtain ⟨g,e,hg2,y,n⟩:=h;exact ⟨g,e,hg2,λ h=>(y h).farK hc hT k,λ h=>by obtain ⟨vs,h1,h2⟩:=n h;exact ⟨vs,h1.farK hc hT k,hC vs h2⟩⟩
theorem X0.farK (h:X0 w g T z b C) (hc:Xn w g' T' vs') (hT:T≠T') (k:Kp [g'] w w') (hC:∀ vs,C w vs->C w' vs):X0 w' g T z b C :=
 ⟨λ q=>(h.1 q).farK hc hT k,λ q=>by obtain ⟨vs,h1,h2⟩:=h.2 q;exact ⟨vs,h1.farK hc hT k,hC vs h2⟩⟩
end
theorem Sl.kpG {α:Type} {sz:Nat} {enc:α->List Value} {w w':World} {A:Option Addr} {xs:List α} {g:Nat} (h:Sl sz enc w A xs) (k:Kp [g] w w') (ha:∀ b off,A=some ⟨b,off,none⟩->0<xs.length->b≠g):Sl sz enc w' A xs:=h.farG k.onlyG ha
theorem Yn.at {w:World} {g:Nat} {B:Option Addr} {c:Nat} {bs:List Int} {sq:Nat->Int} {i j:Nat} (h:Yn w g B c bs sq i) (e:i=j):Yn w g B c bs sq j:=e ▸ h
theorem YI {b:Bool} (h:b=true):b.toNat=1:=by rw [h];rfl
theorem ZB {b:Bool} (h:b=false):b.toNat=0:=by rw [h];rfl
structure Yu (w:World) (base:Nat) (x:Xv) (a:YO):Prop where
 map:XH 3 1 Kf w base (.slice a.map.A (List.length x.map) a.map.c) x.map
 noise:XH 174 3 Xg w base (.slice a.noise.A (List.length x.noise) a.noise.c) x.noise
 limits:XH 174 3 Xg w base (.slice a.limits.A (List.length x.limits) a.limits.c) x.limits
section
variable {w w':World} {base:Nat} {x:Xv} {a:YO}
theorem Yu.sl (h:Yu w base x a):Zw w x a:=⟨h.map.out ZT,⟨h.noise.out Xx⟩,⟨h.limits.out Xx⟩⟩
theorem Yu.nil (h:Yu w base x a):Kz a:=⟨h.noise.nilcap,h.limits.nilcap⟩
theorem Yu.below {B:Nat} (h:Yu w base x a) (hb:Below B w w') (hB:w.heap.size<=B):Yu w' base x a:=⟨h.map.below hb hB,h.noise.below hb hB,h.limits.below hb hB⟩
theorem Yu.mono {base':Nat} (h:Yu w base x a) (hb:base'<=base):Yu w base' x a:=⟨h.map.mono hb,h.noise.mono hb,h.limits.mono hb⟩
theorem Yu.farK {g T':Nat} {vs:List Value} (h:Yu w base x a) (hc:Xn w g T' vs) (h1:3≠T') (h2:174≠T') (k:Kp [g] w w'):Yu w' base x a:=⟨h.map.farK hc h1 k,h.noise.farK hc h2 k,h.limits.farK hc h2 k⟩
theorem Yu.kpT {M:List Nat} (h:Yu w base x a) (k:Kp M w w') (hM:∀ m∈M,m<base):Yu w' base x a :=
 ⟨h.map.kp k (hi:=w.heap.size) (λ p hp=>(h.map.blk p hp).2) Xf (λ m hm=>.inl (hM m hm)),h.noise.kp k (hi:=w.heap.size) (λ p hp=>(h.noise.blk p hp).2) Xf (λ m hm=>.inl (hM m hm)),h.limits.kp k (hi:=w.heap.size) (λ p hp=>(h.limits.blk p hp).2) Xf (λ m hm=>.inl (hM m hm))⟩
theorem Yu.otherT {g T':Nat} {vs:List Value} (h:Yu w base x a) (hc:Xn w g T' vs) (h1:3≠T') (h2:174≠T') (us:List Value) (o:Nat):Yu (w.setCells g o us) base x a :=
 ⟨h.map.otherC (h.map.typ hc h1) us o,h.noise.otherC (h.noise.typ hc h2) us o,h.limits.otherC (h.limits.typ hc h2) us o⟩
end
structure DrawR (r:Xv):Prop where
 ok:XK r=true
 bx:1<=r.bx/\r.bx<=3
 by_ : -1<=r.by_/\r.by_<=2
 low : -14<=r.low/\r.low<=-3
 high:3<=r.high/\r.high<=14
theorem boxR_mem {x y:Int} (hx:1<=x/\x<=100) (hy:1<=y/\y<=100) {f:Half} (hf:f∈boxR x y):f∈YT++Km x y:=by
 have hok:=boxHs_ok hx hy;have gd:=Z5 hok;have c:=Zu (hs:=YT++Km x y) (λ f hf=>(JR (ZV hok f hf)).n);exact c.mem f (Kk gd hf).1
theorem boxR_pos {x y:Int} (hx:1<=x/\x<=100) (hy:1<=y/\y<=100) {f:Half} (hf:f∈YT++Km x y):0<f.c:=by
 simp only [YT,Km,List.cons_append,List.nil_append,List.mem_cons,List.not_mem_nil,or_false] at hf;rcases hf with rfl|rfl|rfl|rfl|rfl|rfl|rfl|rfl<;>simp only<;>omega
def cutR (x y c:Int):List Half:=Yd (Xq (boxR x y++[⟨1,1,c⟩]))
theorem cut_ok {x y c:Int} (hx:1<=x/\x<=100) (hy:1<=y/\y<=100) (hc:1<=c/\c<=1000):(∀ h∈boxR x y++[(⟨1,1,c⟩:Half)],Xy h=true)/\YK (Xq (boxR x y++[⟨1,1,c⟩]))=true/\Xe (cutR x y c)=true/\cutR x y c≠[]:=by
 have hk:∀ h∈boxR x y++[(⟨1,1,c⟩:Half)],Xy h=true:=by
  intro h hh;rcases List.mem_append.1 hh with h1|h1
  ·exact Zo (boxR_ok hx hy) h h1
  ·simp only [List.mem_singleton] at h1;subst h1;exact Zv.2 ⟨⟨by simp,by simp⟩,⟨by simp,by simp⟩,⟨by simp only;omega,by simp only;omega⟩,by simp,gcd_unit (.inl rfl)⟩
 have hl:(boxR x y).length<=8:=by
  have h1:=meetI_len (Xq (Km x y));have h2:=meetL_len (Km x y);have h3:(Km x y).length=4:=rfl;show (XR (Xq (Km x y))).length<=8;omega
 have hm:YK (Xq (boxR x y++[⟨1,1,c⟩]))=true:=by
  refine decide_eq_true ?_;have h1:=meetI_len (Xq (boxR x y++[(⟨1,1,c⟩:Half)]));have h2:=meetL_len (boxR x y++[(⟨1,1,c⟩:Half)]);rw [List.length_append] at h2;simp only [List.length_cons,List.length_nil] at h2;omega
 have hn:XR (Xq (boxR x y++[⟨1,1,c⟩]))≠[]:=by
  refine ne_of_inner hk (x:=0) (y:=0) (d:=1) (by omega) (λ f hf=>?_);have h0:0<f.c:=by
   rcases List.mem_append.1 hf with h1|h1
   ·exact boxR_pos hx hy (List.mem_append.2 (.inl h1))
   ·rcases List.mem_append.1 h1 with h2|h2
    ·exact boxR_pos hx hy (boxR_mem hx hy h2)
    ·simp only [List.mem_singleton] at h2;subst h2;simp only;omega
  omega
 refine ⟨hk,hm,regionOk_meetR hk, ?_⟩;unfold cutR Yd;rw [if_pos hm];exact hn
structure DrawN (q a b c bx by_ lo hi:Int):Prop where
 q:2<=q/\q<=10
 a:0<=a/\a<=1
 b:0<=b/\b<=1
 c:0<=c/\c<=1
 bx:1<=bx/\bx<=3
 by_ : -1<=by_/\by_<=2
 lo : -14<=lo/\lo<=-3
 hi:3<=hi/\hi<=14
theorem draw_mk {q a b c bx by_ lo hi:Int} (D:DrawN q a b c bx by_ lo hi) {N L:List Half} (n1:Xe N=true) (n2:N≠[]) (l1:Xe L=true) (l2:L≠[]):DrawR ⟨[q-1+a,b,-c,q-1],q,bx,by_,lo,hi,N,L⟩:=by
 have hq:=D.q;have ha:=D.a;have hb:=D.b;have hc:=D.c;have h1:=D.bx;have h2:=D.by_;have h3:=D.lo;have h4:=D.hi;have hd:det [q-1+a,b,-c,q-1]≠0:=by
  show (q-1+a)*(q-1)-b * -c≠0;have m1:1*1<=(q-1+a)*(q-1):=Int.mul_le_mul (by omega) (by omega) (by omega) (by omega);have m2:0<=b*c:=Int.mul_nonneg hb.1 hc.1;have m3:b * -c = -(b*c):=Int.mul_neg _ _;omega
 refine ⟨?_,h1,h2,h3,h4⟩;unfold XK turnOk mapOk;simp only [Bool.and_eq_true,List.all_eq_true,List.mem_cons,List.not_mem_nil,or_false,forall_eq_or_imp,forall_eq,YP,bne_iff_ne,Bool.not_eq_true',decide_eq_false_iff_not,decide_eq_true_eq,List.length_cons,List.length_nil];refine ⟨⟨⟨⟨⟨⟨⟨⟨⟨⟨trivial,by omega⟩,by omega,by omega,by omega,by omega⟩,hd⟩,by omega⟩,by omega⟩,by omega,by omega⟩,λ e=>n2 (List.length_eq_zero_iff.1 e)⟩,λ e=>l2 (List.length_eq_zero_iff.1 e)⟩,n1⟩,l1⟩
theorem boxHs_rf {x y:Int} (hx:1<=x/\x<=100) (hy:1<=y/\y<=100):rfOk (Km x y)=true/\rfR (Km x y)=boxR x y:=by
 have h1:(Km x y).all Xy=true:=List.all_eq_true.2 (boxHs_ok hx hy);have h2:rfOk (Km x y)=true:=by
  unfold rfOk;rw [h1,(box_meet x y).1];rfl
 refine ⟨h2, ?_⟩;unfold rfR;rw [if_pos h2];rfl
theorem sBox_c (x y:Int) (w:World) (hx:1<=x/\x<=100) (hy:1<=y/\y<=100) :
 Calls Tryz.prog 180 #[.int .i64 (-x),.int .i64 (-y),.int .i64 x,.int .i64 y] w λ e w'=>∃ v,e=.returned (.tuple #[.agg #[v],.bool true])/\XH 174 3 Xg w' w.heap.size v (boxR x y)/\Below w.heap.size w w':=by
 have hok:=boxHs_ok hx hy;have hrf:=boxHs_rf hx hy;have H0:Xn (w.alloc (.cells #[.slice none 0 0] 26)) w.heap.size 26 [.slice none 0 0]:=Xn.new w [.slice none 0 0] 26;have b0:Below w.heap.size w (w.alloc (.cells #[.slice none 0 0] 26)):=Xc bR _;have z0:w.heap.size<(w.alloc (.cells #[.slice none 0 0] 26)).heap.size:=by simp
 generalize hW:w.alloc (.cells #[.slice none 0 0] 26)=W at *;have hW':=Lib.hid hW;clear hW;have SB:Sl 3 Xg (W.alloc (.cells #[.int .i64 1,.int .i64 0,.int .i64 x,.int .i64 0,.int .i64 1,.int .i64 y,.int .i64 (-1),.int .i64 0,.int .i64 x,.int .i64 0,.int .i64 (-1),.int .i64 y] 174)) (some ⟨W.heap.size,0,none⟩) (Km x y):=sl_new_at Xx W (Km x y) #[.int .i64 1,.int .i64 0,.int .i64 x,.int .i64 0,.int .i64 1,.int .i64 y,.int .i64 (-1),.int .i64 0,.int .i64 x,.int .i64 0,.int .i64 (-1),.int .i64 y] rfl rfl;have b1:=Xc b0 (.cells #[.int .i64 1,.int .i64 0,.int .i64 x,.int .i64 0,.int .i64 1,.int .i64 y,.int .i64 (-1),.int .i64 0,.int .i64 x,.int .i64 0,.int .i64 (-1),.int .i64 y] 174);have R1:=H0.alloc (.cells #[.int .i64 1,.int .i64 0,.int .i64 x,.int .i64 0,.int .i64 1,.int .i64 y,.int .i64 (-1),.int .i64 0,.int .i64 x,.int .i64 0,.int .i64 (-1),.int .i64 y] 174);have k1:=sMake_c (some ⟨W.heap.size,0,none⟩) (Km x y) 4 _ (by simp [Km]) hok SB (λ e=>by cases e);change Calls _ _ _ _ λ e w'=>∃ v,e=.returned (.agg #[v])/\XH _ 3 Xg w' _ v (boxR x y)/\_ at k1
 have e1:=JP (-x) (-1000) 1000 true (YP.2 ⟨by omega,by omega⟩);have e2:=JP x (-x+1) 1000 true (YP.2 ⟨by omega,by omega⟩);have e3:=JP (-y) (-1000) 1000 true (YP.2 ⟨by omega,by omega⟩);have e4:=JP y (-y+1) 1000 true (YP.2 ⟨by omega,by omega⟩);clear hok hrf;go_enter Tryz.func180,Tryz.ntmps180
 go_upto_region 1 with fail
 rw [hW'.out];clear hW';go_wp2_with (fail)
 refine (e1 _).mono ?_;rintro e w' ⟨rfl,rfl⟩;go_wp2_with (fail)
 refine (e2 _).mono ?_;rintro e w' ⟨rfl,rfl⟩;go_wp2_with (fail)
 refine (e3 _).mono ?_;rintro e w' ⟨rfl,rfl⟩;go_wp2_with (fail)
 refine (e4 _).mono ?_;rintro e w' ⟨rfl,rfl⟩;go_wp2_with (fail)
 refine k1.mono ?_;rintro e w3 ⟨v,rfl,N3,hb3⟩;obtain ⟨Av,cv,rfl,o3⟩:=N3;have N3:XH 174 3 Xg w3 (W.alloc (.cells #[.int .i64 1,.int .i64 0,.int .i64 x,.int .i64 0,.int .i64 1,.int .i64 y,.int .i64 (-1),.int .i64 0,.int .i64 x,.int .i64 0,.int .i64 (-1),.int .i64 y] 174)).heap.size (.slice Av (boxR x y).length cv) (boxR x y):=⟨Av,cv,rfl,o3⟩;have R3:=(R1.below hb3).has;have b3:=Xh b1 hb3;have z3:w.heap.size<w3.heap.size:=R3.1;clear o3 k1 R1 b1 hb3 H0 SB;obtain ⟨cR3_0,fR3_0⟩:=R3.2 0 _ rfl;go_wp2
 refine bodyPost_ret (v:=.tuple #[.agg #[.slice Av (boxR x y).length cv],.bool true]) (by simp [results,Tryz.results180,go_sem, *]) rfl ⟨.slice Av (boxR x y).length cv,rfl, ?_,Zj b3 (by simp only;omega) _⟩;exact (N3.lowC (q:=⟨w.heap.size,0,none⟩) (by simp only [World.size_alloc];omega) [.slice Av (boxR x y).length cv]).mono (base':=w.heap.size) (by simp only [World.size_alloc];omega)
end Go.Proofs.YtabfdkpdppemaaaGreat
