/-
 The states that a plant keeps in one step, in every mode: of the program and of the reference.
 Conditions: the slices hold at most 2^20 elements.
-/
import Derived.Deep.RegionHeld3
import Derived.Deep.DeepMust
import Derived.Deep.DeepCutAuto
import Derived.Test.YtbekjpkcicjcgabGreatPulS
import Derived.Test.YtbekjpkcicjcgabGreatAdmD
set_option maxHeartbeats 3000000
set_option maxRecDepth 100000
namespace Go.Proofs.YtbekjpkcicjcgabGreat
open Go.RowKit
theorem XI.kpT {α:Type} {T sz base n c g:Nat} {enc:α->List Value} {w w':World} {A:Option Addr} {xs:List α} (h:XI T sz enc w base (.slice A n c) xs) (k:Kp [g] w w') (hA:∀ p,A=some p->p.block≠g):XI T sz enc w' base (.slice A n c) xs:=by
 obtain ⟨A',cap,e,h1,h2⟩:=h;refine ⟨A',cap,e,h1, ?_⟩;rcases h2 with h2|⟨q,cap',cur,hv,hg,hh,r⟩
 ·exact .inl h2
 ·have hA2:A=some ⟨q,0,none⟩:=by injection hv
  exact .inr ⟨q,cap',cur,hv,hg,(k.block q (YD hh) (by simp only [List.mem_singleton];exact hA _ hA2)).trans hh,r⟩
theorem i64_and255 (n:Int):bits .and .i64 n 255=n % 256:=by
 have h255:(BitVec.ofInt 64 255).toNat=2 ^ 8-1:=by decide
 have key:(BitVec.ofInt 64 n &&& BitVec.ofInt 64 255).toNat=(n % ((2 ^ 64:Nat):Int)).toNat % 2 ^ 8:=by
  rw [BitVec.toNat_and,BitVec.toNat_ofInt,h255,Nat.and_two_pow_sub_one_eq_mod]
 show IntKind.i64.wrap ((BitVec.ofInt 64 n &&& BitVec.ofInt 64 255).toNat:Nat)=n % 256;rw [key,IntKind.wrap_i64];omega
theorem Sl.farG {α:Type} {sz:Nat} {enc:α->List Value} {w w':World} {A:Option Addr} {xs:List α} {g:Nat} (h:Sl sz enc w A xs) (ho:KR w w' g) (ha:∀ b off,A=some ⟨b,off,none⟩->0<xs.length->b≠g):Sl sz enc w' A xs:=by
 intro hn;obtain ⟨b,off,rfl,hlt,hc⟩:=h hn;refine ⟨b,off,rfl,Nat.lt_of_lt_of_le hlt ho.size,λ i hi j u hu=>?_⟩;exact (World.cell?_of_block (w:=w) (a:=⟨b,off+i*sz+j,none⟩) (ho.ne hlt (λ e=>ha b off rfl hn e.symm))).trans (hc i hi j u hu)
theorem curNew_c (bs:List Int) (B:Option Addr) (c:Nat) (w:World) (hn:bs.length<=1048576) (hin:∀ y∈bs,InB y) (hs:Sl 1 byteC w B bs) :
 Calls Tryz.prog 29 #[.slice B bs.length c] w λ e w'=>∃ g:Nat,e=.returned (.pointer (some ⟨g,0,none⟩))/\w.heap.size<=g/\Cur w' g B bs.length c/\Below w.heap.size w w':=by
 go_enter Tryz.func29,Tryz.ntmps29
 go_wp2
 go_loopw [3,4] (λ hv i wr=>∃ k:Nat,∃ h:Int,k<=bs.length/\i=.int .i64 k/\hv=.int .i64 h/\Below w.heap.size w wr) (λ _ i _=>bs.length-(intOf i).toNat)
 case atStart=>exact ⟨0,_,Nat.zero_le _,rfl,rfl,Below.refl _ _⟩
 case round =>
  obtain ⟨k,h,hk,rfl,rfl,hbw⟩:=hrel;by_cases hlt:k<bs.length
  ·by_cases h4:(k:Int)<4000
   ·obtain ⟨b,off,rfl,hblt,hc⟩:=(hs.below hbw).at_ hlt;have g0:=hc 0 _ rfl;simp only [Nat.add_zero,Nat.mul_one] at g0;obtain ⟨y0,y1⟩:=hin _ (List.getElem_mem hlt);clear hc;generalize bs[k]=y at *;go_wp2
    go_roundw
    case rel=>exact ⟨k+1,_,by omega,by go_num,rfl,hbw⟩
    case measure=>simp [intOf];omega
   ·go_wp2
    go_ret
    refine ⟨_,rfl,hbw.size,⟨0,_,Int.le_refl _,by omega,Xv.new wr [.slice B bs.length c,.int .i64 0,.int .i64 h] 112⟩,Xa hbw _⟩
  ·go_wp2
   go_ret
   refine ⟨_,rfl,hbw.size,⟨0,_,Int.le_refl _,by omega,Xv.new wr [.slice B bs.length c,.int .i64 0,.int .i64 h] 112⟩,Xa hbw _⟩
theorem hasS_i {p:List Half} {s:XW}:(!decide (p.length=0)&&XP s&&Xc p&&Zl p s)=hasS p s:=rfl
theorem iHasS_c (p:List Half) (s:XW) (b:ZC) (w:World) (hlp:p.length<=1048576) (hpi:∀ h∈p,h.In) (hsp:Sl 3 Xe w b.A p) (hnb:b.A=none->b.c=0) (hsi:s.In) :
 Calls Tryz.prog 10 #[.agg #[.slice b.A p.length b.c],spotV s] w λ x w'=>x=.returned (.bool (hasS p s))/\Below w.heap.size w w':=by
 refine ZY Tryz.func10 rfl (n:=21) Tryz.ntmps10 (by simp) ?_;intro a0 M I ha;have s0:a0.tmps[0]?.getD undef=.agg #[.slice b.A p.length b.c]:=ha 0 _ rfl;have s1:a0.tmps[1]?.getD undef=spotV s:=ha 1 _ rfl;clear ha;have J:=Below.refl w.heap.size w;have O:=Nat.le_refl w.heap.size;refine wp_seq ?_;refine ZD [2,3,4] [.pointer (some ⟨w.heap.size,0,none⟩),.pointer (some ⟨(w.heap.size+1),0,none⟩),.bool false] [some (.cells [.slice b.A p.length b.c].toArray 26),some (.cells [.int .i64 s.x,.int .i64 s.y,.int .i64 s.d].toArray 30),none] [0,1,2] [2,3,4] [0,1,2] (by kernel_rfl) (by rw [M];decide) (ec ?_ (ec ?_ (ec ?_ .nil))) ?_
 ·intro a w' F hs N Q B;simp [go_sem,F.g rfl s0];rw [hs];exact B
 ·intro a w' F hs N Q B;simp [go_sem,F.g rfl s1];rw [hs];exact B
 ·intro a w' F hs N Q B;simp [go_sem];exact B
 intro a1 w2 F K hb hO;replace M:=F.size.trans M;replace I:=F.defers.trans I;have s2:a1.tmps[2]?.getD undef=.pointer (some ⟨w.heap.size,0,none⟩):=K 0 (by decide);have s3:a1.tmps[3]?.getD undef=.pointer (some ⟨(w.heap.size+1),0,none⟩):=K 1 (by decide);have b3:Xv w2 w.heap.size 26 [.slice b.A p.length b.c]:=hO 0 _ rfl;have b4:Xv w2 (w.heap.size+1) 30 [.int .i64 s.x,.int .i64 s.y,.int .i64 s.d]:=hO 1 _ rfl;have hG:=b4.lt;replace J:=Xg J hb;have zw2:=Nat.le_trans O hb.size;replace O:=Nat.le_refl w2.heap.size;clear F K hb hO s0 s1;refine Xl (wp_seq ?_);refine Xf [5,6,7,8,9,10,11,12,13,14,15,16,17,18,19,20,4] [some (.agg #[.slice b.A p.length b.c]),some (.bool (decide (p.length=0))),some (.bool (!(decide (p.length=0)))),some (.bool (!(decide (p.length=0)))),some ((bif !(decide (p.length=0)) then (spotV s:Value) else undef)),some ((bif !(decide (p.length=0)) then (.bool (XP s):Value) else undef)),some (.bool (!(decide (p.length=0))&&XP s)),some (.bool (!(decide (p.length=0))&&XP s)),some ((bif (!(decide (p.length=0))&&XP s) then (.agg #[.slice b.A p.length b.c]:Value) else undef)),some ((bif (!(decide (p.length=0))&&XP s) then (.bool (Xc p):Value) else undef)),some (.bool ((!(decide (p.length=0))&&XP s)&&Xc p)),some (.bool ((!(decide (p.length=0))&&XP s)&&Xc p)),some ((bif ((!(decide (p.length=0))&&XP s)&&Xc p) then (.agg #[.slice b.A p.length b.c]:Value) else undef)),some ((bif ((!(decide (p.length=0))&&XP s)&&Xc p) then (spotV s:Value) else undef)),some ((bif ((!(decide (p.length=0))&&XP s)&&Xc p) then (.bool (Zl p s):Value) else undef)),some (.bool (((!(decide (p.length=0))&&XP s)&&Xc p)&&Zl p s)),some (.bool (((!(decide (p.length=0))&&XP s)&&Xc p)&&Zl p s))] (X5 17) [5,6,7,8,9,10,11,12,13,14,15,16,17,18,19,20,4] [] (λ _ _ _=>True) ?_ (e4 ?_ ?_ ?_ ?_ (eg ?_ (eg ?_ (e2 ?_ ?_ (eg ?_ (eg ?_ (e2 ?_ ?_ (eg ?_ (eg ?_ (eg ?_ (e2 ?_ ?_ .nil))))))))))) ?_
 ·exact λ _ _=>trivial
 ·intro G C D H _ _ B;simp [go_sem,H.f.g rfl s2,(b3.k0 H.k).cell];exact (B _ _ H.k rfl trivial)
 ·intro G C D H _ _ B;simp [go_sem,(gS C 5 (H.d 0 rfl rfl))];refine (Jc p b D).mono ?_;rintro x wx ⟨rfl,hb⟩;exact (B _ _ (H.k.call hb) rfl trivial)
 ·exact oNDT 1 rfl rfl rfl rfl
 ·exact JW 2 rfl rfl rfl rfl
 ·intro G C D H _ _ B;refine wgt rfl rfl rfl (H.d 3 rfl rfl) (λ qg=>B _ _ H.k (Xx qg).symm trivial) λ qg=>?_;simp [go_sem,H.f.g rfl s3,(b4.k0 H.k).cell];exact (B _ _ H.k (XL qg).symm trivial)
 ·intro G C D H _ _ B;refine wgt rfl rfl rfl (H.d 3 rfl rfl) (λ qg=>B _ _ H.k (Xx qg).symm trivial) λ qg=>?_;simp [go_sem,(show C.tmps[9]?.getD undef=_ from (H.d 4 rfl rfl).trans (XL qg))];refine (iSpotOk_c s D hsi).mono ?_;rintro x wx ⟨rfl,hb⟩;exact (B _ _ (H.k.call hb) (XL qg).symm trivial)
 ·exact λ G C D H _ _ B=>Z3 rfl (ev (H.d 3 rfl rfl)) (λ h=>(ev ((H.d 5 rfl rfl).trans (XL h))).trans (vand_t h)) (λ h=>vand_f h) (B _ _ H.k rfl trivial)
 ·exact JW 6 rfl rfl rfl rfl
 ·intro G C D H _ _ B;refine wgt rfl rfl rfl (H.d 7 rfl rfl) (λ qg=>B _ _ H.k (Xx qg).symm trivial) λ qg=>?_;simp [go_sem,H.f.g rfl s2,(b3.k0 H.k).cell];exact (B _ _ H.k (XL qg).symm trivial)
 ·intro G C D H _ _ B;refine wgt rfl rfl rfl (H.d 7 rfl rfl) (λ qg=>B _ _ H.k (Xx qg).symm trivial) λ qg=>?_;simp [go_sem,(show C.tmps[13]?.getD undef=_ from (H.d 8 rfl rfl).trans (XL qg))];have hBi:=H.k.below0 J;refine (KL p b D hlp hpi (hsp.below hBi) hnb).mono ?_;rintro x wx ⟨rfl,hb⟩;exact (B _ _ (H.k.call hb) (XL qg).symm trivial)
 ·exact λ G C D H _ _ B=>Z3 rfl (ev (H.d 7 rfl rfl)) (λ h=>(ev ((H.d 9 rfl rfl).trans (XL h))).trans (vand_t h)) (λ h=>vand_f h) (B _ _ H.k rfl trivial)
 ·exact JW 10 rfl rfl rfl rfl
 ·intro G C D H _ _ B;refine wgt rfl rfl rfl (H.d 11 rfl rfl) (λ qg=>B _ _ H.k (Xx qg).symm trivial) λ qg=>?_;simp [go_sem,H.f.g rfl s2,(b3.k0 H.k).cell];exact (B _ _ H.k (XL qg).symm trivial)
 ·intro G C D H _ _ B;refine wgt rfl rfl rfl (H.d 11 rfl rfl) (λ qg=>B _ _ H.k (Xx qg).symm trivial) λ qg=>?_;simp [go_sem,H.f.g rfl s3,(b4.k0 H.k).cell];exact (B _ _ H.k (XL qg).symm trivial)
 ·intro G C D H _ _ B;refine wgt rfl rfl rfl (H.d 11 rfl rfl) (λ qg=>B _ _ H.k (Xx qg).symm trivial) λ qg=>?_;simp [go_sem,(show C.tmps[17]?.getD undef=_ from (H.d 12 rfl rfl).trans (XL qg)),(show C.tmps[18]?.getD undef=_ from (H.d 13 rfl rfl).trans (XL qg))];have hBi:=H.k.below0 J;refine (iHolds_c p b s D (by have:=Z4 (and_t2 qg);omega) (Z1 (and_t2 qg)) (and_t2 (and_t1 qg)) (hsp.below hBi)).mono ?_;rintro x wx ⟨rfl,hb⟩;exact (B _ _ (H.k.call hb) (XL qg).symm trivial)
 ·exact λ G C D H _ _ B=>Z3 rfl (ev (H.d 11 rfl rfl)) (λ h=>(ev ((H.d 14 rfl rfl).trans (XL h))).trans (vand_t h)) (λ h=>vand_f h) (B _ _ H.k rfl trivial)
 ·exact Ja 15 rfl rfl rfl rfl
 intro L a5 w6 R F P K S;replace M:=F.Z M;replace I:=F.E I;have s4:=gS a5 4 (K 16 _ rfl);replace O:=Nat.le_trans O P.size;replace J:=P.below0 J;clear F P K R S s2 s3 b3 b4;refine Xl (wp_ret ?_);refine bodyPost_ret (v:=.bool (((!(decide (p.length=0))&&XP s)&&Xc p)&&Zl p s)) (by simp [results,Tryz.results10,go_sem,s4]) I ?_;exact ⟨by rw [hasS_i],J⟩
end Go.Proofs.YtbekjpkcicjcgabGreat
