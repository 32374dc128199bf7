/-
 Whether a region has a state, of the program.
 Conditions: the slices hold at most 2^20 elements.
-/
import Derived.Test.YtabfdkpdppemaaaGreatRunM
namespace Go.Proofs.YtabfdkpdppemaaaGreat
open Go.RowKit
theorem hasS_i {p:List Half} {s:Xz}:(!decide (p.length=0)&&XA s&&Xl p&&Zu p s)=hasS p s:=rfl
set_option maxRecDepth 100000 in
set_option maxHeartbeats 3000000 in
theorem iHasS_c (p:List Half) (s:Xz) (b:Kd) (w:World) (hlp:p.length<=1048576) (hpi:∀ h∈p,h.In) (hsp:Sl 3 Xh w b.A p) (hnb:b.A=none->b.c=0) (hsi:s.In) :
 Calls Tryz.prog 35 #[.agg #[.slice b.A p.length b.c],Y4 s] w λ x w'=>x=.returned (.bool (hasS p s))/\Below w.heap.size w w':=by
 refine Ks Tryz.func35 rfl (n:=21) Tryz.ntmps35 (by simp) ?_;intro a0 M I ha;have s0:a0.tmps[0]?.getD undef=.agg #[.slice b.A p.length b.c]:=ha 0 _ rfl;have s1:a0.tmps[1]?.getD undef=Y4 s:=ha 1 _ rfl;clear ha;have J:=Below.refl w.heap.size w;have O:=Nat.le_refl w.heap.size;refine wp_seq ?_;refine Ku [2,3,4] [.pointer (some ⟨w.heap.size,0,none⟩),.pointer (some ⟨(w.heap.size+1),0,none⟩),.bool false] [some (.cells [.slice b.A p.length b.c].toArray 26),some (.cells [.int .i64 s.x,.int .i64 s.y,.int .i64 s.d].toArray 30),none] [0,1,2] [2,3,4] [0,1,2] (by kernel_rfl) (by rw [M];decide) (ec ?_ (ec ?_ (ec ?_ .nil))) ?_
 ·intro a w' F hs N Q B;simp [go_sem,F.g rfl s0];rw [hs];exact B
 ·intro a w' F hs N Q B;simp [go_sem,F.g rfl s1];rw [hs];exact B
 ·intro a w' F hs N Q B;simp [go_sem];exact B
 intro a1 w2 F K hb hO;replace M:=F.size.trans M;replace I:=F.defers.trans I;have s2:a1.tmps[2]?.getD undef=.pointer (some ⟨w.heap.size,0,none⟩):=K 0 (by decide);have s3:a1.tmps[3]?.getD undef=.pointer (some ⟨(w.heap.size+1),0,none⟩):=K 1 (by decide);have b3:Xr w2 w.heap.size 26 [.slice b.A p.length b.c]:=hO 0 _ rfl;have b4:Xr w2 (w.heap.size+1) 30 [.int .i64 s.x,.int .i64 s.y,.int .i64 s.d]:=hO 1 _ rfl;have hG:=b4.lt;replace J:=Xf J hb;have zw2:=Nat.le_trans O hb.size;replace O:=Nat.le_refl w2.heap.size;clear F K hb hO s0 s1;refine Xv (wp_seq ?_);refine Xs [5,6,7,8,9,10,11,12,13,14,15,16,17,18,19,20,4] [some (.agg #[.slice b.A p.length b.c]),some (.bool (decide (p.length=0))),some (.bool (!(decide (p.length=0)))),some (.bool (!(decide (p.length=0)))),some ((bif !(decide (p.length=0)) then (Y4 s:Value) else undef)),some ((bif !(decide (p.length=0)) then (.bool (XA s):Value) else undef)),some (.bool (!(decide (p.length=0))&&XA s)),some (.bool (!(decide (p.length=0))&&XA s)),some ((bif (!(decide (p.length=0))&&XA s) then (.agg #[.slice b.A p.length b.c]:Value) else undef)),some ((bif (!(decide (p.length=0))&&XA s) then (.bool (Xl p):Value) else undef)),some (.bool ((!(decide (p.length=0))&&XA s)&&Xl p)),some (.bool ((!(decide (p.length=0))&&XA s)&&Xl p)),some ((bif ((!(decide (p.length=0))&&XA s)&&Xl p) then (.agg #[.slice b.A p.length b.c]:Value) else undef)),some ((bif ((!(decide (p.length=0))&&XA s)&&Xl p) then (Y4 s:Value) else undef)),some ((bif ((!(decide (p.length=0))&&XA s)&&Xl p) then (.bool (Zu p s):Value) else undef)),some (.bool (((!(decide (p.length=0))&&XA s)&&Xl p)&&Zu p s)),some (.bool (((!(decide (p.length=0))&&XA s)&&Xl p)&&Zu p s))] (YG 17) [5,6,7,8,9,10,11,12,13,14,15,16,17,18,19,20,4] [] (λ _ _ _=>True) ?_ (e4 ?_ ?_ ?_ ?_ (eg ?_ (eg ?_ (e2 ?_ ?_ (eg ?_ (eg ?_ (e2 ?_ ?_ (eg ?_ (eg ?_ (eg ?_ (e2 ?_ ?_ .nil))))))))))) ?_
 ·exact λ _ _=>trivial
 ·intro G C D H _ _ B;simp [go_sem,H.f.g rfl s2,(b3.k0 H.k).cell];exact (B _ _ H.k rfl trivial)
 ·intro G C D H _ _ B;simp [go_sem,(gS C 5 (H.d 0 rfl rfl))];refine (KD p b D).mono ?_;rintro x wx ⟨rfl,hb⟩;exact (B _ _ (H.k.call hb) rfl trivial)
 ·exact oNDT 1 rfl rfl rfl rfl
 ·exact oMDT 2 rfl rfl rfl rfl
 ·intro G C D H _ _ B;refine wgt rfl rfl rfl (H.d 3 rfl rfl) (λ qg=>B _ _ H.k (KC qg).symm trivial) λ qg=>?_;simp [go_sem,H.f.g rfl s3,(b4.k0 H.k).cell];exact (B _ _ H.k (Z6 qg).symm trivial)
 ·intro G C D H _ _ B;refine wgt rfl rfl rfl (H.d 3 rfl rfl) (λ qg=>B _ _ H.k (KC qg).symm trivial) λ qg=>?_;simp [go_sem,(show C.tmps[9]?.getD undef=_ from (H.d 4 rfl rfl).trans (Z6 qg))];refine (iSpotOk_c s D hsi).mono ?_;rintro x wx ⟨rfl,hb⟩;exact (B _ _ (H.k.call hb) (Z6 qg).symm trivial)
 ·exact λ G C D H _ _ B=>ZU rfl (ev (H.d 3 rfl rfl)) (λ h=>(ev ((H.d 5 rfl rfl).trans (Z6 h))).trans (vand_t h)) (λ h=>vand_f h) (B _ _ H.k rfl trivial)
 ·exact oMDT 6 rfl rfl rfl rfl
 ·intro G C D H _ _ B;refine wgt rfl rfl rfl (H.d 7 rfl rfl) (λ qg=>B _ _ H.k (KC qg).symm trivial) λ qg=>?_;simp [go_sem,H.f.g rfl s2,(b3.k0 H.k).cell];exact (B _ _ H.k (Z6 qg).symm trivial)
 ·intro G C D H _ _ B;refine wgt rfl rfl rfl (H.d 7 rfl rfl) (λ qg=>B _ _ H.k (KC qg).symm trivial) λ qg=>?_;simp [go_sem,(show C.tmps[13]?.getD undef=_ from (H.d 8 rfl rfl).trans (Z6 qg))];have hBi:=H.k.below0 J;refine (Kx p b D hlp hpi (hsp.below hBi) hnb).mono ?_;rintro x wx ⟨rfl,hb⟩;exact (B _ _ (H.k.call hb) (Z6 qg).symm trivial)
 ·exact λ G C D H _ _ B=>ZU rfl (ev (H.d 7 rfl rfl)) (λ h=>(ev ((H.d 9 rfl rfl).trans (Z6 h))).trans (vand_t h)) (λ h=>vand_f h) (B _ _ H.k rfl trivial)
 ·exact oMDT 10 rfl rfl rfl rfl
 ·intro G C D H _ _ B;refine wgt rfl rfl rfl (H.d 11 rfl rfl) (λ qg=>B _ _ H.k (KC qg).symm trivial) λ qg=>?_;simp [go_sem,H.f.g rfl s2,(b3.k0 H.k).cell];exact (B _ _ H.k (Z6 qg).symm trivial)
 ·intro G C D H _ _ B;refine wgt rfl rfl rfl (H.d 11 rfl rfl) (λ qg=>B _ _ H.k (KC qg).symm trivial) λ qg=>?_;simp [go_sem,H.f.g rfl s3,(b4.k0 H.k).cell];exact (B _ _ H.k (Z6 qg).symm trivial)
 ·intro G C D H _ _ B;refine wgt rfl rfl rfl (H.d 11 rfl rfl) (λ qg=>B _ _ H.k (KC qg).symm trivial) λ qg=>?_;simp [go_sem,(show C.tmps[17]?.getD undef=_ from (H.d 12 rfl rfl).trans (Z6 qg)),(show C.tmps[18]?.getD undef=_ from (H.d 13 rfl rfl).trans (Z6 qg))];have hBi:=H.k.below0 J;refine (iHolds_c p b s D (by have:=ZM (and_t2 qg);omega) (Km (and_t2 qg)) (and_t2 (and_t1 qg)) (hsp.below hBi)).mono ?_;rintro x wx ⟨rfl,hb⟩;exact (B _ _ (H.k.call hb) (Z6 qg).symm trivial)
 ·exact λ G C D H _ _ B=>ZU rfl (ev (H.d 11 rfl rfl)) (λ h=>(ev ((H.d 14 rfl rfl).trans (Z6 h))).trans (vand_t h)) (λ h=>vand_f h) (B _ _ H.k rfl trivial)
 ·exact Jr 15 rfl rfl rfl rfl
 intro L a5 w6 R F P K S;replace M:=F.Z M;replace I:=F.E I;have s4:=gS a5 4 (K 16 _ rfl);replace O:=Nat.le_trans O P.size;replace J:=P.below0 J;clear F P K R S s2 s3 b3 b4;refine Xv (wp_ret ?_);refine bodyPost_ret (v:=.bool (((!(decide (p.length=0))&&XA s)&&Xl p)&&Zu p s)) (by simp [results,Tryz.results35,go_sem,s4]) I ?_;exact ⟨by rw [hasS_i],J⟩
end Go.Proofs.YtabfdkpdppemaaaGreat
