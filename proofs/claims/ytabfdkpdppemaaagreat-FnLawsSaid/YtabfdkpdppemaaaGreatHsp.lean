/-
 Whether a region has a state, of the program.
 Conditions: the slices hold at most 2^20 elements.
-/
import Derived.Test.YtabfdkpdppemaaaGreatRunMQa
import Derived.Maps.AppendAt
namespace Go.Proofs.YtabfdkpdppemaaaGreat
open Go.RowKit
theorem hasS_i {p:List Half} {s:XQ}:(!decide (p.length=0)&&Xv s&&Xi p&&Zl p s)=hasS p s:=rfl
set_option maxRecDepth 100000 in
set_option maxHeartbeats 3000000 in
theorem iHasS_c (p:List Half) (s:XQ) (b:KL) (w:World) (hlp:p.length<=1048576) (hpi:∀ h∈p,h.In) (hsp:Sl 3 Xh w b.A p) (hnb:b.A=none->b.c=0) (hsi:s.In) :
 Calls Tryz.prog 35 #[.agg #[.slice b.A p.length b.c],YQ s] w λ x w'=>x=.returned (.bool (hasS p s))/\Below w.heap.size w w':=by
 refine Yw Tryz.func35 rfl (n:=21) Tryz.ntmps35 (by simp) ?_;intro a0 M I ha;have s0:a0.tmps[0]?.getD undef=.agg #[.slice b.A p.length b.c]:=ha 0 _ rfl;have s1:a0.tmps[1]?.getD undef=YQ s:=ha 1 _ rfl;clear ha;have J:=Below.refl w.heap.size w;have O:=Nat.le_refl w.heap.size;refine wp_seq ?_;refine Yp [2,3,4] [.pointer (some ⟨w.heap.size,0,none⟩),.pointer (some ⟨(w.heap.size+1),0,none⟩),.bool false] [some (.cells [.slice b.A p.length b.c].toArray 26),some (.cells [.int .i64 s.x,.int .i64 s.y,.int .i64 s.d].toArray 30),none] [0,1,2] [2,3,4] [0,1,2] (by kernel_rfl) (by rw [M];decide) (ec ?_ (ec ?_ (ec ?_ .nil))) ?_
 ·intro a w' F hs N Q B;simp [go_sem,F.g rfl s0];rw [hs];exact B
 ·intro a w' F hs N Q B;simp [go_sem,F.g rfl s1];rw [hs];exact B
 ·intro a w' F hs N Q B;simp [go_sem];exact B
 intro a1 w2 F K hb hO;replace M:=F.size.trans M;replace I:=F.defers.trans I;have s2:a1.tmps[2]?.getD undef=.pointer (some ⟨w.heap.size,0,none⟩):=K 0 (by decide);have s3:a1.tmps[3]?.getD undef=.pointer (some ⟨(w.heap.size+1),0,none⟩):=K 1 (by decide);have b3:Xx w2 w.heap.size 26 [.slice b.A p.length b.c]:=hO 0 _ rfl;have b4:Xx w2 (w.heap.size+1) 30 [.int .i64 s.x,.int .i64 s.y,.int .i64 s.d]:=hO 1 _ rfl;have hG:=b4.lt;replace J:=Xf J hb;have zw2:=Nat.le_trans O hb.size;replace O:=Nat.le_refl w2.heap.size;clear F K hb hO s0 s1;refine Xk (wp_seq ?_);refine Xj [5,6,7,8,9,10,11,12,13,14,15,16,17,18,19,20,4] [some (.agg #[.slice b.A p.length b.c]),some (.bool (decide (p.length=0))),some (.bool (!(decide (p.length=0)))),some (.bool (!(decide (p.length=0)))),some ((bif !(decide (p.length=0)) then (YQ s:Value) else undef)),some ((bif !(decide (p.length=0)) then (.bool (Xv s):Value) else undef)),some (.bool (!(decide (p.length=0))&&Xv s)),some (.bool (!(decide (p.length=0))&&Xv s)),some ((bif (!(decide (p.length=0))&&Xv s) then (.agg #[.slice b.A p.length b.c]:Value) else undef)),some ((bif (!(decide (p.length=0))&&Xv s) then (.bool (Xi p):Value) else undef)),some (.bool ((!(decide (p.length=0))&&Xv s)&&Xi p)),some (.bool ((!(decide (p.length=0))&&Xv s)&&Xi p)),some ((bif ((!(decide (p.length=0))&&Xv s)&&Xi p) then (.agg #[.slice b.A p.length b.c]:Value) else undef)),some ((bif ((!(decide (p.length=0))&&Xv s)&&Xi p) then (YQ s:Value) else undef)),some ((bif ((!(decide (p.length=0))&&Xv s)&&Xi p) then (.bool (Zl p s):Value) else undef)),some (.bool (((!(decide (p.length=0))&&Xv s)&&Xi p)&&Zl p s)),some (.bool (((!(decide (p.length=0))&&Xv s)&&Xi p)&&Zl p s))] (Yb 17) [5,6,7,8,9,10,11,12,13,14,15,16,17,18,19,20,4] [] (λ _ _ _=>True) ?_ (e4 ?_ ?_ ?_ ?_ (eg ?_ (eg ?_ (e2 ?_ ?_ (eg ?_ (eg ?_ (e2 ?_ ?_ (eg ?_ (eg ?_ (eg ?_ (e2 ?_ ?_ .nil))))))))))) ?_
 ·exact λ _ _=>trivial
 ·intro G C D H _ _ B;simp [go_sem,H.f.g rfl s2,(b3.k0 H.k).cell];exact (B _ _ H.k rfl trivial)
 ·intro G C D H _ _ B;simp [go_sem,(gS C 5 (H.d 0 rfl rfl))];refine (Kk p b D).mono ?_;rintro x wx ⟨rfl,hb⟩;exact (B _ _ (H.k.call hb) rfl trivial)
 ·exact Ky 1 rfl rfl rfl rfl
 ·exact YA 2 rfl rfl rfl rfl
 ·intro G C D H _ _ B;refine Ji rfl rfl rfl (H.d 3 rfl rfl) (λ qg=>B _ _ H.k (XC qg).symm trivial) λ qg=>?_;simp [go_sem,H.f.g rfl s3,(b4.k0 H.k).cell];exact (B _ _ H.k (Xr qg).symm trivial)
 ·intro G C D H _ _ B;refine Ji rfl rfl rfl (H.d 3 rfl rfl) (λ qg=>B _ _ H.k (XC qg).symm trivial) λ qg=>?_;simp [go_sem,(show C.tmps[9]?.getD undef=_ from (H.d 4 rfl rfl).trans (Xr qg))];refine (Jj s D hsi).mono ?_;rintro x wx ⟨rfl,hb⟩;exact (B _ _ (H.k.call hb) (Xr qg).symm trivial)
 ·exact λ G C D H _ _ B=>XN rfl (ev (H.d 3 rfl rfl)) (λ h=>(ev ((H.d 5 rfl rfl).trans (Xr h))).trans (Jr h)) (λ h=>Js h) (B _ _ H.k rfl trivial)
 ·exact YA 6 rfl rfl rfl rfl
 ·intro G C D H _ _ B;refine Ji rfl rfl rfl (H.d 7 rfl rfl) (λ qg=>B _ _ H.k (XC qg).symm trivial) λ qg=>?_;simp [go_sem,H.f.g rfl s2,(b3.k0 H.k).cell];exact (B _ _ H.k (Xr qg).symm trivial)
 ·intro G C D H _ _ B;refine Ji rfl rfl rfl (H.d 7 rfl rfl) (λ qg=>B _ _ H.k (XC qg).symm trivial) λ qg=>?_;simp [go_sem,(show C.tmps[13]?.getD undef=_ from (H.d 8 rfl rfl).trans (Xr qg))];have hBi:=H.k.below0 J;refine (Jo p b D hlp hpi (hsp.below hBi) hnb).mono ?_;rintro x wx ⟨rfl,hb⟩;exact (B _ _ (H.k.call hb) (Xr qg).symm trivial)
 ·exact λ G C D H _ _ B=>XN rfl (ev (H.d 7 rfl rfl)) (λ h=>(ev ((H.d 9 rfl rfl).trans (Xr h))).trans (Jr h)) (λ h=>Js h) (B _ _ H.k rfl trivial)
 ·exact YA 10 rfl rfl rfl rfl
 ·intro G C D H _ _ B;refine Ji rfl rfl rfl (H.d 11 rfl rfl) (λ qg=>B _ _ H.k (XC qg).symm trivial) λ qg=>?_;simp [go_sem,H.f.g rfl s2,(b3.k0 H.k).cell];exact (B _ _ H.k (Xr qg).symm trivial)
 ·intro G C D H _ _ B;refine Ji rfl rfl rfl (H.d 11 rfl rfl) (λ qg=>B _ _ H.k (XC qg).symm trivial) λ qg=>?_;simp [go_sem,H.f.g rfl s3,(b4.k0 H.k).cell];exact (B _ _ H.k (Xr qg).symm trivial)
 ·intro G C D H _ _ B;refine Ji rfl rfl rfl (H.d 11 rfl rfl) (λ qg=>B _ _ H.k (XC qg).symm trivial) λ qg=>?_;simp [go_sem,(show C.tmps[17]?.getD undef=_ from (H.d 12 rfl rfl).trans (Xr qg)),(show C.tmps[18]?.getD undef=_ from (H.d 13 rfl rfl).trans (Xr qg))];have hBi:=H.k.below0 J;refine (iHolds_c p b s D (by have:=Za (and_t2 qg);omega) (ZH (and_t2 qg)) (and_t2 (and_t1 qg)) (hsp.below hBi)).mono ?_;rintro x wx ⟨rfl,hb⟩;exact (B _ _ (H.k.call hb) (Xr qg).symm trivial)
 ·exact λ G C D H _ _ B=>XN rfl (ev (H.d 11 rfl rfl)) (λ h=>(ev ((H.d 14 rfl rfl).trans (Xr h))).trans (Jr h)) (λ h=>Js h) (B _ _ H.k rfl trivial)
 ·exact ZT 15 rfl rfl rfl rfl
 intro L a5 w6 R F P K S;replace M:=F.Z M;replace I:=F.E I;have s4:=gS a5 4 (K 16 _ rfl);replace O:=Nat.le_trans O P.size;replace J:=P.below0 J;clear F P K R S s2 s3 b3 b4;refine Xk (wp_ret ?_);refine bodyPost_ret (v:=.bool (((!(decide (p.length=0))&&Xv s)&&Xi p)&&Zl p s)) (by simp [results,Tryz.results35,go_sem,s4]) I ?_;exact ⟨by rw [hasS_i],J⟩
theorem Yx.ap {w:World} {base:Nat} {x:Law} {a:LawA} (h:Yx w base x a):∀ p q,a.lows.A=some p->a.highs.A=some q->p.block≠q.block:=by
 have h2:=h.apart;simp only [List.pairwise_cons,List.mem_cons,List.not_mem_nil,or_false] at h2;exact h2.1 _ rfl
theorem lawNew_appH {w w':World} {base:Nat} {lo hi:List Yu} {y:Yu} {a:LawA} {A':Option Addr} {c':Nat} (h:Yx w base ⟨lo,hi⟩ a) (hn:XU 109 4 J5 w' base (.slice A' (hi++[y]).length c') (hi++[y])) (hG:Kp (blkL a.highs.A) w w') (hat:∀ p,A'=some p->(∃ q,a.highs.A=some q/\q.block=p.block)∨p.block=w.heap.size):Yx w' base ⟨lo,(hi++[y])⟩ ⟨a.lows,⟨A',c'⟩⟩:=by
 refine ⟨h.lows.kpN hG (λ p hp hm=>?_),hn,apart2 (λ p q hp hq e=>?_)⟩
 ·obtain ⟨q,hq,e⟩:=Jq hm;exact h.ap p q hp hq e.symm
 ·rcases hat q hq with ⟨q2,h2,e2⟩|h2
  ·exact h.ap p q2 hp h2 (e.trans e2.symm)
  ·have:=h.lows.blk p hp;omega
theorem lawNew_appL {w w':World} {base:Nat} {lo hi:List Yu} {y:Yu} {a:LawA} {A':Option Addr} {c':Nat} (h:Yx w base ⟨lo,hi⟩ a) (hn:XU 109 4 J5 w' base (.slice A' (lo++[y]).length c') (lo++[y])) (hG:Kp (blkL a.lows.A) w w') (hat:∀ p,A'=some p->(∃ q,a.lows.A=some q/\q.block=p.block)∨p.block=w.heap.size):Yx w' base ⟨(lo++[y]),hi⟩ ⟨⟨A',c'⟩,a.highs⟩:=by
 refine ⟨hn,h.highs.kpN hG (λ p hp hm=>?_),apart2 (λ q p hq hp e=>?_)⟩
 ·obtain ⟨q,hq,e⟩:=Jq hm;exact h.ap q p hq hp e
 ·rcases hat q hq with ⟨q2,h2,e2⟩|h2
  ·exact h.ap q2 p h2 hp (e2.trans e)
  ·have:=h.highs.blk p hp;omega
theorem Yx.lits {w:World} {base g1 g2:Nat} {y1 y2:Yu} (h1:Xx w g1 109 (J5 y1)) (h2:Xx w g2 109 (J5 y2)) (hb1:base<=g1) (hb2:base<=g2) (hne:g1≠g2):Yx w base ⟨[y1],[y2]⟩ ⟨⟨some ⟨g1,0,none⟩,1⟩,⟨some ⟨g2,0,none⟩,1⟩⟩ :=
 ⟨XU.lit (enc:=J5) (xs:=[y1]) Jt (by simpa using h1) hb1 (by simp),XU.lit (enc:=J5) (xs:=[y2]) Jt (by simpa using h2) hb2 (by simp),apart2 (λ p q hp hq e=>by cases hp;cases hq;exact hne e)⟩
theorem sl_ne {g g':Nat} (h:g≠g'):(Value.slice (some ⟨g,0,none⟩) 1 1)≠.slice (some ⟨g',0,none⟩) 1 1:=λ e=>by
 injection e with e1 _ _
 injection e1 with e1
 injection e1 with e1 _ _
 exact h e1
section
variable {a b:Bool}
end
theorem YJ.kpH {M:List Nat} {w w':World} {base hi:Nat} {x:XK} {a:Y9} (h:YJ w base x a) (k:Kp M w w') (b:RoomHi a hi) (hh:hi<=w.heap.size) (hM:∀ m∈M,m<base∨hi<=m):YJ w' base x a:=⟨h.map.kp k b.map hh hM,h.noise.kp k b.noise hh hM,h.limits.kp k b.limits hh hM⟩
end Go.Proofs.YtabfdkpdppemaaaGreat
