/-
 Appends to the slices of a law, as steps of regions: where the new slice lies.
 Conditions: none.
-/
import Derived.Test.YtbekjpkcicjcgaaGreatGrow
import Derived.Maps.AppendAt
namespace Go.Proofs.YtbekjpkcicjcgaaGreat
open Go.RowKit
theorem wp_app1at {α:Type} {T sz:Nat} {enc:α->List Value} (X5:∀ x,(enc x).length=sz) {P:Program} {o:Oper} {a:Act} {w:World} {N:Act->World->Prop} {Q:Exit->Act->World->Prop} {s x:Operand} {t:TypeId}
 (ho:o.op=.call { callee:=.builtin .append,args:=#[s,x],argTypes:=#[t,t] })
 (base:Nat) (i:TypeInfo) (z:Value) (bytes:Nat) (ht:P.underlying t=some (.slice T)) (hi:P.info? T=some i) (hz:i.zero=some z)
 (hsize:i.size=sz) (hby:i.bytes=bytes) (hzs:z.cells.size=sz) (hpos:0<sz)
 {A:Option Addr} {n c:Nat} {xs:List α} (hs:a.eval s=.slice A n c) (hown:XI T sz enc w base (.slice A n c) xs) {g T':Nat} (hx:a.eval x=.slice (some ⟨g,0,none⟩) 1 1) {y:α} (hy:Xz w g T' (enc y)) (h1:∀ y,∀ u∈enc y,u.oneCell'=true)
 (hbase:base<=w.heap.size) (hn:xs.length<=1000000000) (hbytes:bytes<=128)
 (hN:∀ A' c' w',XI T sz enc w' base (.slice A' (xs++[y]).length c') (xs++[y])->Kp (blkL A) w w'->(∀ p,A'=some p->(∃ q,A=some q/\q.block=p.block)∨p.block=w.heap.size)->N (a.put o.dst (.slice A' (xs++[y]).length c')) w'):o.wp P a w N Q:=by
 obtain ⟨A0,c0,e0,hr⟩:=hown;injection e0 with e1 e2 e3
 subst e1 e2 e3;have hb2:(xs.length+1)*bytes<=1000000001*128:=Nat.mul_le_mul Oz hbytes;have hl:(xs++[y]).length=xs.length+1:=Sz
 have hf:(xs++[y]).flatMap enc=xs.flatMap enc++enc y:=Sz
 obtain ⟨v',w',hrun,hown',hg,_,hat⟩:=run_append_own_at (P:=P) w base t o.type T i z sz bytes ht hi hz hsize hby hzs hpos _ _ _ hr ⟨g,0,none⟩ 1 1 (enc y) (by rw [X5,Nat.one_mul]) (λ j u hu=>by
  have:=hy.cell j;rw [Addr.add_lit,Nat.zero_add,this];exact hu) (h1 y) (by unfold maxLen;omega) Oz hbase
 rw [<- hf] at hown';have hN2:XI T sz enc w' base v' (xs++[y]):=XI.mk' hl.symm hown';have key:N (a.put o.dst v') w':=by
  clear hrun;obtain ⟨A',c',rfl,hN'⟩:=hN2;refine hN A' c' w' ⟨A',c',rfl,hN'⟩ (Kp.grown hg) (λ p hp=>?_);subst hp;rcases hat with h|h
  ·cases A with
   | none=>simp [Value.ownBlock] at h
   | some q=>exact .inl ⟨q,rfl,by simpa [Value.ownBlock] using h.symm⟩
  ·exact .inr (by simpa [Value.ownBlock] using h)
 unfold Oper.wp;simp [execOp,ho,resolve,invoke,builtin,hs,hx,hrun,Result.andThen];exact key
theorem XI.kpN {α:Type} {T sz base n c:Nat} {enc:α->List Value} {M:List Nat} {w w':World} {A:Option Addr} {xs:List α} (h:XI T sz enc w base (.slice A n c) xs) (k:Kp M w w') (hA:∀ p,A=some p->p.block ∉ M):XI T sz enc w' base (.slice A n c) xs:=by
 obtain ⟨A',cap,e,h1,h2⟩:=h;refine ⟨A',cap,e,h1, ?_⟩;rcases h2 with h2|⟨q,cap',cur,hv,hg,hh,r⟩
 ·exact .inl h2
 ·have hA2:A=some ⟨q,0,none⟩:=by injection hv
  exact .inr ⟨q,cap',cur,hv,hg,(k.block q (YD hh) (hA _ hA2)).trans hh,r⟩
theorem nin_app {g:Nat} {L M:List Nat} (h:g ∉ L) (h2:g ∉ M):g ∉ L++M:=λ hm=>(List.mem_append.1 hm).elim h h2
set_option maxRecDepth 100000 in
set_option maxHeartbeats 3000000 in
theorem sInSpan_c (v:K4) (u:Yk) (w:World) (hv:v.In) (hu:u.In) :
 Calls Tryz.prog 122 #[Z8 v,Xv u] w λ x w'=>x=.returned (Bv (Jp v u))/\Below w.heap.size w w':=by
 refine YN Tryz.func122 rfl (n:=25) Tryz.ntmps122 Sz ?_;intro a0 K G ha;have s0:a0.tmps[0]?.getD undef=Z8 v:=ha 0 _ rfl;have s1:a0.tmps[1]?.getD undef=Xv u:=ha 1 _ rfl;clear ha;have J:=Below.refl w.heap.size w;have M:=Nat.le_refl w.heap.size;refine wp_seq ?_;refine Yt [2,3,4] [Pz w.heap.size,Pz (w.heap.size+1),Bf] [some (.cells [Vi v.low.n,Vi v.low.d,Vi v.high.n,Vi v.high.d].toArray 48),some (.cells [Vi u.n,Vi u.d].toArray 46),none] [0,1,2] [2,3,4] [0,1,2] (by kernel_rfl) (by rw [K];decide) (ec ?_ (ec ?_ (ec ?_ .nil))) ?_
 ·intro a w' F hs N Q A;simp [go_sem,F.g rfl s0];rw [hs];exact A
 ·intro a w' F hs N Q A;simp [go_sem,F.g rfl s1];rw [hs];exact A
 ·intro a w' F hs N Q A;simp [go_sem];exact A
 intro a1 w2 F I hb hO;replace K:=F.size.trans K;replace G:=F.defers.trans G;have s2:a1.tmps[2]?.getD undef=Pz w.heap.size:=I 0 Dz;have s3:a1.tmps[3]?.getD undef=Pz (w.heap.size+1):=I 1 Dz;have b3:Xz w2 w.heap.size 48 [Vi v.low.n,Vi v.low.d,Vi v.high.n,Vi v.high.d]:=hO 0 _ rfl;have b4:Xz w2 (w.heap.size+1) 46 [Vi u.n,Vi u.d]:=hO 1 _ rfl;have hG:=b4.lt;replace J:=Xe J hb;have zw2:=Nat.le_trans M hb.size;replace M:=Nat.le_refl w2.heap.size;clear F I hb hO s0 s1;refine Xk (wp_seq ?_);refine Xj [5,6,7,8,9,10,11,12,13,14,15,16,17,18,19,20,21,22,23,24,4] [some (Z8 v),some (Bv (XQ v)),some (Bv (XQ v)),some ((bif XQ v then (Xv u:Value) else undef)),some ((bif XQ v then (Bv (Xn u):Value) else undef)),some (Bv (XQ v&&Xn u)),some (Bv (XQ v&&Xn u)),some ((bif (XQ v&&Xn u) then (Pz w.heap.size:Value) else undef)),some ((bif (XQ v&&Xn u) then (.agg #[Vi v.low.n,Vi v.low.d]:Value) else undef)),some ((bif (XQ v&&Xn u) then (Xv u:Value) else undef)),some ((bif (XQ v&&Xn u) then (Vi (Xp v.low u):Value) else undef)),some ((bif (XQ v&&Xn u) then (Bv (decide (Xp v.low u<=0)):Value) else undef)),some (Bv ((XQ v&&Xn u)&&decide (Xp v.low u<=0))),some (Bv ((XQ v&&Xn u)&&decide (Xp v.low u<=0))),some ((bif ((XQ v&&Xn u)&&decide (Xp v.low u<=0)) then (Xv u:Value) else undef)),some ((bif ((XQ v&&Xn u)&&decide (Xp v.low u<=0)) then (.pointer (some ⟨w.heap.size,2,none⟩):Value) else undef)),some ((bif ((XQ v&&Xn u)&&decide (Xp v.low u<=0)) then (.agg #[Vi v.high.n,Vi v.high.d]:Value) else undef)),some ((bif ((XQ v&&Xn u)&&decide (Xp v.low u<=0)) then (Vi (Xp u v.high):Value) else undef)),some ((bif ((XQ v&&Xn u)&&decide (Xp v.low u<=0)) then (Bv (decide (Xp u v.high<=0)):Value) else undef)),some (Bv (((XQ v&&Xn u)&&decide (Xp v.low u<=0))&&decide (Xp u v.high<=0))),some (Bv (((XQ v&&Xn u)&&decide (Xp v.low u<=0))&&decide (Xp u v.high<=0)))] (Yc 21) [5,6,7,8,9,10,11,12,13,14,15,16,17,18,19,20,21,22,23,24,4] [] (λ _ _ _=>True) ?_ (e2 ?_ ?_ (en rfl ?_ (eg ?_ (eg ?_ (e2 ?_ ?_ (eg ?_ (eg ?_ (eg ?_ (eg ?_ (eg ?_ (e2 ?_ ?_ (eg ?_ (eg ?_ (eg ?_ (eg ?_ (eg ?_ (e2 ?_ ?_ .nil))))))))))))))))) ?_
 ·exact λ _ _=>trivial
 ·intro D B C H _ _ A;simp [go_sem,H.f.g rfl s2,(b3.k0 H.k).cell];exact (A _ _ H.k rfl trivial)
 ·intro D B C H _ _ A;simp [go_sem,(gS B 5 (H.d 0 rfl rfl))];refine (sSpanOk_c v C hv).mono ?_;rintro x wx ⟨rfl,hb⟩;exact (A _ _ (H.k.call hb) rfl trivial)
 ·exact Ks 1 rfl rfl rfl rfl
 ·intro D B C H _ _ A;refine wgt rfl rfl rfl (H.d 2 rfl rfl) (λ qg=>A _ _ H.k (Xq qg).symm trivial) λ qg=>?_;simp [go_sem,H.f.g rfl s3,(b4.k0 H.k).cell];exact (A _ _ H.k (Xu qg).symm trivial)
 ·intro D B C H _ _ A;refine wgt rfl rfl rfl (H.d 2 rfl rfl) (λ qg=>A _ _ H.k (Xq qg).symm trivial) λ qg=>?_;simp [go_sem,(show B.tmps[8]?.getD undef=_ from (H.d 3 rfl rfl).trans (Xu qg))];refine (Zs u C hu).mono ?_;rintro x wx ⟨rfl,hb⟩;exact (A _ _ (H.k.call hb) (Xu qg).symm trivial)
 ·exact λ D B C H _ _ A=>Zp rfl (ev (H.d 2 rfl rfl)) (λ h=>(ev ((H.d 4 rfl rfl).trans (Xu h))).trans (Jl h)) (λ h=>Jm h) (A _ _ H.k rfl trivial)
 ·exact Ks 5 rfl rfl rfl rfl
 ·intro D B C H _ _ A;refine wgt rfl rfl rfl (H.d 6 rfl rfl) (λ qg=>A _ _ H.k (Xq qg).symm trivial) λ qg=>?_;simp [go_sem,H.f.g rfl s2];exact (A _ _ H.k (Xu qg).symm trivial)
 ·intro D B C H _ _ A;refine wgt rfl rfl rfl (H.d 6 rfl rfl) (λ qg=>A _ _ H.k (Xq qg).symm trivial) λ qg=>?_;simp [go_sem,(show B.tmps[12]?.getD undef=_ from (H.d 7 rfl rfl).trans (Xu qg)),(b3.k0 H.k).cell];exact (A _ _ H.k (Xu qg).symm trivial)
 ·intro D B C H _ _ A;refine wgt rfl rfl rfl (H.d 6 rfl rfl) (λ qg=>A _ _ H.k (Xq qg).symm trivial) λ qg=>?_;simp [go_sem,H.f.g rfl s3,(b4.k0 H.k).cell];exact (A _ _ H.k (Xu qg).symm trivial)
 ·intro D B C H _ _ A;refine wgt rfl rfl rfl (H.d 6 rfl rfl) (λ qg=>A _ _ H.k (Xq qg).symm trivial) λ qg=>?_;simp [go_sem,(show B.tmps[13]?.getD undef=_ from (H.d 8 rfl rfl).trans (Xu qg)),(show B.tmps[14]?.getD undef=_ from (H.d 9 rfl rfl).trans (Xu qg))];refine (KO v.low u C hv.1 hu).mono ?_;rintro x wx ⟨rfl,hb⟩;exact (A _ _ (H.k.call hb) (Xu qg).symm trivial)
 ·intro D B C H _ _ A;refine wgt rfl rfl rfl (H.d 6 rfl rfl) (λ qg=>A _ _ H.k (Xq qg).symm trivial) λ qg=>?_;exact Yl rfl (ev ((H.d 10 rfl rfl).trans (Xu qg))) rfl rfl rfl (A _ _ H.k (Xu qg).symm trivial)
 ·exact λ D B C H _ _ A=>Zp rfl (ev (H.d 6 rfl rfl)) (λ h=>(ev ((H.d 11 rfl rfl).trans (Xu h))).trans (Jl h)) (λ h=>Jm h) (A _ _ H.k rfl trivial)
 ·exact Ks 12 rfl rfl rfl rfl
 ·intro D B C H _ _ A;refine wgt rfl rfl rfl (H.d 13 rfl rfl) (λ qg=>A _ _ H.k (Xq qg).symm trivial) λ qg=>?_;simp [go_sem,H.f.g rfl s3,(b4.k0 H.k).cell];exact (A _ _ H.k (Xu qg).symm trivial)
 ·intro D B C H _ _ A;refine wgt rfl rfl rfl (H.d 13 rfl rfl) (λ qg=>A _ _ H.k (Xq qg).symm trivial) λ qg=>?_;simp [go_sem,H.f.g rfl s2];exact (A _ _ H.k (Xu qg).symm trivial)
 ·intro D B C H _ _ A;refine wgt rfl rfl rfl (H.d 13 rfl rfl) (λ qg=>A _ _ H.k (Xq qg).symm trivial) λ qg=>?_;simp [go_sem,(show B.tmps[20]?.getD undef=_ from (H.d 15 rfl rfl).trans (Xu qg)),(b3.k0 H.k).cell];exact (A _ _ H.k (Xu qg).symm trivial)
 ·intro D B C H _ _ A;refine wgt rfl rfl rfl (H.d 13 rfl rfl) (λ qg=>A _ _ H.k (Xq qg).symm trivial) λ qg=>?_;simp [go_sem,(show B.tmps[19]?.getD undef=_ from (H.d 14 rfl rfl).trans (Xu qg)),(show B.tmps[21]?.getD undef=_ from (H.d 16 rfl rfl).trans (Xu qg))];refine (KO u v.high C hu hv.2).mono ?_;rintro x wx ⟨rfl,hb⟩;exact (A _ _ (H.k.call hb) (Xu qg).symm trivial)
 ·intro D B C H _ _ A;refine wgt rfl rfl rfl (H.d 13 rfl rfl) (λ qg=>A _ _ H.k (Xq qg).symm trivial) λ qg=>?_;exact Yl rfl (ev ((H.d 17 rfl rfl).trans (Xu qg))) rfl rfl rfl (A _ _ H.k (Xu qg).symm trivial)
 ·exact λ D B C H _ _ A=>Zp rfl (ev (H.d 13 rfl rfl)) (λ h=>(ev ((H.d 18 rfl rfl).trans (Xu h))).trans (Jl h)) (λ h=>Jm h) (A _ _ H.k rfl trivial)
 ·exact KE 19 rfl rfl rfl rfl
 intro L a5 w6 P F O I R;replace K:=F.Z K;replace G:=F.E G;have s4:=gS a5 4 (I 20 _ rfl);replace M:=Nat.le_trans M O.size;replace J:=O.below0 J;clear F O I P R s2 s3 b3 b4;refine Xk (wp_ret ?_);refine bodyPost_ret (v:=Bv (((XQ v&&Xn u)&&decide (Xp v.low u<=0))&&decide (Xp u v.high<=0))) (by simp [results,Tryz.results122,go_sem,s4]) G ?_;exact ⟨by unfold Jp;rfl,J⟩
end Go.Proofs.YtbekjpkcicjcgaaGreat
