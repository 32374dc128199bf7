/-
 The cells of a table: the span of a cell, the check and the filling of a table: of the program and of the reference.
 Conditions: the slices hold at most 2^20 elements.
-/
import Derived.Deep.QuietTactic
import Derived.BigQuiet
import Derived.Test.YtabfdkpdppemaaaGreatCellS
import Derived.Test.YtabfdkpdppemaaaGreatPtc
import Derived.Test.YtabfdkpdppemaaaGreatHeld
namespace Go.Proofs.YtabfdkpdppemaaaGreat
open Go.RowKit
theorem spanC_spanOk {r:XK} {p e:List Half} {t:Tab} {i j:Int} {v:Zg} (h:Y6 r p e t i j=some v):X6 v=true:=by
 rw [spanC_eq] at h;split at h
 ·exact accS_ok (λ _ _ q=>JV q) h
 ·cases h
theorem cell_ij {t:Tab} {i j:Nat} (hi:(i:Int)<t.nx) (hj:(j:Int)<t.ny):cellB t (i:Int) (j:Int)=true:=by
 unfold cellB;simp only [Bool.and_eq_true,decide_eq_true_eq];omega
theorem row_next {j n:Nat}:j*n+n=(j+1)*n:=by rw [Nat.succ_mul]
theorem nat_eq {i:Nat} {n:Int} (h:decide ((i:Int)<n)=false) (h2:(i:Int)<=n):i=n.toNat:=by
 have:=JZ h;omega
set_option maxRecDepth 100000 in
set_option maxHeartbeats 3000000 in
theorem iNear_c (u:Zg) (wish:Int) (w:World) (hu:u.In) :
 Calls Tryz.prog 128 #[Zm u,.int .i64 wish] w λ x w'=>x=.returned (.int .i64 (Jz u wish))/\Below w.heap.size w w':=by
 refine Yw Tryz.func128 rfl (n:=21) Tryz.ntmps128 (by simp) ?_;intro a0 K B ha;have s0:a0.tmps[0]?.getD undef=Zm u:=ha 0 _ rfl;have s1:a0.tmps[1]?.getD undef=.int .i64 wish:=ha 1 _ rfl;clear ha;have J:=Below.refl w.heap.size w;have O:=Nat.le_refl w.heap.size;refine wp_seq ?_;refine Yp [2,4] [.pointer (some ⟨w.heap.size,0,none⟩),.int .i64 0] [some (.cells [.int .i64 u.low.n,.int .i64 u.low.d,.int .i64 u.high.n,.int .i64 u.high.d].toArray 49),none] [0,1] [2,4] [0,1] (by kernel_rfl) (by rw [K];decide) (ec ?_ (ec ?_ .nil)) ?_
 ·intro a w' A hs N Q C;simp [go_sem,A.g rfl s0];rw [hs];exact C
 ·intro a w' A hs N Q C;simp [go_sem];exact C
 intro a1 w2 A I hb hO;replace K:=A.size.trans K;replace B:=A.defers.trans B;replace s1:=A.g rfl s1;have s2:a1.tmps[2]?.getD undef=.pointer (some ⟨w.heap.size,0,none⟩):=I 0 (by decide);have b3:Xx w2 w.heap.size 49 [.int .i64 u.low.n,.int .i64 u.low.d,.int .i64 u.high.n,.int .i64 u.high.d]:=hO 0 _ rfl;have hG:=b3.lt;replace J:=Xf J hb;have zw2:=Nat.le_trans O hb.size;replace O:=Nat.le_refl w2.heap.size;clear A I hb hO s0;refine Xk (wp_seq ?_);refine Xj [7,8,9,10,11,12,5,6] [some (.pointer (some ⟨w.heap.size,0,none⟩)),some (.agg #[.int .i64 u.low.n,.int .i64 u.low.d]),some (.int .i64 (KU u.low)),some (.pointer (some ⟨w.heap.size,2,none⟩)),some (.agg #[.int .i64 u.high.n,.int .i64 u.high.d]),some (.int .i64 (Z5 u.high)),some (.int .i64 (KU u.low)),some (.int .i64 (Z5 u.high))] ([[],[0],[0,1],[],[3],[0,1,2,3,4],[0,1,2,3,4,5],[0,1,2,3,4,5,6]]) [7,8,9,10,11,12,5,6] [] (λ _ _ _=>True) ?_ (e4 ?_ ?_ ?_ ?_ (e4 ?_ ?_ ?_ ?_ .nil)) ?_
 ·exact λ _ _=>trivial
 ·intro P D M H _ _ C;simp [go_sem,H.f.g rfl s2];exact (C _ _ H.k rfl trivial)
 ·intro P D M H _ _ C;simp [go_sem,(gS D 7 (H.d 0 rfl rfl)),(b3.k0 H.k).cell];exact (C _ _ H.k rfl trivial)
 ·intro P D M H _ _ C;simp [go_sem,(gS D 8 (H.d 1 rfl rfl))];refine (iRatCeil_c u.low M hu.1).mono ?_;rintro x wx ⟨rfl,hb⟩;exact (C _ _ (H.k.call hb) rfl trivial)
 ·intro P D M H _ _ C;simp [go_sem,H.f.g rfl s2];exact (C _ _ H.k rfl trivial)
 ·intro P D M H _ _ C;simp [go_sem,(gS D 10 (H.d 3 rfl rfl)),(b3.k0 H.k).cell];exact (C _ _ H.k rfl trivial)
 ·intro P D M H _ _ C;simp [go_sem,(gS D 11 (H.d 4 rfl rfl))];refine (iRatFloor_c u.high M hu.2).mono ?_;rintro x wx ⟨rfl,hb⟩;exact (C _ _ (H.k.call hb) rfl trivial)
 ·exact ZT 2 rfl rfl rfl rfl
 ·exact ZT 5 rfl rfl rfl rfl
 intro L a4 w5 R A F I S;replace K:=A.Z K;replace B:=A.E B;replace s1:=A.G s1;have s5:=gS a4 5 (I 6 _ rfl);have s6:=gS a4 6 (I 7 _ rfl);replace O:=Nat.le_trans O F.size;replace J:=F.below0 J;clear A F I R S s2 b3;refine Xk (wp_seq (wp_seq ?_));refine Xj [13,14,15] [some (.int .i64 (KU u.low)),some (.int .i64 (Z5 u.high)),some (.bool (decide (KU u.low > Z5 u.high)))] (Yb 3) [13,14,15] [] (λ _ _ _=>True) ?_ (e2 ?_ ?_ (en rfl ?_ .nil)) ?_
 ·exact λ _ _=>trivial
 ·exact Zz s5 rfl rfl rfl
 ·exact Zz s6 rfl rfl rfl
 ·exact λ P D M H _ _ C=>X8 rfl (ev (H.d 0 rfl rfl)) (ev (H.d 1 rfl rfl)) rfl rfl (C _ _ H.k rfl trivial)
 intro L a6 w7 R A F I S;replace K:=A.Z K;replace B:=A.E B;replace s1:=A.G s1;replace s5:=A.G s5;replace s6:=A.G s6;have s15:=gS a6 15 (I 2 _ rfl);replace O:=Nat.le_trans O F.size;replace J:=F.below0 J;clear A F I R S;refine Xk ?_;rcases Bool.eq_false_or_eq_true (decide (KU u.low > Z5 u.high)) with q8|q8
 ·refine wp_cond_true (ev (vb s15 q8)) ?_;refine wp_seq ?_;refine Xj [4] [some (.int .i64 (-1000000))] (Yb 1) [4] [] (λ _ _ _=>True) ?_ (en rfl ?_ .nil) ?_
  ·exact λ _ _=>trivial
  ·exact oACT rfl rfl
  intro L a9 w10 R A F I S;replace K:=A.Z K;replace B:=A.E B;have s4:=gS a9 4 (I 0 _ rfl);replace O:=Nat.le_trans O F.size;replace J:=F.below0 J;clear A F I R S s1 s5 s6 s15;refine Xk (wp_ret (Km ?_));refine bodyPost_ret (v:=.int .i64 (-1000000)) (by simp [results,Tryz.results128,go_sem,s4]) B ?_;exact ⟨by unfold Jz;rw [if_pos (of_decide_eq_true q8)],J⟩
 ·refine wp_cond_false (ev (vb s15 q8)) ?_;refine wp_skip (Xk (wp_seq ?_));refine Xj [16,17,18,19,20,4] [some (.int .i64 (KU u.low)),some (.int .i64 (Z5 u.high)),some (.int .i64 wish),some (.int .i64 (min (Z5 u.high) wish)),some (.int .i64 (max (KU u.low) (min (Z5 u.high) wish))),some (.int .i64 (max (KU u.low) (min (Z5 u.high) wish)))] (Yb 6) [16,17,18,19,20,4] [] (λ _ _ _=>True) ?_ (e4 ?_ ?_ ?_ ?_ (e2 ?_ ?_ .nil)) ?_
  ·exact λ _ _=>trivial
  ·exact Zz s5 rfl rfl rfl
  ·exact Zz s6 rfl rfl rfl
  ·exact Zz s1 rfl rfl rfl
  ·intro P D M H _ _ C;simp [go_sem,(gS D 17 (H.d 1 rfl rfl)),(gS D 18 (H.d 2 rfl rfl))];exact (C _ _ H.k rfl trivial)
  ·intro P D M H _ _ C;simp [go_sem,(gS D 16 (H.d 0 rfl rfl)),(gS D 19 (H.d 3 rfl rfl))];exact (C _ _ H.k rfl trivial)
  ·exact ZT 4 rfl rfl rfl rfl
  intro L a11 w12 R A F I S;replace K:=A.Z K;replace B:=A.E B;have s4:=gS a11 4 (I 5 _ rfl);replace O:=Nat.le_trans O F.size;replace J:=F.below0 J;clear A F I R S s1 s5 s6 s15;refine Xk (wp_ret ?_);refine bodyPost_ret (v:=.int .i64 (max (KU u.low) (min (Z5 u.high) wish))) (by simp [results,Tryz.results128,go_sem,s4]) B ?_;exact ⟨by unfold Jz;rw [if_neg (of_decide_eq_false q8)],J⟩
theorem noise_whole {r:XK} (h:Kq r) {v:XQ} (hv:v∈XA r.noise):v.d=1:=by
 obtain ⟨a,ha,e⟩:=h.noise;rw [e] at hv;rcases ha with rfl|rfl
 ·simpa using List.all_eq_true.1 noise1 v hv
 ·simpa using List.all_eq_true.1 noise2 v hv
theorem wh_rat {n:Int} (h : -1000<=n/\n<=1000):Xe ⟨n,1⟩=true:=by
 have h1:=(of_le (t:=n) (d:=1) (n:=0) (e:=1) (by omega) (by omega)).1;rw [ratio_whole (by omega)] at h1;exact h1
theorem tableOk_cells {t:Tab} (h:ZG t=true) {k:Nat} (hk:k<t.cells.length) : -1000000<=t.cells.getD k 0/\t.cells.getD k 0<=1000:=by
 simp only [ZG,Bool.and_eq_true,List.all_eq_true] at h;have h1:=h.2 _ (List.getElem_mem hk);rw [List.getD_eq_getElem?_getD,List.getElem?_eq_getElem hk,Option.getD_some];unfold cellOk at h1;simp only [Bool.or_eq_true,beq_iff_eq,YX] at h1;omega
theorem in_box {s n m x0 y0 x y:Int} {i j:Nat} (hs:0<=s) (hi:(i:Int)<n) (hj:(j:Int)<m) (hx:x0+i*s<=x/\x<=x0+i*s+s) (hy:y0+j*s<=y/\y<=y0+j*s+s):(x0<=x/\x<=x0+n*s)/\y0<=y/\y<=y0+m*s:=by
 have a1:0<=(i:Int)*s:=Int.mul_nonneg (by omega) hs;have a2:0<=(j:Int)*s:=Int.mul_nonneg (by omega) hs;have b1:=Int.mul_le_mul_of_nonneg_right (show (i:Int)+1<=n by omega) hs;have b2:=Int.mul_le_mul_of_nonneg_right (show (j:Int)+1<=m by omega) hs;rw [Int.add_mul,Int.one_mul] at b1 b2;omega
theorem btw_one {c:Int} {r:XK} (hr:r.low<=c/\c<=r.high) (hl : -1000<=c/\c<=1000) (hR:RoomB r):isInB r ⟨c,1⟩=true:=by
 unfold isInB;have h1:=(cmp_le (r:=⟨r.low,1⟩) (s:=⟨c,1⟩) (wh_rat ⟨hR.low.1,hR.low.2⟩) (wh_rat hl)).2 (by simp only;omega);have h2:=(cmp_le (r:=⟨c,1⟩) (s:=⟨r.high,1⟩) (wh_rat hl) (wh_rat ⟨by have:=hR.low;have:=hR.high;omega,hR.high.2⟩)).2 (by simp only;omega);rw [wh_rat hl,decide_eq_true h1,decide_eq_true h2];rfl
def insB (t:Tab) (x y:Int):Bool:=decide (x ≥ t.x0)&&decide (x<=t.x0+t.nx*t.step)&&decide (y ≥ t.y0)&&decide (y<=t.y0+t.ny*t.step)
def outB (F t:Tab) (s:XQ):Bool:=decide ((X1 F s).1<0)||decide ((X1 F s).2<0)||decide ((X1 F s).1 ≥ t.nx)||decide ((X1 F s).2 ≥ t.ny)
structure CelF (r:XK) (t F:Tab) (wi:Int):Prop where
 ok:JY r r.limits t wi=true
 tab:ZG F=true
 x0:F.x0=t.x0
 y0:F.y0=t.y0
 step:F.step=t.step
 nx:F.nx=t.nx
 ny:F.ny=t.ny
 len:((F.cells.length:Int) == t.nx*t.ny)=true
 le:F.cells.length<=1048576
 get:∀ {i j:Nat},(i:Int)<t.nx->(j:Int)<t.ny->F.cells.getD (j*t.nx.toNat+i) 0=filC r r.limits (Kb r r.limits) t wi (Yi r r.limits) i j
theorem tcel_f {r:XK} {t F:Tab} {wi:Int} (D:Kq r) (hg:YP t=true) (hw : -5<=wi/\wi<=5) (e:F=Y5 r r.limits t wi):CelF r t F wi:=by
 have h1:JY r r.limits t wi=true:=by
  unfold JY;rw [hg,D.d.ok,(roomR D.d.ok).limits,YX.2 ⟨by omega,by omega⟩];rfl
 have h2:=fil_tab h1;have h3:=fil_yes h1;rw [<- e] at h2 h3;have h4:=fil_le r r.limits t wi;rw [<- e] at h4;have h5:=tableOk_len h2;have a1:F.x0=t.x0:=by rw [h3]
 have a2:F.y0=t.y0:=by rw [h3]
 have a3:F.step=t.step:=by rw [h3]
 have a4:F.nx=t.nx:=by rw [h3]
 have a5:F.ny=t.ny:=by rw [h3]
 rw [a4,a5] at h5;exact ⟨h1,h2,a1,a2,a3,a4,a5,by rw [h5];simp,by omega,λ hi hj=>by rw [e];exact fil_get h1 hi hj⟩
theorem tcel_out {r:XK} {t F:Tab} {wi x y:Int} (C:CelF r t F wi) (hs:Xv ⟨x,y,1⟩=true) (h:outB F t ⟨x,y,1⟩=true):insB t x y=false/\YI F ⟨x,y,1⟩=(0,false):=by
 rcases cell_at C.tab hs with ⟨i,j,P⟩|⟨e,n⟩
 ·have h1:=P.hi;have h2:=P.hj;rw [C.nx] at h1;rw [C.ny] at h2;unfold outB at h;rw [P.cell] at h;simp only at h;rw [decide_eq_false (show ¬ (i:Int)<0 by omega),decide_eq_false (show ¬ (j:Int)<0 by omega),decide_eq_false (show ¬ (i:Int) ≥ t.nx by omega),decide_eq_false (show ¬ (j:Int) ≥ t.ny by omega)] at h;cases h
 ·refine ⟨?_, ?_⟩
  ·rw [C.x0,C.y0,C.nx,C.ny,C.step] at n;cases hh:insB t x y
   ·rfl
   ·unfold insB at hh;simp only [Bool.and_eq_true,decide_eq_true_eq] at hh;exact absurd ⟨⟨hh.1.1.1,hh.1.1.2⟩,hh.1.2,hh.2⟩ n
  ·unfold YI;rw [e,if_pos (by decide)]
structure CelI (r:XK) (t F:Tab) (x y:Int) (i j:Nat):Prop where
 ci:(X1 F ⟨x,y,1⟩).1=(i:Int)
 cj:(X1 F ⟨x,y,1⟩).2=(j:Int)
 hi:(i:Int)<t.nx
 hj:(j:Int)<t.ny
 ins:insB t x y=true
 klt:j*t.nx.toNat+i<F.cells.length
 ke:((j*t.nx.toNat+i:Nat):Int)=(j:Int)*t.nx+(i:Int)
 cn:XR F i j=Xq F i j
 hx:F.x0+i*F.step<=x/\x<=F.x0+i*F.step+F.step
 hy:F.y0+j*F.step<=y/\y<=F.y0+j*F.step+F.step
 inp:YI F ⟨x,y,1⟩=if F.cells.getD (j*t.nx.toNat+i) 0 = -1000000 then (0,false) else (F.cells.getD (j*t.nx.toNat+i) 0,true)
 bd : -1000000<=F.cells.getD (j*t.nx.toNat+i) 0/\F.cells.getD (j*t.nx.toNat+i) 0<=1000
 held:F.cells.getD (j*t.nx.toNat+i) 0≠-1000000->(-1000<=F.cells.getD (j*t.nx.toNat+i) 0/\F.cells.getD (j*t.nx.toNat+i) 0<=1000)/\isInB r ⟨F.cells.getD (j*t.nx.toNat+i) 0,1⟩=true/\∀ v∈XA r.noise,∃ s,nxtO r ⟨x,y,1⟩ ⟨F.cells.getD (j*t.nx.toNat+i) 0,1⟩ v=some s/\Zl r.limits s=true
theorem tcel_in {r:XK} {t F:Tab} {wi x y:Int} (D:Kq r) (hg:YP t=true) (C:CelF r t F wi) (hs:Xv ⟨x,y,1⟩=true) (h:outB F t ⟨x,y,1⟩=false):∃ i j,CelI r t F x y i j:=by
 rcases cell_at C.tab hs with ⟨i,j,P⟩|⟨e,n⟩
 ·have h1:=P.hi;have h2:=P.hj;rw [C.nx] at h1;rw [C.ny] at h2;obtain ⟨_,_,g3,g4,g5,_⟩:=KO.1 hg;have hx:=P.hx;have hy:=P.hy;have ke:((j*t.nx.toNat+i:Nat):Int)=(j:Int)*t.nx+(i:Int):=by
   rw [Int.natCast_add,Int.natCast_mul,Int.toNat_of_nonneg (by omega)]
  have klt:j*t.nx.toNat+i<F.cells.length:=by
   have h5:=of_decide_eq_true (p:=(F.cells.length:Int)=t.nx*t.ny) (by simpa using C.len);have h6:(j:Int)*t.nx+t.nx<=t.ny*t.nx:=by
    have:=Int.mul_le_mul_of_nonneg_right (show (j:Int)+1<=t.ny by omega) (show 0<=t.nx by omega);rw [Int.add_mul,Int.one_mul] at this;exact this
   rw [Int.mul_comm t.ny] at h6;omega
  have hget:=C.get h1 h2;have hcell:=tableOk_cells C.tab klt;refine ⟨i,j,by rw [P.cell],by rw [P.cell],h1,h2, ?_,klt,ke, ?_,hx,hy, ?_,hcell,λ hc=>?_⟩
  ·obtain ⟨q1,q2⟩:=in_box (s:=t.step) (n:=t.nx) (m:=t.ny) (x0:=t.x0) (y0:=t.y0) (x:=x) (y:=y) (i:=i) (j:=j) (by omega) h1 h2 (by rw [<- C.x0,<- C.step];exact hx) (by rw [<- C.y0,<- C.step];exact hy);unfold insB;rw [decide_eq_true (show x ≥ t.x0 from q1.1),decide_eq_true q1.2,decide_eq_true (show y ≥ t.y0 from q2.1),decide_eq_true q2.2];rfl
  ·unfold XR;refine if_pos ⟨C.tab, ?_⟩;unfold cellB;rw [C.nx,C.ny,decide_eq_true (show (0:Int)<=(i:Int) by omega),decide_eq_true h1,decide_eq_true (show (0:Int)<=(j:Int) by omega),decide_eq_true h2];rfl
  ·have hix:cellIx F ⟨x,y,1⟩=j*t.nx.toNat+i:=by
    unfold cellIx;rw [P.cell,C.nx];simp only;omega
   unfold YI;rw [hix,P.cell,if_neg (by simp only;omega)]
  ·rw [hget] at hc ⊢;obtain ⟨b1,b2,v,hv,hb⟩:=fil_cell C.ok h1 h2 hc (x:=x) (y:=y) (by rw [<- C.x0,<- C.step];exact hx) (by rw [<- C.y0,<- C.step];exact hy);have B:=roomB D.d.ok;have b3 : -1000<=filC r r.limits (Kb r r.limits) t wi (Yi r r.limits) i j/\filC r r.limits (Kb r r.limits) t wi (Yi r r.limits) i j<=1000:=by
    have:=B.low;have:=B.high;omega
   exact ⟨b3,btw_one b1 b3 B,λ u hu=>held_whole hv b3 hb rfl hu (noise_whole D hu)⟩
 ·unfold outB at h;rw [e] at h;cases h
end Go.Proofs.YtabfdkpdppemaaaGreat
