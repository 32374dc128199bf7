/-
 The next spot of a room and the step of the loop: of the program and of the reference.
 Conditions: the slices hold at most 2^20 elements.
-/
import Derived.Test.YtkjimfapbjdafaaGreatNextM
namespace Go.Proofs.YtkjimfapbjdafaaGreat
open Go.RowKit
theorem rok_bd2 {r:YO} (h:Xq r=true):(-1000000000000000000<=r.n/\r.n<=1000000000000000000)/\1<=r.d/\r.d<=1000000000000000:=by
 obtain ⟨⟨a,b⟩,⟨c,d⟩,_⟩:=Y5.1 h;exact ⟨⟨by omega,by omega⟩,by omega,by omega⟩
set_option maxRecDepth 100000 in
set_option maxHeartbeats 3000000 in
theorem isDriven_c (u:YO) (w:World) (hu:u.In) :
 Calls Tryz.prog 169 #[X9 u] w λ x w'=>x=.returned (.bool (Y9 u))/\Below w.heap.size w w':=by
 refine Y0 Tryz.func169 rfl (n:=16) Tryz.ntmps169 (by simp) ?_;intro a0 I F ha;have s0:a0.tmps[0]?.getD undef=X9 u:=ha 0 _ rfl;clear ha;have J:=Below.refl w.heap.size w;have M:=Nat.le_refl w.heap.size;refine wp_seq ?_;refine YI [1,2] [.pointer (some ⟨w.heap.size,0,none⟩),.bool false] [some (.cells [.int .i64 u.n,.int .i64 u.d].toArray 70),none] [0,1] [1,2] [0,1] (by kernel_rfl) (by rw [I];decide) (ec ?_ (ec ?_ .nil)) ?_
 ·intro a w' G hs N Q A;simp [go_sem,G.g rfl s0];rw [hs];exact A
 ·intro a w' G hs N Q A;simp [go_sem];exact A
 intro a1 w2 G K hb hO;replace I:=G.size.trans I;replace F:=G.defers.trans F;have s1:a1.tmps[1]?.getD undef=.pointer (some ⟨w.heap.size,0,none⟩):=K 0 (by decide);have b3:Xz w2 w.heap.size 70 [.int .i64 u.n,.int .i64 u.d]:=hO 0 _ rfl;have hG:=b3.lt;replace J:=Xh J hb;have zw2:=Nat.le_trans M hb.size;replace M:=Nat.le_refl w2.heap.size;clear G K hb hO s0;refine Xj (wp_seq ?_);refine Xe (by kernel_rfl) [3,4,5,6,7,8,9,10,11,12,13,14,15,2] [some (X9 u),some (.bool (Xq u)),some (.bool (Xq u)),some ((bif Xq u then (.pointer (some ⟨w.heap.size,0,none⟩):Value) else undef)),some ((bif Xq u then (.int .i64 u.n:Value) else undef)),some ((bif Xq u then (.pointer (some ⟨w.heap.size,1,none⟩):Value) else undef)),some ((bif Xq u then (.int .i64 u.d:Value) else undef)),some ((bif Xq u then (.int .i64 ((-1000)*u.d):Value) else undef)),some ((bif Xq u then (.pointer (some ⟨w.heap.size,1,none⟩):Value) else undef)),some ((bif Xq u then (.int .i64 u.d:Value) else undef)),some ((bif Xq u then (.int .i64 (1000*u.d):Value) else undef)),some ((bif Xq u then (.bool (Zc u.n ((-1000)*u.d) (1000*u.d)):Value) else undef)),some (.bool (Xq u&&Zc u.n ((-1000)*u.d) (1000*u.d))),some (.bool (Xq u&&Zc u.n ((-1000)*u.d) (1000*u.d)))] (X6 14) [3,4,5,6,7,8,9,10,11,12,13,14,15,2] [0,1,2,3,4,5,6,7,8,9,10,11,12,13] [] (λ _ _ _=>True) (by kernel_rfl) (by rw [I];decide) ?_ (en rfl ?_ (en rfl ?_ (en rfl ?_ (eg ?_ (eg ?_ (eg ?_ (eg ?_ (eg ?_ (eg ?_ (eg ?_ (eg ?_ (eg ?_ (en rfl ?_ (en rfl ?_ .nil)))))))))))))) ?_
 ·exact λ _ _=>trivial
 ·intro D B C H _ _ A;simp [go_sem,H.f.g rfl s1,(b3.k0 H.k).cell];exact (A _ _ H.k rfl trivial)
 ·intro D B C H _ _ A;simp [go_sem,(gS B 3 (H.d 0 rfl rfl))];refine (Ka u C hu).mono ?_;rintro x wx ⟨rfl,hb⟩;exact (A _ _ (H.k.call hb) rfl trivial)
 ·exact Jj 1 rfl rfl rfl rfl
 ·intro D B C H _ _ A;refine wgt rfl rfl rfl (H.d 2 rfl rfl) (λ qg=>A _ _ H.k (XD qg).symm trivial) λ qg=>?_;simp [go_sem,H.f.g rfl s1];exact (A _ _ H.k (XM qg).symm trivial)
 ·intro D B C H _ _ A;refine wgt rfl rfl rfl (H.d 2 rfl rfl) (λ qg=>A _ _ H.k (XD qg).symm trivial) λ qg=>?_;simp [go_sem,(show B.tmps[6]?.getD undef=_ from (H.d 3 rfl rfl).trans (XM qg)),(b3.k0 H.k).cell];exact (A _ _ H.k (XM qg).symm trivial)
 ·intro D B C H _ _ A;refine wgt rfl rfl rfl (H.d 2 rfl rfl) (λ qg=>A _ _ H.k (XD qg).symm trivial) λ qg=>?_;simp [go_sem,H.f.g rfl s1];exact (A _ _ H.k (XM qg).symm trivial)
 ·intro D B C H _ _ A;refine wgt rfl rfl rfl (H.d 2 rfl rfl) (λ qg=>A _ _ H.k (XD qg).symm trivial) λ qg=>?_;simp [go_sem,(show B.tmps[8]?.getD undef=_ from (H.d 5 rfl rfl).trans (XM qg)),(b3.k0 H.k).cell];exact (A _ _ H.k (XM qg).symm trivial)
 ·intro D B C H _ _ A;refine wgt rfl rfl rfl (H.d 2 rfl rfl) (λ qg=>A _ _ H.k (XD qg).symm trivial) λ qg=>?_;exact Js rfl rfl (ev ((H.d 6 rfl rfl).trans (XM qg))) (by have k:=rok_bd2 qg;omega) (A _ _ H.k (XM qg).symm trivial)
 ·intro D B C H _ _ A;refine wgt rfl rfl rfl (H.d 2 rfl rfl) (λ qg=>A _ _ H.k (XD qg).symm trivial) λ qg=>?_;simp [go_sem,H.f.g rfl s1];exact (A _ _ H.k (XM qg).symm trivial)
 ·intro D B C H _ _ A;refine wgt rfl rfl rfl (H.d 2 rfl rfl) (λ qg=>A _ _ H.k (XD qg).symm trivial) λ qg=>?_;simp [go_sem,(show B.tmps[11]?.getD undef=_ from (H.d 8 rfl rfl).trans (XM qg)),(b3.k0 H.k).cell];exact (A _ _ H.k (XM qg).symm trivial)
 ·intro D B C H _ _ A;refine wgt rfl rfl rfl (H.d 2 rfl rfl) (λ qg=>A _ _ H.k (XD qg).symm trivial) λ qg=>?_;exact Js rfl rfl (ev ((H.d 9 rfl rfl).trans (XM qg))) (by have k:=rok_bd2 qg;omega) (A _ _ H.k (XM qg).symm trivial)
 ·intro D B C H _ _ A;refine wgt rfl rfl rfl (H.d 2 rfl rfl) (λ qg=>A _ _ H.k (XD qg).symm trivial) λ qg=>?_;simp [go_sem,(show B.tmps[7]?.getD undef=_ from (H.d 4 rfl rfl).trans (XM qg)),(show B.tmps[10]?.getD undef=_ from (H.d 7 rfl rfl).trans (XM qg)),(show B.tmps[13]?.getD undef=_ from (H.d 10 rfl rfl).trans (XM qg))];refine (Yr u.n ((-1000)*u.d) (1000*u.d) C).mono ?_;rintro x wx ⟨rfl,rfl⟩;exact (A _ _ H.k (XM qg).symm trivial)
 ·exact λ D B C H _ _ A=>Jd rfl (ev (H.d 2 rfl rfl)) (λ h=>(ev ((H.d 11 rfl rfl).trans (XM h))).trans (vand_t h)) (λ h=>vand_f h) (A _ _ H.k rfl trivial)
 ·exact Kd 12 rfl rfl rfl rfl
 intro L a4 w5 P G O K R;replace I:=G.Z I;replace F:=G.E F;have s2:=gS a4 2 (K 13 _ rfl);replace M:=Nat.le_trans M O.size;replace J:=O.below0 J;clear G O K P R s1 b3;refine Xj (wp_ret ?_);refine bodyPost_ret (v:=.bool (Xq u&&Zc u.n ((-1000)*u.d) (1000*u.d))) (by simp [results,Tryz.results169,go_sem,s2]) F ?_;exact ⟨rfl,J⟩
end Go.Proofs.YtkjimfapbjdafaaGreat
