/-
 The regions of a law's pieces: of the program.
 Conditions: valid regions and pieces.
-/
import Derived.Test.YtbekjpkcicjcgabGreatV4
set_option maxHeartbeats 3000000
set_option maxRecDepth 100000
namespace Go.Proofs.YtbekjpkcicjcgabGreat
open Go.RowKit
theorem wp_eqP {a:Act} {w:World} {N:Act->World->Prop} {Q:Exit->Act->World->Prop} {o:Oper} {x y:Operand} {T':TypeId} (h:o.op=.binOp .eql 49 x y T') {r s:Xm} (ex:a.eval x=XZ r) (ey:a.eval y=XZ s) (hn:N (a.put o.dst (.bool (decide (r=s)))) w):o.wp Tryz.prog a w N Q:=by
 refine opv ?_ hn;unfold execOp;rw [h];simp only;rw [ex,ey];obtain ⟨a,b,c,d⟩:=r;obtain ⟨a',b',c',d'⟩:=s;simp [go_sem];by_cases h1:a=a'<;>by_cases h2:b=b'<;>by_cases h3:c=c'<;>by_cases h4:d=d'<;>simp [h1,h2,h3,h4]
def pcIdx (L:List Xm) (q:Xm):Int:=match (List.range L.length).find? (λ i=>decide (q=L.getD i Xo)) with|some i=>(i:Int)|none=>-1
theorem pcIdx_at {L:List Xm} {q:Xm} {k:Nat} (hk:k<L.length) (hn:∀ j,j<k->¬ q=L.getD j Xo) (e:q=L.getD k Xo):pcIdx L q=(k:Int):=by
 unfold pcIdx;rw [show (List.range L.length).find? (λ i=>decide (q=L.getD i Xo))=some k from List.find?_range_eq_some.2 ⟨decide_eq_true e,List.mem_range.2 hk,λ j hj=>by simpa using hn j hj⟩]
theorem pcIdx_no {L:List Xm} {q:Xm} (hn:∀ j,j<L.length->¬ q=L.getD j Xo):pcIdx L q = -1:=by
 unfold pcIdx;rw [show (List.range L.length).find? (λ i=>decide (q=L.getD i Xo))=none from List.find?_eq_none.2 λ j hj=>by simpa using hn j (List.mem_range.1 hj)]
theorem pcIdx_ge (L:List Xm) (q:Xm):decide (pcIdx L q ≥ 0)=L.contains q:=by
 by_cases h:∃ j,j<L.length/\q=L.getD j Xo
 ·obtain ⟨j,hj,e⟩:=h;rw [show L.contains q=true from List.contains_iff_mem.2 (by rw [e];exact Ki hj Xo)];unfold pcIdx;cases e2:(List.range L.length).find? (λ i=>decide (q=L.getD i Xo)) with
  | none =>
   have:=List.find?_eq_none.1 e2 j (List.mem_range.2 hj);simp only [e,decide_true,not_true] at this
  | some i=>exact decide_eq_true (Int.natCast_nonneg i)
 ·have hn:∀ j,j<L.length->¬ q=L.getD j Xo:=λ j hj e=>h ⟨j,hj,e⟩;rw [pcIdx_no hn];cases e:L.contains q with
  | false=>rfl
  | true =>
   obtain ⟨j,hj,e2⟩:=List.getElem_of_mem (List.contains_iff_mem.1 e);exact absurd (by rw [Jl hj];exact e2.symm) (hn j hj)
theorem Sl.take {α:Type} {sz:Nat} {enc:α->List Value} {w:World} {A:Option Addr} {xs:List α} (h:Sl sz enc w A xs) (k:Nat):Sl sz enc w A (xs.take k):=by
 intro hn;obtain ⟨b,off,hA,hb,hc⟩:=h (by rw [List.length_take] at hn;omega);refine ⟨b,off,hA,hb,λ i hi j u hu=>hc i (by rw [List.length_take] at hi;omega) j u ?_⟩;rw [List.getElem_take] at hu;exact hu
def alH (q o:Xm):Half:=if YP q o=true then Xb else (YE q o).getD Xb
def alA (q o:Xm):Bool:=YP q o&&decide (lowC q o ≥ 0)
def alK (q o:Xm):Bool:=YP q o||(YE q o).isSome
theorem al_flat {q o:Xm} (h:YP q o=true):alH q o=Xb/\alA q o=decide (lowC q o ≥ 0)/\alK q o=true:=by
 unfold alH alA alK;rw [h];exact ⟨rfl,rfl,rfl⟩
theorem al_steep {q o:Xm} (h:YP q o=false):alH q o=(YE q o).getD Xb/\alA q o=false/\alK q o=(YE q o).isSome:=by
 unfold alH alA alK;rw [h];exact ⟨rfl,rfl,rfl⟩
theorem some_getD {x:Option Half} (h:x.isSome=true):x=some (x.getD Xb):=by
 cases x with
 | none=>cases h
 | some _=>rfl
theorem alK_f {q o:Xm} (h:alK q o=false):YP q o=false/\YE q o=none:=by
 unfold alK at h;refine ⟨YW h, ?_⟩;have:=JP h;cases e:YE q o with
 | none=>rfl
 | some _=>rw [e] at this;cases this
theorem pcIndex_c (ps:List Xm) (q:Xm) (A:Option Addr) (c:Nat) (w:World) (hl:ps.length<=1048576) (hsl:Sl 4 Yy w A ps) :
 Calls Tryz.prog 118 #[.slice A ps.length c,XZ q] w λ x w'=>x=.returned (.int .i64 (pcIdx ps q))/\Below w.heap.size w w':=by
 refine ZY Tryz.func118 rfl (n:=19) Tryz.ntmps118 (by simp) ?_;intro a0 R F ha;have s0:a0.tmps[0]?.getD undef=.slice A ps.length c:=ha 0 _ rfl;have s1:a0.tmps[1]?.getD undef=XZ q:=ha 1 _ rfl;clear ha;have O:=Below.refl w.heap.size w;have S:=Nat.le_refl w.heap.size;refine wp_seq ?_;refine ZD [3,4] [.pointer (some ⟨w.heap.size,0,none⟩),.int .i64 0] [some (.cells [.int .i64 q.a,.int .i64 q.b,.int .i64 q.c,.int .i64 q.d].toArray 49),none] [0,1] [3,4] [0,1] (by kernel_rfl) (by rw [R];decide) (ec ?_ (ec ?_ .nil)) ?_
 ·intro a w' B hs N Q C;simp [go_sem,B.g rfl s1];rw [hs];exact C
 ·intro a w' B hs N Q C;simp [go_sem];exact C
 intro a1 w2 B K hb hO;replace R:=B.size.trans R;replace F:=B.defers.trans F;replace s0:=B.g rfl s0;have s3:a1.tmps[3]?.getD undef=.pointer (some ⟨w.heap.size,0,none⟩):=K 0 (by decide);have b3:Xv w2 w.heap.size 49 [.int .i64 q.a,.int .i64 q.b,.int .i64 q.c,.int .i64 q.d]:=hO 0 _ rfl;have hG:=b3.lt;replace O:=Xg O hb;have zw2:=Nat.le_trans S hb.size;replace S:=Nat.le_refl w2.heap.size;clear B K hb hO s1;refine Xl (wp_seq (wp_seq ?_));refine Xf [6,7,8] [some (.slice A ps.length c),some (.int .i64 (ps.length:Int)),some (.int .i64 0)] (X5 3) [6,7,8] [] (λ _ _ _=>True) ?_ (e2 ?_ ?_ (en rfl ?_ .nil)) ?_
 ·exact λ _ _=>trivial
 ·exact Za s0 rfl rfl rfl
 ·intro P J I H _ _ C;simp [go_sem,(gS J 6 (H.d 0 rfl rfl))];exact (C _ _ H.k rfl trivial)
 ·exact oMCT rfl rfl
 intro L a4 w5 T B D K U;replace R:=B.Z R;replace F:=B.E F;replace s0:=B.G s0;replace s3:=B.G s3;have s7:=gS a4 7 (K 1 _ rfl);have s8:=gS a4 8 (K 2 _ rfl);replace b3:=b3.k0 D;replace S:=Nat.le_trans S D.size;replace O:=D.below0 O;clear B D K T U;refine Xl (wp_block ?_);refine wp_loop (λ al wl=>al.tmps.size=19/\al.defers=[]/\∃ (k:Nat),(k<=ps.length)/\(∀ j,j<k->¬ q=ps.getD j Xo)/\al.tmps[0]?.getD undef=.slice A ps.length c/\al.tmps[3]?.getD undef=.pointer (some ⟨w.heap.size,0,none⟩)/\al.tmps[7]?.getD undef=.int .i64 (ps.length:Int)/\al.tmps[8]?.getD undef=.int .i64 (k:Int)/\Xv wl w.heap.size 49 [.int .i64 q.a,.int .i64 q.b,.int .i64 q.c,.int .i64 q.d]/\Below w.heap.size w wl/\w2.heap.size<=wl.heap.size) (λ al _=>(ps.length-(intOf (al.tmps[8]?.getD undef)).toNat)) ?_ ?_
 ·exact ⟨R,F,(0),(Nat.zero_le _),(λ j hj=>absurd hj (Nat.not_lt_zero _)),s0,s3,s7,s8,b3,O,(by omega)⟩
 clear R F O S s0 s3 s7 s8 b3;rintro a6 w7 ⟨R,F,k,hk,hno,s0,s3,s7,s8,b3,O,S⟩;have zw7:=S;replace S:=Nat.le_refl w7.heap.size;have hmu:(ps.length-(intOf (a6.tmps[8]?.getD undef)).toNat)=(ps.length-(intOf ((.int .i64 (k:Int)))).toNat):=by rw [s8]
 refine wp_seq ?_;refine Xf [9] [some (.bool (decide ((k:Int)<(ps.length:Int))))] (X5 1) [9] [] (λ _ _ _=>True) ?_ (en rfl ?_ .nil) ?_
 ·exact λ _ _=>trivial
 ·exact λ P J I H _ _ C=>X3 rfl (ev (H.f.g rfl s8)) (ev (H.f.g rfl s7)) rfl rfl (C _ _ H.k rfl trivial)
 intro L a8 w9 T B D K U;replace R:=B.Z R;replace F:=B.E F;replace s0:=B.G s0;replace s3:=B.G s3;replace s7:=B.G s7;replace s8:=B.G s8;have s9:=gS a8 9 (K 0 _ rfl);replace b3:=b3.k0 D;replace S:=Nat.le_trans S D.size;replace O:=D.below0 O;clear B D K T U;refine Xl (wp_seq ?_);rcases Bool.eq_false_or_eq_true (decide ((k:Int)<(ps.length:Int))) with q10|q10
 ·have hkl:k<ps.length:=by have:=Kk q10;omega
  obtain ⟨bl,ol,el,fe⟩:=ElS.open_ (hsl.below O) (by omega);refine wp_cond_true (ev (vb s9 q10)) ?_;refine wp_skip (Xl (wp_seq (wp_block (wp_seq ?_))));refine Xf [10,5] [some (.int .i64 (k:Int)),some (.int .i64 (k:Int))] (X5 2) [10,5] [] (λ _ _ _=>True) ?_ (e2 ?_ ?_ .nil) ?_
  ·exact λ _ _=>trivial
  ·exact Za s8 rfl rfl rfl
  ·exact Ja 0 rfl rfl rfl rfl
  intro L a11 w12 T B D K U;replace R:=B.Z R;replace F:=B.E F;replace s0:=B.G s0;replace s3:=B.G s3;replace s7:=B.G s7;replace s8:=B.G s8;have s5:=gS a11 5 (K 1 _ rfl);replace b3:=b3.k0 D;replace fe:=fe.kp D (by simp);replace S:=Nat.le_trans S D.size;replace O:=D.below0 O;clear B D K T U s9;refine Xl (wp_seq ?_);refine Xf [11,12,13,14,15,16] [some (XZ q),some (.slice A ps.length c),some (.int .i64 (k:Int)),some (.pointer (some ⟨bl,ol+k*4,none⟩)),some (XZ (ps.getD k Xo)),some (.bool (decide (q=(ps.getD k Xo))))] ([[],[],[],[1,2],[1,2,3],[0,1,2,3,4]]) [11,12,13,14,15,16] [] (λ _ _ _=>True) ?_ (e4 ?_ ?_ ?_ ?_ (e2 ?_ ?_ .nil)) ?_
  ·exact λ _ _=>trivial
  ·intro P J I H _ _ C;simp [go_sem,H.f.g rfl s3,(b3.k0 H.k).cell];exact (C _ _ H.k rfl trivial)
  ·exact Za s0 rfl rfl rfl
  ·exact Za s5 rfl rfl rfl
  ·intro P J I H _ _ C;simp [go_sem,(gS J 12 (H.d 1 rfl rfl)),(gS J 13 (H.d 2 rfl rfl)),hkl,el];exact (C _ _ H.k rfl trivial)
  ·intro P J I H _ _ C;have hE:=fe.kp H.k (by simp);simp [go_sem,(gS J 14 (H.d 3 rfl rfl)),(hE.at_ Xo (i:=k) (by omega) 0 (p:=ol+k*4) (by omega) rfl),(hE.at_ Xo (i:=k) (by omega) 1 (p:=ol+k*4+1) (by omega) rfl),(hE.at_ Xo (i:=k) (by omega) 2 (p:=ol+k*4+2) (by omega) rfl),(hE.at_ Xo (i:=k) (by omega) 3 (p:=ol+k*4+3) (by omega) rfl)];exact (C _ _ H.k rfl trivial)
  ·exact λ P J I H _ _ C=>wp_eqP rfl (ev (H.d 0 rfl rfl)) (ev (H.d 4 rfl rfl)) (C _ _ H.k rfl trivial)
  intro L a13 w14 T B D K U;replace R:=B.Z R;replace F:=B.E F;replace s0:=B.G s0;replace s3:=B.G s3;replace s7:=B.G s7;replace s8:=B.G s8;replace s5:=B.G s5;have s16:=gS a13 16 (K 5 _ rfl);replace b3:=b3.k0 D;replace fe:=fe.kp D (by simp);replace S:=Nat.le_trans S D.size;replace O:=D.below0 O;clear B D K T U;refine Xl ?_;rcases Bool.eq_false_or_eq_true (decide (q=(ps.getD k Xo))) with q15|q15
  ·refine wp_cond_true (ev (vb s16 q15)) ?_;refine wp_seq ?_;refine Xf [17,4] [some (.int .i64 (k:Int)),some (.int .i64 (k:Int))] (X5 2) [17,4] [] (λ _ _ _=>True) ?_ (e2 ?_ ?_ .nil) ?_
   ·exact λ _ _=>trivial
   ·exact Za s5 rfl rfl rfl
   ·exact Ja 0 rfl rfl rfl rfl
   intro L a16 w17 T B D K U;replace R:=B.Z R;replace F:=B.E F;have s4:=gS a16 4 (K 1 _ rfl);replace fe:=fe.kp D (by simp);replace S:=Nat.le_trans S D.size;replace O:=D.below0 O;clear B D K T U s0 s3 s7 s8 s5 s16 b3;refine Xl (wp_ret ?_);refine ib_r (Kl (Kl (ib_r (Kl ?_))));refine bodyPost_ret (v:=.int .i64 (k:Int)) (by simp [results,Tryz.results118,go_sem,s4]) F ?_;exact ⟨by rw [pcIdx_at hkl hno (Kk q15)],O⟩
  ·refine wp_cond_false (ev (vb s16 q15)) ?_;refine wp_skip ?_;refine ib_n (Xl ?_);refine Xf [18,8] [some (.int .i64 ((k:Int)+1)),some (.int .i64 ((k:Int)+1))] (X5 2) [18,8] [] (λ L aa I=>(L 1=false->aa.tmps[8]?.getD undef=.int .i64 (k:Int))) ?_ (e2 ?_ ?_ .nil) ?_
   ·exact λ _ h=>(λ _=>s8)
   ·intro P J I H _ _ C;have x0:=H.x;exact Y0 rfl (ev (x0 (H.t 1 rfl))) rfl (by omega) (C _ _ H.k rfl (λ h=>(Xj (by decide) _).trans (x0 h)))
   ·intro P J I H _ _ C;have x0:=H.x;exact Xy rfl (ev (H.d 0 rfl rfl)) (C _ _ H.k rfl (λ h=>by simp [Yb] at h))
   intro L a18 w19 T B D K U;have x0:=U;replace R:=B.Z R;replace F:=B.E F;replace s0:=B.G s0;replace s3:=B.G s3;replace s7:=B.G s7;have s8:=gS a18 8 (K 1 _ rfl);replace b3:=b3.k0 D;replace fe:=fe.kp D (by simp);replace S:=Nat.le_trans S D.size;replace O:=D.below0 O;clear B D K T x0 s5 s16;refine Xl ?_;refine ⟨?_, ?_⟩
   ·exact ⟨R,F,(k+1),(by omega),(λ j hj=>(Nat.lt_succ_iff_lt_or_eq.1 hj).elim (hno j) (λ e=>by rw [e];exact XB q15)),s0,s3,s7,s8,b3,O,(by omega)⟩
   ·show (ps.length-(intOf (a18.tmps[8]?.getD undef)).toNat)<_;rw [s8,hmu];simp only [intOf];omega
 ·have ek:k=ps.length:=by have:=XB q10;omega
  refine wp_cond_false (ev (vb s9 q10)) ?_;refine wp_exit ?_;refine JN (JN (ib_x (Xl (wp_seq ?_))));refine Xf [4] [some (.int .i64 (-1))] (X5 1) [4] [] (λ _ _ _=>True) ?_ (en rfl ?_ .nil) ?_
  ·exact λ _ _=>trivial
  ·exact Kw rfl rfl
  intro L a20 w21 T B D K U;replace R:=B.Z R;replace F:=B.E F;have s4:=gS a20 4 (K 0 _ rfl);replace S:=Nat.le_trans S D.size;replace O:=D.below0 O;clear B D K T U s0 s3 s7 s8 s9 b3;refine Xl (wp_ret ?_);refine bodyPost_ret (v:=.int .i64 (-1)) (by simp [results,Tryz.results118,go_sem,s4]) F ?_;exact ⟨by rw [pcIdx_no (by rw [<- ek];exact hno)],O⟩
theorem pcContains_c (ps:List Xm) (q:Xm) (A:Option Addr) (c:Nat) (w:World) (hl:ps.length<=1048576) (hsl:Sl 4 Yy w A ps) :
 Calls Tryz.prog 87 #[.slice A ps.length c,XZ q] w λ x w'=>x=.returned (.bool (ps.contains q))/\Below w.heap.size w w':=by
 refine ZY Tryz.func87 rfl (n:=9) Tryz.ntmps87 (by simp) ?_;intro a0 R F ha;have s0:a0.tmps[0]?.getD undef=.slice A ps.length c:=ha 0 _ rfl;have s1:a0.tmps[1]?.getD undef=XZ q:=ha 1 _ rfl;clear ha;have O:=Below.refl w.heap.size w;have S:=Nat.le_refl w.heap.size;refine wp_seq ?_;refine ZD [3,4] [.pointer (some ⟨w.heap.size,0,none⟩),.bool false] [some (.cells [.int .i64 q.a,.int .i64 q.b,.int .i64 q.c,.int .i64 q.d].toArray 49),none] [0,1] [3,4] [0,1] (by kernel_rfl) (by rw [R];decide) (ec ?_ (ec ?_ .nil)) ?_
 ·intro a w' B hs N Q C;simp [go_sem,B.g rfl s1];rw [hs];exact C
 ·intro a w' B hs N Q C;simp [go_sem];exact C
 intro a1 w2 B K hb hO;replace R:=B.size.trans R;replace F:=B.defers.trans F;replace s0:=B.g rfl s0;have s3:a1.tmps[3]?.getD undef=.pointer (some ⟨w.heap.size,0,none⟩):=K 0 (by decide);have b3:Xv w2 w.heap.size 49 [.int .i64 q.a,.int .i64 q.b,.int .i64 q.c,.int .i64 q.d]:=hO 0 _ rfl;have hG:=b3.lt;replace O:=Xg O hb;have zw2:=Nat.le_trans S hb.size;replace S:=Nat.le_refl w2.heap.size;clear B K hb hO s1;refine Xl (wp_seq ?_);refine Xf [5,6,7,8,4] [some (.slice A ps.length c),some (XZ q),some (.int .i64 (pcIdx ps q)),some (.bool (decide (pcIdx ps q ≥ 0))),some (.bool (decide (pcIdx ps q ≥ 0)))] (X5 5) [5,6,7,8,4] [] (λ _ _ _=>True) ?_ (e4 ?_ ?_ ?_ ?_ (en rfl ?_ .nil)) ?_
 ·exact λ _ _=>trivial
 ·exact Za s0 rfl rfl rfl
 ·intro P J I H _ _ C;simp [go_sem,H.f.g rfl s3,(b3.k0 H.k).cell];exact (C _ _ H.k rfl trivial)
 ·intro P J I H _ _ C;simp [go_sem,(gS J 5 (H.d 0 rfl rfl)),(gS J 6 (H.d 1 rfl rfl))];have hBi:=H.k.below0 O;refine (pcIndex_c ps q A c I hl (hsl.below hBi)).mono ?_;rintro x wx ⟨rfl,hb⟩;exact (C _ _ (H.k.call hb) rfl trivial)
 ·exact λ P J I H _ _ C=>X3 rfl (ev (H.d 2 rfl rfl)) rfl rfl rfl (C _ _ H.k rfl trivial)
 ·exact Ja 3 rfl rfl rfl rfl
 intro L a4 w5 T B D K U;replace R:=B.Z R;replace F:=B.E F;have s4:=gS a4 4 (K 4 _ rfl);replace S:=Nat.le_trans S D.size;replace O:=D.below0 O;clear B D K T U s0 s3 b3;refine Xl (wp_ret ?_);refine bodyPost_ret (v:=.bool (decide (pcIdx ps q ≥ 0))) (by simp [results,Tryz.results87,go_sem,s4]) F ?_;exact ⟨by rw [<- pcIdx_ge],O⟩
theorem pcContainsT_c (ps:List Xm) (kk:Nat) (q:Xm) (A:Option Addr) (c:Nat) (w:World) (hl:ps.length<=1048576) (hk:kk<=ps.length) (hsl:Sl 4 Yy w A ps) :
 Calls Tryz.prog 87 #[.slice A kk c,XZ q] w λ x w'=>x=.returned (.bool ((ps.take kk).contains q))/\Below w.heap.size w w':=by
 have h:=pcContains_c (ps.take kk) q A c w (by rw [List.length_take];omega) (hsl.take kk);rw [List.length_take,Nat.min_eq_left hk] at h;exact h
theorem atLeast_c (q o:Xm) (w:World) (hq:PcD q) (ho:PcD o) :
 Calls Tryz.prog 88 #[XZ q,XZ o] w λ x w'=>x=.returned (.tuple #[Yf (alH q o),.bool (alA q o),.bool (YP q o),.bool (alK q o)])/\Below w.heap.size w w':=by
 obtain ⟨⟨k1,k2⟩,⟨k3,k4⟩,⟨k5,k6⟩,⟨k7,k8⟩,⟨k9,ka⟩,⟨kb,kc⟩⟩:=lowBd hq ho;refine ZY Tryz.func88 rfl (n:=62) Tryz.ntmps88 (by simp) ?_;intro a0 R F ha;have s0:a0.tmps[0]?.getD undef=XZ q:=ha 0 _ rfl;have s1:a0.tmps[1]?.getD undef=XZ o:=ha 1 _ rfl;clear ha;have O:=Below.refl w.heap.size w;have S:=Nat.le_refl w.heap.size;refine wp_seq ?_;refine ZD [2,3,4,5,6,7] [.pointer (some ⟨w.heap.size,0,none⟩),.pointer (some ⟨(w.heap.size+1),0,none⟩),.pointer (some ⟨(w.heap.size+2),0,none⟩),.bool false,.bool false,.bool false] [some (.cells [.int .i64 q.a,.int .i64 q.b,.int .i64 q.c,.int .i64 q.d].toArray 49),some (.cells [.int .i64 o.a,.int .i64 o.b,.int .i64 o.c,.int .i64 o.d].toArray 49),some (.cells [.int .i64 0,.int .i64 0,.int .i64 0].toArray 85),none,none,none] [0,1,2,3,3,3] [2,3,4,5,6,7] [0,1,2,3,4,5] (by kernel_rfl) (by rw [R];decide) (ec ?_ (ec ?_ (ec ?_ (ec ?_ (ec ?_ (ec ?_ .nil)))))) ?_
 ·intro a w' B hs N Q C;simp [go_sem,B.g rfl s0];rw [hs];exact C
 ·intro a w' B hs N Q C;simp [go_sem,B.g rfl s1];rw [hs];exact C
 ·intro a w' B hs N Q C;simp [go_sem];rw [hs];exact C
 ·intro a w' B hs N Q C;simp [go_sem];exact C
 ·intro a w' B hs N Q C;simp [go_sem];exact C
 ·intro a w' B hs N Q C;simp [go_sem];exact C
 intro a1 w2 B K hb hO;replace R:=B.size.trans R;replace F:=B.defers.trans F;have s2:a1.tmps[2]?.getD undef=.pointer (some ⟨w.heap.size,0,none⟩):=K 0 (by decide);have s3:a1.tmps[3]?.getD undef=.pointer (some ⟨(w.heap.size+1),0,none⟩):=K 1 (by decide);have s4:a1.tmps[4]?.getD undef=.pointer (some ⟨(w.heap.size+2),0,none⟩):=K 2 (by decide);have b3:Xv w2 w.heap.size 49 [.int .i64 q.a,.int .i64 q.b,.int .i64 q.c,.int .i64 q.d]:=hO 0 _ rfl;have b4:Xv w2 (w.heap.size+1) 49 [.int .i64 o.a,.int .i64 o.b,.int .i64 o.c,.int .i64 o.d]:=hO 1 _ rfl;have b5:Xv w2 (w.heap.size+2) 85 [.int .i64 0,.int .i64 0,.int .i64 0]:=hO 2 _ rfl;have hG:=b5.lt;replace O:=Xg O hb;have zw2:=Nat.le_trans S hb.size;replace S:=Nat.le_refl w2.heap.size;clear B K hb hO s0 s1;refine Xl (wp_seq ?_);refine Xf [11,12,13,14,15,16,17,18,19,20,21,8] [some (.pointer (some ⟨(w.heap.size+1),0,none⟩)),some (.int .i64 o.a),some (.pointer (some ⟨w.heap.size,3,none⟩)),some (.int .i64 q.d),some (.int .i64 (o.a*q.d)),some (.pointer (some ⟨w.heap.size,0,none⟩)),some (.int .i64 q.a),some (.pointer (some ⟨(w.heap.size+1),3,none⟩)),some (.int .i64 o.d),some (.int .i64 (q.a*o.d)),some (.int .i64 ((o.a*q.d)-(q.a*o.d))),some (.int .i64 ((o.a*q.d)-(q.a*o.d)))] (X5 12) [11,12,13,14,15,16,17,18,19,20,21,8] [] (λ _ _ _=>True) ?_ (e4 ?_ ?_ ?_ ?_ (e4 ?_ ?_ ?_ ?_ (e4 ?_ ?_ ?_ ?_ .nil))) ?_
 ·exact λ _ _=>trivial
 ·intro P J I H _ _ C;simp [go_sem,H.f.g rfl s3];exact (C _ _ H.k rfl trivial)
 ·intro P J I H _ _ C;simp [go_sem,(gS J 11 (H.d 0 rfl rfl)),(b4.k0 H.k).cell];exact (C _ _ H.k rfl trivial)
 ·intro P J I H _ _ C;simp [go_sem,H.f.g rfl s2];exact (C _ _ H.k rfl trivial)
 ·intro P J I H _ _ C;simp [go_sem,(gS J 13 (H.d 2 rfl rfl)),(b3.k0 H.k).cell];exact (C _ _ H.k rfl trivial)
 ·exact λ P J I H _ _ C=>ZN rfl (ev (H.d 1 rfl rfl)) (ev (H.d 3 rfl rfl)) (by omega) (C _ _ H.k rfl trivial)
 ·intro P J I H _ _ C;simp [go_sem,H.f.g rfl s2];exact (C _ _ H.k rfl trivial)
 ·intro P J I H _ _ C;simp [go_sem,(gS J 16 (H.d 5 rfl rfl)),(b3.k0 H.k).cell];exact (C _ _ H.k rfl trivial)
 ·intro P J I H _ _ C;simp [go_sem,H.f.g rfl s3];exact (C _ _ H.k rfl trivial)
 ·intro P J I H _ _ C;simp [go_sem,(gS J 18 (H.d 7 rfl rfl)),(b4.k0 H.k).cell];exact (C _ _ H.k rfl trivial)
 ·exact λ P J I H _ _ C=>ZN rfl (ev (H.d 6 rfl rfl)) (ev (H.d 8 rfl rfl)) (by omega) (C _ _ H.k rfl trivial)
 ·exact λ P J I H _ _ C=>JU rfl (ev (H.d 4 rfl rfl)) (ev (H.d 9 rfl rfl)) (by omega) (C _ _ H.k rfl trivial)
 ·exact Ja 10 rfl rfl rfl rfl
 intro L a6 w7 T B D K U;replace R:=B.Z R;replace F:=B.E F;replace s2:=B.G s2;replace s3:=B.G s3;replace s4:=B.G s4;have s8:=gS a6 8 (K 11 _ rfl);replace b3:=b3.k0 D;replace b4:=b4.k0 D;replace b5:=b5.k0 D;replace S:=Nat.le_trans S D.size;replace O:=D.below0 O;clear B D K T U;obtain ⟨la,ela⟩:∃ z:Int,z=(o.a*q.d)-(q.a*o.d):=⟨_,rfl⟩;rw [<- ela] at s8;have hla:lowA q o=la:=ela.symm;have bla : -2000000000000000000<=la/\la<=2000000000000000000:=by rw [ela];omega
 refine Xl (wp_seq ?_);refine Xf [22,23,24,25,26,27,28,29,30,31,32,9] [some (.pointer (some ⟨(w.heap.size+1),1,none⟩)),some (.int .i64 o.b),some (.pointer (some ⟨w.heap.size,3,none⟩)),some (.int .i64 q.d),some (.int .i64 (o.b*q.d)),some (.pointer (some ⟨w.heap.size,1,none⟩)),some (.int .i64 q.b),some (.pointer (some ⟨(w.heap.size+1),3,none⟩)),some (.int .i64 o.d),some (.int .i64 (q.b*o.d)),some (.int .i64 ((o.b*q.d)-(q.b*o.d))),some (.int .i64 ((o.b*q.d)-(q.b*o.d)))] (X5 12) [22,23,24,25,26,27,28,29,30,31,32,9] [] (λ _ _ _=>True) ?_ (e4 ?_ ?_ ?_ ?_ (e4 ?_ ?_ ?_ ?_ (e4 ?_ ?_ ?_ ?_ .nil))) ?_
 ·exact λ _ _=>trivial
 ·intro P J I H _ _ C;simp [go_sem,H.f.g rfl s3];exact (C _ _ H.k rfl trivial)
 ·intro P J I H _ _ C;simp [go_sem,(gS J 22 (H.d 0 rfl rfl)),(b4.k0 H.k).cell];exact (C _ _ H.k rfl trivial)
 ·intro P J I H _ _ C;simp [go_sem,H.f.g rfl s2];exact (C _ _ H.k rfl trivial)
 ·intro P J I H _ _ C;simp [go_sem,(gS J 24 (H.d 2 rfl rfl)),(b3.k0 H.k).cell];exact (C _ _ H.k rfl trivial)
 ·exact λ P J I H _ _ C=>ZN rfl (ev (H.d 1 rfl rfl)) (ev (H.d 3 rfl rfl)) (by omega) (C _ _ H.k rfl trivial)
 ·intro P J I H _ _ C;simp [go_sem,H.f.g rfl s2];exact (C _ _ H.k rfl trivial)
 ·intro P J I H _ _ C;simp [go_sem,(gS J 27 (H.d 5 rfl rfl)),(b3.k0 H.k).cell];exact (C _ _ H.k rfl trivial)
 ·intro P J I H _ _ C;simp [go_sem,H.f.g rfl s3];exact (C _ _ H.k rfl trivial)
 ·intro P J I H _ _ C;simp [go_sem,(gS J 29 (H.d 7 rfl rfl)),(b4.k0 H.k).cell];exact (C _ _ H.k rfl trivial)
 ·exact λ P J I H _ _ C=>ZN rfl (ev (H.d 6 rfl rfl)) (ev (H.d 8 rfl rfl)) (by omega) (C _ _ H.k rfl trivial)
 ·exact λ P J I H _ _ C=>JU rfl (ev (H.d 4 rfl rfl)) (ev (H.d 9 rfl rfl)) (by omega) (C _ _ H.k rfl trivial)
 ·exact Ja 10 rfl rfl rfl rfl
 intro L a8 w9 T B D K U;replace R:=B.Z R;replace F:=B.E F;replace s2:=B.G s2;replace s3:=B.G s3;replace s4:=B.G s4;replace s8:=B.G s8;have s9:=gS a8 9 (K 11 _ rfl);replace b3:=b3.k0 D;replace b4:=b4.k0 D;replace b5:=b5.k0 D;replace S:=Nat.le_trans S D.size;replace O:=D.below0 O;clear B D K T U;obtain ⟨lb,elb⟩:∃ z:Int,z=(o.b*q.d)-(q.b*o.d):=⟨_,rfl⟩;rw [<- elb] at s9;have hlb:lowB q o=lb:=elb.symm;have blb : -2000000000000000000<=lb/\lb<=2000000000000000000:=by rw [elb];omega
 refine Xl (wp_seq ?_);refine Xf [33,34,35,36,37,38,39,40,41,42,43,10] [some (.pointer (some ⟨w.heap.size,2,none⟩)),some (.int .i64 q.c),some (.pointer (some ⟨(w.heap.size+1),3,none⟩)),some (.int .i64 o.d),some (.int .i64 (q.c*o.d)),some (.pointer (some ⟨(w.heap.size+1),2,none⟩)),some (.int .i64 o.c),some (.pointer (some ⟨w.heap.size,3,none⟩)),some (.int .i64 q.d),some (.int .i64 (o.c*q.d)),some (.int .i64 ((q.c*o.d)-(o.c*q.d))),some (.int .i64 ((q.c*o.d)-(o.c*q.d)))] (X5 12) [33,34,35,36,37,38,39,40,41,42,43,10] [] (λ _ _ _=>True) ?_ (e4 ?_ ?_ ?_ ?_ (e4 ?_ ?_ ?_ ?_ (e4 ?_ ?_ ?_ ?_ .nil))) ?_
 ·exact λ _ _=>trivial
 ·intro P J I H _ _ C;simp [go_sem,H.f.g rfl s2];exact (C _ _ H.k rfl trivial)
 ·intro P J I H _ _ C;simp [go_sem,(gS J 33 (H.d 0 rfl rfl)),(b3.k0 H.k).cell];exact (C _ _ H.k rfl trivial)
 ·intro P J I H _ _ C;simp [go_sem,H.f.g rfl s3];exact (C _ _ H.k rfl trivial)
 ·intro P J I H _ _ C;simp [go_sem,(gS J 35 (H.d 2 rfl rfl)),(b4.k0 H.k).cell];exact (C _ _ H.k rfl trivial)
 ·exact λ P J I H _ _ C=>ZN rfl (ev (H.d 1 rfl rfl)) (ev (H.d 3 rfl rfl)) (by omega) (C _ _ H.k rfl trivial)
 ·intro P J I H _ _ C;simp [go_sem,H.f.g rfl s3];exact (C _ _ H.k rfl trivial)
 ·intro P J I H _ _ C;simp [go_sem,(gS J 38 (H.d 5 rfl rfl)),(b4.k0 H.k).cell];exact (C _ _ H.k rfl trivial)
 ·intro P J I H _ _ C;simp [go_sem,H.f.g rfl s2];exact (C _ _ H.k rfl trivial)
 ·intro P J I H _ _ C;simp [go_sem,(gS J 40 (H.d 7 rfl rfl)),(b3.k0 H.k).cell];exact (C _ _ H.k rfl trivial)
 ·exact λ P J I H _ _ C=>ZN rfl (ev (H.d 6 rfl rfl)) (ev (H.d 8 rfl rfl)) (by omega) (C _ _ H.k rfl trivial)
 ·exact λ P J I H _ _ C=>JU rfl (ev (H.d 4 rfl rfl)) (ev (H.d 9 rfl rfl)) (by omega) (C _ _ H.k rfl trivial)
 ·exact Ja 10 rfl rfl rfl rfl
 intro L a10 w11 T B D K U;replace R:=B.Z R;replace F:=B.E F;replace s4:=B.G s4;replace s8:=B.G s8;replace s9:=B.G s9;have s10:=gS a10 10 (K 11 _ rfl);replace b5:=b5.k0 D;replace S:=Nat.le_trans S D.size;replace O:=D.below0 O;clear B D K T U s2 s3 b3 b4;obtain ⟨lc,elc⟩:∃ z:Int,z=(q.c*o.d)-(o.c*q.d):=⟨_,rfl⟩;rw [<- elc] at s10;have hlc:lowC q o=lc:=elc.symm;have blc : -2000000000000000000<=lc/\lc<=2000000000000000000:=by rw [elc];omega
 refine Xl (wp_seq (wp_seq ?_));refine Xf [44,45,46,47,48,49] [some (.int .i64 la),some (.bool (la == 0)),some (.bool (la == 0)),some ((bif la == 0 then (.int .i64 lb:Value) else undef)),some ((bif la == 0 then (.bool (lb == 0):Value) else undef)),some (.bool (la == 0&&lb == 0))] (X5 6) [44,45,46,47,48,49] [] (λ _ _ _=>True) ?_ (e2 ?_ ?_ (en rfl ?_ (eg ?_ (eg ?_ (en rfl ?_ .nil))))) ?_
 ·exact λ _ _=>trivial
 ·exact Za s8 rfl rfl rfl
 ·exact λ P J I H _ _ C=>X3 rfl (ev (H.d 0 rfl rfl)) rfl rfl rfl (C _ _ H.k rfl trivial)
 ·exact JW 1 rfl rfl rfl rfl
 ·intro P J I H _ _ C;refine wgt rfl rfl rfl (H.d 2 rfl rfl) (λ qg=>C _ _ H.k (Xx qg).symm trivial) λ qg=>?_;exact Xy rfl (ev (H.f.g rfl s9)) (C _ _ H.k (XL qg).symm trivial)
 ·intro P J I H _ _ C;refine wgt rfl rfl rfl (H.d 2 rfl rfl) (λ qg=>C _ _ H.k (Xx qg).symm trivial) λ qg=>?_;exact X3 rfl (ev ((H.d 3 rfl rfl).trans (XL qg))) rfl rfl rfl (C _ _ H.k (XL qg).symm trivial)
 ·exact λ P J I H _ _ C=>Z3 rfl (ev (H.d 2 rfl rfl)) (λ h=>(ev ((H.d 4 rfl rfl).trans (XL h))).trans (vand_t h)) (λ h=>vand_f h) (C _ _ H.k rfl trivial)
 intro L a12 w13 T B D K U;replace R:=B.Z R;replace F:=B.E F;replace s4:=B.G s4;replace s8:=B.G s8;replace s9:=B.G s9;replace s10:=B.G s10;have s49:=gS a12 49 (K 5 _ rfl);replace b5:=b5.k0 D;replace S:=Nat.le_trans S D.size;replace O:=D.below0 O;clear B D K T U;refine Xl ?_;rcases Bool.eq_false_or_eq_true (la == 0&&lb == 0) with q14|q14
 ·refine wp_cond_true (ev (vb s49 q14)) ?_;refine wp_seq ?_;have M:Xd [] (λ L aa I=>ZB I (w.heap.size+2) 85 [.int .i64 0,.int .i64 0,.int .i64 0] (L 3) (λ _ vs=>vs=[.int .i64 0,.int .i64 0,.int .i64 0])):=λ L aa I w' kk vv hkk hb x0=>(x0.bel hb (λ _ h=>h));refine Xz M [50,51,52,0,5,6,7] [some (.agg #[.int .i64 0,.int .i64 0,.int .i64 0]),some (.int .i64 lc),some (.bool (decide (lc ≥ 0))),none,some (.bool (decide (lc ≥ 0))),some (.bool true),some (.bool true)] (X5 7) [50,51,52,5,6,7] [(w.heap.size+2)] ?_ (e4 ?_ ?_ ?_ ?_ (e2 ?_ ?_ (en rfl ?_ .nil))) ?_
  ·exact λ _ h=>(⟨λ _=>b5.kp h (by simp),(λ h=>by cases h)⟩)
  ·intro P J I H _ _ C;simp [go_sem];exact (C _ _ H.k rfl H.x)
  ·exact Yx s10 rfl rfl rfl λ _ _ _ _ h=>h
  ·exact λ P J I H _ _ C=>X3 rfl (ev (H.d 1 rfl rfl)) rfl rfl rfl (C _ _ H.k rfl H.x)
  ·intro P J I H _ _ C;have x0:=H.x;have V:=x0.1 H.n;simp [go_sem,(gS J 50 (H.d 0 rfl rfl)),H.f.g rfl s4,V.cell,V.frz];exact C undef _ (H.k.store (.inr (by simp)) [.int .i64 0,.int .i64 0,.int .i64 0] 0) trivial (ZB.set V (us:=[.int .i64 0,.int .i64 0,.int .i64 0]) rfl rfl)
  ·exact Jg 2 rfl rfl rfl rfl λ _ _ _ _ h=>h
  ·exact oACX rfl rfl λ _ _ _ _ h=>h
  ·exact oACX rfl rfl λ _ _ _ _ h=>h
  intro L a15 w16 T B D K U;have x0:=U;replace R:=B.Z R;replace F:=B.E F;replace s4:=B.G s4;have s5:=gS a15 5 (K 4 _ rfl);have s6:=gS a15 6 (K 5 _ rfl);have s7:=gS a15 7 (K 6 _ rfl);clear b5;obtain ⟨_,b5,rfl⟩:=x0.2 (T 3 (by decide));replace S:=Nat.le_trans S D.size;replace O:=D.below O O.size (by simp<;>omega);clear B D K T x0 M s8 s9 s10 s49;refine Xl (wp_ret (Kl ?_));refine bodyPost_ret (v:=.tuple #[.agg #[.int .i64 0,.int .i64 0,.int .i64 0],.bool (decide (lc ≥ 0)),.bool true,.bool true]) (by simp [results,Tryz.results88,go_sem,s4,b5.cell,s5,s6,s7]) F ?_;have hf:YP q o=true:=flatS_t (by rw [<- ela];exact and_t1 q14) (by rw [<- elb];exact and_t2 q14);obtain ⟨z1,z2,z3⟩:=al_flat hf;exact ⟨by rw [z1,z2,z3,hf,hlc];rfl,O⟩
 ·refine wp_cond_false (ev (vb s49 q14)) ?_;refine wp_skip (Xl (wp_seq ?_));have hlh:YE q o=XO la lb lc:=by unfold YE;rw [hla,hlb,hlc]
  have hHO:=λ W=>iHalfOf_c la lb lc W ⟨by omega,by omega⟩ ⟨by omega,by omega⟩ ⟨by omega,by omega⟩;rw [<- hlh] at hHO;have M:Xd [] (λ L aa I=>ZB I (w.heap.size+2) 85 [.int .i64 0,.int .i64 0,.int .i64 0] (L 7) (λ _ vs=>vs=[.int .i64 (((YE q o).getD Xb).a),.int .i64 (((YE q o).getD Xb).b),.int .i64 (((YE q o).getD Xb).c)])):=λ L aa I w' kk vv hkk hb x0=>(x0.bel hb (λ _ h=>h));refine Xz M [54,55,56,57,53,58,59,0,7] [some (.int .i64 la),some (.int .i64 lb),some (.int .i64 lc),some (.tuple #[Yf ((YE q o).getD Xb),.bool ((YE q o).isSome)]),some (.tuple #[Yf ((YE q o).getD Xb),.bool ((YE q o).isSome)]),some (Yf ((YE q o).getD Xb)),some (.bool ((YE q o).isSome)),none,some (.bool ((YE q o).isSome))] (X5 9) [54,55,56,57,53,58,59,7] [(w.heap.size+2)] ?_ (e4 ?_ ?_ ?_ ?_ (e4 ?_ ?_ ?_ ?_ (en rfl ?_ .nil))) ?_
  ·exact λ _ h=>(⟨λ _=>b5.kp h (by simp),(λ h=>by cases h)⟩)
  ·exact Yx s8 rfl rfl rfl λ _ _ _ _ h=>h
  ·exact Yx s9 rfl rfl rfl λ _ _ _ _ h=>h
  ·exact Yx s10 rfl rfl rfl λ _ _ _ _ h=>h
  ·intro P J I H _ _ C;simp [go_sem,(gS J 54 (H.d 0 rfl rfl)),(gS J 55 (H.d 1 rfl rfl)),(gS J 56 (H.d 2 rfl rfl))];refine (hHO I).mono ?_;rintro x wx ⟨rfl,hb⟩;exact (C _ _ (H.k.call hb) (optHalf_eq _) (M P J I _ none undef (by simp) hb H.x))
  ·exact oMDX 3 rfl rfl rfl rfl λ _ _ _ _ h=>h
  ·exact oEDX 4 rfl rfl rfl rfl rfl λ _ _ _ _ h=>h
  ·exact oEDX 4 rfl rfl rfl rfl rfl λ _ _ _ _ h=>h
  ·intro P J I H _ _ C;have x0:=H.x;have V:=x0.1 H.n;simp [go_sem,(gS J 58 (H.d 5 rfl rfl)),H.f.g rfl s4,V.cell,V.frz];exact C undef _ (H.k.store (.inr (by simp)) [.int .i64 (((YE q o).getD Xb).a),.int .i64 (((YE q o).getD Xb).b),.int .i64 (((YE q o).getD Xb).c)] 0) trivial (ZB.set V (us:=[.int .i64 (((YE q o).getD Xb).a),.int .i64 (((YE q o).getD Xb).b),.int .i64 (((YE q o).getD Xb).c)]) rfl rfl)
  ·exact Jg 6 rfl rfl rfl rfl λ _ _ _ _ h=>h
  intro L a17 w18 T B D K U;have x0:=U;replace R:=B.Z R;replace F:=B.E F;replace s4:=B.G s4;have s7:=gS a17 7 (K 8 _ rfl);clear b5;obtain ⟨_,b5,rfl⟩:=x0.2 (T 7 (by decide));replace S:=Nat.le_trans S D.size;replace O:=D.below O O.size (by simp<;>omega);clear B D K T x0 M s8 s9 s10 s49;refine Xl (wp_seq ?_);have hX0:Xd [] (λ L aa I=>ZB I (w.heap.size+2) 85 [.int .i64 (((YE q o).getD Xb).a),.int .i64 (((YE q o).getD Xb).b),.int .i64 (((YE q o).getD Xb).c)] (L 2) (λ _ vs=>vs=[.int .i64 (((YE q o).getD Xb).a),.int .i64 (((YE q o).getD Xb).b),.int .i64 (((YE q o).getD Xb).c)])):=λ L aa I w' kk vv hkk hb x0=>(x0.bel hb (λ _ h=>h));have hX1:Xd [7] (λ L aa I=>(L 5=false->aa.tmps[7]?.getD undef=.bool ((YE q o).isSome))):=λ L aa I w' kk vv hkk hb x1=>(λ h=>(Xj (hkk 7 (by simp)) vv).trans (x1 h));have M:=hX0.a hX1;refine Xz M [60,61,0,5,6,7] [some (Yf ((YE q o).getD Xb)),some (.bool ((YE q o).isSome)),none,some (.bool false),some (.bool false),some (.bool ((YE q o).isSome))] (X5 6) [60,61,5,6,7] [(w.heap.size+2)] ?_ (e4 ?_ ?_ ?_ ?_ (e2 ?_ ?_ .nil)) ?_
  ·exact λ _ h=>⟨(⟨λ _=>b5.kp h (by simp),(λ h=>by cases h)⟩),(λ _=>s7)⟩
  ·intro P J I H _ _ C;obtain ⟨x0,x1⟩:=H.x;have hb0:=x0.1 (H.t 2 rfl);simp [go_sem,H.f.g rfl s4,hb0.cell];exact (C _ _ H.k rfl (M.q rfl H.x))
  ·intro P J I H _ _ C;obtain ⟨x0,x1⟩:=H.x;exact Xy rfl (ev (x1 (H.t 5 rfl))) (C _ _ H.k rfl (M.q rfl H.x))
  ·intro P J I H _ _ C;obtain ⟨x0,x1⟩:=H.x;have V:=x0.1 H.n;simp [go_sem,(gS J 60 (H.d 0 rfl rfl)),H.f.g rfl s4,V.cell,V.frz];exact C undef _ (H.k.store (.inr (by simp)) [.int .i64 (((YE q o).getD Xb).a),.int .i64 (((YE q o).getD Xb).b),.int .i64 (((YE q o).getD Xb).c)] 0) trivial ⟨(ZB.set V (us:=[.int .i64 (((YE q o).getD Xb).a),.int .i64 (((YE q o).getD Xb).b),.int .i64 (((YE q o).getD Xb).c)]) rfl rfl),(x1)⟩
  ·exact oACX rfl rfl λ _ _ _ _=>M.q rfl
  ·exact oACX rfl rfl λ _ _ _ _=>M.q rfl
  ·intro P J I H _ _ C;obtain ⟨x0,x1⟩:=H.x;exact XR rfl (ev (H.d 1 rfl rfl)) (C _ _ H.k rfl ⟨(x0.bel bR (λ _ h=>h)),(λ h=>by simp [Yb] at h)⟩)
  intro L a19 w20 T B D K U;obtain ⟨x0,x1⟩:=U;replace R:=B.Z R;replace F:=B.E F;replace s4:=B.G s4;have s5:=gS a19 5 (K 3 _ rfl);have s6:=gS a19 6 (K 4 _ rfl);have s7:=gS a19 7 (K 5 _ rfl);clear b5;obtain ⟨_,b5,rfl⟩:=x0.2 (T 2 (by decide));replace S:=Nat.le_trans S D.size;replace O:=D.below O O.size (by simp<;>omega);clear B D K T x0 x1 M hX0 hX1;refine Xl (wp_ret ?_);refine bodyPost_ret (v:=.tuple #[Yf ((YE q o).getD Xb),.bool false,.bool false,.bool ((YE q o).isSome)]) (by simp [results,Tryz.results88,go_sem,s4,b5.cell,s5,s6,s7]) F ?_;have hf:YP q o=false:=flatS_f (by rw [<- ela,<- elb];exact q14);obtain ⟨z1,z2,z3⟩:=al_steep hf;exact ⟨by rw [z1,z2,z3,hf],O⟩
theorem greatestIn_c (p:List Half) (ps:List Xm) (kk:Nat) (b:ZC) (A:Option Addr) (c:Nat) (w:World) (hp:Xc p=true) (hok:∀ q∈ps,XM q=true) (hD:1<ps.length->∀ k,k<ps.length->(ps.getD k Xo).d<=1000000) (hkk:kk<ps.length) (hl:p.length+ps.length<=40) (hc:ps.length<=c) (hsp:Sl 3 Xe w b.A p) (hsl:Sl 4 Yy w A ps) :
 Calls Tryz.prog 42 #[.agg #[.slice b.A p.length b.c],.slice A ps.length c,.int .i64 (kk:Int)] w λ x w'=>∃ v,x=.returned (.tuple #[.agg #[v],.bool (Zi ps kk)])/\XI 85 3 Xe w' w.heap.size v (grR p ps kk)/\Below w.heap.size w w':=by
 obtain ⟨i0h,hi0h,hz0h,hz1h,hz2h⟩:=info_parts (show (Tryz.prog.info? 85).map (λ i=>(i.zero,i.size,i.bytes))=some (some (.agg #[.int .i64 0,.int .i64 0,.int .i64 0]),3,24) by kernel_rfl);refine ZY Tryz.func42 rfl (n:=73) Tryz.ntmps42 (by simp) ?_;intro a0 R F ha;have s0:a0.tmps[0]?.getD undef=.agg #[.slice b.A p.length b.c]:=ha 0 _ rfl;have s1:a0.tmps[1]?.getD undef=.slice A ps.length c:=ha 1 _ rfl;have s2:a0.tmps[2]?.getD undef=.int .i64 (kk:Int):=ha 2 _ rfl;clear ha;have O:=Below.refl w.heap.size w;have S:=Nat.le_refl w.heap.size;refine wp_seq ?_;refine ZD [3,6,7] [.pointer (some ⟨w.heap.size,0,none⟩),.pointer (some ⟨(w.heap.size+1),0,none⟩),.bool false] [some (.cells [.slice b.A p.length b.c].toArray 26),some (.cells [.slice none 0 0].toArray 26),none] [0,1,2] [3,6,7] [0,1,2] (by kernel_rfl) (by rw [R];decide) (ec ?_ (ec ?_ (ec ?_ .nil))) ?_
 ·intro a w' B hs N Q C;simp [go_sem,B.g rfl s0];rw [hs];exact C
 ·intro a w' B hs N Q C;simp [go_sem];rw [hs];exact C
 ·intro a w' B hs N Q C;simp [go_sem];exact C
 intro a1 w2 B K hb hO;replace R:=B.size.trans R;replace F:=B.defers.trans F;replace s1:=B.g rfl s1;replace s2:=B.g rfl s2;have s3:a1.tmps[3]?.getD undef=.pointer (some ⟨w.heap.size,0,none⟩):=K 0 (by decide);have s6:a1.tmps[6]?.getD undef=.pointer (some ⟨(w.heap.size+1),0,none⟩):=K 1 (by decide);have b3:Xv w2 w.heap.size 26 [.slice b.A p.length b.c]:=hO 0 _ rfl;have b4:Xv w2 (w.heap.size+1) 26 [.slice none 0 0]:=hO 1 _ rfl;have hG:=b4.lt;replace O:=Xg O hb;have zw2:=Nat.le_trans S hb.size;replace S:=Nat.le_refl w2.heap.size;clear B K hb hO s0;refine Xl (wp_seq ?_);have hX0:=Xd.e 18 2 (λ I v=>∃ A1 c1,v=.slice A1 p.length c1/\XI 85 3 Xe I w2.heap.size (.slice A1 (p).length c1) p) (λ hb _ h=>by obtain ⟨A1',c1',e,f1'⟩:=h;exact ⟨A1',c1',e,f1'.below hb Xs⟩);have hX1:=Xd.e 8 3 (λ I v=>∃ A1 c1,v=.slice A1 p.length c1/\XI 85 3 Xe I w2.heap.size (.slice A1 (p).length c1) p) (λ hb _ h=>by obtain ⟨A1',c1',e,f1'⟩:=h;exact ⟨A1',c1',e,f1'.below hb Xs⟩);have M:=hX0.a hX1;refine Xz M [16,17,18,8] [some (.pointer (some ⟨w.heap.size,0,none⟩)),some (.slice b.A p.length b.c),none,none] (X5 4) [16,17,18,8] [] ?_ (e4 ?_ ?_ ?_ ?_ .nil) ?_
 ·exact λ _ h=>⟨(λ h=>by cases h),(λ h=>by cases h)⟩
 ·intro P J I H _ _ C;simp [go_sem,H.f.g rfl s3];exact (C _ _ H.k rfl (M.q rfl H.x))
 ·intro P J I H _ _ C;simp [go_sem,(gS J 16 (H.d 0 rfl rfl)),(b3.k0 H.k).cell];exact (C _ _ H.k rfl (M.q rfl H.x))
 ·intro P J I H _ _ C;obtain ⟨x0,x1⟩:=H.x;simp [go_sem,(gS J 17 (H.d 1 rfl rfl))];have hBi:=H.k.below0 O;refine (cloneHalf_c b.A p b.c I (by omega) (hsp.below hBi)).mono ?_;rintro x wx ⟨_,rfl,⟨A1,c1,rfl,f0⟩,hb⟩;have f1:=XI.mono (show XI 85 3 Xe wx I.heap.size (.slice A1 (p).length c1) p from ⟨_,_,rfl,f0⟩) H.k.size;exact (C _ _ (H.k.call hb) trivial ⟨(λ _=>⟨A1,c1,H.f.s R,f1⟩),(hX1.b rfl hb x1)⟩)
 ·intro P J I H _ _ C;obtain ⟨x0,x1⟩:=H.x;obtain ⟨A1,c1,ee2,f1⟩:=x0 (H.r 2 rfl);exact XR rfl (ev ee2) (C _ _ H.k trivial ⟨(hX0.q rfl x0),(λ _=>⟨A1,c1,H.f.s R,f1⟩)⟩)
 intro L a5 w6 T B D K U;obtain ⟨x0,x1⟩:=U;replace R:=B.Z R;replace F:=B.E F;replace s1:=B.G s1;replace s2:=B.G s2;replace s3:=B.G s3;replace s6:=B.G s6;replace b3:=b3.k0 D;replace b4:=b4.k0 D;obtain ⟨A1,c1,s8,N1⟩:=x1 (T 3 (by decide));have i1:∀ p,A1=some p->p.block<w6.heap.size:=λ p hp=>(N1.blk p hp).2;have zw6:=D.size;replace S:=Nat.le_refl w6.heap.size;replace O:=D.below0 O;clear B D K T x0 x1 M hX0 hX1;refine Xl (wp_seq ?_);have hLp:0<ps.length:=by omega
 obtain ⟨bl,ol,el,fe⟩:=ElS.open_ hsl hLp;have hbl9:=fe.lt;replace fe:=fe.bel O;have hsle:=hsl;rw [el] at hsle;refine Xf [19,20,21,22,23,24,25,26,27,28,29,30,9] [some (.agg #[.slice b.A p.length b.c]),some (.bool (decide (p.length=0))),some (.bool (decide (p.length=0))),some ((bif decide (p.length=0) then undef else (.slice A ps.length c:Value))),some ((bif decide (p.length=0) then undef else (.int .i64 (kk:Int):Value))),some ((bif decide (p.length=0) then undef else (.slice (some ⟨bl,ol,none⟩) kk c:Value))),some ((bif decide (p.length=0) then undef else (.slice A ps.length c:Value))),some ((bif decide (p.length=0) then undef else (.int .i64 (kk:Int):Value))),some ((bif decide (p.length=0) then undef else (.pointer (some ⟨bl,ol+kk*4,none⟩):Value))),some ((bif decide (p.length=0) then undef else (XZ (ps.getD kk Xo):Value))),some ((bif decide (p.length=0) then undef else (.bool ((ps.take kk).contains (ps.getD kk Xo)):Value))),some (.bool (decide (p.length=0)||(ps.take kk).contains (ps.getD kk Xo))),some (.bool (decide (p.length=0)||(ps.take kk).contains (ps.getD kk Xo)))] ([[],[0],[0,1],[0,1,2],[0,1,2],[0,1,2,3,4],[0,1,2],[0,1,2],[0,1,2,6,7],[0,1,2,6,7,8],[0,1,2,3,4,5,6,7,8,9],[0,1,2,3,4,5,6,7,8,9,10],[0,1,2,3,4,5,6,7,8,9,10,11]]) [19,20,21,22,23,24,25,26,27,28,29,30,9] [] (λ _ _ _=>True) ?_ (e2 ?_ ?_ (en rfl ?_ (eg ?_ (eg ?_ (eg ?_ (eg ?_ (eg ?_ (eg ?_ (eg ?_ (eg ?_ (e2 ?_ ?_ .nil))))))))))) ?_
 ·exact λ _ _=>trivial
 ·intro P J I H _ _ C;simp [go_sem,H.f.g rfl s3,(b3.k0 H.k).cell];exact (C _ _ H.k rfl trivial)
 ·intro P J I H _ _ C;simp [go_sem,(gS J 19 (H.d 0 rfl rfl))];refine (Jc p b I).mono ?_;rintro x wx ⟨rfl,hb⟩;exact (C _ _ (H.k.call hb) rfl trivial)
 ·exact JW 1 rfl rfl rfl rfl
 ·intro P J I H _ _ C;refine KF rfl rfl rfl (H.d 2 rfl rfl) (λ qg=>C _ _ H.k (XL qg).symm trivial) λ qg=>?_;exact Xy rfl (ev (H.f.g rfl s1)) (C _ _ H.k (Xx qg).symm trivial)
 ·intro P J I H _ _ C;refine KF rfl rfl rfl (H.d 2 rfl rfl) (λ qg=>C _ _ H.k (XL qg).symm trivial) λ qg=>?_;exact Xy rfl (ev (H.f.g rfl s2)) (C _ _ H.k (Xx qg).symm trivial)
 ·intro P J I H _ _ C;refine KF rfl rfl rfl (H.d 2 rfl rfl) (λ qg=>C _ _ H.k (XL qg).symm trivial) λ qg=>?_;simp [go_sem,(show J.tmps[22]?.getD undef=_ from (H.d 3 rfl rfl).trans (Xx qg)),(show J.tmps[23]?.getD undef=_ from (H.d 4 rfl rfl).trans (Xx qg)),show (kk:Int)<=(c:Int) by omega,show ¬ c=0 by omega,el];exact (C _ _ H.k (Xx qg).symm trivial)
 ·intro P J I H _ _ C;refine KF rfl rfl rfl (H.d 2 rfl rfl) (λ qg=>C _ _ H.k (XL qg).symm trivial) λ qg=>?_;exact Xy rfl (ev (H.f.g rfl s1)) (C _ _ H.k (Xx qg).symm trivial)
 ·intro P J I H _ _ C;refine KF rfl rfl rfl (H.d 2 rfl rfl) (λ qg=>C _ _ H.k (XL qg).symm trivial) λ qg=>?_;exact Xy rfl (ev (H.f.g rfl s2)) (C _ _ H.k (Xx qg).symm trivial)
 ·intro P J I H _ _ C;refine KF rfl rfl rfl (H.d 2 rfl rfl) (λ qg=>C _ _ H.k (XL qg).symm trivial) λ qg=>?_;simp [go_sem,(show J.tmps[25]?.getD undef=_ from (H.d 6 rfl rfl).trans (Xx qg)),(show J.tmps[26]?.getD undef=_ from (H.d 7 rfl rfl).trans (Xx qg)),hkk,el];exact (C _ _ H.k (Xx qg).symm trivial)
 ·intro P J I H _ _ C;refine KF rfl rfl rfl (H.d 2 rfl rfl) (λ qg=>C _ _ H.k (XL qg).symm trivial) λ qg=>?_;have hE:=fe.kp H.k (by simp);simp [go_sem,(show J.tmps[27]?.getD undef=_ from (H.d 8 rfl rfl).trans (Xx qg)),(hE.at_ Xo (i:=kk) (by omega) 0 (p:=ol+kk*4) (by omega) rfl),(hE.at_ Xo (i:=kk) (by omega) 1 (p:=ol+kk*4+1) (by omega) rfl),(hE.at_ Xo (i:=kk) (by omega) 2 (p:=ol+kk*4+2) (by omega) rfl),(hE.at_ Xo (i:=kk) (by omega) 3 (p:=ol+kk*4+3) (by omega) rfl)];exact (C _ _ H.k (Xx qg).symm trivial)
 ·intro P J I H _ _ C;refine KF rfl rfl rfl (H.d 2 rfl rfl) (λ qg=>C _ _ H.k (XL qg).symm trivial) λ qg=>?_;simp [go_sem,(show J.tmps[24]?.getD undef=_ from (H.d 5 rfl rfl).trans (Xx qg)),(show J.tmps[28]?.getD undef=_ from (H.d 9 rfl rfl).trans (Xx qg))];have hBi:=H.k.below0 O;refine (pcContainsT_c ps kk (ps.getD kk Xo) (some ⟨bl,ol,none⟩) c I (by omega) (by omega) (hsle.below hBi)).mono ?_;rintro x wx ⟨rfl,hb⟩;exact (C _ _ (H.k.call hb) (Xx qg).symm trivial)
 ·exact oPOT 2 10 rfl rfl rfl rfl rfl rfl
 ·exact Ja 11 rfl rfl rfl rfl
 intro L a7 w8 T B D K U;replace R:=B.Z R;replace F:=B.E F;replace s1:=B.G s1;replace s2:=B.G s2;replace s6:=B.G s6;replace s8:=B.G s8;have s9:=gS a7 9 (K 12 _ rfl);replace b4:=b4.k0 D;replace fe:=fe.kp D (by simp);replace N1:=N1.below D.toBelow Xs;replace S:=Nat.le_trans S D.size;replace O:=D.below0 O;clear B D K T U s3 b3;refine Xl (wp_seq (wp_seq ?_));refine Xf [31,32,33] [some (.slice A ps.length c),some (.int .i64 (ps.length:Int)),some (.int .i64 0)] (X5 3) [31,32,33] [] (λ _ _ _=>True) ?_ (e2 ?_ ?_ (en rfl ?_ .nil)) ?_
 ·exact λ _ _=>trivial
 ·exact Za s1 rfl rfl rfl
 ·intro P J I H _ _ C;simp [go_sem,(gS J 31 (H.d 0 rfl rfl))];exact (C _ _ H.k rfl trivial)
 ·exact oMCT rfl rfl
 intro L a9 w10 T B D K U;replace R:=B.Z R;replace F:=B.E F;replace s1:=B.G s1;replace s2:=B.G s2;replace s6:=B.G s6;replace s8:=B.G s8;replace s9:=B.G s9;have s31:=gS a9 31 (K 0 _ rfl);have s32:=gS a9 32 (K 1 _ rfl);have s33:=gS a9 33 (K 2 _ rfl);replace b4:=b4.k0 D;replace fe:=fe.kp D (by simp);replace N1:=N1.below D.toBelow Xs;replace S:=Nat.le_trans S D.size;replace O:=D.below0 O;clear B D K T U;refine Xl (wp_block ?_);refine wp_loop (λ al wl=>al.tmps.size=73/\al.defers=[]/\∃ (k:Nat) (hs:List Half) (vd:Bool) (hv:List Half) (A2:Option Addr) (c2:Nat),(k<=ps.length)/\(Z5 ps kk k=some hs)/\(vd=(decide (p.length=0)||lowW ps kk k))/\(hv=p++hs)/\al.tmps[1]?.getD undef=.slice A ps.length c/\al.tmps[2]?.getD undef=.int .i64 (kk:Int)/\al.tmps[6]?.getD undef=.pointer (some ⟨(w.heap.size+1),0,none⟩)/\al.tmps[8]?.getD undef=.slice A2 hv.length c2/\al.tmps[9]?.getD undef=.bool vd/\al.tmps[31]?.getD undef=.slice A ps.length c/\al.tmps[32]?.getD undef=.int .i64 (ps.length:Int)/\al.tmps[33]?.getD undef=.int .i64 (k:Int)/\Xv wl (w.heap.size+1) 26 [.slice none 0 0]/\ElS wl bl ol 4 Yy ps/\XI 85 3 Xe wl w2.heap.size (.slice A2 hv.length c2) hv/\Below w.heap.size w wl/\w6.heap.size<=wl.heap.size) (λ al _=>(ps.length-(intOf (al.tmps[33]?.getD undef)).toNat)) ?_ ?_
 ·exact ⟨R,F,(0),([]),((decide (p.length=0)||(ps.take kk).contains (ps.getD kk Xo))),(p),(A1),(c1),(Nat.zero_le _),(rfl),(by rw [lowW_zero]),((List.append_nil _).symm),s1,s2,s6,s8,s9,s31,s32,s33,b4,fe,(N1),O,(by omega)⟩
 clear R F O S s1 s2 s6 s8 s9 s31 s32 s33 b4 fe N1;rintro a11 w12 ⟨R,F,k,hs,vd,hv,A2,c2,hk,hhs,hvd,hhv,s1,s2,s6,s8,s9,s31,s32,s33,b4,fe,N2,O,S⟩;have zw12:=S;replace S:=Nat.le_refl w12.heap.size;have i2:∀ p,A2=some p->p.block<w12.heap.size:=λ p hp=>(N2.blk p hp).2;have hmu:(ps.length-(intOf (a11.tmps[33]?.getD undef)).toNat)=(ps.length-(intOf ((.int .i64 (k:Int)))).toNat):=by rw [s33]
 refine wp_seq ?_;refine Xf [34] [some (.bool (decide ((k:Int)<(ps.length:Int))))] (X5 1) [34] [] (λ _ _ _=>True) ?_ (en rfl ?_ .nil) ?_
 ·exact λ _ _=>trivial
 ·exact λ P J I H _ _ C=>X3 rfl (ev (H.f.g rfl s33)) (ev (H.f.g rfl s32)) rfl rfl (C _ _ H.k rfl trivial)
 intro L a13 w14 T B D K U;replace R:=B.Z R;replace F:=B.E F;replace s1:=B.G s1;replace s2:=B.G s2;replace s6:=B.G s6;replace s8:=B.G s8;replace s9:=B.G s9;replace s31:=B.G s31;replace s32:=B.G s32;replace s33:=B.G s33;have s34:=gS a13 34 (K 0 _ rfl);replace b4:=b4.k0 D;replace fe:=fe.kp D (by simp);replace N2:=N2.below D.toBelow Xs;replace S:=Nat.le_trans S D.size;replace O:=D.below0 O;clear B D K T U;refine Xl (wp_seq ?_);rcases Bool.eq_false_or_eq_true (decide ((k:Int)<(ps.length:Int))) with q15|q15
 ·have hkl:k<ps.length:=by have:=Kk q15;omega
  have hll:hv.length<=40:=by have:=(lowM hp hl hk hhs).len;rw [<- hhv] at this;exact this
  refine wp_cond_true (ev (vb s34 q15)) ?_;refine wp_skip (Xl (wp_seq (wp_block (wp_seq ?_))));have M:=Xd.x 11 3 5 w14 49 [.int .i64 0,.int .i64 0,.int .i64 0,.int .i64 0] (λ _ vs=>vs=[.int .i64 ((ps.getD k Xo).a),.int .i64 ((ps.getD k Xo).b),.int .i64 ((ps.getD k Xo).c),.int .i64 ((ps.getD k Xo).d)]) (λ _ _ h=>h);refine Xz M [35,36,37,11,10,0] [some (.int .i64 (k:Int)),some (.pointer (some ⟨bl,ol+k*4,none⟩)),some (XZ (ps.getD k Xo)),none,some (.int .i64 (k:Int)),none] (X5 6) [35,36,37,11,10] [] ?_ (e4 ?_ ?_ ?_ ?_ (e2 ?_ ?_ .nil)) ?_
  ·exact λ _ h=>(λ h=>by cases h)
  ·exact Yx s33 rfl rfl rfl λ _ _ _ _=>M.q rfl
  ·intro P J I H _ _ C;simp [go_sem,H.f.g rfl s31,H.f.g rfl s33,hkl,el];exact (C _ _ H.k rfl (M.q rfl H.x))
  ·intro P J I H _ _ C;have hE:=fe.kp H.k (by simp);simp [go_sem,(gS J 36 (H.d 1 rfl rfl)),(hE.at_ Xo (i:=k) (by omega) 0 (p:=ol+k*4) (by omega) rfl),(hE.at_ Xo (i:=k) (by omega) 1 (p:=ol+k*4+1) (by omega) rfl),(hE.at_ Xo (i:=k) (by omega) 2 (p:=ol+k*4+2) (by omega) rfl),(hE.at_ Xo (i:=k) (by omega) 3 (p:=ol+k*4+3) (by omega) rfl)];exact (C _ _ H.k rfl (M.q rfl H.x))
  ·intro P J I H _ _ C;have x0:=H.x;simp [go_sem];exact C _ _ (H.k.alloc _) trivial (λ _=>by rw [show Yb P 3 5=false from H.t 5 rfl];exact Ys.new (s:=11) (H.f.lt (by rw [R];decide)) H.k.size [.int .i64 0,.int .i64 0,.int .i64 0,.int .i64 0])
  ·exact Jg 0 rfl rfl rfl rfl λ _ _ _ _=>M.q rfl
  ·intro P J I H _ _ C;have x0:=H.x;obtain ⟨g,eg,hg,y,_⟩:=x0 (H.r 3 rfl);have V:=y H.n;simp [go_sem,(gS J 37 (H.d 2 rfl rfl)),eg,V.cell,V.frz];exact C undef _ (H.k.store (.inl hg) [.int .i64 ((ps.getD k Xo).a),.int .i64 ((ps.getD k Xo).b),.int .i64 ((ps.getD k Xo).c),.int .i64 ((ps.getD k Xo).d)] 0) trivial (λ _=>Ys.set eg hg V (us:=[.int .i64 ((ps.getD k Xo).a),.int .i64 ((ps.getD k Xo).b),.int .i64 ((ps.getD k Xo).c),.int .i64 ((ps.getD k Xo).d)]) rfl rfl)
  intro L a16 w17 T B D K U;have x0:=U;replace R:=B.Z R;replace F:=B.E F;replace s1:=B.G s1;replace s2:=B.G s2;replace s6:=B.G s6;replace s8:=B.G s8;replace s9:=B.G s9;replace s31:=B.G s31;replace s32:=B.G s32;replace s33:=B.G s33;have s10:=gS a16 10 (K 4 _ rfl);replace b4:=b4.k0 D;obtain ⟨g18,s11,lg18,-,b18⟩:=x0 (T 3 (by decide));obtain ⟨_,b18,rfl⟩:=b18 (T 5 (by decide));have ug18:=b18.lt;replace fe:=fe.kp D (by simp);replace N2:=N2.below D.toBelow Xs;have zw14:=S;have zw17:=D.size;replace S:=Nat.le_refl w17.heap.size;replace O:=D.below0 O;clear B D K T x0 M s34;refine Xl (wp_seq (wp_seq ?_));refine Xf [38,39,40] [some (.int .i64 (k:Int)),some (.int .i64 (kk:Int)),some (.bool ((k:Int) == (kk:Int)))] (X5 3) [38,39,40] [] (λ _ _ _=>True) ?_ (e2 ?_ ?_ (en rfl ?_ .nil)) ?_
  ·exact λ _ _=>trivial
  ·exact Za s10 rfl rfl rfl
  ·exact Za s2 rfl rfl rfl
  ·exact λ P J I H _ _ C=>X3 rfl (ev (H.d 0 rfl rfl)) (ev (H.d 1 rfl rfl)) rfl rfl (C _ _ H.k rfl trivial)
  intro L a19 w20 T B D K U;replace R:=B.Z R;replace F:=B.E F;replace s1:=B.G s1;replace s2:=B.G s2;replace s6:=B.G s6;replace s8:=B.G s8;replace s9:=B.G s9;replace s31:=B.G s31;replace s32:=B.G s32;replace s33:=B.G s33;replace s11:=B.G s11;have s40:=gS a19 40 (K 2 _ rfl);replace b4:=b4.k0 D;replace b18:=b18.k0 D;replace fe:=fe.kp D (by simp);replace N2:=N2.below D.toBelow Xs;replace S:=Nat.le_trans S D.size;replace O:=D.below0 O;clear B D K T U s10;refine Xl ?_;rcases Bool.eq_false_or_eq_true ((k:Int) == (kk:Int)) with q21|q21
  ·refine wp_cond_true (ev (vb s40 q21)) ?_;refine wp_exit ?_;refine JN (ib_x (Xl ?_));refine Xf [66,33] [some (.int .i64 ((k:Int)+1)),some (.int .i64 ((k:Int)+1))] (X5 2) [66,33] [] (λ L aa I=>(L 1=false->aa.tmps[33]?.getD undef=.int .i64 (k:Int))) ?_ (e2 ?_ ?_ .nil) ?_
   ·exact λ _ h=>(λ _=>s33)
   ·intro P J I H _ _ C;have x0:=H.x;exact Y0 rfl (ev (x0 (H.t 1 rfl))) rfl (by omega) (C _ _ H.k rfl (λ h=>(Xj (by decide) _).trans (x0 h)))
   ·intro P J I H _ _ C;have x0:=H.x;exact Xy rfl (ev (H.d 0 rfl rfl)) (C _ _ H.k rfl (λ h=>by simp [Yb] at h))
   intro L a22 w23 T B D K U;have x0:=U;replace R:=B.Z R;replace F:=B.E F;replace s1:=B.G s1;replace s2:=B.G s2;replace s6:=B.G s6;replace s8:=B.G s8;replace s9:=B.G s9;replace s31:=B.G s31;replace s32:=B.G s32;have s33:=gS a22 33 (K 1 _ rfl);replace b4:=b4.k0 D;replace fe:=fe.kp D (by simp);replace N2:=N2.below D.toBelow Xs;replace S:=Nat.le_trans S D.size;replace O:=D.below0 O;clear B D K T x0 s11 s40 b18;refine Xl ?_;refine ⟨?_, ?_⟩
   ·exact ⟨R,F,(k+1),(hs),(vd),(hv),(A2),(c2),(by omega),(by rw [lowHs_self (by have:=beq_t q21;omega)];exact hhs),(by rw [lowW_self (by have:=beq_t q21;omega)];exact hvd),(hhv),s1,s2,s6,s8,s9,s31,s32,s33,b4,fe,(N2),O,(by omega)⟩
   ·show (ps.length-(intOf (a22.tmps[33]?.getD undef)).toNat)<_;rw [s33,hmu];simp only [intOf];omega
  ·have h1L:1<ps.length:=by have:=beq_f q21;omega
   have hQ:=pcD (hok _ (Ki hkk Xo)) (hD h1L kk hkk);have hO:=pcD (hok _ (Ki hkl Xo)) (hD h1L k hkl);refine wp_cond_false (ev (vb s40 q21)) ?_;refine wp_skip (Xl (wp_seq ?_));have M:=Xd.x 12 11 12 w20 85 [.int .i64 0,.int .i64 0,.int .i64 0] (λ _ vs=>vs=[.int .i64 ((alH (ps.getD kk Xo) (ps.getD k Xo)).a),.int .i64 ((alH (ps.getD kk Xo) (ps.getD k Xo)).b),.int .i64 ((alH (ps.getD kk Xo) (ps.getD k Xo)).c)]) (λ _ _ h=>h);refine Xz M [42,43,44,45,46,47,41,48,49,50,51,12,0,13,14,15] [some (.slice A ps.length c),some (.int .i64 (kk:Int)),some (.pointer (some ⟨bl,ol+kk*4,none⟩)),some (XZ (ps.getD kk Xo)),some (XZ (ps.getD k Xo)),some (.tuple #[Yf (alH (ps.getD kk Xo) (ps.getD k Xo)),.bool (alA (ps.getD kk Xo) (ps.getD k Xo)),.bool (YP (ps.getD kk Xo) (ps.getD k Xo)),.bool (alK (ps.getD kk Xo) (ps.getD k Xo))]),some (.tuple #[Yf (alH (ps.getD kk Xo) (ps.getD k Xo)),.bool (alA (ps.getD kk Xo) (ps.getD k Xo)),.bool (YP (ps.getD kk Xo) (ps.getD k Xo)),.bool (alK (ps.getD kk Xo) (ps.getD k Xo))]),some (Yf (alH (ps.getD kk Xo) (ps.getD k Xo))),some (.bool (alA (ps.getD kk Xo) (ps.getD k Xo))),some (.bool (YP (ps.getD kk Xo) (ps.getD k Xo))),some (.bool (alK (ps.getD kk Xo) (ps.getD k Xo))),none,none,some (.bool (alA (ps.getD kk Xo) (ps.getD k Xo))),some (.bool (YP (ps.getD kk Xo) (ps.getD k Xo))),some (.bool (alK (ps.getD kk Xo) (ps.getD k Xo)))] ([[],[],[0,1],[0,1,2],[],[0,1,2,3,4],[0,1,2,3,4,5],[0,1,2,3,4,5,6],[0,1,2,3,4,5,6],[0,1,2,3,4,5,6],[0,1,2,3,4,5,6],[],[0,1,2,3,4,5,6,7,11],[0,1,2,3,4,5,6,7,8,11,12],[0,1,2,3,4,5,6,7,8,9,11,12,13],[0,1,2,3,4,5,6,7,8,9,10,11,12,13,14]]) [42,43,44,45,46,47,41,48,49,50,51,12,13,14,15] [] ?_ (e4 ?_ ?_ ?_ ?_ (e4 ?_ ?_ ?_ ?_ (e4 ?_ ?_ ?_ ?_ (e4 ?_ ?_ ?_ ?_ .nil)))) ?_
   ·exact λ _ h=>(λ h=>by cases h)
   ·exact Yx s1 rfl rfl rfl λ _ _ _ _=>M.q rfl
   ·exact Yx s2 rfl rfl rfl λ _ _ _ _=>M.q rfl
   ·intro P J I H _ _ C;simp [go_sem,(gS J 42 (H.d 0 rfl rfl)),(gS J 43 (H.d 1 rfl rfl)),hkk,el];exact (C _ _ H.k rfl (M.q rfl H.x))
   ·intro P J I H _ _ C;have hE:=fe.kp H.k (by simp);simp [go_sem,(gS J 44 (H.d 2 rfl rfl)),(hE.at_ Xo (i:=kk) (by omega) 0 (p:=ol+kk*4) (by omega) rfl),(hE.at_ Xo (i:=kk) (by omega) 1 (p:=ol+kk*4+1) (by omega) rfl),(hE.at_ Xo (i:=kk) (by omega) 2 (p:=ol+kk*4+2) (by omega) rfl),(hE.at_ Xo (i:=kk) (by omega) 3 (p:=ol+kk*4+3) (by omega) rfl)];exact (C _ _ H.k rfl (M.q rfl H.x))
   ·intro P J I H _ _ C;simp [go_sem,H.f.g rfl s11,(b18.k0 H.k).cell];exact (C _ _ H.k rfl (M.q rfl H.x))
   ·intro P J I H _ _ C;simp [go_sem,(gS J 45 (H.d 3 rfl rfl)),(gS J 46 (H.d 4 rfl rfl))];refine (atLeast_c (ps.getD kk Xo) (ps.getD k Xo) I hQ hO).mono ?_;rintro x wx ⟨rfl,hb⟩;exact (C _ _ (H.k.call hb) rfl (M.b rfl hb H.x))
   ·exact oMDX 5 rfl rfl rfl rfl λ _ _ _ _=>M.q rfl
   ·exact oEDX 6 rfl rfl rfl rfl rfl λ _ _ _ _=>M.q rfl
   ·exact oEDX 6 rfl rfl rfl rfl rfl λ _ _ _ _=>M.q rfl
   ·exact oEDX 6 rfl rfl rfl rfl rfl λ _ _ _ _=>M.q rfl
   ·exact oEDX 6 rfl rfl rfl rfl rfl λ _ _ _ _=>M.q rfl
   ·intro P J I H _ _ C;have x0:=H.x;simp [go_sem];exact C _ _ (H.k.alloc _) trivial (λ _=>by rw [show Yb P 11 12=false from H.t 12 rfl];exact Ys.new (s:=12) (H.f.lt (by rw [R];decide)) H.k.size [.int .i64 0,.int .i64 0,.int .i64 0])
   ·intro P J I H _ _ C;have x0:=H.x;obtain ⟨g,eg,hg,y,_⟩:=x0 (H.r 11 rfl);have V:=y H.n;simp [go_sem,(gS J 48 (H.d 7 rfl rfl)),eg,V.cell,V.frz];exact C undef _ (H.k.store (.inl hg) [.int .i64 ((alH (ps.getD kk Xo) (ps.getD k Xo)).a),.int .i64 ((alH (ps.getD kk Xo) (ps.getD k Xo)).b),.int .i64 ((alH (ps.getD kk Xo) (ps.getD k Xo)).c)] 0) trivial (λ _=>Ys.set eg hg V (us:=[.int .i64 ((alH (ps.getD kk Xo) (ps.getD k Xo)).a),.int .i64 ((alH (ps.getD kk Xo) (ps.getD k Xo)).b),.int .i64 ((alH (ps.getD kk Xo) (ps.getD k Xo)).c)]) rfl rfl)
   ·exact Jg 8 rfl rfl rfl rfl λ _ _ _ _=>M.q rfl
   ·exact Jg 9 rfl rfl rfl rfl λ _ _ _ _=>M.q rfl
   ·exact Jg 10 rfl rfl rfl rfl λ _ _ _ _=>M.q rfl
   intro L a24 w25 T B D K U;have x0:=U;replace R:=B.Z R;replace F:=B.E F;replace s1:=B.G s1;replace s2:=B.G s2;replace s6:=B.G s6;replace s8:=B.G s8;replace s9:=B.G s9;replace s31:=B.G s31;replace s32:=B.G s32;replace s33:=B.G s33;have s13:=gS a24 13 (K 13 _ rfl);have s14:=gS a24 14 (K 14 _ rfl);have s15:=gS a24 15 (K 15 _ rfl);replace b4:=b4.k0 D;obtain ⟨g26,s12,lg26,-,b26⟩:=x0 (T 11 (by decide));obtain ⟨_,b26,rfl⟩:=b26 (T 12 (by decide));have ug26:=b26.lt;replace fe:=fe.kp D (by simp);replace N2:=N2.below D.toBelow Xs;have zw20:=S;have zw25:=D.size;replace S:=Nat.le_refl w25.heap.size;replace O:=D.below0 O;clear B D K T x0 M s11 s40 b18;refine Xl (wp_block (wp_seq ?_));refine Xf [53,54,52] [some (.bool (alK (ps.getD kk Xo) (ps.getD k Xo))),some (.bool (!(alK (ps.getD kk Xo) (ps.getD k Xo)))),some (.bool (!(alK (ps.getD kk Xo) (ps.getD k Xo))))] (X5 3) [53,54,52] [] (λ _ _ _=>True) ?_ (e2 ?_ ?_ (en rfl ?_ .nil)) ?_
   ·exact λ _ _=>trivial
   ·exact Za s15 rfl rfl rfl
   ·exact oNDT 0 rfl rfl rfl rfl
   ·exact Ja 1 rfl rfl rfl rfl
   intro L a27 w28 T B D K U;replace R:=B.Z R;replace F:=B.E F;replace s1:=B.G s1;replace s2:=B.G s2;replace s6:=B.G s6;replace s8:=B.G s8;replace s9:=B.G s9;replace s31:=B.G s31;replace s32:=B.G s32;replace s33:=B.G s33;replace s13:=B.G s13;replace s14:=B.G s14;replace s12:=B.G s12;have s52:=gS a27 52 (K 2 _ rfl);replace b4:=b4.k0 D;replace b26:=b26.k0 D;replace fe:=fe.kp D (by simp);replace N2:=N2.below D.toBelow Xs;replace S:=Nat.le_trans S D.size;replace O:=D.below0 O;clear B D K T U s15;refine Xl ?_;rcases Bool.eq_false_or_eq_true (!(alK (ps.getD kk Xo) (ps.getD k Xo))) with q29|q29
   ·refine wp_cond_true (ev (vb s52 q29)) ?_;refine wp_seq ?_;have M:Xd [] (λ L aa I=>ZB I (w.heap.size+1) 26 [.slice none 0 0] (L 1) (λ _ vs=>vs=[.slice none 0 0])):=λ L aa I w' kk vv hkk hb x0=>(x0.bel hb (λ _ h=>h));refine Xz M [55,0,7] [some (.agg #[.slice none 0 0]),none,some (.bool false)] (X5 3) [55,7] [(w.heap.size+1)] ?_ (e2 ?_ ?_ (en rfl ?_ .nil)) ?_
    ·exact λ _ h=>(⟨λ _=>b4.kp h (by simp),(λ h=>by cases h)⟩)
    ·intro P J I H _ _ C;simp [go_sem];exact (C _ _ H.k rfl H.x)
    ·intro P J I H _ _ C;have x0:=H.x;have V:=x0.1 H.n;simp [go_sem,(gS J 55 (H.d 0 rfl rfl)),H.f.g rfl s6,V.cell,V.frz];exact C undef _ (H.k.store (.inr (by simp)) [.slice none 0 0] 0) trivial (ZB.set V (us:=[.slice none 0 0]) rfl rfl)
    ·exact oACX rfl rfl λ _ _ _ _ h=>h
    intro L a30 w31 T B D K U;have x0:=U;replace R:=B.Z R;replace F:=B.E F;replace s6:=B.G s6;have s7:=gS a30 7 (K 2 _ rfl);clear b4;obtain ⟨_,b4,rfl⟩:=x0.2 (T 1 (by decide));replace fe:=fe.kp D (by simp<;>omega);replace S:=Nat.le_trans S D.size;replace O:=D.below O O.size (by simp<;>omega);clear B D K T x0 M s1 s2 s8 s9 s31 s32 s33 s13 s14 s12 s52 b26 N2 i2;refine Xl (wp_ret ?_);refine ib_r (ib_r (Kl (Kl (ib_r (Kl ?_)))));refine bodyPost_ret (v:=.tuple #[.agg #[.slice none 0 0],.bool false]) (by simp [results,Tryz.results42,go_sem,s6,b4.cell,s7]) F ?_;have hg:Zi ps kk=false:=by
     have hf:=alK_f (not_t q29);exact lowGood_no hkl (by have:=beq_f q21;omega) hf.1 hf.2
    exact ⟨_,by rw [hg],by rw [grR_no hg];exact XI.nilN _ _ _ _ _,O⟩
   ·refine wp_cond_false (ev (vb s52 q29)) ?_;refine wp_seq ?_;refine Xf [57,58,56] [some (.bool (YP (ps.getD kk Xo) (ps.getD k Xo))),some (.bool (!(YP (ps.getD kk Xo) (ps.getD k Xo)))),some (.bool (!(YP (ps.getD kk Xo) (ps.getD k Xo))))] (X5 3) [57,58,56] [] (λ _ _ _=>True) ?_ (e2 ?_ ?_ (en rfl ?_ .nil)) ?_
    ·exact λ _ _=>trivial
    ·exact Za s14 rfl rfl rfl
    ·exact oNDT 0 rfl rfl rfl rfl
    ·exact Ja 1 rfl rfl rfl rfl
    intro L a32 w33 T B D K U;replace R:=B.Z R;replace F:=B.E F;replace s1:=B.G s1;replace s2:=B.G s2;replace s6:=B.G s6;replace s8:=B.G s8;replace s9:=B.G s9;replace s31:=B.G s31;replace s32:=B.G s32;replace s33:=B.G s33;replace s13:=B.G s13;replace s12:=B.G s12;have s56:=gS a32 56 (K 2 _ rfl);replace b4:=b4.k0 D;replace b26:=b26.k0 D;replace fe:=fe.kp D (by simp);replace N2:=N2.below D.toBelow Xs;replace S:=Nat.le_trans S D.size;replace O:=D.below0 O;clear B D K T U s14 s52;refine Xl ?_;rcases Bool.eq_false_or_eq_true (!(YP (ps.getD kk Xo) (ps.getD k Xo))) with q34|q34
    ·refine wp_cond_true (ev (vb s56 q34)) ?_;have hX0:=Xd.e 61 2 (λ I v=>∃ g3,v=.slice (some ⟨g3,0,none⟩) 1 1/\Xv I g3 85 [.int .i64 ((alH (ps.getD kk Xo) (ps.getD k Xo)).a),.int .i64 ((alH (ps.getD kk Xo) (ps.getD k Xo)).b),.int .i64 ((alH (ps.getD kk Xo) (ps.getD k Xo)).c)]/\w33.heap.size<=g3) (λ hb _ h=>by obtain ⟨g3',e,f3'⟩:=h;exact ⟨g3',e,⟨f3'.1.bel hb,f3'.2⟩⟩);have hX1:=Xd.e 62 3 (λ I v=>∃ A4 c4,v=.slice A4 ((hv++[(alH (ps.getD kk Xo) (ps.getD k Xo))]).length) c4/\XI 85 3 Xe I w2.heap.size (.slice A4 (hv++[(alH (ps.getD kk Xo) (ps.getD k Xo))]).length c4) (hv++[(alH (ps.getD kk Xo) (ps.getD k Xo))])) (λ hb _ h=>by obtain ⟨A4',c4',e,f4'⟩:=h;exact ⟨A4',c4',e,f4'.below hb Xs⟩);have hX2:=Xd.e 8 4 (λ I v=>∃ A4 c4,v=.slice A4 ((hv++[(alH (ps.getD kk Xo) (ps.getD k Xo))]).length) c4/\XI 85 3 Xe I w2.heap.size (.slice A4 (hv++[(alH (ps.getD kk Xo) (ps.getD k Xo))]).length c4) (hv++[(alH (ps.getD kk Xo) (ps.getD k Xo))])) (λ hb _ h=>by obtain ⟨A4',c4',e,f4'⟩:=h;exact ⟨A4',c4',e,f4'.below hb Xs⟩);have hX3:Xd [] (λ L aa I=>(L 3=false->XI 85 3 Xe I w2.heap.size (.slice A2 hv.length c2) hv)):=λ L aa I w' kk vv hkk hb x3=>(λ h=>(x3 h).below hb Xs);have hX4:Xd [8] (λ L aa I=>(L 4=false->aa.tmps[8]?.getD undef=.slice A2 hv.length c2)):=λ L aa I w' kk vv hkk hb x4=>(λ h=>(Xj (hkk 8 (by simp)) vv).trans (x4 h));have M:=hX0.a (hX1.a (hX2.a (hX3.a hX4)));refine Xz M [59,60,61,62,8] [some (.slice A2 hv.length c2),some (Yf (alH (ps.getD kk Xo) (ps.getD k Xo))),none,none,none] (X5 5) [59,60,61,62,8] (blkL A2) ?_ (e4 ?_ ?_ ?_ ?_ (en rfl ?_ .nil)) ?_
     ·exact λ _ h=>⟨(λ h=>by cases h),(λ h=>by cases h),(λ h=>by cases h),(λ _=>N2.below h.toBelow Xs),(λ _=>s8)⟩
     ·intro P J I H _ _ C;obtain ⟨x0,x1,x2,x3,x4⟩:=H.x;exact Xy rfl (ev (x4 (H.t 4 rfl))) (C _ _ H.k rfl (M.q rfl H.x))
     ·intro P J I H _ _ C;simp [go_sem,H.f.g rfl s12,(b26.kp H.k (Yg (λ p hp=>by have q1:=N2.blk p hp;have q2:=i2 p hp;omega))).cell];exact (C _ _ H.k rfl (M.q rfl H.x))
     ·intro P J I H _ _ C;obtain ⟨x0,x1,x2,x3,x4⟩:=H.x;simp [go_sem,(gS J 60 (H.d 1 rfl rfl))];have f3:Xv (I.alloc (.cells #[.int .i64 ((alH (ps.getD kk Xo) (ps.getD k Xo)).a),.int .i64 ((alH (ps.getD kk Xo) (ps.getD k Xo)).b),.int .i64 ((alH (ps.getD kk Xo) (ps.getD k Xo)).c)] 85)) I.heap.size 85 [.int .i64 ((alH (ps.getD kk Xo) (ps.getD k Xo)).a),.int .i64 ((alH (ps.getD kk Xo) (ps.getD k Xo)).b),.int .i64 ((alH (ps.getD kk Xo) (ps.getD k Xo)).c)]/\w33.heap.size<=I.heap.size:=⟨Xv.new _ _ _,H.k.size⟩;exact C _ _ (H.k.alloc _) trivial ⟨(λ _=>⟨_,H.f.s R,f3⟩),(hX1.b rfl (Xa bR _) x1),(hX2.b rfl (Xa bR _) x2),(λ h=>(x3 h).below (Xa bR _) Xs),(λ h=>(Xj (by decide) _).trans (x4 h))⟩
     ·intro P J I H _ _ C;obtain ⟨x0,x1,x2,x3,x4⟩:=H.x;obtain ⟨g3,ee2,f3⟩:=x0 (H.r 2 rfl);refine wp_app1 Xu rfl w2.heap.size i0h _ 24 Tryz.underlying24 hi0h hz0h hz1h hz2h rfl (by decide) (ev (H.d 0 rfl rfl)) (x3 H.n) (ev ee2) (y:=(alH (ps.getD kk Xo) (ps.getD k Xo))) f3.1 YR (by have:=H.k.size;omega) (by omega) (by decide) ?_;intro A4 c4 wx f4 hG;exact C _ _ (H.k.trans2 hG (λ m h=>.inl h)) trivial ⟨(λ h=>by rw [Xj (by decide)];obtain ⟨g',e,f'⟩:=x0 h;exact ⟨g',e,f'.1.kp hG (Yg (λ p hp=>by have q1:=N2.blk p hp;have q2:=f'.2;omega)),f'.2⟩),(λ _=>⟨A4,c4,H.f.s R,f4⟩),(λ h=>absurd (H.t 4 rfl) (by rw [show P 4=true by simpa [Yb] using h];decide)),(λ h=>by simp [Yb] at h),(λ h=>(Xj (by decide) _).trans (x4 h))⟩
     ·intro P J I H _ _ C;obtain ⟨x0,x1,x2,x3,x4⟩:=H.x;obtain ⟨A4,c4,ee3,f4⟩:=x1 (H.r 3 rfl);exact XR rfl (ev ee3) (C _ _ H.k trivial ⟨(hX0.q rfl x0),(hX1.q rfl x1),(λ _=>⟨A4,c4,H.f.s R,f4⟩),(λ h=>(x3 h).below bR Xs),(λ h=>by simp [Yb] at h)⟩)
     intro L a35 w36 T B D K U;obtain ⟨x0,x1,x2,x3,x4⟩:=U;replace R:=B.Z R;replace F:=B.E F;have hB9:=D.below O O.size (λ m hm=>by obtain ⟨p,hp,rfl⟩:=Yh hm;have q1:=N2.blk p hp;have q2:=i2 p hp;omega);replace s1:=B.G s1;replace s2:=B.G s2;replace s6:=B.G s6;replace s9:=B.G s9;replace s31:=B.G s31;replace s32:=B.G s32;replace s33:=B.G s33;replace b4:=b4.kp D (Yg (λ p hp=>by have q1:=N2.blk p hp;have q2:=i2 p hp;omega));obtain ⟨A4,c4,s8,N4⟩:=x2 (T 4 (by decide));have i4:∀ p,A4=some p->p.block<w36.heap.size:=λ p hp=>(N4.blk p hp).2;replace fe:=fe.kp D (Yg (λ p hp=>by have q1:=N2.blk p hp;have q2:=i2 p hp;omega));have zw33:=S;have zw36:=D.size;replace S:=Nat.le_refl w36.heap.size;replace O:=hB9;clear B D K T x0 x1 x2 x3 x4 M hX0 hX1 hX2 hX3 hX4 s13 s12 s56 b26 N2 i2;refine ib_n (ib_n (Xl ?_));refine Xf [66,33] [some (.int .i64 ((k:Int)+1)),some (.int .i64 ((k:Int)+1))] (X5 2) [66,33] [] (λ L aa I=>(L 1=false->aa.tmps[33]?.getD undef=.int .i64 (k:Int))) ?_ (e2 ?_ ?_ .nil) ?_
     ·exact λ _ h=>(λ _=>s33)
     ·intro P J I H _ _ C;have x0:=H.x;exact Y0 rfl (ev (x0 (H.t 1 rfl))) rfl (by omega) (C _ _ H.k rfl (λ h=>(Xj (by decide) _).trans (x0 h)))
     ·intro P J I H _ _ C;have x0:=H.x;exact Xy rfl (ev (H.d 0 rfl rfl)) (C _ _ H.k rfl (λ h=>by simp [Yb] at h))
     intro L a37 w38 T B D K U;have x0:=U;replace R:=B.Z R;replace F:=B.E F;replace s1:=B.G s1;replace s2:=B.G s2;replace s6:=B.G s6;replace s9:=B.G s9;replace s31:=B.G s31;replace s32:=B.G s32;replace s8:=B.G s8;have s33:=gS a37 33 (K 1 _ rfl);replace b4:=b4.k0 D;replace fe:=fe.kp D (by simp);replace N4:=N4.below D.toBelow Xs;replace S:=Nat.le_trans S D.size;replace O:=D.below0 O;clear B D K T x0;refine Xl ?_;refine ⟨?_, ?_⟩
     ·exact ⟨R,F,(k+1),(hs++[(alH (ps.getD kk Xo) (ps.getD k Xo))]),(vd),((hv++[(alH (ps.getD kk Xo) (ps.getD k Xo))])),(A4),(c4),(by omega),(lowHs_app (by have:=beq_f q21;omega) (not_t q34) hhs (by rw [(al_steep (not_t q34)).1];exact some_getD ((al_steep (not_t q34)).2.2.symm.trans (Kx q29)))),(by rw [lowW_steep (not_t q34)];exact hvd),(by rw [hhv,List.append_assoc]),s1,s2,s6,s8,s9,s31,s32,s33,b4,fe,(N4.mono (by omega)),O,(by omega)⟩
     ·show (ps.length-(intOf (a37.tmps[33]?.getD undef)).toNat)<_;rw [s33,hmu];simp only [intOf];omega
    ·refine wp_cond_false (ev (vb s56 q34)) ?_;refine wp_seq ?_;refine Xf [64,65,63] [some (.bool (alA (ps.getD kk Xo) (ps.getD k Xo))),some (.bool (!(alA (ps.getD kk Xo) (ps.getD k Xo)))),some (.bool (!(alA (ps.getD kk Xo) (ps.getD k Xo))))] (X5 3) [64,65,63] [] (λ _ _ _=>True) ?_ (e2 ?_ ?_ (en rfl ?_ .nil)) ?_
     ·exact λ _ _=>trivial
     ·exact Za s13 rfl rfl rfl
     ·exact oNDT 0 rfl rfl rfl rfl
     ·exact Ja 1 rfl rfl rfl rfl
     intro L a39 w40 T B D K U;replace R:=B.Z R;replace F:=B.E F;replace s1:=B.G s1;replace s2:=B.G s2;replace s6:=B.G s6;replace s8:=B.G s8;replace s9:=B.G s9;replace s31:=B.G s31;replace s32:=B.G s32;replace s33:=B.G s33;have s63:=gS a39 63 (K 2 _ rfl);replace b4:=b4.k0 D;replace fe:=fe.kp D (by simp);replace N2:=N2.below D.toBelow Xs;replace S:=Nat.le_trans S D.size;replace O:=D.below0 O;clear B D K T U s13 s12 s56 b26;refine Xl ?_;rcases Bool.eq_false_or_eq_true (!(alA (ps.getD kk Xo) (ps.getD k Xo))) with q41|q41
     ·refine wp_cond_true (ev (vb s63 q41)) ?_;refine Xf [9] [some (.bool true)] (X5 1) [9] [] (λ _ _ _=>True) ?_ (en rfl ?_ .nil) ?_
      ·exact λ _ _=>trivial
      ·exact Kw rfl rfl
      intro L a42 w43 T B D K U;replace R:=B.Z R;replace F:=B.E F;replace s1:=B.G s1;replace s2:=B.G s2;replace s6:=B.G s6;replace s8:=B.G s8;replace s31:=B.G s31;replace s32:=B.G s32;replace s33:=B.G s33;have s9:=gS a42 9 (K 0 _ rfl);replace b4:=b4.k0 D;replace fe:=fe.kp D (by simp);replace N2:=N2.below D.toBelow Xs;replace S:=Nat.le_trans S D.size;replace O:=D.below0 O;clear B D K T U s63;refine ib_n (ib_n (Xl ?_));refine Xf [66,33] [some (.int .i64 ((k:Int)+1)),some (.int .i64 ((k:Int)+1))] (X5 2) [66,33] [] (λ L aa I=>(L 1=false->aa.tmps[33]?.getD undef=.int .i64 (k:Int))) ?_ (e2 ?_ ?_ .nil) ?_
      ·exact λ _ h=>(λ _=>s33)
      ·intro P J I H _ _ C;have x0:=H.x;exact Y0 rfl (ev (x0 (H.t 1 rfl))) rfl (by omega) (C _ _ H.k rfl (λ h=>(Xj (by decide) _).trans (x0 h)))
      ·intro P J I H _ _ C;have x0:=H.x;exact Xy rfl (ev (H.d 0 rfl rfl)) (C _ _ H.k rfl (λ h=>by simp [Yb] at h))
      intro L a44 w45 T B D K U;have x0:=U;replace R:=B.Z R;replace F:=B.E F;replace s1:=B.G s1;replace s2:=B.G s2;replace s6:=B.G s6;replace s8:=B.G s8;replace s31:=B.G s31;replace s32:=B.G s32;replace s9:=B.G s9;have s33:=gS a44 33 (K 1 _ rfl);replace b4:=b4.k0 D;replace fe:=fe.kp D (by simp);replace N2:=N2.below D.toBelow Xs;replace S:=Nat.le_trans S D.size;replace O:=D.below0 O;clear B D K T x0;refine Xl ?_;refine ⟨?_, ?_⟩
      ·exact ⟨R,F,(k+1),(hs),(true),(hv),(A2),(c2),(by omega),(by rw [lowHs_flat (Kx q34)];exact hhs),(by rw [lowW_lt (by have:=beq_f q21;omega) (Kx q34) (Int.not_le.1 (XB ((al_flat (Kx q34)).2.1.symm.trans (not_t q41))))];simp),(hhv),s1,s2,s6,s8,s9,s31,s32,s33,b4,fe,(N2),O,(by omega)⟩
      ·show (ps.length-(intOf (a44.tmps[33]?.getD undef)).toNat)<_;rw [s33,hmu];simp only [intOf];omega
     ·refine wp_cond_false (ev (vb s63 q41)) ?_;refine wp_skip ?_;refine ib_n (ib_n (Xl ?_));refine Xf [66,33] [some (.int .i64 ((k:Int)+1)),some (.int .i64 ((k:Int)+1))] (X5 2) [66,33] [] (λ L aa I=>(L 1=false->aa.tmps[33]?.getD undef=.int .i64 (k:Int))) ?_ (e2 ?_ ?_ .nil) ?_
      ·exact λ _ h=>(λ _=>s33)
      ·intro P J I H _ _ C;have x0:=H.x;exact Y0 rfl (ev (x0 (H.t 1 rfl))) rfl (by omega) (C _ _ H.k rfl (λ h=>(Xj (by decide) _).trans (x0 h)))
      ·intro P J I H _ _ C;have x0:=H.x;exact Xy rfl (ev (H.d 0 rfl rfl)) (C _ _ H.k rfl (λ h=>by simp [Yb] at h))
      intro L a46 w47 T B D K U;have x0:=U;replace R:=B.Z R;replace F:=B.E F;replace s1:=B.G s1;replace s2:=B.G s2;replace s6:=B.G s6;replace s8:=B.G s8;replace s9:=B.G s9;replace s31:=B.G s31;replace s32:=B.G s32;have s33:=gS a46 33 (K 1 _ rfl);replace b4:=b4.k0 D;replace fe:=fe.kp D (by simp);replace N2:=N2.below D.toBelow Xs;replace S:=Nat.le_trans S D.size;replace O:=D.below0 O;clear B D K T x0 s63;refine Xl ?_;refine ⟨?_, ?_⟩
      ·exact ⟨R,F,(k+1),(hs),(vd),(hv),(A2),(c2),(by omega),(by rw [lowHs_flat (Kx q34)];exact hhs),(by rw [lowW_ge (Kk ((al_flat (Kx q34)).2.1.symm.trans (Kx q41)))];exact hvd),(hhv),s1,s2,s6,s8,s9,s31,s32,s33,b4,fe,(N2),O,(by omega)⟩
      ·show (ps.length-(intOf (a46.tmps[33]?.getD undef)).toNat)<_;rw [s33,hmu];simp only [intOf];omega
 ·have ek:k=ps.length:=by have:=XB q15;omega
  have hM:=lowM hp hl hk hhs;rw [<- hhv] at hM;rw [ek] at hhs hvd;refine wp_cond_false (ev (vb s34 q15)) ?_;refine wp_exit ?_;refine JN (JN (ib_x (Xl (wp_seq (wp_seq ?_)))));refine Xf [67] [some (.bool vd)] (X5 1) [67] [] (λ _ _ _=>True) ?_ (en rfl ?_ .nil) ?_
  ·exact λ _ _=>trivial
  ·exact Za s9 rfl rfl rfl
  intro L a48 w49 T B D K U;replace R:=B.Z R;replace F:=B.E F;replace s6:=B.G s6;replace s8:=B.G s8;have s67:=gS a48 67 (K 0 _ rfl);replace b4:=b4.k0 D;replace fe:=fe.kp D (by simp);replace N2:=N2.below D.toBelow Xs;replace S:=Nat.le_trans S D.size;replace O:=D.below0 O;clear B D K T U s1 s2 s9 s31 s32 s33 s34;refine Xl ?_;rcases Bool.eq_false_or_eq_true vd with q50|q50
  ·refine wp_cond_true (ev (vb s67 q50)) ?_;refine wp_seq ?_;have M:Xd [] (λ L aa I=>ZB I (w.heap.size+1) 26 [.slice none 0 0] (L 1) (λ _ vs=>vs=[.slice none 0 0])):=λ L aa I w' kk vv hkk hb x0=>(x0.bel hb (λ _ h=>h));refine Xz M [68,0,7] [some (.agg #[.slice none 0 0]),none,some (.bool true)] (X5 3) [68,7] [(w.heap.size+1)] ?_ (e2 ?_ ?_ (en rfl ?_ .nil)) ?_
   ·exact λ _ h=>(⟨λ _=>b4.kp h (by simp),(λ h=>by cases h)⟩)
   ·intro P J I H _ _ C;simp [go_sem];exact (C _ _ H.k rfl H.x)
   ·intro P J I H _ _ C;have x0:=H.x;have V:=x0.1 H.n;simp [go_sem,(gS J 68 (H.d 0 rfl rfl)),H.f.g rfl s6,V.cell,V.frz];exact C undef _ (H.k.store (.inr (by simp)) [.slice none 0 0] 0) trivial (ZB.set V (us:=[.slice none 0 0]) rfl rfl)
   ·exact oACX rfl rfl λ _ _ _ _ h=>h
   intro L a51 w52 T B D K U;have x0:=U;replace R:=B.Z R;replace F:=B.E F;replace s6:=B.G s6;have s7:=gS a51 7 (K 2 _ rfl);clear b4;obtain ⟨_,b4,rfl⟩:=x0.2 (T 1 (by decide));replace fe:=fe.kp D (by simp<;>omega);replace S:=Nat.le_trans S D.size;replace O:=D.below O O.size (by simp<;>omega);clear B D K T x0 M s8 s67 N2 i2;refine Xl (wp_ret (Kl ?_));refine bodyPost_ret (v:=.tuple #[.agg #[.slice none 0 0],.bool true]) (by simp [results,Tryz.results42,go_sem,s6,b4.cell,s7]) F ?_;have hg:=lowGood_yes hhs;exact ⟨_,by rw [hg],by rw [grR_yes hg,lowP_void (hvd.symm.trans q50)];exact XI.nilN _ _ _ _ _,O⟩
  ·refine wp_cond_false (ev (vb s67 q50)) ?_;refine wp_skip (Xl (wp_seq ?_));have hX0:=Xd.e 70 1 (λ I v=>∃ A5 c5,v=.tuple #[.agg #[.slice A5 ((Yk (Xk hv)).length) c5],.bool (Yw (Xk hv))]/\XI 85 3 Xe I w49.heap.size (.slice A5 (Yk (Xk hv)).length c5) (Yk (Xk hv))) (λ hb _ h=>by obtain ⟨A5',c5',e,f5'⟩:=h;exact ⟨A5',c5',e,f5'.below hb Xs⟩);have hX1:=Xd.e 71 2 (λ I v=>∃ A5 c5,v=.agg #[.slice A5 ((Yk (Xk hv)).length) c5]/\XI 85 3 Xe I w49.heap.size (.slice A5 (Yk (Xk hv)).length c5) (Yk (Xk hv))) (λ hb _ h=>by obtain ⟨A5',c5',e,f5'⟩:=h;exact ⟨A5',c5',e,f5'.below hb Xs⟩);have hX2:Xd [] (λ L aa I=>ZB I (w.heap.size+1) 26 [.slice none 0 0] (L 4) (λ I vs=>∃ A5 c5,vs=[.slice A5 ((Yk (Xk hv)).length) c5]/\XI 85 3 Xe I w49.heap.size (.slice A5 (Yk (Xk hv)).length c5) (Yk (Xk hv)))):=λ L aa I w' kk vv hkk hb x2=>(x2.bel hb (λ _ ⟨A5',c5',e,f5'⟩=>⟨A5',c5',e,f5'.below hb Xs⟩));have M:=hX0.a (hX1.a hX2);refine Xz M [69,70,71,72,0,7] [some (.slice A2 hv.length c2),none,none,some (.bool (Yw (Xk hv))),none,some (.bool (Yw (Xk hv)))] (X5 6) [69,70,71,72,7] [(w.heap.size+1)] ?_ (e4 ?_ ?_ ?_ ?_ (e2 ?_ ?_ .nil)) ?_
   ·exact λ _ h=>⟨(λ h=>by cases h),(λ h=>by cases h),(⟨λ _=>b4.kp h (by simp),(λ h=>by cases h)⟩)⟩
   ·exact Yx s8 rfl rfl rfl λ _ _ _ _=>M.q rfl
   ·intro P J I H _ _ C;obtain ⟨x0,x1,x2⟩:=H.x;simp [go_sem,(gS J 69 (H.d 0 rfl rfl))];refine (iMeet_c A2 hv c2 I (by have:=hM.len;omega) hM.ok ((N2.kp H.k i2 (by omega) (by simp<;>omega)).out Xu) N2.nilcap).mono ?_;rintro x wx ⟨_,rfl,⟨A5,c5,rfl,f0⟩,hb⟩;have f5:=XI.mono (show XI 85 3 Xe wx I.heap.size (.slice A5 (Yk (Xk hv)).length c5) (Yk (Xk hv)) from ⟨_,_,rfl,f0⟩) H.k.size;exact (C _ _ (H.k.call hb) trivial ⟨(λ _=>⟨A5,c5,H.f.s R,f5⟩),(hX1.b rfl hb x1),(x2.bel hb (λ _ ⟨A5',c5',e,f5'⟩=>⟨A5',c5',e,f5'.below hb Xs⟩))⟩)
   ·intro P J I H _ _ C;obtain ⟨x0,x1,x2⟩:=H.x;obtain ⟨A5,c5,ee1,f5⟩:=x0 (H.r 1 rfl);exact X1 rfl (ev ee1) rfl (C _ _ H.k trivial ⟨(hX0.q rfl x0),(λ _=>⟨A5,c5,H.f.s R,f5⟩),(x2.bel bR (λ _ ⟨A5',c5',e,f5'⟩=>⟨A5',c5',e,f5'.below bR Xs⟩))⟩)
   ·intro P J I H _ _ C;obtain ⟨x0,x1,x2⟩:=H.x;obtain ⟨A5,c5,ee1,f5⟩:=x0 (H.r 1 rfl);exact X1 rfl (ev ee1) rfl (C _ _ H.k rfl (M.q rfl H.x))
   ·intro P J I H _ _ C;obtain ⟨x0,x1,x2⟩:=H.x;obtain ⟨A5,c5,ee2,f5⟩:=x1 (H.r 2 rfl);have V:=x2.1 H.n;simp [go_sem,ee2,H.f.g rfl s6,V.cell,V.frz];have f5:=f5.otherC (f5.typ V (by decide)) [.slice A5 ((Yk (Xk hv)).length) c5] 0;exact C undef _ (H.k.store (.inr (by simp)) [.slice A5 ((Yk (Xk hv)).length) c5] 0) trivial ⟨(λ h=>by obtain ⟨A5',c5',e,f5'⟩:=x0 h;exact ⟨A5',c5',e,f5'.otherC (f5'.typ V (by decide)) [.slice A5 ((Yk (Xk hv)).length) c5] 0⟩),(λ h=>by obtain ⟨A5',c5',e,f5'⟩:=x1 h;exact ⟨A5',c5',e,f5'.otherC (f5'.typ V (by decide)) [.slice A5 ((Yk (Xk hv)).length) c5] 0⟩),(ZB.set V (us:=[.slice A5 ((Yk (Xk hv)).length) c5]) rfl ⟨A5,c5,rfl,f5⟩)⟩
   ·exact Jg 3 rfl rfl rfl rfl λ _ _ _ _=>M.q rfl
   intro L a53 w54 T B D K U;obtain ⟨x0,x1,x2⟩:=U;replace R:=B.Z R;replace F:=B.E F;replace s6:=B.G s6;have s7:=gS a53 7 (K 5 _ rfl);clear b4;obtain ⟨_,b4,A5,c5,rfl,N5⟩:=x2.2 (T 4 (by decide));have i5:∀ p,A5=some p->p.block<w54.heap.size:=λ p hp=>(N5.blk p hp).2;replace fe:=fe.kp D (by simp<;>omega);have zw49:=S;have zw54:=D.size;replace S:=Nat.le_refl w54.heap.size;replace O:=D.below O O.size (by simp<;>omega);clear B D K T x0 x1 x2 M hX0 hX1 hX2 s8 s67 N2 i2;refine Xl (wp_ret ?_);refine bodyPost_ret (v:=.tuple #[.agg #[.slice A5 ((Yk (Xk hv)).length) c5],.bool (Yw (Xk hv))]) (by simp [results,Tryz.results42,go_sem,s6,b4.cell,s7]) F ?_;have hg:=lowGood_yes hhs;have hm9:Yw (Xk hv)=true:=by rw [hhv] at hM ⊢;exact lowM_ok hp (XB (YW (hvd.symm.trans q50))) hM
   have e9:=lowP_meet (hvd.symm.trans q50) hhs;rw [<- hhv] at e9;exact ⟨_,by rw [hg,hm9],by rw [grR_yes hg,e9];exact N5.mono (by omega),O⟩
end Go.Proofs.YtbekjpkcicjcgabGreat
