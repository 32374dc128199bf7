/-
 The greatest drift that is admitted: of the program and of the reference.
 Conditions: the slices hold at most 2^20 elements.
-/
import Derived.Test.YtabfdkpdppemaaaGreatAdmDQa
namespace Go.Proofs.YtabfdkpdppemaaaGreat
open Go.RowKit
def KI (f:Int->Bool):Nat->Int
 | 0=>-1
 | n+1=>if f n=true then n else KI f n
def Zy (r:XH) (p:List Half) (s:Xz) (most:Int):Int:=if ZH most 0 100=true then KI (λ n=>(Xq r p s n n).isSome) (most+1).toNat else -1
theorem largG_yes {f:Int->Bool} {n:Int} (h0:0<=n) (h:f n=true):KI f (n+1).toNat=n:=by
 obtain ⟨k,rfl⟩:=Int.eq_ofNat_of_zero_le h0;show (if f k=true then (k:Int) else KI f k)=k;rw [if_pos h]
theorem largG_no {f:Int->Bool} {n:Int} (h0:0<=n) (h:f n=false):KI f (n+1).toNat=KI f (n-1+1).toNat:=by
 obtain ⟨k,rfl⟩:=Int.eq_ofNat_of_zero_le h0;rw [show ((k:Int)-1+1).toNat=k by omega];show (if f k=true then (k:Int) else KI f k)=_;rw [if_neg (by rw [h];simp)]
set_option maxRecDepth 100000 in
set_option maxHeartbeats 3000000 in
theorem iLarg_c (r:XH) (p:List Half) (s:Xz) (most:Int) (ra:Y7) (b:Kd) (w:World) (hn:ZF r<=1048576) (hin:RoomIn r) (hs:Ke w r ra) (hnl:JC ra) (hlp:p.length<=1048576) (hpi:∀ h∈p,h.In) (hsp:Sl 3 Xh w b.A p) (hnb:b.A=none->b.c=0) (hsi:s.In) :
 Calls Tryz.prog 52 #[Ye r ra,.agg #[.slice b.A p.length b.c],Y4 s,.int .i64 most] w λ x w'=>x=.returned (.int .i64 (Zy r p s most))/\Below w.heap.size w w':=by
 refine Ks Tryz.func52 rfl (n:=31) Tryz.ntmps52 (by simp) ?_;intro a0 M C ha;have s0:a0.tmps[0]?.getD undef=Ye r ra:=ha 0 _ rfl;have s1:a0.tmps[1]?.getD undef=.agg #[.slice b.A p.length b.c]:=ha 1 _ rfl;have s2:a0.tmps[2]?.getD undef=Y4 s:=ha 2 _ rfl;have s3:a0.tmps[3]?.getD undef=.int .i64 most:=ha 3 _ rfl;clear ha;have K:=Below.refl w.heap.size w;have O:=Nat.le_refl w.heap.size;refine wp_seq ?_;refine Ku [4,5,6,8] [.pointer (some ⟨w.heap.size,0,none⟩),.pointer (some ⟨(w.heap.size+1),0,none⟩),.pointer (some ⟨(w.heap.size+2),0,none⟩),.int .i64 0] [some (.cells (X6 r ra).toArray 28),some (.cells [.slice b.A p.length b.c].toArray 26),some (.cells [.int .i64 s.x,.int .i64 s.y,.int .i64 s.d].toArray 30),none] [0,1,2,3] [4,5,6,8] [0,1,2,3] (by kernel_rfl) (by rw [M];decide) (ec ?_ (ec ?_ (ec ?_ (ec ?_ .nil)))) ?_
 ·intro a w' B hs N Q J;simp [go_sem,B.g rfl s0];rw [hs];exact J
 ·intro a w' B hs N Q J;simp [go_sem,B.g rfl s1];rw [hs];exact J
 ·intro a w' B hs N Q J;simp [go_sem,B.g rfl s2];rw [hs];exact J
 ·intro a w' B hs N Q J;simp [go_sem];exact J
 intro a1 w2 B I hb hO;replace M:=B.size.trans M;replace C:=B.defers.trans C;replace s3:=B.g rfl s3;have s4:a1.tmps[4]?.getD undef=.pointer (some ⟨w.heap.size,0,none⟩):=I 0 (by decide);have s5:a1.tmps[5]?.getD undef=.pointer (some ⟨(w.heap.size+1),0,none⟩):=I 1 (by decide);have s6:a1.tmps[6]?.getD undef=.pointer (some ⟨(w.heap.size+2),0,none⟩):=I 2 (by decide);have b3:Xr w2 w.heap.size 28 (X6 r ra):=hO 0 _ rfl;have b4:Xr w2 (w.heap.size+1) 26 [.slice b.A p.length b.c]:=hO 1 _ rfl;have b5:Xr w2 (w.heap.size+2) 30 [.int .i64 s.x,.int .i64 s.y,.int .i64 s.d]:=hO 2 _ rfl;have hG:=b5.lt;replace K:=Xf K hb;have zw2:=Nat.le_trans O hb.size;replace O:=Nat.le_refl w2.heap.size;clear B I hb hO s0 s1 s2;refine Xv (wp_seq (wp_seq ?_));refine Xs [12,13,14] [some (.int .i64 most),some (.bool (ZH most 0 100)),some (.bool (!(ZH most 0 100)))] (YG 3) [12,13,14] [] (λ _ _ _=>True) ?_ (e2 ?_ ?_ (en rfl ?_ .nil)) ?_
 ·exact λ _ _=>trivial
 ·exact ZN s3 rfl rfl rfl
 ·intro U R S H _ _ J;simp [go_sem,(gS R 12 (H.d 0 rfl rfl))];refine (Je most S).mono ?_;rintro x wx ⟨rfl,rfl⟩;exact (J _ _ H.k rfl trivial)
 ·exact oNDT 1 rfl rfl rfl rfl
 intro L a6 w7 T B D I P;replace M:=B.Z M;replace C:=B.E C;replace s3:=B.G s3;replace s4:=B.G s4;replace s5:=B.G s5;replace s6:=B.G s6;have s14:=gS a6 14 (I 2 _ rfl);replace b3:=b3.k0 D;replace b4:=b4.k0 D;replace b5:=b5.k0 D;replace O:=Nat.le_trans O D.size;replace K:=D.below0 K;clear B D I T P;refine Xv ?_;rcases Bool.eq_false_or_eq_true (!(ZH most 0 100)) with q8|q8
 ·refine wp_cond_true (ev (vb s14 q8)) ?_;refine wp_seq ?_;refine Xs [8] [some (.int .i64 (-1))] (YG 1) [8] [] (λ _ _ _=>True) ?_ (en rfl ?_ .nil) ?_
  ·exact λ _ _=>trivial
  ·exact oACT rfl rfl
  intro L a9 w10 T B D I P;replace M:=B.Z M;replace C:=B.E C;have s8:=gS a9 8 (I 0 _ rfl);replace O:=Nat.le_trans O D.size;replace K:=D.below0 K;clear B D I T P s3 s4 s5 s6 s14 b3 b4 b5;refine Xv (wp_ret (JG ?_));refine bodyPost_ret (v:=.int .i64 (-1)) (by simp [results,Tryz.results52,go_sem,s8]) C ?_;exact ⟨by rw [show Zy r p s most = -1 from by unfold Zy;rw [not_t q8,if_neg (by simp)]],K⟩
 ·refine wp_cond_false (ev (vb s14 q8)) ?_;refine wp_skip (Xv (wp_seq (wp_seq ?_)));refine Xs [15,9] [some (.int .i64 most),some (.int .i64 most)] (YG 2) [15,9] [] (λ _ _ _=>True) ?_ (e2 ?_ ?_ .nil) ?_
  ·exact λ _ _=>trivial
  ·exact ZN s3 rfl rfl rfl
  ·exact Jr 0 rfl rfl rfl rfl
  intro L a11 w12 T B D I P;replace M:=B.Z M;replace C:=B.E C;replace s4:=B.G s4;replace s5:=B.G s5;replace s6:=B.G s6;have s9:=gS a11 9 (I 1 _ rfl);replace b3:=b3.k0 D;replace b4:=b4.k0 D;replace b5:=b5.k0 D;replace O:=Nat.le_trans O D.size;replace K:=D.below0 K;clear B D I T P s3 s14;refine Xv (wp_block ?_);refine wp_loop (λ al wl=>al.tmps.size=31/\al.defers=[]/\∃ (n:Int),(-1<=n/\n<=100)/\(KI (λ n=>(Xq r p s n n).isSome) (most+1).toNat=KI (λ n=>(Xq r p s n n).isSome) (n+1).toNat)/\al.tmps[4]?.getD undef=.pointer (some ⟨w.heap.size,0,none⟩)/\al.tmps[5]?.getD undef=.pointer (some ⟨(w.heap.size+1),0,none⟩)/\al.tmps[6]?.getD undef=.pointer (some ⟨(w.heap.size+2),0,none⟩)/\al.tmps[9]?.getD undef=.int .i64 n/\Xr wl w.heap.size 28 (X6 r ra)/\Xr wl (w.heap.size+1) 26 [.slice b.A p.length b.c]/\Xr wl (w.heap.size+2) 30 [.int .i64 s.x,.int .i64 s.y,.int .i64 s.d]/\Below w.heap.size w wl/\w2.heap.size<=wl.heap.size) (λ al _=>(intOf (al.tmps[9]?.getD undef)+1).toNat) ?_ ?_
  ·exact ⟨M,C,(most),(by have:=XY.1 (KQ q8);omega),(rfl),s4,s5,s6,s9,b3,b4,b5,K,(by omega)⟩
  clear M C K O s4 s5 s6 s9 b3 b4 b5;rintro a13 w14 ⟨M,C,n,hn1,hg,s4,s5,s6,s9,b3,b4,b5,K,O⟩;have zw14:=O;replace O:=Nat.le_refl w14.heap.size;have hmu:(intOf (a13.tmps[9]?.getD undef)+1).toNat=(intOf ((.int .i64 n))+1).toNat:=by rw [s9]
  refine wp_seq (wp_seq ?_);refine Xs [16,17] [some (.int .i64 n),some (.bool (decide (n ≥ 0)))] (YG 2) [16,17] [] (λ _ _ _=>True) ?_ (e2 ?_ ?_ .nil) ?_
  ·exact λ _ _=>trivial
  ·exact ZN s9 rfl rfl rfl
  ·exact λ U R S H _ _ J=>YU rfl (ev (H.d 0 rfl rfl)) rfl rfl rfl (J _ _ H.k rfl trivial)
  intro L a15 w16 T B D I P;replace M:=B.Z M;replace C:=B.E C;replace s4:=B.G s4;replace s5:=B.G s5;replace s6:=B.G s6;replace s9:=B.G s9;have s17:=gS a15 17 (I 1 _ rfl);replace b3:=b3.k0 D;replace b4:=b4.k0 D;replace b5:=b5.k0 D;replace O:=Nat.le_trans O D.size;replace K:=D.below0 K;clear B D I T P;refine Xv ?_;rcases Bool.eq_false_or_eq_true (decide (n ≥ 0)) with q17|q17
  ·refine wp_cond_true (ev (vb s17 q17)) ?_;refine wp_skip (Xv (wp_seq (wp_block (wp_seq ?_))));have F:XJ [10] (λ L aa S=>(L 9=true->X8 w16 aa S 10 49 [.int .i64 0,.int .i64 0,.int .i64 0,.int .i64 0] (L 10) (λ _ vs=>vs=[.int .i64 (((Xq r p s n n).getD XC).low.n),.int .i64 (((Xq r p s n n).getD XC).low.d),.int .i64 (((Xq r p s n n).getD XC).high.n),.int .i64 (((Xq r p s n n).getD XC).high.d)]))):=by
    intro L aa S w' kk vv hkk hb P;have x0:=P;exact (λ h=>((x0 h).bel hb (λ _ h=>h)).put (hkk 10 (by simp)) _)
   refine XD F [21,22,23,24,25,26,20,27,28,10,0,11] [some (Ye r ra),some (.agg #[.slice b.A p.length b.c]),some (Y4 s),some (.int .i64 n),some (.int .i64 n),some (.tuple #[Kg ((Xq r p s n n).getD XC),.bool ((Xq r p s n n).isSome)]),some (.tuple #[Kg ((Xq r p s n n).getD XC),.bool ((Xq r p s n n).isSome)]),some (Kg ((Xq r p s n n).getD XC)),some (.bool ((Xq r p s n n).isSome)),none,none,some (.bool ((Xq r p s n n).isSome))] (YG 12) [21,22,23,24,25,26,20,27,28,10,11] [] ?_ (e4 ?_ ?_ ?_ ?_ (e4 ?_ ?_ ?_ ?_ (e4 ?_ ?_ ?_ ?_ .nil))) ?_
   ·exact λ _ h=>(λ h=>by cases h)
   ·intro U R S H _ _ J;simp [go_sem,H.f.g rfl s4,(b3.k0 H.k).cell];exact (J _ _ H.k rfl (F.q rfl H.x))
   ·intro U R S H _ _ J;simp [go_sem,H.f.g rfl s5,(b4.k0 H.k).cell];exact (J _ _ H.k rfl (F.q rfl H.x))
   ·intro U R S H _ _ J;simp [go_sem,H.f.g rfl s6,(b5.k0 H.k).cell];exact (J _ _ H.k rfl (F.q rfl H.x))
   ·exact Zx s9 rfl rfl rfl λ _ _ _ _=>F.q rfl
   ·exact Zx s9 rfl rfl rfl λ _ _ _ _=>F.q rfl
   ·intro U R S H _ _ J;simp [go_sem,(gS R 21 (H.d 0 rfl rfl)),(gS R 22 (H.d 1 rfl rfl)),(gS R 23 (H.d 2 rfl rfl)),(gS R 24 (H.d 3 rfl rfl)),(gS R 25 (H.d 4 rfl rfl))];have hBi:=H.k.below0 K;refine (iAdmDrift_c r p s n n ra b S hn hin (hs.below hBi) hnl hlp hpi (hsp.below hBi) hnb hsi).mono ?_;rintro x wx ⟨rfl,hb⟩;exact (J _ _ (H.k.call hb) (Jc _) (F.b rfl hb H.x))
   ·exact oMDX 5 rfl rfl rfl rfl λ _ _ _ _=>F.q rfl
   ·exact oEDX 6 rfl rfl rfl rfl rfl λ _ _ _ _=>F.q rfl
   ·exact oEDX 6 rfl rfl rfl rfl rfl λ _ _ _ _=>F.q rfl
   ·intro U R S H _ _ J;have x0:=H.x;simp [go_sem];exact J _ _ (H.k.alloc _) trivial (λ _=>by rw [show Yv U 9 10=false from H.t 10 rfl];exact X8.new (s:=10) (H.f.lt (by rw [M];decide)) H.k.size [.int .i64 0,.int .i64 0,.int .i64 0,.int .i64 0])
   ·intro U R S H _ _ J;have x0:=H.x;obtain ⟨g,eg,hg,y,_⟩:=x0 (H.r 9 rfl);have V:=y H.n;simp [go_sem,(gS R 27 (H.d 7 rfl rfl)),eg,V.cell,V.frz];exact J undef _ (H.k.store (.inl hg) [.int .i64 (((Xq r p s n n).getD XC).low.n),.int .i64 (((Xq r p s n n).getD XC).low.d),.int .i64 (((Xq r p s n n).getD XC).high.n),.int .i64 (((Xq r p s n n).getD XC).high.d)] 0) trivial (λ _=>X8.set eg hg V (us:=[.int .i64 (((Xq r p s n n).getD XC).low.n),.int .i64 (((Xq r p s n n).getD XC).low.d),.int .i64 (((Xq r p s n n).getD XC).high.n),.int .i64 (((Xq r p s n n).getD XC).high.d)]) rfl rfl)
   ·exact oADX 8 rfl rfl rfl rfl λ _ _ _ _=>F.q rfl
   intro L a18 w19 T B D I P;have x0:=P;replace M:=B.Z M;replace C:=B.E C;replace s4:=B.G s4;replace s5:=B.G s5;replace s6:=B.G s6;replace s9:=B.G s9;have s11:=gS a18 11 (I 11 _ rfl);replace b3:=b3.k0 D;replace b4:=b4.k0 D;replace b5:=b5.k0 D;obtain ⟨g20,s10,lg20,-,b20⟩:=x0 (T 9 (by decide));obtain ⟨_,b20,rfl⟩:=b20 (T 10 (by decide));have ug20:=b20.lt;have zw16:=O;have zw19:=D.size;replace O:=Nat.le_refl w19.heap.size;replace K:=D.below0 K;clear B D I T x0 F s17;refine Xv (wp_seq ?_);refine Xs [29] [some (.bool ((Xq r p s n n).isSome))] (YG 1) [29] [] (λ _ _ _=>True) ?_ (en rfl ?_ .nil) ?_
   ·exact λ _ _=>trivial
   ·exact ZN s11 rfl rfl rfl
   intro L a21 w22 T B D I P;replace M:=B.Z M;replace C:=B.E C;replace s4:=B.G s4;replace s5:=B.G s5;replace s6:=B.G s6;replace s9:=B.G s9;have s29:=gS a21 29 (I 0 _ rfl);replace b3:=b3.k0 D;replace b4:=b4.k0 D;replace b5:=b5.k0 D;replace O:=Nat.le_trans O D.size;replace K:=D.below0 K;clear B D I T P s11 s10 b20;refine Xv ?_;rcases Bool.eq_false_or_eq_true ((Xq r p s n n).isSome) with q23|q23
   ·refine wp_cond_true (ev (vb s29 q23)) ?_;refine wp_seq ?_;refine Xs [30,8] [some (.int .i64 n),some (.int .i64 n)] (YG 2) [30,8] [] (λ _ _ _=>True) ?_ (e2 ?_ ?_ .nil) ?_
    ·exact λ _ _=>trivial
    ·exact ZN s9 rfl rfl rfl
    ·exact Jr 0 rfl rfl rfl rfl
    intro L a24 w25 T B D I P;replace M:=B.Z M;replace C:=B.E C;have s8:=gS a24 8 (I 1 _ rfl);replace O:=Nat.le_trans O D.size;replace K:=D.below0 K;clear B D I T P s4 s5 s6 s9 s29 b3 b4 b5;refine Xv (wp_ret ?_);refine ib_r (JG (JG (ib_r (JG ?_))));refine bodyPost_ret (v:=.int .i64 n) (by simp [results,Tryz.results52,go_sem,s8]) C ?_;exact ⟨by rw [show Zy r p s most=n from by unfold Zy;rw [KQ q8,if_pos rfl,hg];exact largG_yes (f:=λ n=>(Xq r p s n n).isSome) (by have:=KY q17;omega) q23],K⟩
   ·refine wp_cond_false (ev (vb s29 q23)) ?_;refine wp_skip ?_;refine ib_n (Xv ?_);have F:XJ [9] (λ L aa S=>(L 2=false->aa.tmps[9]?.getD undef=.int .i64 n)):=by
     intro L aa S w' kk vv hkk hb P;have x0:=P;exact (λ h=>(Xb (hkk 9 (by simp)) vv).trans (x0 h))
    refine XD F [18,19,9] [some (.int .i64 n),some (.int .i64 (n-1)),some (.int .i64 (n-1))] (YG 3) [18,19,9] [] ?_ (e2 ?_ ?_ (en rfl ?_ .nil)) ?_
    ·exact λ _ h=>(λ _=>s9)
    ·intro U R S H _ _ J;have x0:=H.x;exact XN rfl (ev (x0 (H.t 2 rfl))) (J _ _ H.k rfl (F U R S _ (some 18) _ (by simp) bR H.x))
    ·exact λ U R S H _ _ J=>J3 rfl (ev (H.d 0 rfl rfl)) rfl (by omega) (J _ _ H.k rfl (F U R S _ (some 19) _ (by simp) bR H.x))
    ·intro U R S H _ _ J;have x0:=H.x;exact YA rfl (ev (H.d 1 rfl rfl)) (J _ _ H.k rfl (λ h=>by simp [Yv] at h))
    intro L a26 w27 T B D I P;have x0:=P;replace M:=B.Z M;replace C:=B.E C;replace s4:=B.G s4;replace s5:=B.G s5;replace s6:=B.G s6;have s9:=gS a26 9 (I 2 _ rfl);replace b3:=b3.k0 D;replace b4:=b4.k0 D;replace b5:=b5.k0 D;replace O:=Nat.le_trans O D.size;replace K:=D.below0 K;clear B D I T x0 F s29;refine Xv ?_;refine ⟨?_, ?_⟩
    ·exact ⟨M,C,(n-1),(by have:=KY q17;omega),(hg.trans (largG_no (f:=λ n=>(Xq r p s n n).isSome) (by have:=KY q17;omega) q23)),s4,s5,s6,s9,b3,b4,b5,K,(by omega)⟩
    ·show (intOf (a26.tmps[9]?.getD undef)+1).toNat<_;rw [s9,hmu];simp only [intOf];have:=KY q17;omega
  ·refine wp_cond_false (ev (vb s17 q17)) ?_;refine wp_exit ?_;refine th_e (th_e (ib_x (Xv (wp_seq ?_))));refine Xs [8] [some (.int .i64 (-1))] (YG 1) [8] [] (λ _ _ _=>True) ?_ (en rfl ?_ .nil) ?_
   ·exact λ _ _=>trivial
   ·exact oACT rfl rfl
   intro L a28 w29 T B D I P;replace M:=B.Z M;replace C:=B.E C;have s8:=gS a28 8 (I 0 _ rfl);replace O:=Nat.le_trans O D.size;replace K:=D.below0 K;clear B D I T P s4 s5 s6 s9 s17 b3 b4 b5;refine Xv (wp_ret ?_);refine bodyPost_ret (v:=.int .i64 (-1)) (by simp [results,Tryz.results52,go_sem,s8]) C ?_;exact ⟨by rw [show Zy r p s most = -1 from by unfold Zy;rw [KQ q8,if_pos rfl,hg];rw [show (n+1).toNat=0 by have:=Jv q17;omega];rfl],K⟩
end Go.Proofs.YtabfdkpdppemaaaGreat
