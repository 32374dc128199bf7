/-
 Fractions rounded, clamps, inputs in a span, and the input that is picked: of the program and of the reference.
 Conditions: the numbers are ints of the machine.
-/
import Derived.Test.YtbekjpkcicjcgaaGreatPul
set_option maxHeartbeats 3000000
set_option maxRecDepth 100000
namespace Go.Proofs.YtbekjpkcicjcgaaGreat
open Go.RowKit
theorem whIn {n:Int} (h : -1000000000000000000<=n/\n<=1000000000000000000):XW.In ⟨n,1⟩:=⟨⟨by simp only;omega,by simp only;omega⟩,⟨Sz,Sz⟩⟩
theorem ceilDiv_c (n d:Int) (w:World) (h1 : -9223372036854775807<=n) (h2:n<=9223372036854775807) (hd:0<d) (hd2:d<=9223372036854775807) :
 Calls Tryz.prog 108 #[Vi n,Vi d] w λ x w'=>x=.returned (Vi (-(-n / d)))/\Below w.heap.size w w':=by
 have hdv:=div_bd (n:=-n) (d:=d) Oz Oz hd;refine Yz Tryz.func108 rfl (n:=10) Tryz.ntmps108 Sz ?_;intro a0 O B ha;have s0:a0.tmps[0]?.getD undef=Vi n:=ha 0 _ rfl;have s1:a0.tmps[1]?.getD undef=Vi d:=ha 1 _ rfl;clear ha;have K:=Below.refl w.heap.size w;have R:=Nat.le_refl w.heap.size;refine wp_seq ?_;refine Xl [4] [some V0] (X9 1) [4] [] (λ _ _ _=>True) ?_ (en rfl ?_ .nil) ?_
 ·exact λ _ _=>trivial
 ·exact oACT rfl rfl
 intro L a1 w2 P C I M T;replace O:=C.Z O;replace B:=C.E B;obtain ⟨s0,s1⟩:=C.G2 s0 s1;replace R:=Nat.le_trans R I.size;replace K:=I.below0 K;clear C I M P T;refine Xi (wp_seq ?_);refine Xl [5,6,7,8,9,4] [some (Vi n),some (Vi (-n)),some (Vi d),some (Vi ((-n) / d)),some (Vi (-((-n) / d))),some (Vi (-((-n) / d)))] (X9 6) [5,6,7,8,9,4] [] (λ _ _ _=>True) ?_ (e4 ?_ ?_ ?_ ?_ (e2 ?_ ?_ .nil)) ?_
 ·exact λ _ _=>trivial
 ·exact Kq s0 rfl rfl rfl
 ·exact λ J D F H _ _ A=>Ji rfl (ev (H.d 0 rfl rfl)) Oz (A _ _ H.k rfl trivial)
 ·exact Kq s1 rfl rfl rfl
 ·intro J D F H _ _ A;simp [go_sem,(gS D 6 (H.d 1 rfl rfl)),(gS D 7 (H.d 2 rfl rfl))];refine (floorDiv_c (-n) d F Oz Oz hd hd2).mono ?_;rintro x wx ⟨rfl,n,rfl⟩;have hb:Below F.heap.size F (F.drewN n):=Zn bR n;exact (A _ _ (H.k.call hb) rfl trivial)
 ·exact λ J D F H _ _ A=>Ji rfl (ev (H.d 3 rfl rfl)) Oz (A _ _ H.k rfl trivial)
 ·exact Jm 4 rfl rfl rfl rfl
 intro L a3 w4 P C I M T;replace O:=C.Z O;replace B:=C.E B;have s4:=gS a3 4 (M 5 _ rfl);replace R:=Nat.le_trans R I.size;replace K:=I.below0 K;clear C I M P T s0 s1;refine Xi (wp_ret ?_);refine bodyPost_ret (v:=Vi (-((-n) / d))) (by simp [results,Tryz.results108,go_sem,s4]) B ?_;exact ⟨rfl,K⟩
theorem iRatFloor_c (r:XW) (w:World) (hr:r.In) :
 Calls Tryz.prog 53 #[X0 r] w λ x w'=>x=.returned (Vi (XU r))/\Below w.heap.size w w':=by
 refine Yz Tryz.func53 rfl (n:=11) Tryz.ntmps53 Sz ?_;intro a0 O B ha;have s0:a0.tmps[0]?.getD undef=X0 r:=ha 0 _ rfl;clear ha;have K:=Below.refl w.heap.size w;have R:=Nat.le_refl w.heap.size;refine wp_seq ?_;refine Yk [1,2] [Pz w.heap.size,V0] [some (.cells [Vi r.n,Vi r.d].toArray 46),none] [0,1] [1,2] [0,1] (by kernel_rfl) (by rw [O];decide) (ec ?_ (ec ?_ .nil)) ?_
 ·intro a w' C hs N Q A;simp [go_sem,C.g rfl s0];rw [hs];exact A
 ·intro a w' C hs N Q A;simp [go_sem];exact A
 intro a1 w2 C M hb hO;replace O:=C.size.trans O;replace B:=C.defers.trans B;have s1:a1.tmps[1]?.getD undef=Pz w.heap.size:=M 0 Dz;have b3:Xq w2 w.heap.size 46 [Vi r.n,Vi r.d]:=hO 0 _ rfl;have hG:=b3.lt;replace K:=Xf K hb;have zw2:=Nat.le_trans R hb.size;replace R:=Nat.le_refl w2.heap.size;clear C M hb hO s0;refine Xi (wp_seq (wp_seq ?_));refine Xl [3,4,5] [some (X0 r),some (Bv (Xh r)),some (Bv (!(Xh r)))] (X9 3) [3,4,5] [] (λ _ _ _=>True) ?_ (e2 ?_ ?_ (en rfl ?_ .nil)) ?_
 ·exact λ _ _=>trivial
 ·intro J D F H _ _ A;simp [go_sem,H.f.g rfl s1,(b3.k0 H.k).cell];exact (A _ _ H.k rfl trivial)
 ·intro J D F H _ _ A;simp [go_sem,(gS D 3 (H.d 0 rfl rfl))];refine (ZV r F hr).mono ?_;rintro x wx ⟨rfl,hb⟩;exact (A _ _ (H.k.call hb) rfl trivial)
 ·exact JC 1 rfl rfl rfl rfl
 intro L a4 w5 P C I M T;replace O:=C.Z O;replace B:=C.E B;replace s1:=C.G s1;have s5:=gS a4 5 (M 2 _ rfl);replace b3:=b3.k0 I;replace R:=Nat.le_trans R I.size;replace K:=I.below0 K;clear C I M P T;refine Xi ?_;rcases Bool.eq_false_or_eq_true (!(Xh r)) with q6|q6
 ·refine wp_cond_true (ev (vb s5 q6)) ?_;refine wp_seq ?_;refine Xl [2] [some V0] (X9 1) [2] [] (λ _ _ _=>True) ?_ (en rfl ?_ .nil) ?_
  ·exact λ _ _=>trivial
  ·exact oACT rfl rfl
  intro L a7 w8 P C I M T;replace O:=C.Z O;replace B:=C.E B;have s2:=gS a7 2 (M 0 _ rfl);replace R:=Nat.le_trans R I.size;replace K:=I.below0 K;clear C I M P T s1 s5 b3;refine Xi (wp_ret (Ki ?_));refine bodyPost_ret (v:=V0) (by simp [results,Tryz.results53,go_sem,s2]) B ?_;exact ⟨by rw [show XU r=0 by unfold XU;rw [JD q6,if_neg Sz]],K⟩
 ·obtain ⟨k1,k2,k3,k4⟩:=rok_bd (YT q6);refine wp_cond_false (ev (vb s5 q6)) ?_;refine wp_skip (Xi (wp_seq ?_));refine Xl [6,7,8,9,10,2] [some (Pz w.heap.size),some (Vi r.n),some (.pointer (some ⟨w.heap.size,1,none⟩)),some (Vi r.d),some (Vi (r.n / r.d)),some (Vi (r.n / r.d))] (X9 6) [6,7,8,9,10,2] [] (λ _ _ _=>True) ?_ (e4 ?_ ?_ ?_ ?_ (e2 ?_ ?_ .nil)) ?_
  ·exact λ _ _=>trivial
  ·intro J D F H _ _ A;simp [go_sem,H.f.g rfl s1];exact (A _ _ H.k rfl trivial)
  ·intro J D F H _ _ A;simp [go_sem,(gS D 6 (H.d 0 rfl rfl)),(b3.k0 H.k).cell];exact (A _ _ H.k rfl trivial)
  ·intro J D F H _ _ A;simp [go_sem,H.f.g rfl s1];exact (A _ _ H.k rfl trivial)
  ·intro J D F H _ _ A;simp [go_sem,(gS D 8 (H.d 2 rfl rfl)),(b3.k0 H.k).cell];exact (A _ _ H.k rfl trivial)
  ·intro J D F H _ _ A;simp [go_sem,(gS D 7 (H.d 1 rfl rfl)),(gS D 9 (H.d 3 rfl rfl))];refine (floorDiv_c r.n r.d F k1 k2 k3 k4).mono ?_;rintro x wx ⟨rfl,n,rfl⟩;have hb:Below F.heap.size F (F.drewN n):=Zn bR n;exact (A _ _ (H.k.call hb) rfl trivial)
  ·exact Jm 4 rfl rfl rfl rfl
  intro L a9 w10 P C I M T;replace O:=C.Z O;replace B:=C.E B;have s2:=gS a9 2 (M 5 _ rfl);replace R:=Nat.le_trans R I.size;replace K:=I.below0 K;clear C I M P T s1 s5 b3;refine Xi (wp_ret ?_);refine bodyPost_ret (v:=Vi (r.n / r.d)) (by simp [results,Tryz.results53,go_sem,s2]) B ?_;exact ⟨by rw [show XU r=r.n / r.d by unfold XU;rw [YT q6,if_pos Sz]],K⟩
theorem iRatCeil_c (r:XW) (w:World) (hr:r.In) :
 Calls Tryz.prog 52 #[X0 r] w λ x w'=>x=.returned (Vi (Yf r))/\Below w.heap.size w w':=by
 refine Yz Tryz.func52 rfl (n:=11) Tryz.ntmps52 Sz ?_;intro a0 O B ha;have s0:a0.tmps[0]?.getD undef=X0 r:=ha 0 _ rfl;clear ha;have K:=Below.refl w.heap.size w;have R:=Nat.le_refl w.heap.size;refine wp_seq ?_;refine Yk [1,2] [Pz w.heap.size,V0] [some (.cells [Vi r.n,Vi r.d].toArray 46),none] [0,1] [1,2] [0,1] (by kernel_rfl) (by rw [O];decide) (ec ?_ (ec ?_ .nil)) ?_
 ·intro a w' C hs N Q A;simp [go_sem,C.g rfl s0];rw [hs];exact A
 ·intro a w' C hs N Q A;simp [go_sem];exact A
 intro a1 w2 C M hb hO;replace O:=C.size.trans O;replace B:=C.defers.trans B;have s1:a1.tmps[1]?.getD undef=Pz w.heap.size:=M 0 Dz;have b3:Xq w2 w.heap.size 46 [Vi r.n,Vi r.d]:=hO 0 _ rfl;have hG:=b3.lt;replace K:=Xf K hb;have zw2:=Nat.le_trans R hb.size;replace R:=Nat.le_refl w2.heap.size;clear C M hb hO s0;refine Xi (wp_seq (wp_seq ?_));refine Xl [3,4,5] [some (X0 r),some (Bv (Xh r)),some (Bv (!(Xh r)))] (X9 3) [3,4,5] [] (λ _ _ _=>True) ?_ (e2 ?_ ?_ (en rfl ?_ .nil)) ?_
 ·exact λ _ _=>trivial
 ·intro J D F H _ _ A;simp [go_sem,H.f.g rfl s1,(b3.k0 H.k).cell];exact (A _ _ H.k rfl trivial)
 ·intro J D F H _ _ A;simp [go_sem,(gS D 3 (H.d 0 rfl rfl))];refine (ZV r F hr).mono ?_;rintro x wx ⟨rfl,hb⟩;exact (A _ _ (H.k.call hb) rfl trivial)
 ·exact JC 1 rfl rfl rfl rfl
 intro L a4 w5 P C I M T;replace O:=C.Z O;replace B:=C.E B;replace s1:=C.G s1;have s5:=gS a4 5 (M 2 _ rfl);replace b3:=b3.k0 I;replace R:=Nat.le_trans R I.size;replace K:=I.below0 K;clear C I M P T;refine Xi ?_;rcases Bool.eq_false_or_eq_true (!(Xh r)) with q6|q6
 ·refine wp_cond_true (ev (vb s5 q6)) ?_;refine wp_seq ?_;refine Xl [2] [some V0] (X9 1) [2] [] (λ _ _ _=>True) ?_ (en rfl ?_ .nil) ?_
  ·exact λ _ _=>trivial
  ·exact oACT rfl rfl
  intro L a7 w8 P C I M T;replace O:=C.Z O;replace B:=C.E B;have s2:=gS a7 2 (M 0 _ rfl);replace R:=Nat.le_trans R I.size;replace K:=I.below0 K;clear C I M P T s1 s5 b3;refine Xi (wp_ret (Ki ?_));refine bodyPost_ret (v:=V0) (by simp [results,Tryz.results52,go_sem,s2]) B ?_;exact ⟨by rw [show Yf r=0 by unfold Yf;rw [JD q6,if_neg Sz]],K⟩
 ·obtain ⟨k1,k2,k3,k4⟩:=rok_bd (YT q6);have hdv:=div_bd (n:=-r.n) (d:=r.d) Oz Oz k3;refine wp_cond_false (ev (vb s5 q6)) ?_;refine wp_skip (Xi (wp_seq ?_));refine Xl [6,7,8,9,10,2] [some (Pz w.heap.size),some (Vi r.n),some (.pointer (some ⟨w.heap.size,1,none⟩)),some (Vi r.d),some (Vi (-(-r.n / r.d))),some (Vi (-(-r.n / r.d)))] (X9 6) [6,7,8,9,10,2] [] (λ _ _ _=>True) ?_ (e4 ?_ ?_ ?_ ?_ (e2 ?_ ?_ .nil)) ?_
  ·exact λ _ _=>trivial
  ·intro J D F H _ _ A;simp [go_sem,H.f.g rfl s1];exact (A _ _ H.k rfl trivial)
  ·intro J D F H _ _ A;simp [go_sem,(gS D 6 (H.d 0 rfl rfl)),(b3.k0 H.k).cell];exact (A _ _ H.k rfl trivial)
  ·intro J D F H _ _ A;simp [go_sem,H.f.g rfl s1];exact (A _ _ H.k rfl trivial)
  ·intro J D F H _ _ A;simp [go_sem,(gS D 8 (H.d 2 rfl rfl)),(b3.k0 H.k).cell];exact (A _ _ H.k rfl trivial)
  ·intro J D F H _ _ A;simp [go_sem,(gS D 7 (H.d 1 rfl rfl)),(gS D 9 (H.d 3 rfl rfl))];refine (ceilDiv_c r.n r.d F k1 k2 k3 k4).mono ?_;rintro x wx ⟨rfl,hb⟩;exact (A _ _ (H.k.call hb) rfl trivial)
  ·exact Jm 4 rfl rfl rfl rfl
  intro L a9 w10 P C I M T;replace O:=C.Z O;replace B:=C.E B;have s2:=gS a9 2 (M 5 _ rfl);replace R:=Nat.le_trans R I.size;replace K:=I.below0 K;clear C I M P T s1 s5 b3;refine Xi (wp_ret ?_);refine bodyPost_ret (v:=Vi (-(-r.n / r.d))) (by simp [results,Tryz.results52,go_sem,s2]) B ?_;exact ⟨by rw [show Yf r = -(-r.n / r.d) by unfold Yf;rw [YT q6,if_pos Sz]],K⟩
theorem iPick_c (v:YQ) (wish:Int) (w:World) (hv:v.In) :
 Calls Tryz.prog 14 #[ZC v,Vi wish] w λ x w'=>x=.returned (X0 (pick v wish))/\Below w.heap.size w w':=by
 refine Yz Tryz.func14 rfl (n:=51) Tryz.ntmps14 Sz ?_;intro a0 O B ha;have s0:a0.tmps[0]?.getD undef=ZC v:=ha 0 _ rfl;have s1:a0.tmps[1]?.getD undef=Vi wish:=ha 1 _ rfl;clear ha;have K:=Below.refl w.heap.size w;have R:=Nat.le_refl w.heap.size;refine wp_seq ?_;refine Yk [2,4] [Pz w.heap.size,Pz (w.heap.size+1)] [some (.cells [Vi v.low.n,Vi v.low.d,Vi v.high.n,Vi v.high.d].toArray 48),some (.cells [V0,V0].toArray 46)] [0,1] [2,4] [0,1] (by kernel_rfl) (by rw [O];decide) (ec ?_ (ec ?_ .nil)) ?_
 ·intro a w' C hs N Q A;simp [go_sem,C.g rfl s0];rw [hs];exact A
 ·intro a w' C hs N Q A;simp [go_sem];rw [hs];exact A
 intro a1 w2 C M hb hO;replace O:=C.size.trans O;replace B:=C.defers.trans B;replace s1:=C.g rfl s1;have s2:a1.tmps[2]?.getD undef=Pz w.heap.size:=M 0 Dz;have s4:a1.tmps[4]?.getD undef=Pz (w.heap.size+1):=M 1 Dz;have b3:Xq w2 w.heap.size 48 [Vi v.low.n,Vi v.low.d,Vi v.high.n,Vi v.high.d]:=hO 0 _ rfl;have b4:Xq w2 (w.heap.size+1) 46 [V0,V0]:=hO 1 _ rfl;have hG:=b4.lt;replace K:=Xf K hb;have zw2:=Nat.le_trans R hb.size;replace R:=Nat.le_refl w2.heap.size;clear C M hb hO s0;refine Xi (wp_seq (wp_seq ?_));refine Xl [8,9,10] [some (ZC v),some (Bv (XN v)),some (Bv (!(XN v)))] (X9 3) [8,9,10] [] (λ _ _ _=>True) ?_ (e2 ?_ ?_ (en rfl ?_ .nil)) ?_
 ·exact λ _ _=>trivial
 ·intro J D F H _ _ A;simp [go_sem,H.f.g rfl s2,(b3.k0 H.k).cell];exact (A _ _ H.k rfl trivial)
 ·intro J D F H _ _ A;simp [go_sem,(gS D 8 (H.d 0 rfl rfl))];refine (iSpanOk_c v F hv).mono ?_;rintro x wx ⟨rfl,hb⟩;exact (A _ _ (H.k.call hb) rfl trivial)
 ·exact JC 1 rfl rfl rfl rfl
 intro L a5 w6 P C I M T;replace O:=C.Z O;replace B:=C.E B;obtain ⟨s1,s2,s4⟩:=C.G3 s1 s2 s4;have s10:=gS a5 10 (M 2 _ rfl);replace b3:=b3.k0 I;replace b4:=b4.k0 I;replace R:=Nat.le_trans R I.size;replace K:=I.below0 K;clear C I M P T;refine Xi ?_;rcases Bool.eq_false_or_eq_true (!(XN v)) with q7|q7
 ·refine wp_cond_true (ev (vb s10 q7)) ?_;refine wp_seq ?_;refine Xl [11,0] [some (.agg #[V0,V0]),none] (X9 2) [11] [(w.heap.size+1)] (λ L aa F=>XY F (w.heap.size+1) 46 [V0,V0] (L 1) (λ _ vs=>vs=[V0,V0])) ?_ (e2 ?_ ?_ .nil) ?_
  ·exact λ _ h=>(⟨λ _=>b4.kp h Sz,Cz⟩)
  ·intro J D F H _ _ A;simp [go_sem];exact (A _ _ H.k rfl (H.x.bel bR (λ _ h=>h)))
  ·intro J D F H _ _ A;have x0:=H.x;have U:=x0.1 H.n;simp [go_sem,(gS D 11 (H.d 0 rfl rfl)),H.f.g rfl s4,U.cell,U.frz];exact A undef _ (H.k.store (.inr Sz) [V0,V0] 0) trivial (XY.set U (us:=[V0,V0]) rfl rfl)
  intro L a8 w9 P C I M T;have x0:=T;replace O:=C.Z O;replace B:=C.E B;replace s4:=C.G s4;clear b4;obtain ⟨_,b4,rfl⟩:=x0.2 (P 1 Dz);replace R:=Nat.le_trans R I.size;replace K:=I.below K K.size (by simp<;>omega);clear C I M P x0 s1 s2 s10 b3;refine Xi (wp_ret (Ki ?_));refine bodyPost_ret (v:=.agg #[V0,V0]) (by simp [results,Tryz.results14,go_sem,s4,b4.cell]) B ?_;exact ⟨by rw [show pick v wish=⟨0,0⟩ by unfold pick clampW;rw [if_neg (by rw [JD q7];simp)];rfl],K⟩
 ·have cb:=ceil_bd (Jz (YT q7)).1;have fb:=floor_bd (Jz (YT q7)).2;refine wp_cond_false (ev (vb s10 q7)) ?_;refine wp_skip (Xi (wp_seq ?_));have S:Xd [5] (λ L aa F=>(L 4=true->X6 w6 aa F 5 46 [V0,V0] (L 5) (λ _ vs=>vs=[Vi (max (-1000) (min 1000 wish)),Vi 1]))):=by
   intro L aa F w' kk vv hkk hb T;have x0:=T;exact (λ h=>((x0 h).bel hb (λ _ h=>h)).put (hkk 5 Sz) _)
  refine Xr S [12,13,14,15,5,0] [some (Vi wish),some (Vi (min 1000 wish)),some (Vi (max (-1000) (min 1000 wish))),some (.agg #[Vi (max (-1000) (min 1000 wish)),Vi 1]),none,none] (X9 6) [12,13,14,15,5] [] ?_ (e4 ?_ ?_ ?_ ?_ (e2 ?_ ?_ .nil)) ?_
  ·exact λ _ h=>Cz
  ·exact Y4 s1 rfl rfl rfl λ _ _ _ _=>S.q rfl
  ·intro J D F H _ _ A;simp [go_sem,(gS D 12 (H.d 0 rfl rfl))];exact (A _ _ H.k rfl (S.q rfl H.x))
  ·intro J D F H _ _ A;simp [go_sem,(gS D 13 (H.d 1 rfl rfl))];exact (A _ _ H.k rfl (S.q rfl H.x))
  ·intro J D F H _ _ A;simp [go_sem,(gS D 14 (H.d 2 rfl rfl))];refine (whole_c (max (-1000) (min 1000 wish)) F).mono ?_;rintro x wx ⟨rfl,hb⟩;exact (A _ _ (H.k.call hb) rfl (S.b rfl hb H.x))
  ·intro J D F H _ _ A;have x0:=H.x;simp [go_sem];exact A _ _ (H.k.alloc _) trivial (λ _=>by rw [show Yc J 4 5=false from H.t 5 rfl];exact X6.new (s:=5) (H.f.lt (by rw [O];decide)) H.k.size [V0,V0])
  ·intro J D F H _ _ A;have x0:=H.x;obtain ⟨g,eg,hg,y,_⟩:=x0 (H.r 4 rfl);have U:=y H.n;simp [go_sem,(gS D 15 (H.d 3 rfl rfl)),eg,U.cell,U.frz];exact A undef _ (H.k.store (.inl hg) [Vi (max (-1000) (min 1000 wish)),Vi 1] 0) trivial (λ _=>X6.set eg hg U (us:=[Vi (max (-1000) (min 1000 wish)),Vi 1]) rfl rfl)
  intro L a10 w11 P C I M T;have x0:=T;replace O:=C.Z O;replace B:=C.E B;obtain ⟨s2,s4⟩:=C.G2 s2 s4;replace b3:=b3.k0 I;replace b4:=b4.k0 I;obtain ⟨g12,s5,lg12,-,b12⟩:=x0 (P 4 Dz);obtain ⟨_,b12,rfl⟩:=b12 (P 5 Dz);have ug12:=b12.lt;have zw6:=R;have zw11:=I.size;replace R:=Nat.le_refl w11.heap.size;replace K:=I.below0 K;clear C I M P x0 S s1 s10;refine Xi (wp_seq (wp_seq ?_));refine Xl [16,17,18,19,20] [some (.agg #[Vi (max (-1000) (min 1000 wish)),Vi 1]),some (Pz w.heap.size),some (.agg #[Vi v.low.n,Vi v.low.d]),some (Vi (XF ⟨max (-1000) (min 1000 wish),1⟩ v.low)),some (Bv (decide (XF ⟨max (-1000) (min 1000 wish),1⟩ v.low<0)))] (X9 5) [16,17,18,19,20] [] (λ _ _ _=>True) ?_ (e4 ?_ ?_ ?_ ?_ (en rfl ?_ .nil)) ?_
  ·exact λ _ _=>trivial
  ·intro J D F H _ _ A;simp [go_sem,H.f.g rfl s5,(b12.k0 H.k).cell];exact (A _ _ H.k rfl trivial)
  ·intro J D F H _ _ A;simp [go_sem,H.f.g rfl s2];exact (A _ _ H.k rfl trivial)
  ·intro J D F H _ _ A;simp [go_sem,(gS D 17 (H.d 1 rfl rfl)),(b3.k0 H.k).cell];exact (A _ _ H.k rfl trivial)
  ·intro J D F H _ _ A;simp [go_sem,(gS D 16 (H.d 0 rfl rfl)),(gS D 18 (H.d 2 rfl rfl))];refine (Kn ⟨max (-1000) (min 1000 wish),1⟩ v.low F (whIn Oz) hv.1).mono ?_;rintro x wx ⟨rfl,hb⟩;exact (A _ _ (H.k.call hb) rfl trivial)
  ·exact λ J D F H _ _ A=>Y8 rfl (ev (H.d 3 rfl rfl)) rfl rfl rfl (A _ _ H.k rfl trivial)
  intro L a13 w14 P C I M T;replace O:=C.Z O;replace B:=C.E B;obtain ⟨s2,s4,s5⟩:=C.G3 s2 s4 s5;have s20:=gS a13 20 (M 4 _ rfl);replace b3:=b3.k0 I;replace b4:=b4.k0 I;replace b12:=b12.k0 I;replace R:=Nat.le_trans R I.size;replace K:=I.below0 K;clear C I M P T;refine Xi ?_;rcases Bool.eq_false_or_eq_true (decide (XF ⟨max (-1000) (min 1000 wish),1⟩ v.low<0)) with q15|q15
  ·refine wp_cond_true (ev (vb s20 q15)) ?_;refine wp_seq (wp_seq ?_);have S:Xd [6] (λ L aa F=>(L 4=true->X6 w14 aa F 6 46 [V0,V0] (L 5) (λ _ vs=>vs=[Vi (Yf v.low),Vi 1]))):=by
    intro L aa F w' kk vv hkk hb T;have x0:=T;exact (λ h=>((x0 h).bel hb (λ _ h=>h)).put (hkk 6 Sz) _)
   refine Xr S [21,22,23,24,6,0] [some (Pz w.heap.size),some (.agg #[Vi v.low.n,Vi v.low.d]),some (Vi (Yf v.low)),some (.agg #[Vi (Yf v.low),Vi 1]),none,none] (X9 6) [21,22,23,24,6] [] ?_ (e4 ?_ ?_ ?_ ?_ (e2 ?_ ?_ .nil)) ?_
   ·exact λ _ h=>Cz
   ·intro J D F H _ _ A;simp [go_sem,H.f.g rfl s2];exact (A _ _ H.k rfl (S.q rfl H.x))
   ·intro J D F H _ _ A;simp [go_sem,(gS D 21 (H.d 0 rfl rfl)),(b3.k0 H.k).cell];exact (A _ _ H.k rfl (S.q rfl H.x))
   ·intro J D F H _ _ A;simp [go_sem,(gS D 22 (H.d 1 rfl rfl))];refine (iRatCeil_c v.low F hv.1).mono ?_;rintro x wx ⟨rfl,hb⟩;exact (A _ _ (H.k.call hb) rfl (S.b rfl hb H.x))
   ·intro J D F H _ _ A;simp [go_sem,(gS D 23 (H.d 2 rfl rfl))];refine (whole_c (Yf v.low) F).mono ?_;rintro x wx ⟨rfl,hb⟩;exact (A _ _ (H.k.call hb) rfl (S.b rfl hb H.x))
   ·intro J D F H _ _ A;have x0:=H.x;simp [go_sem];exact A _ _ (H.k.alloc _) trivial (λ _=>by rw [show Yc J 4 5=false from H.t 5 rfl];exact X6.new (s:=6) (H.f.lt (by rw [O];decide)) H.k.size [V0,V0])
   ·intro J D F H _ _ A;have x0:=H.x;obtain ⟨g,eg,hg,y,_⟩:=x0 (H.r 4 rfl);have U:=y H.n;simp [go_sem,(gS D 24 (H.d 3 rfl rfl)),eg,U.cell,U.frz];exact A undef _ (H.k.store (.inl hg) [Vi (Yf v.low),Vi 1] 0) trivial (λ _=>X6.set eg hg U (us:=[Vi (Yf v.low),Vi 1]) rfl rfl)
   intro L a16 w17 P C I M T;have x0:=T;replace O:=C.Z O;replace B:=C.E B;obtain ⟨s2,s4⟩:=C.G2 s2 s4;replace b3:=b3.k0 I;replace b4:=b4.k0 I;obtain ⟨g18,s6,lg18,-,b18⟩:=x0 (P 4 Dz);obtain ⟨_,b18,rfl⟩:=b18 (P 5 Dz);have ug18:=b18.lt;have zw14:=R;have zw17:=I.size;replace R:=Nat.le_refl w17.heap.size;replace K:=I.below0 K;clear C I M P x0 S s5 s20 b12;refine Xi (wp_seq ?_);refine Xl [25,26,27,28,29] [some (.agg #[Vi (Yf v.low),Vi 1]),some (.pointer (some ⟨w.heap.size,2,none⟩)),some (.agg #[Vi v.high.n,Vi v.high.d]),some (Vi (XF ⟨Yf v.low,1⟩ v.high)),some (Bv (decide (XF ⟨Yf v.low,1⟩ v.high<=0)))] (X9 5) [25,26,27,28,29] [] (λ _ _ _=>True) ?_ (e4 ?_ ?_ ?_ ?_ (en rfl ?_ .nil)) ?_
   ·exact λ _ _=>trivial
   ·intro J D F H _ _ A;simp [go_sem,H.f.g rfl s6,(b18.k0 H.k).cell];exact (A _ _ H.k rfl trivial)
   ·intro J D F H _ _ A;simp [go_sem,H.f.g rfl s2];exact (A _ _ H.k rfl trivial)
   ·intro J D F H _ _ A;simp [go_sem,(gS D 26 (H.d 1 rfl rfl)),(b3.k0 H.k).cell];exact (A _ _ H.k rfl trivial)
   ·intro J D F H _ _ A;simp [go_sem,(gS D 25 (H.d 0 rfl rfl)),(gS D 27 (H.d 2 rfl rfl))];refine (Kn ⟨Yf v.low,1⟩ v.high F (whIn Oz) hv.2).mono ?_;rintro x wx ⟨rfl,hb⟩;exact (A _ _ (H.k.call hb) rfl trivial)
   ·exact λ J D F H _ _ A=>Y8 rfl (ev (H.d 3 rfl rfl)) rfl rfl rfl (A _ _ H.k rfl trivial)
   intro L a19 w20 P C I M T;replace O:=C.Z O;replace B:=C.E B;obtain ⟨s2,s4,s6⟩:=C.G3 s2 s4 s6;have s29:=gS a19 29 (M 4 _ rfl);replace b3:=b3.k0 I;replace b4:=b4.k0 I;replace b18:=b18.k0 I;replace R:=Nat.le_trans R I.size;replace K:=I.below0 K;clear C I M P T;refine Xi ?_;rcases Bool.eq_false_or_eq_true (decide (XF ⟨Yf v.low,1⟩ v.high<=0)) with q21|q21
   ·refine wp_cond_true (ev (vb s29 q21)) ?_;refine wp_seq ?_;refine Xl [30,0] [some (.agg #[Vi (Yf v.low),Vi 1]),none] (X9 2) [30] [(w.heap.size+1)] (λ L aa F=>XY F (w.heap.size+1) 46 [V0,V0] (L 1) (λ _ vs=>vs=[Vi (Yf v.low),Vi 1])) ?_ (e2 ?_ ?_ .nil) ?_
    ·exact λ _ h=>(⟨λ _=>b4.kp h Sz,Cz⟩)
    ·intro J D F H _ _ A;simp [go_sem,H.f.g rfl s6,(b18.kp H.k (by simp<;>omega)).cell];exact (A _ _ H.k rfl (H.x.bel bR (λ _ h=>h)))
    ·intro J D F H _ _ A;have x0:=H.x;have U:=x0.1 H.n;simp [go_sem,(gS D 30 (H.d 0 rfl rfl)),H.f.g rfl s4,U.cell,U.frz];exact A undef _ (H.k.store (.inr Sz) [Vi (Yf v.low),Vi 1] 0) trivial (XY.set U (us:=[Vi (Yf v.low),Vi 1]) rfl rfl)
    intro L a22 w23 P C I M T;have x0:=T;replace O:=C.Z O;replace B:=C.E B;replace s4:=C.G s4;clear b4;obtain ⟨_,b4,rfl⟩:=x0.2 (P 1 Dz);replace R:=Nat.le_trans R I.size;replace K:=I.below K K.size (by simp<;>omega);clear C I M P x0 s2 s6 s29 b3 b18;refine Xi (wp_ret ?_);refine Ki (Ki ?_);refine bodyPost_ret (v:=.agg #[Vi (Yf v.low),Vi 1]) (by simp [results,Tryz.results14,go_sem,s4,b4.cell]) B ?_;exact ⟨by rw [show pick v wish=⟨Yf v.low,1⟩ by unfold pick clampW;rw [if_pos (by rw [YT q7]),if_pos (J0 q15),if_pos (J0 q21)]],K⟩
   ·refine wp_cond_false (ev (vb s29 q21)) ?_;refine wp_skip (Xi (wp_seq ?_));have S:Xd [] (λ L aa F=>XY F (w.heap.size+1) 46 [V0,V0] (L 2) (λ _ vs=>vs=[Vi v.low.n,Vi v.low.d])):=by
     intro L aa F w' kk vv hkk hb T;have x0:=T;exact (x0.bel hb (λ _ h=>h))
    refine Xr S [31,32,0] [some (Pz w.heap.size),some (.agg #[Vi v.low.n,Vi v.low.d]),none] (X9 3) [31,32] [(w.heap.size+1)] ?_ (e2 ?_ ?_ (en rfl ?_ .nil)) ?_
    ·exact λ _ h=>(⟨λ _=>b4.kp h Sz,Cz⟩)
    ·intro J D F H _ _ A;simp [go_sem,H.f.g rfl s2];exact (A _ _ H.k rfl H.x)
    ·intro J D F H _ _ A;simp [go_sem,(gS D 31 (H.d 0 rfl rfl)),(b3.kp H.k (by simp<;>omega)).cell];exact (A _ _ H.k rfl H.x)
    ·intro J D F H _ _ A;have x0:=H.x;have U:=x0.1 H.n;simp [go_sem,(gS D 32 (H.d 1 rfl rfl)),H.f.g rfl s4,U.cell,U.frz];exact A undef _ (H.k.store (.inr Sz) [Vi v.low.n,Vi v.low.d] 0) trivial (XY.set U (us:=[Vi v.low.n,Vi v.low.d]) rfl rfl)
    intro L a24 w25 P C I M T;have x0:=T;replace O:=C.Z O;replace B:=C.E B;replace s4:=C.G s4;clear b4;obtain ⟨_,b4,rfl⟩:=x0.2 (P 2 Dz);replace R:=Nat.le_trans R I.size;replace K:=I.below K K.size (by simp<;>omega);clear C I M P x0 S s2 s6 s29 b3 b18;refine Xi (wp_ret (Ki ?_));refine bodyPost_ret (v:=.agg #[Vi v.low.n,Vi v.low.d]) (by simp [results,Tryz.results14,go_sem,s4,b4.cell]) B ?_;exact ⟨by rw [show pick v wish=v.low by unfold pick clampW;rw [if_pos (by rw [YT q7]),if_pos (J0 q15),if_neg (Jr q21)]],K⟩
  ·refine wp_cond_false (ev (vb s20 q15)) ?_;refine wp_skip (Xi (wp_seq (wp_seq ?_)));refine Xl [33,34,35,36,37] [some (.agg #[Vi (max (-1000) (min 1000 wish)),Vi 1]),some (.pointer (some ⟨w.heap.size,2,none⟩)),some (.agg #[Vi v.high.n,Vi v.high.d]),some (Vi (XF ⟨max (-1000) (min 1000 wish),1⟩ v.high)),some (Bv (decide (XF ⟨max (-1000) (min 1000 wish),1⟩ v.high > 0)))] (X9 5) [33,34,35,36,37] [] (λ _ _ _=>True) ?_ (e4 ?_ ?_ ?_ ?_ (en rfl ?_ .nil)) ?_
   ·exact λ _ _=>trivial
   ·intro J D F H _ _ A;simp [go_sem,H.f.g rfl s5,(b12.k0 H.k).cell];exact (A _ _ H.k rfl trivial)
   ·intro J D F H _ _ A;simp [go_sem,H.f.g rfl s2];exact (A _ _ H.k rfl trivial)
   ·intro J D F H _ _ A;simp [go_sem,(gS D 34 (H.d 1 rfl rfl)),(b3.k0 H.k).cell];exact (A _ _ H.k rfl trivial)
   ·intro J D F H _ _ A;simp [go_sem,(gS D 33 (H.d 0 rfl rfl)),(gS D 35 (H.d 2 rfl rfl))];refine (Kn ⟨max (-1000) (min 1000 wish),1⟩ v.high F (whIn Oz) hv.2).mono ?_;rintro x wx ⟨rfl,hb⟩;exact (A _ _ (H.k.call hb) rfl trivial)
   ·exact λ J D F H _ _ A=>Y8 rfl (ev (H.d 3 rfl rfl)) rfl rfl rfl (A _ _ H.k rfl trivial)
   intro L a26 w27 P C I M T;replace O:=C.Z O;replace B:=C.E B;obtain ⟨s2,s4,s5⟩:=C.G3 s2 s4 s5;have s37:=gS a26 37 (M 4 _ rfl);replace b3:=b3.k0 I;replace b4:=b4.k0 I;replace b12:=b12.k0 I;replace R:=Nat.le_trans R I.size;replace K:=I.below0 K;clear C I M P T s20;refine Xi ?_;rcases Bool.eq_false_or_eq_true (decide (XF ⟨max (-1000) (min 1000 wish),1⟩ v.high > 0)) with q28|q28
   ·refine wp_cond_true (ev (vb s37 q28)) ?_;refine wp_seq (wp_seq ?_);have S:Xd [7] (λ L aa F=>(L 4=true->X6 w27 aa F 7 46 [V0,V0] (L 5) (λ _ vs=>vs=[Vi (XU v.high),Vi 1]))):=by
     intro L aa F w' kk vv hkk hb T;have x0:=T;exact (λ h=>((x0 h).bel hb (λ _ h=>h)).put (hkk 7 Sz) _)
    refine Xr S [38,39,40,41,7,0] [some (.pointer (some ⟨w.heap.size,2,none⟩)),some (.agg #[Vi v.high.n,Vi v.high.d]),some (Vi (XU v.high)),some (.agg #[Vi (XU v.high),Vi 1]),none,none] (X9 6) [38,39,40,41,7] [] ?_ (e4 ?_ ?_ ?_ ?_ (e2 ?_ ?_ .nil)) ?_
    ·exact λ _ h=>Cz
    ·intro J D F H _ _ A;simp [go_sem,H.f.g rfl s2];exact (A _ _ H.k rfl (S.q rfl H.x))
    ·intro J D F H _ _ A;simp [go_sem,(gS D 38 (H.d 0 rfl rfl)),(b3.k0 H.k).cell];exact (A _ _ H.k rfl (S.q rfl H.x))
    ·intro J D F H _ _ A;simp [go_sem,(gS D 39 (H.d 1 rfl rfl))];refine (iRatFloor_c v.high F hv.2).mono ?_;rintro x wx ⟨rfl,hb⟩;exact (A _ _ (H.k.call hb) rfl (S.b rfl hb H.x))
    ·intro J D F H _ _ A;simp [go_sem,(gS D 40 (H.d 2 rfl rfl))];refine (whole_c (XU v.high) F).mono ?_;rintro x wx ⟨rfl,hb⟩;exact (A _ _ (H.k.call hb) rfl (S.b rfl hb H.x))
    ·intro J D F H _ _ A;have x0:=H.x;simp [go_sem];exact A _ _ (H.k.alloc _) trivial (λ _=>by rw [show Yc J 4 5=false from H.t 5 rfl];exact X6.new (s:=7) (H.f.lt (by rw [O];decide)) H.k.size [V0,V0])
    ·intro J D F H _ _ A;have x0:=H.x;obtain ⟨g,eg,hg,y,_⟩:=x0 (H.r 4 rfl);have U:=y H.n;simp [go_sem,(gS D 41 (H.d 3 rfl rfl)),eg,U.cell,U.frz];exact A undef _ (H.k.store (.inl hg) [Vi (XU v.high),Vi 1] 0) trivial (λ _=>X6.set eg hg U (us:=[Vi (XU v.high),Vi 1]) rfl rfl)
    intro L a29 w30 P C I M T;have x0:=T;replace O:=C.Z O;replace B:=C.E B;obtain ⟨s2,s4⟩:=C.G2 s2 s4;replace b3:=b3.k0 I;replace b4:=b4.k0 I;obtain ⟨g31,s7,lg31,-,b31⟩:=x0 (P 4 Dz);obtain ⟨_,b31,rfl⟩:=b31 (P 5 Dz);have ug31:=b31.lt;have zw27:=R;have zw30:=I.size;replace R:=Nat.le_refl w30.heap.size;replace K:=I.below0 K;clear C I M P x0 S s5 s37 b12;refine Xi (wp_seq ?_);refine Xl [42,43,44,45,46] [some (.agg #[Vi (XU v.high),Vi 1]),some (Pz w.heap.size),some (.agg #[Vi v.low.n,Vi v.low.d]),some (Vi (XF ⟨XU v.high,1⟩ v.low)),some (Bv (decide (XF ⟨XU v.high,1⟩ v.low ≥ 0)))] (X9 5) [42,43,44,45,46] [] (λ _ _ _=>True) ?_ (e4 ?_ ?_ ?_ ?_ (en rfl ?_ .nil)) ?_
    ·exact λ _ _=>trivial
    ·intro J D F H _ _ A;simp [go_sem,H.f.g rfl s7,(b31.k0 H.k).cell];exact (A _ _ H.k rfl trivial)
    ·intro J D F H _ _ A;simp [go_sem,H.f.g rfl s2];exact (A _ _ H.k rfl trivial)
    ·intro J D F H _ _ A;simp [go_sem,(gS D 43 (H.d 1 rfl rfl)),(b3.k0 H.k).cell];exact (A _ _ H.k rfl trivial)
    ·intro J D F H _ _ A;simp [go_sem,(gS D 42 (H.d 0 rfl rfl)),(gS D 44 (H.d 2 rfl rfl))];refine (Kn ⟨XU v.high,1⟩ v.low F (whIn Oz) hv.1).mono ?_;rintro x wx ⟨rfl,hb⟩;exact (A _ _ (H.k.call hb) rfl trivial)
    ·exact λ J D F H _ _ A=>Y8 rfl (ev (H.d 3 rfl rfl)) rfl rfl rfl (A _ _ H.k rfl trivial)
    intro L a32 w33 P C I M T;replace O:=C.Z O;replace B:=C.E B;obtain ⟨s2,s4,s7⟩:=C.G3 s2 s4 s7;have s46:=gS a32 46 (M 4 _ rfl);replace b3:=b3.k0 I;replace b4:=b4.k0 I;replace b31:=b31.k0 I;replace R:=Nat.le_trans R I.size;replace K:=I.below0 K;clear C I M P T;refine Xi ?_;rcases Bool.eq_false_or_eq_true (decide (XF ⟨XU v.high,1⟩ v.low ≥ 0)) with q34|q34
    ·refine wp_cond_true (ev (vb s46 q34)) ?_;refine wp_seq ?_;refine Xl [47,0] [some (.agg #[Vi (XU v.high),Vi 1]),none] (X9 2) [47] [(w.heap.size+1)] (λ L aa F=>XY F (w.heap.size+1) 46 [V0,V0] (L 1) (λ _ vs=>vs=[Vi (XU v.high),Vi 1])) ?_ (e2 ?_ ?_ .nil) ?_
     ·exact λ _ h=>(⟨λ _=>b4.kp h Sz,Cz⟩)
     ·intro J D F H _ _ A;simp [go_sem,H.f.g rfl s7,(b31.kp H.k (by simp<;>omega)).cell];exact (A _ _ H.k rfl (H.x.bel bR (λ _ h=>h)))
     ·intro J D F H _ _ A;have x0:=H.x;have U:=x0.1 H.n;simp [go_sem,(gS D 47 (H.d 0 rfl rfl)),H.f.g rfl s4,U.cell,U.frz];exact A undef _ (H.k.store (.inr Sz) [Vi (XU v.high),Vi 1] 0) trivial (XY.set U (us:=[Vi (XU v.high),Vi 1]) rfl rfl)
     intro L a35 w36 P C I M T;have x0:=T;replace O:=C.Z O;replace B:=C.E B;replace s4:=C.G s4;clear b4;obtain ⟨_,b4,rfl⟩:=x0.2 (P 1 Dz);replace R:=Nat.le_trans R I.size;replace K:=I.below K K.size (by simp<;>omega);clear C I M P x0 s2 s7 s46 b3 b31;refine Xi (wp_ret ?_);refine Ki (Ki ?_);refine bodyPost_ret (v:=.agg #[Vi (XU v.high),Vi 1]) (by simp [results,Tryz.results14,go_sem,s4,b4.cell]) B ?_;exact ⟨by rw [show pick v wish=⟨XU v.high,1⟩ by unfold pick clampW;rw [if_pos (by rw [YT q7]),if_neg (Jr q15),if_pos (J0 q28),if_pos (J0 q34)]],K⟩
    ·refine wp_cond_false (ev (vb s46 q34)) ?_;refine wp_skip (Xi (wp_seq ?_));have S:Xd [] (λ L aa F=>XY F (w.heap.size+1) 46 [V0,V0] (L 2) (λ _ vs=>vs=[Vi v.high.n,Vi v.high.d])):=by
      intro L aa F w' kk vv hkk hb T;have x0:=T;exact (x0.bel hb (λ _ h=>h))
     refine Xr S [48,49,0] [some (.pointer (some ⟨w.heap.size,2,none⟩)),some (.agg #[Vi v.high.n,Vi v.high.d]),none] (X9 3) [48,49] [(w.heap.size+1)] ?_ (e2 ?_ ?_ (en rfl ?_ .nil)) ?_
     ·exact λ _ h=>(⟨λ _=>b4.kp h Sz,Cz⟩)
     ·intro J D F H _ _ A;simp [go_sem,H.f.g rfl s2];exact (A _ _ H.k rfl H.x)
     ·intro J D F H _ _ A;simp [go_sem,(gS D 48 (H.d 0 rfl rfl)),(b3.kp H.k (by simp<;>omega)).cell];exact (A _ _ H.k rfl H.x)
     ·intro J D F H _ _ A;have x0:=H.x;have U:=x0.1 H.n;simp [go_sem,(gS D 49 (H.d 1 rfl rfl)),H.f.g rfl s4,U.cell,U.frz];exact A undef _ (H.k.store (.inr Sz) [Vi v.high.n,Vi v.high.d] 0) trivial (XY.set U (us:=[Vi v.high.n,Vi v.high.d]) rfl rfl)
     intro L a37 w38 P C I M T;have x0:=T;replace O:=C.Z O;replace B:=C.E B;replace s4:=C.G s4;clear b4;obtain ⟨_,b4,rfl⟩:=x0.2 (P 2 Dz);replace R:=Nat.le_trans R I.size;replace K:=I.below K K.size (by simp<;>omega);clear C I M P x0 S s2 s7 s46 b3 b31;refine Xi (wp_ret (Ki ?_));refine bodyPost_ret (v:=.agg #[Vi v.high.n,Vi v.high.d]) (by simp [results,Tryz.results14,go_sem,s4,b4.cell]) B ?_;exact ⟨by rw [show pick v wish=v.high by unfold pick clampW;rw [if_pos (by rw [YT q7]),if_neg (Jr q15),if_pos (J0 q28),if_neg (Jr q34)]],K⟩
   ·refine wp_cond_false (ev (vb s37 q28)) ?_;refine wp_skip (Xi (wp_seq ?_));refine Xl [50,0] [some (.agg #[Vi (max (-1000) (min 1000 wish)),Vi 1]),none] (X9 2) [50] [(w.heap.size+1)] (λ L aa F=>XY F (w.heap.size+1) 46 [V0,V0] (L 1) (λ _ vs=>vs=[Vi (max (-1000) (min 1000 wish)),Vi 1])) ?_ (e2 ?_ ?_ .nil) ?_
    ·exact λ _ h=>(⟨λ _=>b4.kp h Sz,Cz⟩)
    ·intro J D F H _ _ A;simp [go_sem,H.f.g rfl s5,(b12.kp H.k (by simp<;>omega)).cell];exact (A _ _ H.k rfl (H.x.bel bR (λ _ h=>h)))
    ·intro J D F H _ _ A;have x0:=H.x;have U:=x0.1 H.n;simp [go_sem,(gS D 50 (H.d 0 rfl rfl)),H.f.g rfl s4,U.cell,U.frz];exact A undef _ (H.k.store (.inr Sz) [Vi (max (-1000) (min 1000 wish)),Vi 1] 0) trivial (XY.set U (us:=[Vi (max (-1000) (min 1000 wish)),Vi 1]) rfl rfl)
    intro L a39 w40 P C I M T;have x0:=T;replace O:=C.Z O;replace B:=C.E B;replace s4:=C.G s4;clear b4;obtain ⟨_,b4,rfl⟩:=x0.2 (P 1 Dz);replace R:=Nat.le_trans R I.size;replace K:=I.below K K.size (by simp<;>omega);clear C I M P x0 s2 s5 s37 b3 b12;refine Xi (wp_ret ?_);refine bodyPost_ret (v:=.agg #[Vi (max (-1000) (min 1000 wish)),Vi 1]) (by simp [results,Tryz.results14,go_sem,s4,b4.cell]) B ?_;exact ⟨by rw [show pick v wish=⟨max (-1000) (min 1000 wish),1⟩ by unfold pick clampW;rw [if_pos (by rw [YT q7]),if_neg (Jr q15),if_neg (Jr q28)]],K⟩
end Go.Proofs.YtbekjpkcicjcgaaGreat
