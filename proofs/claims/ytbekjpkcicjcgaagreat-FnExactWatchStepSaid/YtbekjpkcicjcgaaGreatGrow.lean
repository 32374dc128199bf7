/-
 Growing along a direction: the two half planes beside a region, of the program.
 Conditions: valid regions; directions from -100 to 100.
-/
import Derived.Test.YtbekjpkcicjcgaaGreatPulS
import Derived.Test.YtbekjpkcicjcgaaGreatInv2
set_option maxHeartbeats 3000000
set_option maxRecDepth 100000
namespace Go.Proofs.YtbekjpkcicjcgaaGreat
open Go.RowKit
theorem XI.lit {α:Type} {T sz g base:Nat} {enc:α->List Value} {w:World} {xs:List α} (X5:∀ x,(enc x).length=sz) (h:Xz w g T (xs.flatMap enc)) (hb:base<=g) (hm:xs.length<=1000000):XI T sz enc w base (Sv (some ⟨g,0,none⟩) xs.length xs.length) xs:=by
 have hl:(xs.flatMap enc).length=xs.length*sz:=by
  clear h hb hm;induction xs with
  | nil=>simp
  | cons x t ih=>rw [List.flatMap_cons,List.length_append,ih,X5,List.length_cons,Nat.add_mul,Nat.one_mul,Nat.add_comm]
 refine ⟨_,_,rfl,hl,.inr ⟨g,xs.length,(xs.flatMap enc).toArray,rfl,hb,h,Nat.le_refl _,Nat.le_trans hm Dz,by simpa using hl, ?_⟩⟩;exact List.take_of_length_le (by show (xs.flatMap enc).length<=_;omega)
theorem two_slI {w:World} {g T:Nat} {x y:Int} (h:Xz w g T [Vi x,Vi y]):Sl 1 Zm w (some ⟨g,0,none⟩) [x,y] :=
 (XI.lit (enc:=Zm) (xs:=[x,y]) (base:=0) (T:=T) Zg h (Nat.zero_le _) Sz).out Zg
def Zw (bx by_:Int):Int:=(-by_).tdiv ((Xm [bx,by_]:Nat):Int)
def Zv (bx by_:Int):Int:=bx.tdiv ((Xm [bx,by_]:Nat):Int)
structure DirIn (bx by_:Int):Prop where
 x : -100<=bx/\bx<=100
 y : -100<=by_/\by_<=100
 nz:¬ (bx=0/\by_=0)
structure DirOk (bx by_:Int):Prop where
 g:1<=((Xm [bx,by_]:Nat):Int)/\((Xm [bx,by_]:Nat):Int)<=100
 a : -100<=Zw bx by_/\Zw bx by_<=100
 b : -100<=Zv bx by_/\Zv bx by_<=100
 nz:¬ (Zw bx by_=0/\Zv bx by_=0)
theorem dirOk {bx by_:Int} (h:DirIn bx by_):DirOk bx by_:=by
 have hx:=h.x;have hy:=h.y;have hn:=h.nz;have hg:Xm [bx,by_]=Nat.gcd bx.natAbs by_.natAbs:=by rw [Ka]
 have d1:=Nat.gcd_dvd_left bx.natAbs by_.natAbs;have d2:=Nat.gcd_dvd_right bx.natAbs by_.natAbs;have hp:0<Nat.gcd bx.natAbs by_.natAbs:=by
  rcases Classical.em (bx=0) with e|e
  ·exact Nat.gcd_pos_of_pos_right _ Oz
  ·exact Nat.gcd_pos_of_pos_left _ Oz
 have hle:Nat.gcd bx.natAbs by_.natAbs<=100:=by
  rcases Classical.em (bx=0) with e|e
  ·exact Nat.le_trans (Nat.le_of_dvd Oz d2) Oz
  ·exact Nat.le_trans (Nat.le_of_dvd Oz d1) Oz
 have a1:=tdiv_le (-by_) (Xm [bx,by_]) 100 Oz Oz;have b1:=tdiv_le bx (Xm [bx,by_]) 100 Oz Oz;refine ⟨⟨by rw [hg];omega,by rw [hg];omega⟩,a1,b1, ?_⟩;rintro ⟨e1,e2⟩;refine hn ⟨?_, ?_⟩
 ·have q:=Int.mul_tdiv_cancel' (show ((Xm [bx,by_]:Nat):Int) ∣ bx from Int.ofNat_dvd_left.2 (by rw [hg];exact d1));unfold Zv at e2;rw [e2] at q;omega
 ·have q:=Int.mul_tdiv_cancel' (show ((Xm [bx,by_]:Nat):Int) ∣ -by_ from Int.ofNat_dvd_left.2 (by rw [hg,Int.natAbs_neg];exact d2));unfold Zw at e1;rw [e1] at q;omega
def Kx (p:List Half) (a b:Int):Option Half:=Y1 (a*(ZO p a b).d) (b*(ZO p a b).d) (ZO p a b).n
def sdL (p:List Half) (a b:Int):List Half:=[(Kx p a b).getD Xa,(Kx p (-a) (-b)).getD Xa]
structure SdB (p:List Half) (a b:Int):Prop where
 x : -500000000000<=a*(ZO p a b).d/\a*(ZO p a b).d<=500000000000
 y : -500000000000<=b*(ZO p a b).d/\b*(ZO p a b).d<=500000000000
 n : -500000000000000000<=(ZO p a b).n/\(ZO p a b).n<=500000000000000000
theorem sdB {p:List Half} {a b:Int} (hp:Xb p=true) (hne:p≠[]) (ha : -100<=a/\a<=100) (hb : -100<=b/\b<=100):SdB p a b:=by
 have R:=supR hp hne (a:=a) (b:=b) ⟨Oz,Oz⟩ ⟨Oz,Oz⟩;have d1:=R.d;have x:=Jd (a:=a) (b:=(ZO p a b).d) (A:=100) (B:=5000000000) ⟨Oz,Oz⟩ ⟨Oz,Oz⟩;have y:=Jd (a:=b) (b:=(ZO p a b).d) (A:=100) (B:=5000000000) ⟨Oz,Oz⟩ ⟨Oz,Oz⟩;exact ⟨⟨Oz,Oz⟩,⟨Oz,Oz⟩,R.n⟩
theorem topH_sd {p:List Half} {a b:Int} (hp:Xb p=true) (hne:p≠[]) (ha : -100<=a/\a<=100) (hb : -100<=b/\b<=100) (hab:¬ (a=0/\b=0)):topH a b (ZO p a b)=Kx p a b:=by
 have R:=supR hp hne (a:=a) (b:=b) ⟨Oz,Oz⟩ ⟨Oz,Oz⟩;unfold topH Kx;split
 ·rename_i hd
  have:=ero_none (c:=0) (n:=-(ZO p a b).n) hab hd (by rw [Int.natAbs_neg];exact R.g);rw [show 0*(ZO p a b).d - -(ZO p a b).n=(ZO p a b).n by omega] at this;exact this.symm
 ·rfl
theorem iSides_c (p:List Half) (bx by_:Int) (a:Zi) (w:World) (hp:Xb p=true) (hne:p≠[]) (hD:DirIn bx by_) (hsp:Sl 3 Xd w a.A p) :
 Calls Tryz.prog 143 #[.agg #[Sv a.A p.length a.c],Vi bx,Vi by_] w λ x w'=>∃ A c,x=.returned (.tuple #[Sv A (sdL p (Zw bx by_) (Zv bx by_)).length c,Bv ((Kx p (Zw bx by_) (Zv bx by_)).isSome&&(Kx p (-Zw bx by_) (-Zv bx by_)).isSome)])/\XI 136 3 Xd w' w.heap.size (Sv A (sdL p (Zw bx by_) (Zv bx by_)).length c) (sdL p (Zw bx by_) (Zv bx by_))/\Below w.heap.size w w':=by
 have hO:=dirOk hD;have hgo:=hO.g;have hDx:=hD.x;have hDy:=hD.y;refine YN Tryz.func143 rfl (n:=76) Tryz.ntmps143 Sz ?_;intro a0 S O ha;have s0:a0.tmps[0]?.getD undef=.agg #[Sv a.A p.length a.c]:=ha 0 _ rfl;have s1:a0.tmps[1]?.getD undef=Vi bx:=ha 1 _ rfl;have s2:a0.tmps[2]?.getD undef=Vi by_:=ha 2 _ rfl;clear ha;have U:=Below.refl w.heap.size w;have X:=Nat.le_refl w.heap.size;refine wp_seq ?_;refine Yt [3,6,7] [Pz w.heap.size,Nz,Bf] [some (.cells [Sv a.A p.length a.c].toArray 26),none,none] [0,1,1] [3,6,7] [0,1,2] (by kernel_rfl) (by rw [S];decide) (ec ?_ (ec ?_ (ec ?_ .nil))) ?_
 ·intro a w' K hs N Q F;simp [go_sem,K.g rfl s0];rw [hs];exact F
 ·intro a w' K hs N Q F;simp [go_sem];exact F
 ·intro a w' K hs N Q F;simp [go_sem];exact F
 intro a1 w2 K V hb hO;replace S:=K.size.trans S;replace O:=K.defers.trans O;replace s1:=K.g rfl s1;replace s2:=K.g rfl s2;have s3:a1.tmps[3]?.getD undef=Pz w.heap.size:=V 0 Dz;have b3:Xz w2 w.heap.size 26 [Sv a.A p.length a.c]:=hO 0 _ rfl;have hG:=b3.lt;replace U:=Xe U hb;have zw2:=Nat.le_trans X hb.size;replace X:=Nat.le_refl w2.heap.size;clear K V hb hO s0;refine Xk (wp_seq ?_);have C:=Xf.e 19 2 (λ I v=>∃ g1,v=Sv (some ⟨g1,0,none⟩) 2 2/\Xz I g1 3 [Vi bx,Vi by_]/\w2.heap.size<=g1) (λ hb _ h=>by obtain ⟨g1',e,f1'⟩:=h;exact ⟨g1',e,⟨f1'.1.bel hb,f1'.2⟩⟩);refine Xr C [17,18,19,20,21,8] [some (Vi bx),some (Vi by_),none,some (.int .u64 ((Xm [bx,by_]:Nat):Int)),some (Vi ((Xm [bx,by_]:Nat):Int)),some (Vi ((Xm [bx,by_]:Nat):Int))] (Yc 6) [17,18,19,20,21,8] [] ?_ (e4 ?_ ?_ ?_ ?_ (e2 ?_ ?_ .nil)) ?_
 ·exact λ _ h=>Cz
 ·exact ZK s1 rfl rfl rfl λ _ _ _ _=>C.q rfl
 ·exact ZK s2 rfl rfl rfl λ _ _ _ _=>C.q rfl
 ·intro M J I H _ _ F;have x0:=H.x;simp [go_sem,(gS J 17 (H.d 0 rfl rfl)),(gS J 18 (H.d 1 rfl rfl))];have f1:Xz (I.alloc (.cells #[Vi bx,Vi by_] 3)) I.heap.size 3 [Vi bx,Vi by_]/\w2.heap.size<=I.heap.size:=⟨Xz.new _ _ _,H.k.size⟩;exact F _ _ (H.k.alloc _) trivial (λ _=>⟨_,H.f.s S,f1⟩)
 ·intro M J I H _ _ F;have x0:=H.x;obtain ⟨g1,ee2,f1⟩:=x0 (H.r 2 rfl);simp [go_sem,ee2];refine (Jf (some ⟨g1,0,none⟩) [bx,by_] 2 I Sz (by intro n hn;simp only [List.mem_cons,List.not_mem_nil,or_false] at hn;rcases hn with rfl|rfl<;>exact ⟨Oz,Oz⟩) (two_slI f1.1)).mono ?_;rintro x wx ⟨rfl,hb⟩;exact (F _ _ (H.k.call hb) rfl (C.b rfl hb H.x))
 ·intro M J I H _ _ F;simp [go_sem,(gS J 20 (H.d 3 rfl rfl))];exact (F _ _ H.k (congrArg (Value.int .i64) (wrp Oz)) (C.q rfl H.x))
 ·exact KW 4 rfl rfl rfl rfl λ _ _ _ _=>C.q rfl
 intro L a4 w5 W K P V hX;have x0:=hX;replace S:=K.Z S;replace O:=K.E O;obtain ⟨s1,s2,s3⟩:=K.G3 s1 s2 s3;have s8:=gS a4 8 (V 5 _ rfl);replace b3:=b3.k0 P;replace X:=Nat.le_trans X P.size;replace U:=P.below0 U;clear K P V W x0 C;obtain ⟨gg,egg⟩:∃ z:Int,z=((Xm [bx,by_]:Nat):Int):=⟨_,rfl⟩;rw [<- egg] at s8;have hgg:1<=gg/\gg<=100:=by rw [egg];exact hO.g
 have hta:(-by_).tdiv gg=Zw bx by_:=by rw [egg];rfl
 have htb:bx.tdiv gg=Zv bx by_:=by rw [egg];rfl
 have hA:=hO.a;have hBb:=hO.b;have tb1 : -100<=(-by_).tdiv gg/\(-by_).tdiv gg<=100:=by rw [hta];exact hA
 have tb2 : -100<=bx.tdiv gg/\bx.tdiv gg<=100:=by rw [htb];exact hBb
 refine Xk (wp_seq ?_);refine Xj [22,23,24,25,26,27,28,9,10] [some (Vi by_),some (Vi (-by_)),some (Vi gg),some (Vi ((-by_).tdiv gg)),some (Vi bx),some (Vi gg),some (Vi (bx.tdiv gg)),some (Vi ((-by_).tdiv gg)),some (Vi (bx.tdiv gg))] ([[],[0],[],[0,1,2],[],[],[4,5],[0,1,2,3],[0,1,2,3,4,5,6,7]]) [22,23,24,25,26,27,28,9,10] [] (λ _ _ _=>True) ?_ (e4 ?_ ?_ ?_ ?_ (e4 ?_ ?_ ?_ ?_ (en rfl ?_ .nil))) ?_
 ·exact λ _ _=>trivial
 ·exact Z1 s2 rfl rfl rfl
 ·exact λ M J I H _ _ F=>Ja rfl (ev (H.d 0 rfl rfl)) Oz (F _ _ H.k rfl trivial)
 ·exact Z1 s8 rfl rfl rfl
 ·exact λ M J I H _ _ F=>wp_quo rfl (ev (H.d 1 rfl rfl)) (ev (H.d 2 rfl rfl)) Oz Oz (F _ _ H.k rfl trivial)
 ·exact Z1 s1 rfl rfl rfl
 ·exact Z1 s8 rfl rfl rfl
 ·exact λ M J I H _ _ F=>wp_quo rfl (ev (H.d 4 rfl rfl)) (ev (H.d 5 rfl rfl)) Oz Oz (F _ _ H.k rfl trivial)
 ·exact KE 3 rfl rfl rfl rfl
 ·exact KE 6 rfl rfl rfl rfl
 intro L a6 w7 W K P V hX;replace S:=K.Z S;replace O:=K.E O;replace s3:=K.G s3;have s9:=gS a6 9 (V 7 _ rfl);have s10:=gS a6 10 (V 8 _ rfl);replace b3:=b3.k0 P;replace X:=Nat.le_trans X P.size;replace U:=P.below0 U;clear K P V W hX s1 s2 s8;rw [hta] at s9;rw [htb] at s10;obtain ⟨da,eda⟩:∃ z:Int,z=Zw bx by_:=⟨_,rfl⟩;rw [<- eda] at s9;obtain ⟨db,edb⟩:∃ z:Int,z=Zv bx by_:=⟨_,rfl⟩;rw [<- edb] at s10;rw [<- eda] at hA;rw [<- edb] at hBb;obtain ⟨⟨u1,u2⟩,⟨u3,u4⟩,⟨u5,u6⟩⟩:=sdB hp hne hA hBb;obtain ⟨⟨v1,v2⟩,⟨v3,v4⟩,⟨v5,v6⟩⟩:=sdB (a:=-da) (b:=-db) hp hne ⟨Oz,Oz⟩ ⟨Oz,Oz⟩;refine Xk (wp_seq ?_);have hX0:=Xf.x 11 10 12 w7 46 [V0,V0] (λ _ vs=>vs=[Vi ((ZO p da db).n),Vi ((ZO p da db).d)]) (λ _ _ h=>h);have hX1:=Xf.x 12 11 13 w7 46 [V0,V0] (λ _ vs=>vs=[Vi ((ZO p (-da) (-db)).n),Vi ((ZO p (-da) (-db)).d)]) (λ _ _ h=>h);have hX2:Xf [11,12] (λ L aa I=>(L 10=true->L 11=true->aa.tmps[11]?.getD undef≠aa.tmps[12]?.getD undef)):=λ L aa I w' kk vv hkk hb x2=>(λ h1 h2 e=>x2 h1 h2 ((Xg (hkk 11 Sz) vv).symm.trans (e.trans (Xg (hkk 12 Sz) vv))));have C:=hX0.a (hX1.a hX2);refine Xr C [29,30,31,32,33,34,35,36,37,38,11,12,0,0] [some (.agg #[Sv a.A p.length a.c]),some (Vi da),some (Vi db),some (Xv (ZO p da db)),some (.agg #[Sv a.A p.length a.c]),some (Vi da),some (Vi (-da)),some (Vi db),some (Vi (-db)),some (Xv (ZO p (-da) (-db))),none,none,none,none] ([[],[],[],[0,1,2],[],[],[5],[],[7],[0,1,2,3,4,5,6,7,8],[],[],[0,1,2,3,4,5,6,7,8,9,10,11],[0,1,2,3,4,5,6,7,8,9,10,11,12]]) [29,30,31,32,33,34,35,36,37,38,11,12] [] ?_ (e4 ?_ ?_ ?_ ?_ (e4 ?_ ?_ ?_ ?_ (e4 ?_ ?_ ?_ ?_ (e2 ?_ ?_ .nil)))) ?_
 ·exact λ _ h=>⟨Cz,Cz,Cz⟩
 ·intro M J I H _ _ F;simp [go_sem,H.f.g rfl s3,(b3.k0 H.k).cell];exact (F _ _ H.k rfl (C.q rfl H.x))
 ·exact ZK s9 rfl rfl rfl λ _ _ _ _=>C.q rfl
 ·exact ZK s10 rfl rfl rfl λ _ _ _ _=>C.q rfl
 ·intro M J I H _ _ F;simp [go_sem,(gS J 29 (H.d 0 rfl rfl)),(gS J 30 (H.d 1 rfl rfl)),(gS J 31 (H.d 2 rfl rfl))];have hBi:=H.k.below0 U;refine (iSupport_c p a da db I hp hne ⟨Oz,Oz⟩ ⟨Oz,Oz⟩ (hsp.below hBi)).mono ?_;rintro x wx ⟨rfl,hb⟩;exact (F _ _ (H.k.call hb) rfl (C.b rfl hb H.x))
 ·intro M J I H _ _ F;simp [go_sem,H.f.g rfl s3,(b3.k0 H.k).cell];exact (F _ _ H.k rfl (C.q rfl H.x))
 ·exact ZK s9 rfl rfl rfl λ _ _ _ _=>C.q rfl
 ·exact λ M J I H _ _ F=>Ja rfl (ev (H.d 5 rfl rfl)) Oz (F _ _ H.k rfl (C.q rfl H.x))
 ·exact ZK s10 rfl rfl rfl λ _ _ _ _=>C.q rfl
 ·exact λ M J I H _ _ F=>Ja rfl (ev (H.d 7 rfl rfl)) Oz (F _ _ H.k rfl (C.q rfl H.x))
 ·intro M J I H _ _ F;simp [go_sem,(gS J 33 (H.d 4 rfl rfl)),(gS J 35 (H.d 6 rfl rfl)),(gS J 37 (H.d 8 rfl rfl))];have hBi:=H.k.below0 U;refine (iSupport_c p a (-da) (-db) I hp hne ⟨Oz,Oz⟩ ⟨Oz,Oz⟩ (hsp.below hBi)).mono ?_;rintro x wx ⟨rfl,hb⟩;exact (F _ _ (H.k.call hb) rfl (C.b rfl hb H.x))
 ·intro M J I H _ _ F;obtain ⟨x0,x1,x2⟩:=H.x;simp [go_sem];exact F _ _ (H.k.alloc _) trivial ⟨(λ _=>by rw [show ZV M 10 12=false from H.t 12 rfl];exact Yg.new (s:=11) (H.f.lt (by rw [S];decide)) H.k.size [V0,V0]),(hX1.b rfl (Xc bR _) x1),(λ h1 h2 e=>by obtain ⟨g2,e2,_,l2⟩:=(x1 h2).lt;rw [Xw (H.f.lt (by rw [S];decide)),Xg Dz,e2] at e;exact ptr_ne Oz e)⟩
 ·intro M J I H _ _ F;obtain ⟨x0,x1,x2⟩:=H.x;simp [go_sem];exact F _ _ (H.k.alloc _) trivial ⟨(hX0.b rfl (Xc bR _) x0),(λ _=>by rw [show ZV M 11 13=false from H.t 13 rfl];exact Yg.new (s:=12) (H.f.lt (by rw [S];decide)) H.k.size [V0,V0]),(λ h1 h2 e=>by obtain ⟨g2,e2,_,l2⟩:=(x0 h1).lt;rw [Xw (H.f.lt (by rw [S];decide)),Xg Dz,e2] at e;exact ptr_ne Oz e)⟩
 ·intro M J I H _ _ F;obtain ⟨x0,x1,x2⟩:=H.x;obtain ⟨g,eg,hg,y,_⟩:=x0 (H.r 10 rfl);have Y:=y H.n;simp [go_sem,(gS J 32 (H.d 3 rfl rfl)),eg,Y.cell,Y.frz];exact F undef _ (H.k.store (.inl hg) [Vi ((ZO p da db).n),Vi ((ZO p da db).d)] 0) trivial ⟨(λ _=>Yg.set eg hg Y (us:=[Vi ((ZO p da db).n),Vi ((ZO p da db).d)]) rfl rfl),(λ h=>(x1 h).oth (λ e=>x2 (H.r 10 rfl) h (eg.trans e.symm)) [Vi ((ZO p da db).n),Vi ((ZO p da db).d)] 0 (λ _ h=>h)),(x2)⟩
 ·intro M J I H _ _ F;obtain ⟨x0,x1,x2⟩:=H.x;obtain ⟨g,eg,hg,y,_⟩:=x1 (H.r 11 rfl);have Y:=y H.n;simp [go_sem,(gS J 38 (H.d 9 rfl rfl)),eg,Y.cell,Y.frz];exact F undef _ (H.k.store (.inl hg) [Vi ((ZO p (-da) (-db)).n),Vi ((ZO p (-da) (-db)).d)] 0) trivial ⟨(λ h=>(x0 h).oth (λ e=>x2 h (H.r 11 rfl) (e.trans eg.symm)) [Vi ((ZO p (-da) (-db)).n),Vi ((ZO p (-da) (-db)).d)] 0 (λ _ h=>h)),(λ _=>Yg.set eg hg Y (us:=[Vi ((ZO p (-da) (-db)).n),Vi ((ZO p (-da) (-db)).d)]) rfl rfl),(x2)⟩
 intro L a8 w9 W K P V hX;obtain ⟨x0,x1,x2⟩:=hX;replace S:=K.Z S;replace O:=K.E O;obtain ⟨s9,s10⟩:=K.G2 s9 s10;obtain ⟨g10,s11,lg10,-,b10⟩:=x0 (W 10 Dz);obtain ⟨_,b10,rfl⟩:=b10 (W 12 Dz);have ug10:=b10.lt;obtain ⟨g11,s12,lg11,-,b11⟩:=x1 (W 11 Dz);obtain ⟨_,b11,rfl⟩:=b11 (W 13 Dz);have ug11:=b11.lt;have ng10g11:g10≠g11:=by
  intro e;subst e;exact x2 (W 10 Dz) (W 11 Dz) (s11.trans s12.symm)
 have zw7:=X;have zw9:=P.size;replace X:=Nat.le_refl w9.heap.size;replace U:=P.below0 U;clear K P V W x0 x1 x2 C hX0 hX1 hX2 s3 b3;refine Xk (wp_seq ?_);have C:=Xf.x 13 14 15 w9 136 [V0,V0,V0] (λ _ vs=>vs=[Vi (((Kx p da db).getD Xa).a),Vi (((Kx p da db).getD Xa).b),Vi (((Kx p da db).getD Xa).c)]) (λ _ _ h=>h);refine Xr C [40,41,42,43,44,45,46,47,48,49,50,39,51,52,13,0,14] [some (Vi da),some (.pointer (some ⟨g10,1,none⟩)),some (Vi ((ZO p da db).d)),some (Vi (da*((ZO p da db).d))),some (Vi db),some (.pointer (some ⟨g10,1,none⟩)),some (Vi ((ZO p da db).d)),some (Vi (db*((ZO p da db).d))),some (Pz g10),some (Vi ((ZO p da db).n)),some (.tuple #[X3 ((Kx p da db).getD Xa),Bv ((Kx p da db).isSome)]),some (.tuple #[X3 ((Kx p da db).getD Xa),Bv ((Kx p da db).isSome)]),some (X3 ((Kx p da db).getD Xa)),some (Bv ((Kx p da db).isSome)),none,none,some (Bv ((Kx p da db).isSome))] (Yc 17) [40,41,42,43,44,45,46,47,48,49,50,39,51,52,13,14] [] ?_ (e4 ?_ ?_ ?_ ?_ (e4 ?_ ?_ ?_ ?_ (e4 ?_ ?_ ?_ ?_ (e4 ?_ ?_ ?_ ?_ (en rfl ?_ .nil))))) ?_
 ·exact λ _ h=>Cz
 ·exact ZK s9 rfl rfl rfl λ _ _ _ _=>C.q rfl
 ·intro M J I H _ _ F;simp [go_sem,H.f.g rfl s11];exact (F _ _ H.k rfl (C.q rfl H.x))
 ·intro M J I H _ _ F;simp [go_sem,(gS J 41 (H.d 1 rfl rfl)),(b10.k0 H.k).cell];exact (F _ _ H.k rfl (C.q rfl H.x))
 ·exact λ M J I H _ _ F=>YV rfl (ev (H.d 0 rfl rfl)) (ev (H.d 2 rfl rfl)) Oz (F _ _ H.k rfl (C.q rfl H.x))
 ·exact ZK s10 rfl rfl rfl λ _ _ _ _=>C.q rfl
 ·intro M J I H _ _ F;simp [go_sem,H.f.g rfl s11];exact (F _ _ H.k rfl (C.q rfl H.x))
 ·intro M J I H _ _ F;simp [go_sem,(gS J 45 (H.d 5 rfl rfl)),(b10.k0 H.k).cell];exact (F _ _ H.k rfl (C.q rfl H.x))
 ·exact λ M J I H _ _ F=>YV rfl (ev (H.d 4 rfl rfl)) (ev (H.d 6 rfl rfl)) Oz (F _ _ H.k rfl (C.q rfl H.x))
 ·intro M J I H _ _ F;simp [go_sem,H.f.g rfl s11];exact (F _ _ H.k rfl (C.q rfl H.x))
 ·intro M J I H _ _ F;simp [go_sem,(gS J 48 (H.d 8 rfl rfl)),(b10.k0 H.k).cell];exact (F _ _ H.k rfl (C.q rfl H.x))
 ·intro M J I H _ _ F;simp [go_sem,(gS J 43 (H.d 3 rfl rfl)),(gS J 47 (H.d 7 rfl rfl)),(gS J 49 (H.d 9 rfl rfl))];refine (show Calls Tryz.prog 142 #[Vi (da*(ZO p da db).d),Vi (db*(ZO p da db).d),Vi (ZO p da db).n] I (λ e w'=>e=.returned (YY (Kx p da db))/\Below I.heap.size I w') from iHalfOf_c _ _ _ I ⟨Oz,Oz⟩ ⟨Oz,Oz⟩ ⟨Oz,Oz⟩).mono ?_;rintro x wx ⟨rfl,hb⟩;exact (F _ _ (H.k.call hb) (KP _) (C.b rfl hb H.x))
 ·exact oMDX 10 rfl rfl rfl rfl λ _ _ _ _=>C.q rfl
 ·exact Jt 11 rfl rfl rfl rfl rfl λ _ _ _ _=>C.q rfl
 ·exact Jt 11 rfl rfl rfl rfl rfl λ _ _ _ _=>C.q rfl
 ·intro M J I H _ _ F;have x0:=H.x;simp [go_sem];exact F _ _ (H.k.alloc _) trivial (λ _=>by rw [show ZV M 14 15=false from H.t 15 rfl];exact Yg.new (s:=13) (H.f.lt (by rw [S];decide)) H.k.size [V0,V0,V0])
 ·intro M J I H _ _ F;have x0:=H.x;obtain ⟨g,eg,hg,y,_⟩:=x0 (H.r 14 rfl);have Y:=y H.n;simp [go_sem,(gS J 51 (H.d 12 rfl rfl)),eg,Y.cell,Y.frz];exact F undef _ (H.k.store (.inl hg) [Vi (((Kx p da db).getD Xa).a),Vi (((Kx p da db).getD Xa).b),Vi (((Kx p da db).getD Xa).c)] 0) trivial (λ _=>Yg.set eg hg Y (us:=[Vi (((Kx p da db).getD Xa).a),Vi (((Kx p da db).getD Xa).b),Vi (((Kx p da db).getD Xa).c)]) rfl rfl)
 ·exact KW 13 rfl rfl rfl rfl λ _ _ _ _=>C.q rfl
 intro L a12 w13 W K P V hX;have x0:=hX;replace S:=K.Z S;replace O:=K.E O;obtain ⟨s9,s10,s12⟩:=K.G3 s9 s10 s12;have s14:=gS a12 14 (V 16 _ rfl);replace b11:=b11.k0 P;obtain ⟨g14,s13,lg14,-,b14⟩:=x0 (W 14 Dz);obtain ⟨_,b14,rfl⟩:=b14 (W 15 Dz);have ug14:=b14.lt;have zw13:=P.size;replace X:=Nat.le_refl w13.heap.size;replace U:=P.below0 U;clear K P V W x0 C s11 b10;refine Xk (wp_seq ?_);have C:=Xf.x 15 16 17 w13 136 [V0,V0,V0] (λ _ vs=>vs=[Vi (((Kx p (-da) (-db)).getD Xa).a),Vi (((Kx p (-da) (-db)).getD Xa).b),Vi (((Kx p (-da) (-db)).getD Xa).c)]) (λ _ _ h=>h);refine Xr C [54,55,56,57,58,59,60,61,62,63,64,65,66,53,67,68,15,0,16] [some (Vi da),some (Vi (-da)),some (.pointer (some ⟨g11,1,none⟩)),some (Vi ((ZO p (-da) (-db)).d)),some (Vi ((-da)*((ZO p (-da) (-db)).d))),some (Vi db),some (Vi (-db)),some (.pointer (some ⟨g11,1,none⟩)),some (Vi ((ZO p (-da) (-db)).d)),some (Vi ((-db)*((ZO p (-da) (-db)).d))),some (Pz g11),some (Vi ((ZO p (-da) (-db)).n)),some (.tuple #[X3 ((Kx p (-da) (-db)).getD Xa),Bv ((Kx p (-da) (-db)).isSome)]),some (.tuple #[X3 ((Kx p (-da) (-db)).getD Xa),Bv ((Kx p (-da) (-db)).isSome)]),some (X3 ((Kx p (-da) (-db)).getD Xa)),some (Bv ((Kx p (-da) (-db)).isSome)),none,none,some (Bv ((Kx p (-da) (-db)).isSome))] (Yc 19) [54,55,56,57,58,59,60,61,62,63,64,65,66,53,67,68,15,16] [] ?_ (e4 ?_ ?_ ?_ ?_ (e4 ?_ ?_ ?_ ?_ (e4 ?_ ?_ ?_ ?_ (e4 ?_ ?_ ?_ ?_ (e2 ?_ ?_ (en rfl ?_ .nil)))))) ?_
 ·exact λ _ h=>Cz
 ·exact ZK s9 rfl rfl rfl λ _ _ _ _=>C.q rfl
 ·exact λ M J I H _ _ F=>Ja rfl (ev (H.d 0 rfl rfl)) Oz (F _ _ H.k rfl (C.q rfl H.x))
 ·intro M J I H _ _ F;simp [go_sem,H.f.g rfl s12];exact (F _ _ H.k rfl (C.q rfl H.x))
 ·intro M J I H _ _ F;simp [go_sem,(gS J 56 (H.d 2 rfl rfl)),(b11.k0 H.k).cell];exact (F _ _ H.k rfl (C.q rfl H.x))
 ·exact λ M J I H _ _ F=>YV rfl (ev (H.d 1 rfl rfl)) (ev (H.d 3 rfl rfl)) Oz (F _ _ H.k rfl (C.q rfl H.x))
 ·exact ZK s10 rfl rfl rfl λ _ _ _ _=>C.q rfl
 ·exact λ M J I H _ _ F=>Ja rfl (ev (H.d 5 rfl rfl)) Oz (F _ _ H.k rfl (C.q rfl H.x))
 ·intro M J I H _ _ F;simp [go_sem,H.f.g rfl s12];exact (F _ _ H.k rfl (C.q rfl H.x))
 ·intro M J I H _ _ F;simp [go_sem,(gS J 61 (H.d 7 rfl rfl)),(b11.k0 H.k).cell];exact (F _ _ H.k rfl (C.q rfl H.x))
 ·exact λ M J I H _ _ F=>YV rfl (ev (H.d 6 rfl rfl)) (ev (H.d 8 rfl rfl)) Oz (F _ _ H.k rfl (C.q rfl H.x))
 ·intro M J I H _ _ F;simp [go_sem,H.f.g rfl s12];exact (F _ _ H.k rfl (C.q rfl H.x))
 ·intro M J I H _ _ F;simp [go_sem,(gS J 64 (H.d 10 rfl rfl)),(b11.k0 H.k).cell];exact (F _ _ H.k rfl (C.q rfl H.x))
 ·intro M J I H _ _ F;simp [go_sem,(gS J 58 (H.d 4 rfl rfl)),(gS J 63 (H.d 9 rfl rfl)),(gS J 65 (H.d 11 rfl rfl))];refine (show Calls Tryz.prog 142 #[Vi ((-da)*(ZO p (-da) (-db)).d),Vi ((-db)*(ZO p (-da) (-db)).d),Vi (ZO p (-da) (-db)).n] I (λ e w'=>e=.returned (YY (Kx p (-da) (-db)))/\Below I.heap.size I w') from iHalfOf_c _ _ _ I ⟨Oz,Oz⟩ ⟨Oz,Oz⟩ ⟨Oz,Oz⟩).mono ?_;rintro x wx ⟨rfl,hb⟩;exact (F _ _ (H.k.call hb) (KP _) (C.b rfl hb H.x))
 ·exact oMDX 12 rfl rfl rfl rfl λ _ _ _ _=>C.q rfl
 ·exact Jt 13 rfl rfl rfl rfl rfl λ _ _ _ _=>C.q rfl
 ·exact Jt 13 rfl rfl rfl rfl rfl λ _ _ _ _=>C.q rfl
 ·intro M J I H _ _ F;have x0:=H.x;simp [go_sem];exact F _ _ (H.k.alloc _) trivial (λ _=>by rw [show ZV M 16 17=false from H.t 17 rfl];exact Yg.new (s:=15) (H.f.lt (by rw [S];decide)) H.k.size [V0,V0,V0])
 ·intro M J I H _ _ F;have x0:=H.x;obtain ⟨g,eg,hg,y,_⟩:=x0 (H.r 16 rfl);have Y:=y H.n;simp [go_sem,(gS J 67 (H.d 14 rfl rfl)),eg,Y.cell,Y.frz];exact F undef _ (H.k.store (.inl hg) [Vi (((Kx p (-da) (-db)).getD Xa).a),Vi (((Kx p (-da) (-db)).getD Xa).b),Vi (((Kx p (-da) (-db)).getD Xa).c)] 0) trivial (λ _=>Yg.set eg hg Y (us:=[Vi (((Kx p (-da) (-db)).getD Xa).a),Vi (((Kx p (-da) (-db)).getD Xa).b),Vi (((Kx p (-da) (-db)).getD Xa).c)]) rfl rfl)
 ·exact KW 15 rfl rfl rfl rfl λ _ _ _ _=>C.q rfl
 intro L a15 w16 W K P V hX;have x0:=hX;replace S:=K.Z S;replace O:=K.E O;obtain ⟨s14,s13⟩:=K.G2 s14 s13;have s16:=gS a15 16 (V 18 _ rfl);replace b14:=b14.k0 P;obtain ⟨g17,s15,lg17,-,b17⟩:=x0 (W 16 Dz);obtain ⟨_,b17,rfl⟩:=b17 (W 17 Dz);have ug17:=b17.lt;have zw16:=P.size;replace X:=Nat.le_refl w16.heap.size;replace U:=P.below0 U;clear K P V W x0 C s9 s10 s12 b11;refine Xk (wp_seq ?_);have hX0:=Xf.e 71 2 (λ I v=>∃ g2,v=Sv (some ⟨g2,0,none⟩) 2 2/\Xz I g2 136 [Vi (((Kx p da db).getD Xa).a),Vi (((Kx p da db).getD Xa).b),Vi (((Kx p da db).getD Xa).c),Vi (((Kx p (-da) (-db)).getD Xa).a),Vi (((Kx p (-da) (-db)).getD Xa).b),Vi (((Kx p (-da) (-db)).getD Xa).c)]/\w16.heap.size<=g2) (λ hb _ h=>by obtain ⟨g2',e,f2'⟩:=h;exact ⟨g2',e,⟨f2'.1.bel hb,f2'.2⟩⟩);have hX1:=Xf.e 6 7 (λ I v=>∃ g2,v=Sv (some ⟨g2,0,none⟩) 2 2/\Xz I g2 136 [Vi (((Kx p da db).getD Xa).a),Vi (((Kx p da db).getD Xa).b),Vi (((Kx p da db).getD Xa).c),Vi (((Kx p (-da) (-db)).getD Xa).a),Vi (((Kx p (-da) (-db)).getD Xa).b),Vi (((Kx p (-da) (-db)).getD Xa).c)]/\w16.heap.size<=g2) (λ hb _ h=>by obtain ⟨g2',e,f2'⟩:=h;exact ⟨g2',e,⟨f2'.1.bel hb,f2'.2⟩⟩);have C:=hX0.a hX1;refine Xr C [69,70,71,72,73,74,75,6,7] [some (X3 ((Kx p da db).getD Xa)),some (X3 ((Kx p (-da) (-db)).getD Xa)),none,some (Bv ((Kx p da db).isSome)),some (Bv ((Kx p da db).isSome)),some ((bif (Kx p da db).isSome then (Bv ((Kx p (-da) (-db)).isSome):Value) else undef)),some (Bv ((Kx p da db).isSome&&(Kx p (-da) (-db)).isSome)),none,some (Bv ((Kx p da db).isSome&&(Kx p (-da) (-db)).isSome))] (Yc 9) [69,70,71,72,73,74,75,6,7] [] ?_ (e4 ?_ ?_ ?_ ?_ (en rfl ?_ (eg ?_ (e2 ?_ ?_ (en rfl ?_ .nil))))) ?_
 ·exact λ _ h=>⟨Cz,Cz⟩
 ·intro M J I H _ _ F;simp [go_sem,H.f.g rfl s13,(b14.k0 H.k).cell];exact (F _ _ H.k rfl (C.q rfl H.x))
 ·intro M J I H _ _ F;simp [go_sem,H.f.g rfl s15,(b17.k0 H.k).cell];exact (F _ _ H.k rfl (C.q rfl H.x))
 ·intro M J I H _ _ F;obtain ⟨x0,x1⟩:=H.x;simp [go_sem,(gS J 69 (H.d 0 rfl rfl)),(gS J 70 (H.d 1 rfl rfl))];have f2:Xz (I.alloc (.cells #[Vi (((Kx p da db).getD Xa).a),Vi (((Kx p da db).getD Xa).b),Vi (((Kx p da db).getD Xa).c),Vi (((Kx p (-da) (-db)).getD Xa).a),Vi (((Kx p (-da) (-db)).getD Xa).b),Vi (((Kx p (-da) (-db)).getD Xa).c)] 136)) I.heap.size 136 [Vi (((Kx p da db).getD Xa).a),Vi (((Kx p da db).getD Xa).b),Vi (((Kx p da db).getD Xa).c),Vi (((Kx p (-da) (-db)).getD Xa).a),Vi (((Kx p (-da) (-db)).getD Xa).b),Vi (((Kx p (-da) (-db)).getD Xa).c)]/\w16.heap.size<=I.heap.size:=⟨Xz.new _ _ _,H.k.size⟩;exact F _ _ (H.k.alloc _) trivial ⟨(λ _=>⟨_,H.f.s S,f2⟩),(hX1.b rfl (Xc bR _) x1)⟩
 ·exact ZK s14 rfl rfl rfl λ _ _ _ _=>C.q rfl
 ·exact oMDX 3 rfl rfl rfl rfl λ _ _ _ _=>C.q rfl
 ·intro M J I H _ _ F;refine wgt rfl rfl rfl (H.d 4 rfl rfl) (λ qg=>F _ _ H.k (Xq qg).symm (C.q rfl H.x)) λ qg=>?_;exact XR rfl (ev (H.f.g rfl s16)) (F _ _ H.k (Xu qg).symm (C.q rfl H.x))
 ·exact λ M J I H _ _ F=>Zp rfl (ev (H.d 4 rfl rfl)) (λ h=>(ev ((H.d 5 rfl rfl).trans (Xu h))).trans (Jl h)) (λ h=>Jm h) (F _ _ H.k rfl (C.q rfl H.x))
 ·intro M J I H _ _ F;obtain ⟨x0,x1⟩:=H.x;obtain ⟨g2,ee2,f2⟩:=x0 (H.r 2 rfl);exact Y5 rfl (ev ee2) (F _ _ H.k trivial ⟨(hX0.q rfl x0),(λ _=>⟨g2,H.f.s S,f2⟩)⟩)
 ·exact KW 6 rfl rfl rfl rfl λ _ _ _ _=>C.q rfl
 intro L a18 w19 W K P V hX;obtain ⟨x0,x1⟩:=hX;replace S:=K.Z S;replace O:=K.E O;have s7:=gS a18 7 (V 8 _ rfl);obtain ⟨g2,s6,N2⟩:=x1 (W 7 Dz);have zw19:=P.size;replace X:=Nat.le_refl w19.heap.size;replace U:=P.below0 U;clear K P V W x0 x1 C hX0 hX1 s14 s13 s16 s15 b14 b17;refine Xk (wp_ret ?_);refine bodyPost_ret (v:=.tuple #[Sv (some ⟨g2,0,none⟩) 2 2,Bv ((Kx p da db).isSome&&(Kx p (-da) (-db)).isSome)]) (by simp [results,Tryz.results143,go_sem,s6,s7]) O ?_;refine ⟨some ⟨g2,0,none⟩,2,by rw [<- eda,<- edb];rfl, ?_,U⟩;rw [<- eda,<- edb];exact XI.lit (enc:=Xd) (xs:=sdL p da db) Xx N2.1 (by have:=N2.2;omega) (by simp [sdL])
def XG (bx by_ lo hi:Int) (h:Half):Option Half:=Y1 h.a h.b (h.c+max (-lo*(h.a*bx+h.b*by_)) (-hi*(h.a*bx+h.b*by_)))
theorem growH_ok {bx by_ lo hi:Int} {h g:Half} (e:XG bx by_ lo hi h=some g):Xt g=true:=halfOf_ok e
structure GrowB (bx by_ lo hi:Int) (h:Half):Prop where
 x : -5000000<=h.a*bx/\h.a*bx<=5000000
 y : -5000000<=h.b*by_/\h.b*by_<=5000000
 p : -10000000000<=-lo*(h.a*bx+h.b*by_)/\-lo*(h.a*bx+h.b*by_)<=10000000000
 q : -10000000000<=-hi*(h.a*bx+h.b*by_)/\-hi*(h.a*bx+h.b*by_)<=10000000000
structure DrvIn (bx by_ lo hi:Int):Prop where
 x : -100<=bx/\bx<=100
 y : -100<=by_/\by_<=100
 lw : -1000<=lo/\lo<=1000
 hw:lo<=hi/\hi<=1000
theorem growB {bx by_ lo hi:Int} {h:Half} (D:DrvIn bx by_ lo hi) (hh:Xt h=true):GrowB bx by_ lo hi h:=by
 obtain ⟨a1,a2,_⟩:=Y0.1 hh;have l:=D.lw;have u:=D.hw;have x:=Jd (a:=h.a) (b:=bx) (A:=50000) (B:=100) a1 D.x;have y:=Jd (a:=h.b) (b:=by_) (A:=50000) (B:=100) a2 D.y;have p:=Jd (a:=-lo) (b:=h.a*bx+h.b*by_) (A:=1000) (B:=10000000) ⟨Oz,Oz⟩ ⟨Oz,Oz⟩;have q:=Jd (a:=-hi) (b:=h.a*bx+h.b*by_) (A:=1000) (B:=10000000) ⟨Oz,Oz⟩ ⟨Oz,Oz⟩;exact ⟨⟨Oz,Oz⟩,⟨Oz,Oz⟩,⟨Oz,Oz⟩,⟨Oz,Oz⟩⟩
def KV (p:List Half) (bx by_:Int):Bool:=decide (p.length=0)||(bx == 0&&by_ == 0)
def sdO (p:List Half) (a b:Int):Bool:=(Kx p a b).isSome&&(Kx p (-a) (-b)).isSome
def grwL (bx by_ lo hi:Int) (p:List Half):List Half:=sdL p (Zw bx by_) (Zv bx by_)++XW (XG bx by_ lo hi) p
def KK (bx by_ lo hi:Int) (p:List Half):Bool:=KV p bx by_||(sdO p (Zw bx by_) (Zv bx by_)&&YZ (XG bx by_ lo hi) p&&YA (Xs (grwL bx by_ lo hi p)))
def grwR (bx by_ lo hi:Int) (p:List Half):List Half:=if KV p bx by_=true then p else if (sdO p (Zw bx by_) (Zv bx by_)&&YZ (XG bx by_ lo hi) p)=true then XZ (Xs (grwL bx by_ lo hi p)) else []
theorem grow_triv {bx by_ lo hi:Int} {p:List Half} (h:KV p bx by_=true):KK bx by_ lo hi p=true/\grwR bx by_ lo hi p=p:=by
 unfold KK grwR;rw [h,if_pos rfl];exact ⟨rfl,rfl⟩
theorem grow_side {bx by_ lo hi:Int} {p:List Half} (h:KV p bx by_=false) (hs:sdO p (Zw bx by_) (Zv bx by_)=false):KK bx by_ lo hi p=false/\grwR bx by_ lo hi p=[]:=by
 unfold KK grwR;rw [h,hs,if_neg Sz,if_neg Sz];exact ⟨rfl,rfl⟩
theorem grow_stop {bx by_ lo hi:Int} {p:List Half} (h:KV p bx by_=false) (hs:YZ (XG bx by_ lo hi) p=false):KK bx by_ lo hi p=false/\grwR bx by_ lo hi p=[]:=by
 unfold KK grwR;rw [h,hs,if_neg Sz,if_neg Sz];exact ⟨Sz,rfl⟩
theorem grow_all {bx by_ lo hi:Int} {p:List Half} (h:KV p bx by_=false) (hs:sdO p (Zw bx by_) (Zv bx by_)=true) (hm:YZ (XG bx by_ lo hi) p=true):KK bx by_ lo hi p=YA (Xs (grwL bx by_ lo hi p))/\grwR bx by_ lo hi p=XZ (Xs (grwL bx by_ lo hi p)):=by
 unfold KK grwR;rw [h,hs,hm,if_neg Sz,if_pos Sz];exact ⟨Sz,rfl⟩
theorem movAll_stop {f:Half->Option Half} {p:List Half} {k:Nat} (h:k<p.length) (hs:(f (p.getD k Xa)).isSome=false):YZ f p=false:=by
 have e:p.getD k Xa=p[k]:=by rw [List.getD_eq_getElem?_getD,List.getElem?_eq_getElem h,Option.getD_some]
 rw [e] at hs;unfold YZ;rw [List.all_eq_false];exact ⟨p[k],List.getElem_mem h,by rw [hs];decide⟩
theorem grow_ne {p:List Half} {bx by_:Int} (h:KV p bx by_=false):p≠[]/\¬ (bx=0/\by_=0):=by
 unfold KV at h;refine ⟨λ e=>?_,λ e=>?_⟩
 ·rw [e] at h;simp at h
 ·rw [e.1,e.2] at h;simp at h
theorem sdL_ok {p:List Half} {a b:Int} (h:sdO p a b=true):∀ g∈sdL p a b,Xt g=true:=by
 unfold sdO at h;obtain ⟨x,hx⟩:=Option.isSome_iff_exists.1 (Jr h);obtain ⟨y,hy⟩:=Option.isSome_iff_exists.1 (and_t2 h);intro g hg;unfold sdL at hg;rw [hx,hy] at hg;simp only [Option.getD_some,List.mem_cons,List.not_mem_nil,or_false] at hg;rcases hg with rfl|rfl
 ·exact halfOf_ok hx
 ·exact halfOf_ok hy
theorem app_next {s:List Half} {f:Half->Option Half} {p:List Half} {k:Nat} (h:k<p.length) (hs:(f (p.getD k Xa)).isSome=true):s++XW f (p.take (k+1))=s++XW f (p.take k)++[(f (p.getD k Xa)).getD Xa]:=by
 rw [movL_next h hs,List.append_assoc]
theorem iGrow_c (p:List Half) (bx by_ lo hi:Int) (a:Zi) (w:World) (hp:Xb p=true) (D:DrvIn bx by_ lo hi) (hsp:Sl 3 Xd w a.A p) :
 Calls Tryz.prog 98 #[.agg #[Sv a.A p.length a.c],Vi bx,Vi by_,Vi lo,Vi hi] w λ x w'=>∃ v,x=.returned (.tuple #[.agg #[v],Bv (KK bx by_ lo hi p)])/\XI 136 3 Xd w' w.heap.size v (grwR bx by_ lo hi p)/\Below w.heap.size w w':=by
 have hlp:=Zt hp;have hDlo:=D.lw;have hDhi:=D.hw;obtain ⟨i0h,hi0h,hz0h,hz1h,hz2h⟩:=info_parts (show (Tryz.prog.info? 136).map (λ i=>(i.zero,i.size,i.bytes))=some (some (.agg #[V0,V0,V0]),3,24) by kernel_rfl);refine YN Tryz.func98 rfl (n:=89) Tryz.ntmps98 Sz ?_;intro a0 S O ha;have s0:a0.tmps[0]?.getD undef=.agg #[Sv a.A p.length a.c]:=ha 0 _ rfl;have s1:a0.tmps[1]?.getD undef=Vi bx:=ha 1 _ rfl;have s2:a0.tmps[2]?.getD undef=Vi by_:=ha 2 _ rfl;have s3:a0.tmps[3]?.getD undef=Vi lo:=ha 3 _ rfl;have s4:a0.tmps[4]?.getD undef=Vi hi:=ha 4 _ rfl;clear ha;have U:=Below.refl w.heap.size w;have X:=Nat.le_refl w.heap.size;refine wp_seq ?_;refine Yt [5,10,11] [Pz w.heap.size,Pz (w.heap.size+1),Bf] [some (.cells [Sv a.A p.length a.c].toArray 26),some (.cells [Nz].toArray 26),none] [0,1,2] [5,10,11] [0,1,2] (by kernel_rfl) (by rw [S];decide) (ec ?_ (ec ?_ (ec ?_ .nil))) ?_
 ·intro a w' K hs N Q F;simp [go_sem,K.g rfl s0];rw [hs];exact F
 ·intro a w' K hs N Q F;simp [go_sem];rw [hs];exact F
 ·intro a w' K hs N Q F;simp [go_sem];exact F
 intro a1 w2 K V hb hO;replace S:=K.size.trans S;replace O:=K.defers.trans O;replace s1:=K.g rfl s1;replace s2:=K.g rfl s2;replace s3:=K.g rfl s3;replace s4:=K.g rfl s4;have s5:a1.tmps[5]?.getD undef=Pz w.heap.size:=V 0 Dz;have s10:a1.tmps[10]?.getD undef=Pz (w.heap.size+1):=V 1 Dz;have b3:Xz w2 w.heap.size 26 [Sv a.A p.length a.c]:=hO 0 _ rfl;have b4:Xz w2 (w.heap.size+1) 26 [Nz]:=hO 1 _ rfl;have hG:=b4.lt;replace U:=Xe U hb;have zw2:=Nat.le_trans X hb.size;replace X:=Nat.le_refl w2.heap.size;clear K V hb hO s0;refine Xk (wp_seq (wp_seq ?_));rcases Bool.eq_false_or_eq_true (decide (p.length=0)) with q5|q5
 ·refine Xj [19,20,21,22,23,24,25,26,27,28] [some (.agg #[Sv a.A p.length a.c]),some Bt,some Bt,some (undef),some (undef),some (undef),some (undef),some (undef),some (undef),some Bt] (Yc 10) [19,20,21,22,23,24,25,26,27,28] [] (λ _ _ _=>True) ?_ (e2 ?_ ?_ (en rfl ?_ (eg ?_ (eg ?_ (eg ?_ (eg ?_ (eg ?_ (eg ?_ (en rfl ?_ .nil))))))))) ?_
  ·exact λ _ _=>trivial
  ·intro M J I H _ _ F;simp [go_sem,H.f.g rfl s5,(b3.k0 H.k).cell];exact (F _ _ H.k rfl trivial)
  ·intro M J I H _ _ F;simp [go_sem,(gS J 19 (H.d 0 rfl rfl))];refine (KJ p a I).mono ?_;rintro x wx ⟨rfl,hb⟩;exact (F _ _ (H.k.call hb) (by show _=_;simp only [q5]) trivial)
  ·exact Ks 1 rfl rfl rfl rfl
  ·intro M J I H _ _ F;refine wnt_n rfl rfl rfl (H.d 2 rfl rfl) Dz ?_;exact F _ _ H.k rfl trivial
  ·intro M J I H _ _ F;refine wnt_n rfl rfl rfl (H.d 2 rfl rfl) Dz ?_;exact F _ _ H.k rfl trivial
  ·intro M J I H _ _ F;refine wnt_n rfl rfl rfl (H.d 2 rfl rfl) Dz ?_;exact F _ _ H.k rfl trivial
  ·intro M J I H _ _ F;refine wnt_u rfl rfl rfl (H.d 5 rfl rfl) ?_;exact F _ _ H.k rfl trivial
  ·intro M J I H _ _ F;refine wnt_u rfl rfl rfl (H.d 5 rfl rfl) ?_;exact F _ _ H.k rfl trivial
  ·intro M J I H _ _ F;refine wnt_n rfl rfl rfl (H.d 2 rfl rfl) Dz ?_;exact F _ _ H.k rfl trivial
  ·exact λ M J I H _ _ F=>Zp rfl (ev (H.d 2 rfl rfl)) (λ _=>rfl) Cz (F _ _ H.k rfl trivial)
  intro L a6 w7 W K P V hX;replace S:=K.Z S;replace O:=K.E O;obtain ⟨s1,s2,s3,s4,s5,s10⟩:=K.G6 s1 s2 s3 s4 s5 s10;have s28:=gS a6 28 (V 9 _ rfl);replace b3:=b3.k0 P;replace b4:=b4.k0 P;replace X:=Nat.le_trans X P.size;replace U:=P.below0 U;clear K P V W hX;refine Xk ?_;refine wp_cond_true (ev s28) ?_;refine wp_seq ?_;have hX0:=Xf.e 30 1 (λ I v=>∃ m1,v=.agg #[Sv m1.A p.length m1.c]/\XK I w7.heap.size p m1) (λ hb _ h=>by obtain ⟨m1',e,f1'⟩:=h;exact ⟨m1',e,f1'.below hb XE⟩);have hX1:Xf [] (λ L aa I=>X6 I (w.heap.size+1) 26 [Nz] (L 2) (λ I vs=>∃ m1,vs=[Sv m1.A p.length m1.c]/\XK I w7.heap.size p m1)):=λ L aa I w' kk vv hkk hb x1=>(x1.bel hb (λ _ ⟨m1',e,f1'⟩=>⟨m1',e,f1'.below hb XE⟩));have C:=hX0.a hX1;refine Xr C [29,30,0,11] [some (.agg #[Sv a.A p.length a.c]),none,none,some Bt] (Yc 4) [29,30,11] [(w.heap.size+1)] ?_ (e4 ?_ ?_ ?_ ?_ .nil) ?_
  ·exact λ _ h=>⟨Cz,(⟨λ _=>b4.kp h Sz,Cz⟩)⟩
  ·intro M J I H _ _ F;simp [go_sem,H.f.g rfl s5,(b3.kp H.k (by simp<;>omega)).cell];exact (F _ _ H.k rfl (C.q rfl H.x))
  ·intro M J I H _ _ F;obtain ⟨x0,x1⟩:=H.x;simp [go_sem,(gS J 29 (H.d 0 rfl rfl))];have hBi:=H.k.below U U.size (by simp<;>omega);refine (KX p a I (by have:=Zt hp;omega) (hsp.below hBi)).mono ?_;rintro x wx ⟨m1,rfl,f0,hb⟩;have f1:=f0.mono H.k.size;exact (F _ _ (H.k.call hb) trivial ⟨(λ _=>⟨m1,H.f.s S,f1⟩),(x1.bel hb (λ _ ⟨m1',e,f1'⟩=>⟨m1',e,f1'.below hb XE⟩))⟩)
  ·intro M J I H _ _ F;obtain ⟨x0,x1⟩:=H.x;obtain ⟨m1,ee1,f1⟩:=x0 (H.r 1 rfl);have Y:=x1.1 H.n;simp [go_sem,ee1,H.f.g rfl s10,Y.cell,Y.frz];have f1:=f1.otherT Y Dz [Sv m1.A p.length m1.c] 0;exact F undef _ (H.k.store (.inr Sz) [Sv m1.A p.length m1.c] 0) trivial ⟨(λ h=>by obtain ⟨m1',e,f1'⟩:=x0 h;exact ⟨m1',e,f1'.otherT Y Dz [Sv m1.A p.length m1.c] 0⟩),(X6.set Y (us:=[Sv m1.A p.length m1.c]) rfl ⟨m1,rfl,f1⟩)⟩
  ·exact KQ rfl rfl λ _ _ _ _=>C.q rfl
  intro L a8 w9 W K P V hX;obtain ⟨x0,x1⟩:=hX;replace S:=K.Z S;replace O:=K.E O;replace s10:=K.G s10;have s11:=gS a8 11 (V 3 _ rfl);clear b4;obtain ⟨_,b4,m1,rfl,N1⟩:=x1.2 (W 2 Dz);have zw7:=X;have zw9:=P.size;replace X:=Nat.le_refl w9.heap.size;replace U:=P.below U U.size (by simp<;>omega);clear K P V W x0 x1 C hX0 hX1 s1 s2 s3 s4 s5 s28 b3;refine Xk (wp_ret (Y6 ?_));refine bodyPost_ret (v:=.tuple #[.agg #[Sv m1.A p.length m1.c],Bt]) (by simp [results,Tryz.results98,go_sem,s10,b4.cell,s11]) O ?_;have hT:KV p bx by_=true:=by unfold KV;rw [q5];rfl
  have h0:=grow_triv (lo:=lo) (hi:=hi) hT;exact ⟨_,by rw [h0.1],by rw [h0.2];exact N1.halves.mono Oz,U⟩
 ·refine Xj [19,20,21,22,23,24,25,26,27,28] [some (.agg #[Sv a.A p.length a.c]),some Bf,some Bf,some (Vi bx),some (Bv (bx == 0)),some (Bv (bx == 0)),some ((bif bx == 0 then (Vi by_:Value) else undef)),some ((bif bx == 0 then (Bv (by_ == 0):Value) else undef)),some (Bv (bx == 0&&by_ == 0)),some (Bv (bx == 0&&by_ == 0))] (Yc 10) [19,20,21,22,23,24,25,26,27,28] [] (λ _ _ _=>True) ?_ (e2 ?_ ?_ (en rfl ?_ (eg ?_ (eg ?_ (eg ?_ (eg ?_ (eg ?_ (eg ?_ (en rfl ?_ .nil))))))))) ?_
  ·exact λ _ _=>trivial
  ·intro M J I H _ _ F;simp [go_sem,H.f.g rfl s5,(b3.k0 H.k).cell];exact (F _ _ H.k rfl trivial)
  ·intro M J I H _ _ F;simp [go_sem,(gS J 19 (H.d 0 rfl rfl))];refine (KJ p a I).mono ?_;rintro x wx ⟨rfl,hb⟩;exact (F _ _ (H.k.call hb) (by show _=_;simp only [q5]) trivial)
  ·exact Ks 1 rfl rfl rfl rfl
  ·intro M J I H _ _ F;refine Kc rfl rfl rfl (H.d 2 rfl rfl) ?_;exact XR rfl (ev (H.f.g rfl s1)) (F _ _ H.k rfl trivial)
  ·intro M J I H _ _ F;refine Kc rfl rfl rfl (H.d 2 rfl rfl) ?_;exact Yl rfl (ev (H.d 3 rfl rfl)) rfl rfl rfl (F _ _ H.k rfl trivial)
  ·intro M J I H _ _ F;refine Kc rfl rfl rfl (H.d 2 rfl rfl) ?_;exact XR rfl (ev (H.d 4 rfl rfl)) (F _ _ H.k rfl trivial)
  ·intro M J I H _ _ F;refine wgt rfl rfl rfl (H.d 5 rfl rfl) (λ qg=>F _ _ H.k (Xq qg).symm trivial) λ qg=>?_;exact XR rfl (ev (H.f.g rfl s2)) (F _ _ H.k (Xu qg).symm trivial)
  ·intro M J I H _ _ F;refine wgt rfl rfl rfl (H.d 5 rfl rfl) (λ qg=>F _ _ H.k (Xq qg).symm trivial) λ qg=>?_;exact Yl rfl (ev ((H.d 6 rfl rfl).trans (Xu qg))) rfl rfl rfl (F _ _ H.k (Xu qg).symm trivial)
  ·intro M J I H _ _ F;refine Kc rfl rfl rfl (H.d 2 rfl rfl) ?_;exact Zp rfl (ev (H.d 5 rfl rfl)) (λ h=>(ev ((H.d 7 rfl rfl).trans (Xu h))).trans (Jl h)) (λ h=>Jm h) (F _ _ H.k rfl trivial)
  ·exact λ M J I H _ _ F=>Zp rfl (ev (H.d 2 rfl rfl)) Cz (λ _=>(ev (H.d 8 rfl rfl))) (F _ _ H.k rfl trivial)
  intro L a10 w11 W K P V hX;replace S:=K.Z S;replace O:=K.E O;obtain ⟨s1,s2,s3,s4,s5,s10⟩:=K.G6 s1 s2 s3 s4 s5 s10;have s28:=gS a10 28 (V 9 _ rfl);replace b3:=b3.k0 P;replace b4:=b4.k0 P;replace X:=Nat.le_trans X P.size;replace U:=P.below0 U;clear K P V W hX;refine Xk ?_;rcases Bool.eq_false_or_eq_true (bx == 0&&by_ == 0) with q12|q12
  ·refine wp_cond_true (ev (vb s28 q12)) ?_;refine wp_seq ?_;have hX0:=Xf.e 30 1 (λ I v=>∃ m2,v=.agg #[Sv m2.A p.length m2.c]/\XK I w11.heap.size p m2) (λ hb _ h=>by obtain ⟨m2',e,f2'⟩:=h;exact ⟨m2',e,f2'.below hb XE⟩);have hX1:Xf [] (λ L aa I=>X6 I (w.heap.size+1) 26 [Nz] (L 2) (λ I vs=>∃ m2,vs=[Sv m2.A p.length m2.c]/\XK I w11.heap.size p m2)):=λ L aa I w' kk vv hkk hb x1=>(x1.bel hb (λ _ ⟨m2',e,f2'⟩=>⟨m2',e,f2'.below hb XE⟩));have C:=hX0.a hX1;refine Xr C [29,30,0,11] [some (.agg #[Sv a.A p.length a.c]),none,none,some Bt] (Yc 4) [29,30,11] [(w.heap.size+1)] ?_ (e4 ?_ ?_ ?_ ?_ .nil) ?_
   ·exact λ _ h=>⟨Cz,(⟨λ _=>b4.kp h Sz,Cz⟩)⟩
   ·intro M J I H _ _ F;simp [go_sem,H.f.g rfl s5,(b3.kp H.k (by simp<;>omega)).cell];exact (F _ _ H.k rfl (C.q rfl H.x))
   ·intro M J I H _ _ F;obtain ⟨x0,x1⟩:=H.x;simp [go_sem,(gS J 29 (H.d 0 rfl rfl))];have hBi:=H.k.below U U.size (by simp<;>omega);refine (KX p a I (by have:=Zt hp;omega) (hsp.below hBi)).mono ?_;rintro x wx ⟨m2,rfl,f0,hb⟩;have f2:=f0.mono H.k.size;exact (F _ _ (H.k.call hb) trivial ⟨(λ _=>⟨m2,H.f.s S,f2⟩),(x1.bel hb (λ _ ⟨m2',e,f2'⟩=>⟨m2',e,f2'.below hb XE⟩))⟩)
   ·intro M J I H _ _ F;obtain ⟨x0,x1⟩:=H.x;obtain ⟨m2,ee1,f2⟩:=x0 (H.r 1 rfl);have Y:=x1.1 H.n;simp [go_sem,ee1,H.f.g rfl s10,Y.cell,Y.frz];have f2:=f2.otherT Y Dz [Sv m2.A p.length m2.c] 0;exact F undef _ (H.k.store (.inr Sz) [Sv m2.A p.length m2.c] 0) trivial ⟨(λ h=>by obtain ⟨m2',e,f2'⟩:=x0 h;exact ⟨m2',e,f2'.otherT Y Dz [Sv m2.A p.length m2.c] 0⟩),(X6.set Y (us:=[Sv m2.A p.length m2.c]) rfl ⟨m2,rfl,f2⟩)⟩
   ·exact KQ rfl rfl λ _ _ _ _=>C.q rfl
   intro L a13 w14 W K P V hX;obtain ⟨x0,x1⟩:=hX;replace S:=K.Z S;replace O:=K.E O;replace s10:=K.G s10;have s11:=gS a13 11 (V 3 _ rfl);clear b4;obtain ⟨_,b4,m2,rfl,N2⟩:=x1.2 (W 2 Dz);have zw11:=X;have zw14:=P.size;replace X:=Nat.le_refl w14.heap.size;replace U:=P.below U U.size (by simp<;>omega);clear K P V W x0 x1 C hX0 hX1 s1 s2 s3 s4 s5 s28 b3;refine Xk (wp_ret (Y6 ?_));refine bodyPost_ret (v:=.tuple #[.agg #[Sv m2.A p.length m2.c],Bt]) (by simp [results,Tryz.results98,go_sem,s10,b4.cell,s11]) O ?_;have hT:KV p bx by_=true:=by unfold KV;rw [q5,q12];rfl
   have h0:=grow_triv (lo:=lo) (hi:=hi) hT;exact ⟨_,by rw [h0.1],by rw [h0.2];exact N2.halves.mono Oz,U⟩
  ·have hT:KV p bx by_=false:=by unfold KV;rw [q5,q12];rfl
   obtain ⟨hne,hnz⟩:=grow_ne hT;refine wp_cond_false (ev (vb s28 q12)) ?_;refine wp_skip (Xk (wp_seq ?_));have hX0:=Xf.e 35 3 (λ I v=>∃ A3 c3,v=.tuple #[Sv A3 ((sdL p (Zw bx by_) (Zv bx by_)).length) c3,Bv (sdO p (Zw bx by_) (Zv bx by_))]/\XI 136 3 Xd I w11.heap.size (Sv A3 (sdL p (Zw bx by_) (Zv bx by_)).length c3) (sdL p (Zw bx by_) (Zv bx by_))) (λ hb _ h=>by obtain ⟨A3',c3',e,f3'⟩:=h;exact ⟨A3',c3',e,f3'.below hb XE⟩);have hX1:=Xf.e 31 4 (λ I v=>∃ A3 c3,v=.tuple #[Sv A3 ((sdL p (Zw bx by_) (Zv bx by_)).length) c3,Bv (sdO p (Zw bx by_) (Zv bx by_))]/\XI 136 3 Xd I w11.heap.size (Sv A3 (sdL p (Zw bx by_) (Zv bx by_)).length c3) (sdL p (Zw bx by_) (Zv bx by_))) (λ hb _ h=>by obtain ⟨A3',c3',e,f3'⟩:=h;exact ⟨A3',c3',e,f3'.below hb XE⟩);have hX2:=Xf.e 36 5 (λ I v=>∃ A3 c3,v=Sv A3 ((sdL p (Zw bx by_) (Zv bx by_)).length) c3/\XI 136 3 Xd I w11.heap.size (Sv A3 (sdL p (Zw bx by_) (Zv bx by_)).length c3) (sdL p (Zw bx by_) (Zv bx by_))) (λ hb _ h=>by obtain ⟨A3',c3',e,f3'⟩:=h;exact ⟨A3',c3',e,f3'.below hb XE⟩);have hX3:=Xf.e 12 7 (λ I v=>∃ A3 c3,v=Sv A3 ((sdL p (Zw bx by_) (Zv bx by_)).length) c3/\XI 136 3 Xd I w11.heap.size (Sv A3 (sdL p (Zw bx by_) (Zv bx by_)).length c3) (sdL p (Zw bx by_) (Zv bx by_))) (λ hb _ h=>by obtain ⟨A3',c3',e,f3'⟩:=h;exact ⟨A3',c3',e,f3'.below hb XE⟩);have C:=hX0.a (hX1.a (hX2.a hX3));refine Xr C [32,33,34,35,31,36,37,12,13] [some (.agg #[Sv a.A p.length a.c]),some (Vi bx),some (Vi by_),none,none,none,some (Bv (sdO p (Zw bx by_) (Zv bx by_))),none,some (Bv (sdO p (Zw bx by_) (Zv bx by_)))] (Yc 9) [32,33,34,35,31,36,37,12,13] [] ?_ (e4 ?_ ?_ ?_ ?_ (e4 ?_ ?_ ?_ ?_ (en rfl ?_ .nil))) ?_
   ·exact λ _ h=>⟨Cz,Cz,Cz,Cz⟩
   ·intro M J I H _ _ F;simp [go_sem,H.f.g rfl s5,(b3.k0 H.k).cell];exact (F _ _ H.k rfl (C.q rfl H.x))
   ·exact ZK s1 rfl rfl rfl λ _ _ _ _=>C.q rfl
   ·exact ZK s2 rfl rfl rfl λ _ _ _ _=>C.q rfl
   ·intro M J I H _ _ F;obtain ⟨x0,x1,x2,x3⟩:=H.x;simp [go_sem,(gS J 32 (H.d 0 rfl rfl)),(gS J 33 (H.d 1 rfl rfl)),(gS J 34 (H.d 2 rfl rfl))];have hBi:=H.k.below0 U;refine (iSides_c p bx by_ a I hp hne ⟨D.x,D.y,hnz⟩ (hsp.below hBi)).mono ?_;rintro x wx ⟨A3,c3,rfl,f0,hb⟩;have f3:=f0.mono H.k.size;exact (F _ _ (H.k.call hb) trivial ⟨(λ _=>⟨A3,c3,H.f.s S,f3⟩),(hX1.b rfl hb x1),(hX2.b rfl hb x2),(hX3.b rfl hb x3)⟩)
   ·intro M J I H _ _ F;obtain ⟨x0,x1,x2,x3⟩:=H.x;obtain ⟨A3,c3,ee3,f3⟩:=x0 (H.r 3 rfl);exact XR rfl (ev ee3) (F _ _ H.k trivial ⟨(hX0.q rfl x0),(λ _=>⟨A3,c3,H.f.s S,f3⟩),(hX2.q rfl x2),(hX3.q rfl x3)⟩)
   ·intro M J I H _ _ F;obtain ⟨x0,x1,x2,x3⟩:=H.x;obtain ⟨A3,c3,ee4,f3⟩:=x1 (H.r 4 rfl);exact XP rfl (ev ee4) rfl (F _ _ H.k trivial ⟨(hX0.q rfl x0),(hX1.q rfl x1),(λ _=>⟨A3,c3,H.f.s S,f3⟩),(hX3.q rfl x3)⟩)
   ·intro M J I H _ _ F;obtain ⟨x0,x1,x2,x3⟩:=H.x;obtain ⟨A3,c3,ee4,f3⟩:=x1 (H.r 4 rfl);exact XP rfl (ev ee4) rfl (F _ _ H.k rfl (C.q rfl H.x))
   ·intro M J I H _ _ F;obtain ⟨x0,x1,x2,x3⟩:=H.x;obtain ⟨A3,c3,ee5,f3⟩:=x2 (H.r 5 rfl);exact Y5 rfl (ev ee5) (F _ _ H.k trivial ⟨(hX0.q rfl x0),(hX1.q rfl x1),(hX2.q rfl x2),(λ _=>⟨A3,c3,H.f.s S,f3⟩)⟩)
   ·exact KW 6 rfl rfl rfl rfl λ _ _ _ _=>C.q rfl
   intro L a15 w16 W K P V hX;obtain ⟨x0,x1,x2,x3⟩:=hX;replace S:=K.Z S;replace O:=K.E O;obtain ⟨s1,s2,s3,s4,s5,s10⟩:=K.G6 s1 s2 s3 s4 s5 s10;have s13:=gS a15 13 (V 8 _ rfl);replace b3:=b3.k0 P;replace b4:=b4.k0 P;obtain ⟨A3,c3,s12,N3⟩:=x3 (W 7 Dz);have i3:∀ p,A3=some p->p.block<w16.heap.size:=λ p hp=>(N3.blk p hp).2;have zw11:=X;have zw16:=P.size;replace X:=Nat.le_refl w16.heap.size;replace U:=P.below0 U;clear K P V W x0 x1 x2 x3 C hX0 hX1 hX2 hX3 s28;refine Xk (wp_seq (wp_seq ?_));refine Xj [38,39] [some (Bv (sdO p (Zw bx by_) (Zv bx by_))),some (Bv (!(sdO p (Zw bx by_) (Zv bx by_))))] (Yc 2) [38,39] [] (λ _ _ _=>True) ?_ (e2 ?_ ?_ .nil) ?_
   ·exact λ _ _=>trivial
   ·exact Z1 s13 rfl rfl rfl
   ·exact Jc 0 rfl rfl rfl rfl
   intro L a17 w18 W K P V hX;replace S:=K.Z S;replace O:=K.E O;obtain ⟨s1,s2,s3,s4,s5,s10,s12⟩:=K.G7 s1 s2 s3 s4 s5 s10 s12;have s39:=gS a17 39 (V 1 _ rfl);replace b3:=b3.k0 P;replace b4:=b4.k0 P;replace N3:=N3.below P.toBelow XE;replace X:=Nat.le_trans X P.size;replace U:=P.below0 U;clear K P V W hX s13;refine Xk ?_;rcases Bool.eq_false_or_eq_true (!(sdO p (Zw bx by_) (Zv bx by_))) with q19|q19
   ·refine wp_cond_true (ev (vb s39 q19)) ?_;refine wp_seq ?_;have C:Xf [] (λ L aa I=>X6 I (w.heap.size+1) 26 [Nz] (L 1) (λ _ vs=>vs=[Nz])):=λ L aa I w' kk vv hkk hb x0=>(x0.bel hb (λ _ h=>h));refine Xr C [40,0,11] [some (.agg #[Nz]),none,some Bf] (Yc 3) [40,11] [(w.heap.size+1)] ?_ (e2 ?_ ?_ (en rfl ?_ .nil)) ?_
    ·exact λ _ h=>(⟨λ _=>b4.kp h Sz,Cz⟩)
    ·intro M J I H _ _ F;simp [go_sem];exact (F _ _ H.k rfl H.x)
    ·intro M J I H _ _ F;have x0:=H.x;have Y:=x0.1 H.n;simp [go_sem,(gS J 40 (H.d 0 rfl rfl)),H.f.g rfl s10,Y.cell,Y.frz];exact F undef _ (H.k.store (.inr Sz) [Nz] 0) trivial (X6.set Y (us:=[Nz]) rfl rfl)
    ·exact KQ rfl rfl λ _ _ _ _ h=>h
    intro L a20 w21 W K P V hX;have x0:=hX;replace S:=K.Z S;replace O:=K.E O;replace s10:=K.G s10;have s11:=gS a20 11 (V 2 _ rfl);clear b4;obtain ⟨_,b4,rfl⟩:=x0.2 (W 1 Dz);replace X:=Nat.le_trans X P.size;replace U:=P.below U U.size (by simp<;>omega);clear K P V W x0 C s1 s2 s3 s4 s5 s12 s39 b3 N3 i3;refine Xk (wp_ret (Y6 ?_));refine bodyPost_ret (v:=.tuple #[.agg #[Nz],Bf]) (by simp [results,Tryz.results98,go_sem,s10,b4.cell,s11]) O ?_;have h0:=grow_side (lo:=lo) (hi:=hi) hT (Jw q19);exact ⟨_,by rw [h0.1],by rw [h0.2];exact XI.nilN _ _ _ _ _,U⟩
   ·refine wp_cond_false (ev (vb s39 q19)) ?_;refine wp_skip (Xk (wp_seq (wp_seq ?_)));refine Xj [41,42,43,44] [some (Pz w.heap.size),some (Sv a.A p.length a.c),some (Vi (p.length:Int)),some V0] (Yc 4) [41,42,43,44] [] (λ _ _ _=>True) ?_ (e4 ?_ ?_ ?_ ?_ .nil) ?_
    ·exact λ _ _=>trivial
    ·intro M J I H _ _ F;simp [go_sem,H.f.g rfl s5];exact (F _ _ H.k rfl trivial)
    ·intro M J I H _ _ F;simp [go_sem,(gS J 41 (H.d 0 rfl rfl)),(b3.k0 H.k).cell];exact (F _ _ H.k rfl trivial)
    ·intro M J I H _ _ F;simp [go_sem,(gS J 42 (H.d 1 rfl rfl))];exact (F _ _ H.k rfl trivial)
    ·exact oMCT rfl rfl
    intro L a22 w23 W K P V hX;replace S:=K.Z S;replace O:=K.E O;obtain ⟨s1,s2,s3,s4,s10,s12⟩:=K.G6 s1 s2 s3 s4 s10 s12;have s42:=gS a22 42 (V 1 _ rfl);have s43:=gS a22 43 (V 2 _ rfl);have s44:=gS a22 44 (V 3 _ rfl);replace b4:=b4.k0 P;replace N3:=N3.below P.toBelow XE;replace X:=Nat.le_trans X P.size;replace U:=P.below0 U;clear K P V W hX s5 s39 b3;refine Xk (wp_block ?_);refine wp_loop (λ al wl=>al.tmps.size=89/\al.defers=[]/\∃ (k:Nat) (A4:Option Addr) (c4:Nat),(k<=p.length)/\(YZ (XG bx by_ lo hi) (p.take k)=true)/\al.tmps[1]?.getD undef=Vi bx/\al.tmps[2]?.getD undef=Vi by_/\al.tmps[3]?.getD undef=Vi lo/\al.tmps[4]?.getD undef=Vi hi/\al.tmps[10]?.getD undef=Pz (w.heap.size+1)/\al.tmps[12]?.getD undef=Sv A4 ((sdL p (Zw bx by_) (Zv bx by_)++XW (XG bx by_ lo hi) (p.take k)).length) c4/\al.tmps[42]?.getD undef=Sv a.A p.length a.c/\al.tmps[43]?.getD undef=Vi (p.length:Int)/\al.tmps[44]?.getD undef=Vi (k:Int)/\Xz wl (w.heap.size+1) 26 [Nz]/\XI 136 3 Xd wl w11.heap.size (Sv A4 (sdL p (Zw bx by_) (Zv bx by_)++XW (XG bx by_ lo hi) (p.take k)).length c4) (sdL p (Zw bx by_) (Zv bx by_)++XW (XG bx by_ lo hi) (p.take k))/\Below w.heap.size w wl/\w16.heap.size<=wl.heap.size) (λ al _=>(p.length-(intOf (al.tmps[44]?.getD undef)).toNat)) ?_ ?_
    ·exact ⟨S,O,(0),(A3),(c3),(Nat.zero_le _),(rfl),s1,s2,s3,s4,s10,s12,s42,s43,s44,b4,(N3),U,Oz⟩
    clear S O U X s1 s2 s3 s4 s10 s12 s42 s43 s44 b4 N3;rintro a24 w25 ⟨S,O,k,A4,c4,hk,hall,s1,s2,s3,s4,s10,s12,s42,s43,s44,b4,N4,U,X⟩;have zw25:=X;replace X:=Nat.le_refl w25.heap.size;have i4:∀ p,A4=some p->p.block<w25.heap.size:=λ p hp=>(N4.blk p hp).2;have hmu:(p.length-(intOf (a24.tmps[44]?.getD undef)).toNat)=(p.length-(intOf ((Vi (k:Int)))).toNat):=by rw [s44]
    refine wp_seq ?_;refine Xj [45] [some (Bv (decide ((k:Int)<(p.length:Int))))] (Yc 1) [45] [] (λ _ _ _=>True) ?_ (en rfl ?_ .nil) ?_
    ·exact λ _ _=>trivial
    ·exact λ M J I H _ _ F=>Yl rfl (ev (H.f.g rfl s44)) (ev (H.f.g rfl s43)) rfl rfl (F _ _ H.k rfl trivial)
    intro L a26 w27 W K P V hX;replace S:=K.Z S;replace O:=K.E O;obtain ⟨s1,s2,s3,s4,s10,s12,s42,s43⟩:=K.G8 s1 s2 s3 s4 s10 s12 s42 s43;replace s44:=K.G s44;have s45:=gS a26 45 (V 0 _ rfl);replace b4:=b4.k0 P;replace N4:=N4.below P.toBelow XE;replace X:=Nat.le_trans X P.size;replace U:=P.below0 U;clear K P V W hX;refine Xk (wp_seq ?_);rcases Bool.eq_false_or_eq_true (decide ((k:Int)<(p.length:Int))) with q28|q28
    ·have hkl:k<p.length:=by have:=KZ q28;omega
     obtain ⟨bp,op,ep,fp⟩:=ElS.open_ (hsp.below U) Oz;have hh:=getD_halfOk hkl hp;obtain ⟨⟨k1,k2⟩,⟨k3,k4⟩,⟨k5,k6⟩,⟨k7,k8⟩⟩:=growB D hh;obtain ⟨⟨h1,h2⟩,⟨h3,h4⟩,⟨h5,h6⟩,_⟩:=Y0.1 hh;refine wp_cond_true (ev (vb s45 q28)) ?_;refine wp_skip (Xk (wp_seq (wp_block (wp_seq ?_))));have C:=Xf.x 15 2 3 w27 136 [V0,V0,V0] (λ _ vs=>vs=[Vi ((p.getD k Xa).a),Vi ((p.getD k Xa).b),Vi ((p.getD k Xa).c)]) (λ _ _ h=>h);refine Xr C [46,47,15,0] [some (.pointer (some ⟨bp,op+k*3,none⟩)),some (X3 (p.getD k Xa)),none,none] (Yc 4) [46,47,15] [] ?_ (e4 ?_ ?_ ?_ ?_ .nil) ?_
     ·exact λ _ h=>Cz
     ·intro M J I H _ _ F;simp [go_sem,H.f.g rfl s42,H.f.g rfl s44,hkl,ep];exact (F _ _ H.k rfl (C.q rfl H.x))
     ·intro M J I H _ _ F;have hE:=fp.kp H.k Sz;simp [go_sem,(gS J 46 (H.d 0 rfl rfl)),(hE.at_ Xa (i:=k) Oz 0 (p:=op+k*3) Oz rfl),(hE.at_ Xa (i:=k) Oz 1 (p:=op+k*3+1) Oz rfl),(hE.at_ Xa (i:=k) Oz 2 (p:=op+k*3+2) Oz rfl)];exact (F _ _ H.k rfl (C.q rfl H.x))
     ·intro M J I H _ _ F;have x0:=H.x;simp [go_sem];exact F _ _ (H.k.alloc _) trivial (λ _=>by rw [show ZV M 2 3=false from H.t 3 rfl];exact Yg.new (s:=15) (H.f.lt (by rw [S];decide)) H.k.size [V0,V0,V0])
     ·intro M J I H _ _ F;have x0:=H.x;obtain ⟨g,eg,hg,y,_⟩:=x0 (H.r 2 rfl);have Y:=y H.n;simp [go_sem,(gS J 47 (H.d 1 rfl rfl)),eg,Y.cell,Y.frz];exact F undef _ (H.k.store (.inl hg) [Vi ((p.getD k Xa).a),Vi ((p.getD k Xa).b),Vi ((p.getD k Xa).c)] 0) trivial (λ _=>Yg.set eg hg Y (us:=[Vi ((p.getD k Xa).a),Vi ((p.getD k Xa).b),Vi ((p.getD k Xa).c)]) rfl rfl)
     intro L a29 w30 W K P V hX;have x0:=hX;replace S:=K.Z S;replace O:=K.E O;obtain ⟨s1,s2,s3,s4,s10,s12,s42,s43⟩:=K.G8 s1 s2 s3 s4 s10 s12 s42 s43;replace s44:=K.G s44;replace b4:=b4.k0 P;obtain ⟨g31,s15,lg31,-,b31⟩:=x0 (W 2 Dz);obtain ⟨_,b31,rfl⟩:=b31 (W 3 Dz);have ug31:=b31.lt;replace N4:=N4.below P.toBelow XE;have zw27:=X;have zw30:=P.size;replace X:=Nat.le_refl w30.heap.size;replace U:=P.below0 U;clear K P V W x0 C s45 fp;refine Xk (wp_seq ?_);refine Xj [48,49,50,51,52,53,54,55,56,16] [some (Pz g31),some (Vi ((p.getD k Xa).a)),some (Vi bx),some (Vi (((p.getD k Xa).a)*bx)),some (.pointer (some ⟨g31,1,none⟩)),some (Vi ((p.getD k Xa).b)),some (Vi by_),some (Vi (((p.getD k Xa).b)*by_)),some (Vi ((((p.getD k Xa).a)*bx)+(((p.getD k Xa).b)*by_))),some (Vi ((((p.getD k Xa).a)*bx)+(((p.getD k Xa).b)*by_)))] (Yc 10) [48,49,50,51,52,53,54,55,56,16] [] (λ _ _ _=>True) ?_ (e4 ?_ ?_ ?_ ?_ (e4 ?_ ?_ ?_ ?_ (e2 ?_ ?_ .nil))) ?_
     ·exact λ _ _=>trivial
     ·intro M J I H _ _ F;simp [go_sem,H.f.g rfl s15];exact (F _ _ H.k rfl trivial)
     ·intro M J I H _ _ F;simp [go_sem,(gS J 48 (H.d 0 rfl rfl)),(b31.k0 H.k).cell];exact (F _ _ H.k rfl trivial)
     ·exact Z1 s1 rfl rfl rfl
     ·exact λ M J I H _ _ F=>YV rfl (ev (H.d 1 rfl rfl)) (ev (H.d 2 rfl rfl)) Oz (F _ _ H.k rfl trivial)
     ·intro M J I H _ _ F;simp [go_sem,H.f.g rfl s15];exact (F _ _ H.k rfl trivial)
     ·intro M J I H _ _ F;simp [go_sem,(gS J 52 (H.d 4 rfl rfl)),(b31.k0 H.k).cell];exact (F _ _ H.k rfl trivial)
     ·exact Z1 s2 rfl rfl rfl
     ·exact λ M J I H _ _ F=>YV rfl (ev (H.d 5 rfl rfl)) (ev (H.d 6 rfl rfl)) Oz (F _ _ H.k rfl trivial)
     ·exact λ M J I H _ _ F=>Z2 rfl (ev (H.d 3 rfl rfl)) (ev (H.d 7 rfl rfl)) Oz (F _ _ H.k rfl trivial)
     ·exact KE 8 rfl rfl rfl rfl
     intro L a32 w33 W K P V hX;replace S:=K.Z S;replace O:=K.E O;obtain ⟨s1,s2,s3,s4,s10,s12,s42,s43⟩:=K.G8 s1 s2 s3 s4 s10 s12 s42 s43;obtain ⟨s44,s15⟩:=K.G2 s44 s15;have s16:=gS a32 16 (V 9 _ rfl);replace b4:=b4.k0 P;replace b31:=b31.k0 P;replace N4:=N4.below P.toBelow XE;replace X:=Nat.le_trans X P.size;replace U:=P.below0 U;clear K P V W hX;refine Xk (wp_seq ?_);have C:=Xf.x 17 20 21 w33 136 [V0,V0,V0] (λ _ vs=>vs=[Vi (((XG bx by_ lo hi (p.getD k Xa)).getD Xa).a),Vi (((XG bx by_ lo hi (p.getD k Xa)).getD Xa).b),Vi (((XG bx by_ lo hi (p.getD k Xa)).getD Xa).c)]) (λ _ _ h=>h);refine Xr C [58,59,60,61,62,63,64,65,66,67,68,69,70,71,72,73,74,57,75,76,17,0,18] [some (Pz g31),some (Vi ((p.getD k Xa).a)),some (.pointer (some ⟨g31,1,none⟩)),some (Vi ((p.getD k Xa).b)),some (.pointer (some ⟨g31,2,none⟩)),some (Vi ((p.getD k Xa).c)),some (Vi lo),some (Vi (-lo)),some (Vi ((((p.getD k Xa).a)*bx)+(((p.getD k Xa).b)*by_))),some (Vi ((-lo)*((((p.getD k Xa).a)*bx)+(((p.getD k Xa).b)*by_)))),some (Vi hi),some (Vi (-hi)),some (Vi ((((p.getD k Xa).a)*bx)+(((p.getD k Xa).b)*by_))),some (Vi ((-hi)*((((p.getD k Xa).a)*bx)+(((p.getD k Xa).b)*by_)))),some (Vi (max ((-lo)*((((p.getD k Xa).a)*bx)+(((p.getD k Xa).b)*by_))) ((-hi)*((((p.getD k Xa).a)*bx)+(((p.getD k Xa).b)*by_))))),some (Vi (((p.getD k Xa).c)+(max ((-lo)*((((p.getD k Xa).a)*bx)+(((p.getD k Xa).b)*by_))) ((-hi)*((((p.getD k Xa).a)*bx)+(((p.getD k Xa).b)*by_)))))),some (.tuple #[X3 ((XG bx by_ lo hi (p.getD k Xa)).getD Xa),Bv ((XG bx by_ lo hi (p.getD k Xa)).isSome)]),some (.tuple #[X3 ((XG bx by_ lo hi (p.getD k Xa)).getD Xa),Bv ((XG bx by_ lo hi (p.getD k Xa)).isSome)]),some (X3 ((XG bx by_ lo hi (p.getD k Xa)).getD Xa)),some (Bv ((XG bx by_ lo hi (p.getD k Xa)).isSome)),none,none,some (Bv ((XG bx by_ lo hi (p.getD k Xa)).isSome))] (Yc 23) [58,59,60,61,62,63,64,65,66,67,68,69,70,71,72,73,74,57,75,76,17,18] [] ?_ (e4 ?_ ?_ ?_ ?_ (e4 ?_ ?_ ?_ ?_ (e4 ?_ ?_ ?_ ?_ (e4 ?_ ?_ ?_ ?_ (e4 ?_ ?_ ?_ ?_ (e2 ?_ ?_ (en rfl ?_ .nil))))))) ?_
     ·exact λ _ h=>Cz
     ·intro M J I H _ _ F;simp [go_sem,H.f.g rfl s15];exact (F _ _ H.k rfl (C.q rfl H.x))
     ·intro M J I H _ _ F;simp [go_sem,(gS J 58 (H.d 0 rfl rfl)),(b31.k0 H.k).cell];exact (F _ _ H.k rfl (C.q rfl H.x))
     ·intro M J I H _ _ F;simp [go_sem,H.f.g rfl s15];exact (F _ _ H.k rfl (C.q rfl H.x))
     ·intro M J I H _ _ F;simp [go_sem,(gS J 60 (H.d 2 rfl rfl)),(b31.k0 H.k).cell];exact (F _ _ H.k rfl (C.q rfl H.x))
     ·intro M J I H _ _ F;simp [go_sem,H.f.g rfl s15];exact (F _ _ H.k rfl (C.q rfl H.x))
     ·intro M J I H _ _ F;simp [go_sem,(gS J 62 (H.d 4 rfl rfl)),(b31.k0 H.k).cell];exact (F _ _ H.k rfl (C.q rfl H.x))
     ·exact ZK s3 rfl rfl rfl λ _ _ _ _=>C.q rfl
     ·exact λ M J I H _ _ F=>Ja rfl (ev (H.d 6 rfl rfl)) Oz (F _ _ H.k rfl (C.q rfl H.x))
     ·exact ZK s16 rfl rfl rfl λ _ _ _ _=>C.q rfl
     ·exact λ M J I H _ _ F=>YV rfl (ev (H.d 7 rfl rfl)) (ev (H.d 8 rfl rfl)) Oz (F _ _ H.k rfl (C.q rfl H.x))
     ·exact ZK s4 rfl rfl rfl λ _ _ _ _=>C.q rfl
     ·exact λ M J I H _ _ F=>Ja rfl (ev (H.d 10 rfl rfl)) Oz (F _ _ H.k rfl (C.q rfl H.x))
     ·exact ZK s16 rfl rfl rfl λ _ _ _ _=>C.q rfl
     ·exact λ M J I H _ _ F=>YV rfl (ev (H.d 11 rfl rfl)) (ev (H.d 12 rfl rfl)) Oz (F _ _ H.k rfl (C.q rfl H.x))
     ·intro M J I H _ _ F;simp [go_sem,(gS J 67 (H.d 9 rfl rfl)),(gS J 71 (H.d 13 rfl rfl))];exact (F _ _ H.k rfl (C.q rfl H.x))
     ·exact λ M J I H _ _ F=>Z2 rfl (ev (H.d 5 rfl rfl)) (ev (H.d 14 rfl rfl)) Oz (F _ _ H.k rfl (C.q rfl H.x))
     ·intro M J I H _ _ F;simp [go_sem,(gS J 59 (H.d 1 rfl rfl)),(gS J 61 (H.d 3 rfl rfl)),(gS J 73 (H.d 15 rfl rfl))];refine (show Calls Tryz.prog 142 #[Vi (p.getD k Xa).a,Vi (p.getD k Xa).b,Vi ((p.getD k Xa).c+max (-lo*((p.getD k Xa).a*bx+(p.getD k Xa).b*by_)) (-hi*((p.getD k Xa).a*bx+(p.getD k Xa).b*by_)))] I (λ e w'=>e=.returned (YY (XG bx by_ lo hi (p.getD k Xa)))/\Below I.heap.size I w') from iHalfOf_c _ _ _ I ⟨Oz,Oz⟩ ⟨Oz,Oz⟩ ⟨Oz,Oz⟩).mono ?_;rintro x wx ⟨rfl,hb⟩;exact (F _ _ (H.k.call hb) (KP _) (C.b rfl hb H.x))
     ·exact oMDX 16 rfl rfl rfl rfl λ _ _ _ _=>C.q rfl
     ·exact Jt 17 rfl rfl rfl rfl rfl λ _ _ _ _=>C.q rfl
     ·exact Jt 17 rfl rfl rfl rfl rfl λ _ _ _ _=>C.q rfl
     ·intro M J I H _ _ F;have x0:=H.x;simp [go_sem];exact F _ _ (H.k.alloc _) trivial (λ _=>by rw [show ZV M 20 21=false from H.t 21 rfl];exact Yg.new (s:=17) (H.f.lt (by rw [S];decide)) H.k.size [V0,V0,V0])
     ·intro M J I H _ _ F;have x0:=H.x;obtain ⟨g,eg,hg,y,_⟩:=x0 (H.r 20 rfl);have Y:=y H.n;simp [go_sem,(gS J 75 (H.d 18 rfl rfl)),eg,Y.cell,Y.frz];exact F undef _ (H.k.store (.inl hg) [Vi (((XG bx by_ lo hi (p.getD k Xa)).getD Xa).a),Vi (((XG bx by_ lo hi (p.getD k Xa)).getD Xa).b),Vi (((XG bx by_ lo hi (p.getD k Xa)).getD Xa).c)] 0) trivial (λ _=>Yg.set eg hg Y (us:=[Vi (((XG bx by_ lo hi (p.getD k Xa)).getD Xa).a),Vi (((XG bx by_ lo hi (p.getD k Xa)).getD Xa).b),Vi (((XG bx by_ lo hi (p.getD k Xa)).getD Xa).c)]) rfl rfl)
     ·exact KW 19 rfl rfl rfl rfl λ _ _ _ _=>C.q rfl
     intro L a34 w35 W K P V hX;have x0:=hX;replace S:=K.Z S;replace O:=K.E O;obtain ⟨s1,s2,s3,s4,s10,s12,s42,s43⟩:=K.G8 s1 s2 s3 s4 s10 s12 s42 s43;replace s44:=K.G s44;have s18:=gS a34 18 (V 22 _ rfl);replace b4:=b4.k0 P;obtain ⟨g36,s17,lg36,-,b36⟩:=x0 (W 20 Dz);obtain ⟨_,b36,rfl⟩:=b36 (W 21 Dz);have ug36:=b36.lt;replace N4:=N4.below P.toBelow XE;have zw33:=X;have zw35:=P.size;replace X:=Nat.le_refl w35.heap.size;replace U:=P.below0 U;clear K P V W x0 C s15 s16 b31;refine Xk (wp_seq (wp_seq ?_));refine Xj [77,78] [some (Bv ((XG bx by_ lo hi (p.getD k Xa)).isSome)),some (Bv (!((XG bx by_ lo hi (p.getD k Xa)).isSome)))] (Yc 2) [77,78] [] (λ _ _ _=>True) ?_ (e2 ?_ ?_ .nil) ?_
     ·exact λ _ _=>trivial
     ·exact Z1 s18 rfl rfl rfl
     ·exact Jc 0 rfl rfl rfl rfl
     intro L a37 w38 W K P V hX;replace S:=K.Z S;replace O:=K.E O;obtain ⟨s1,s2,s3,s4,s10,s12,s42,s43⟩:=K.G8 s1 s2 s3 s4 s10 s12 s42 s43;obtain ⟨s44,s17⟩:=K.G2 s44 s17;have s78:=gS a37 78 (V 1 _ rfl);replace b4:=b4.k0 P;replace b36:=b36.k0 P;replace N4:=N4.below P.toBelow XE;replace X:=Nat.le_trans X P.size;replace U:=P.below0 U;clear K P V W hX s18;refine Xk ?_;rcases Bool.eq_false_or_eq_true (!((XG bx by_ lo hi (p.getD k Xa)).isSome)) with q39|q39
     ·refine wp_cond_true (ev (vb s78 q39)) ?_;refine wp_seq ?_;have C:Xf [] (λ L aa I=>X6 I (w.heap.size+1) 26 [Nz] (L 1) (λ _ vs=>vs=[Nz])):=λ L aa I w' kk vv hkk hb x0=>(x0.bel hb (λ _ h=>h));refine Xr C [79,0,11] [some (.agg #[Nz]),none,some Bf] (Yc 3) [79,11] [(w.heap.size+1)] ?_ (e2 ?_ ?_ (en rfl ?_ .nil)) ?_
      ·exact λ _ h=>(⟨λ _=>b4.kp h Sz,Cz⟩)
      ·intro M J I H _ _ F;simp [go_sem];exact (F _ _ H.k rfl H.x)
      ·intro M J I H _ _ F;have x0:=H.x;have Y:=x0.1 H.n;simp [go_sem,(gS J 79 (H.d 0 rfl rfl)),H.f.g rfl s10,Y.cell,Y.frz];exact F undef _ (H.k.store (.inr Sz) [Nz] 0) trivial (X6.set Y (us:=[Nz]) rfl rfl)
      ·exact KQ rfl rfl λ _ _ _ _ h=>h
      intro L a40 w41 W K P V hX;have x0:=hX;replace S:=K.Z S;replace O:=K.E O;replace s10:=K.G s10;have s11:=gS a40 11 (V 2 _ rfl);clear b4;obtain ⟨_,b4,rfl⟩:=x0.2 (W 1 Dz);replace X:=Nat.le_trans X P.size;replace U:=P.below U U.size (by simp<;>omega);clear K P V W x0 C s1 s2 s3 s4 s12 s42 s43 s44 s17 s78 b36 N4 i4;refine Xk (wp_ret ?_);refine Y6 (Jj (Y6 (Y6 (Jj (Y6 ?_)))));refine bodyPost_ret (v:=.tuple #[.agg #[Nz],Bf]) (by simp [results,Tryz.results98,go_sem,s10,b4.cell,s11]) O ?_;have h0:=grow_stop (lo:=lo) (hi:=hi) hT (movAll_stop hkl (Jw q39));exact ⟨_,by rw [h0.1],by rw [h0.2];exact XI.nilN _ _ _ _ _,U⟩
     ·refine wp_cond_false (ev (vb s78 q39)) ?_;refine wp_skip (Xk ?_);have hX0:=Xf.e 82 2 (λ I v=>∃ g5,v=Sv (some ⟨g5,0,none⟩) 1 1/\Xz I g5 136 [Vi (((XG bx by_ lo hi (p.getD k Xa)).getD Xa).a),Vi (((XG bx by_ lo hi (p.getD k Xa)).getD Xa).b),Vi (((XG bx by_ lo hi (p.getD k Xa)).getD Xa).c)]/\w38.heap.size<=g5) (λ hb _ h=>by obtain ⟨g5',e,f5'⟩:=h;exact ⟨g5',e,⟨f5'.1.bel hb,f5'.2⟩⟩);have hX1:=Xf.e 83 3 (λ I v=>∃ A6 c6,v=Sv A6 (((sdL p (Zw bx by_) (Zv bx by_)++XW (XG bx by_ lo hi) (p.take k))++[((XG bx by_ lo hi (p.getD k Xa)).getD Xa)]).length) c6/\XI 136 3 Xd I w11.heap.size (Sv A6 ((sdL p (Zw bx by_) (Zv bx by_)++XW (XG bx by_ lo hi) (p.take k))++[((XG bx by_ lo hi (p.getD k Xa)).getD Xa)]).length c6) ((sdL p (Zw bx by_) (Zv bx by_)++XW (XG bx by_ lo hi) (p.take k))++[((XG bx by_ lo hi (p.getD k Xa)).getD Xa)])) (λ hb _ h=>by obtain ⟨A6',c6',e,f6'⟩:=h;exact ⟨A6',c6',e,f6'.below hb XE⟩);have hX2:=Xf.e 12 4 (λ I v=>∃ A6 c6,v=Sv A6 (((sdL p (Zw bx by_) (Zv bx by_)++XW (XG bx by_ lo hi) (p.take k))++[((XG bx by_ lo hi (p.getD k Xa)).getD Xa)]).length) c6/\XI 136 3 Xd I w11.heap.size (Sv A6 ((sdL p (Zw bx by_) (Zv bx by_)++XW (XG bx by_ lo hi) (p.take k))++[((XG bx by_ lo hi (p.getD k Xa)).getD Xa)]).length c6) ((sdL p (Zw bx by_) (Zv bx by_)++XW (XG bx by_ lo hi) (p.take k))++[((XG bx by_ lo hi (p.getD k Xa)).getD Xa)])) (λ hb _ h=>by obtain ⟨A6',c6',e,f6'⟩:=h;exact ⟨A6',c6',e,f6'.below hb XE⟩);have hX3:Xf [] (λ L aa I=>(L 3=false->XI 136 3 Xd I w11.heap.size (Sv A4 (sdL p (Zw bx by_) (Zv bx by_)++XW (XG bx by_ lo hi) (p.take k)).length c4) (sdL p (Zw bx by_) (Zv bx by_)++XW (XG bx by_ lo hi) (p.take k)))):=λ L aa I w' kk vv hkk hb x3=>(λ h=>(x3 h).below hb XE);have hX4:Xf [12] (λ L aa I=>(L 4=false->aa.tmps[12]?.getD undef=Sv A4 ((sdL p (Zw bx by_) (Zv bx by_)++XW (XG bx by_ lo hi) (p.take k)).length) c4)):=λ L aa I w' kk vv hkk hb x4=>(λ h=>(Xg (hkk 12 Sz) vv).trans (x4 h));have C:=hX0.a (hX1.a (hX2.a (hX3.a hX4)));refine Xr C [80,81,82,83,12] [some (Sv A4 ((sdL p (Zw bx by_) (Zv bx by_)++XW (XG bx by_ lo hi) (p.take k)).length) c4),some (X3 ((XG bx by_ lo hi (p.getD k Xa)).getD Xa)),none,none,none] (Yc 5) [80,81,82,83,12] (blkL A4) ?_ (e4 ?_ ?_ ?_ ?_ (en rfl ?_ .nil)) ?_
      ·exact λ _ h=>⟨Cz,Cz,Cz,(λ _=>N4.below h.toBelow XE),(λ _=>s12)⟩
      ·intro M J I H _ _ F;obtain ⟨x0,x1,x2,x3,x4⟩:=H.x;exact XR rfl (ev (x4 (H.t 4 rfl))) (F _ _ H.k rfl (C.q rfl H.x))
      ·intro M J I H _ _ F;simp [go_sem,H.f.g rfl s17,(b36.kp H.k (YU (λ p hp=>by have q1:=N4.blk p hp;have q2:=i4 p hp;omega))).cell];exact (F _ _ H.k rfl (C.q rfl H.x))
      ·intro M J I H _ _ F;obtain ⟨x0,x1,x2,x3,x4⟩:=H.x;simp [go_sem,(gS J 81 (H.d 1 rfl rfl))];have f5:Xz (I.alloc (.cells #[Vi (((XG bx by_ lo hi (p.getD k Xa)).getD Xa).a),Vi (((XG bx by_ lo hi (p.getD k Xa)).getD Xa).b),Vi (((XG bx by_ lo hi (p.getD k Xa)).getD Xa).c)] 136)) I.heap.size 136 [Vi (((XG bx by_ lo hi (p.getD k Xa)).getD Xa).a),Vi (((XG bx by_ lo hi (p.getD k Xa)).getD Xa).b),Vi (((XG bx by_ lo hi (p.getD k Xa)).getD Xa).c)]/\w38.heap.size<=I.heap.size:=⟨Xz.new _ _ _,H.k.size⟩;exact F _ _ (H.k.alloc _) trivial ⟨(λ _=>⟨_,H.f.s S,f5⟩),(hX1.b rfl (Xc bR _) x1),(hX2.b rfl (Xc bR _) x2),(λ h=>(x3 h).below (Xc bR _) XE),(λ h=>(Xg Dz _).trans (x4 h))⟩
      ·intro M J I H _ _ F;obtain ⟨x0,x1,x2,x3,x4⟩:=H.x;obtain ⟨g5,ee2,f5⟩:=x0 (H.r 2 rfl);refine wp_app1 Xx rfl w11.heap.size i0h _ 24 Tryz.underlying24 hi0h hz0h hz1h hz2h rfl Dz (ev (H.d 0 rfl rfl)) (x3 H.n) (ev ee2) (y:=((XG bx by_ lo hi (p.getD k Xa)).getD Xa)) f5.1 YE (by have:=H.k.size;omega) (by rw [List.length_append,ZH,List.length_take];simp only [sdL,List.length_cons,List.length_nil];omega) Dz ?_;intro A6 c6 wx f6 hG;exact F _ _ (H.k.trans2 hG (λ m h=>.inl h)) trivial ⟨(λ h=>by rw [Xg Dz];obtain ⟨g',e,f'⟩:=x0 h;exact ⟨g',e,f'.1.kp hG (YU (λ p hp=>by have q1:=N4.blk p hp;have q2:=f'.2;omega)),f'.2⟩),(λ _=>⟨A6,c6,H.f.s S,f6⟩),(λ h=>absurd (H.t 4 rfl) (by rw [show M 4=true by simpa [ZV] using h];decide)),(λ h=>by simp [ZV] at h),(λ h=>(Xg Dz _).trans (x4 h))⟩
      ·intro M J I H _ _ F;obtain ⟨x0,x1,x2,x3,x4⟩:=H.x;obtain ⟨A6,c6,ee3,f6⟩:=x1 (H.r 3 rfl);exact Y5 rfl (ev ee3) (F _ _ H.k trivial ⟨(hX0.q rfl x0),(hX1.q rfl x1),(λ _=>⟨A6,c6,H.f.s S,f6⟩),(λ h=>(x3 h).below bR XE),(λ h=>by simp [ZV] at h)⟩)
      intro L a42 w43 W K P V hX;obtain ⟨x0,x1,x2,x3,x4⟩:=hX;replace S:=K.Z S;replace O:=K.E O;have hB9:=P.below U U.size (λ m hm=>by obtain ⟨p,hp,rfl⟩:=blkL_in hm;have q1:=N4.blk p hp;have q2:=i4 p hp;omega);obtain ⟨s1,s2,s3,s4,s10,s42,s43,s44⟩:=K.G8 s1 s2 s3 s4 s10 s42 s43 s44;replace b4:=b4.kp P (YU (λ p hp=>by have q1:=N4.blk p hp;have q2:=i4 p hp;omega));obtain ⟨A6,c6,s12,N6⟩:=x2 (W 4 Dz);have i6:∀ p,A6=some p->p.block<w43.heap.size:=λ p hp=>(N6.blk p hp).2;have zw38:=X;have zw43:=P.size;replace X:=Nat.le_refl w43.heap.size;replace U:=hB9;clear K P V W x0 x1 x2 x3 x4 C hX0 hX1 hX2 hX3 hX4 s17 s78 b36 N4 i4;refine J8 (Xk ?_);refine Xj [84,44] [some (Vi ((k:Int)+1)),some (Vi ((k:Int)+1))] (Yc 2) [84,44] [] (λ L aa I=>(L 1=false->aa.tmps[44]?.getD undef=Vi (k:Int))) ?_ (e2 ?_ ?_ .nil) ?_
      ·exact λ _ h=>(λ _=>s44)
      ·intro M J I H _ _ F;have x0:=H.x;exact Z2 rfl (ev (x0 (H.t 1 rfl))) rfl Oz (F _ _ H.k rfl (λ h=>(Xg Dz _).trans (x0 h)))
      ·intro M J I H _ _ F;have x0:=H.x;exact XR rfl (ev (H.d 0 rfl rfl)) (F _ _ H.k rfl (λ h=>by simp [ZV] at h))
      intro L a44 w45 W K P V hX;have x0:=hX;replace S:=K.Z S;replace O:=K.E O;obtain ⟨s1,s2,s3,s4,s10,s42,s43,s12⟩:=K.G8 s1 s2 s3 s4 s10 s42 s43 s12;have s44:=gS a44 44 (V 1 _ rfl);replace b4:=b4.k0 P;replace N6:=N6.below P.toBelow XE;replace X:=Nat.le_trans X P.size;replace U:=P.below0 U;clear K P V W x0;refine Xk ?_;refine ⟨?_, ?_⟩
      ·exact ⟨S,O,(k+1),(A6),(c6),Oz,(movAll_next hkl hall (Yu q39)),s1,s2,s3,s4,s10,(by rw [app_next hkl (Yu q39)];exact s12),s42,s43,s44,b4,(by rw [app_next hkl (Yu q39)];exact N6),U,Oz⟩
      ·show (p.length-(intOf (a44.tmps[44]?.getD undef)).toNat)<_;rw [s44,hmu];simp only [intOf];omega
    ·have ek:k=p.length:=by have:=YT q28;omega
     have hta:p.take k=p:=by rw [ek];exact List.take_length
     have hmo:∀ g∈(sdL p (Zw bx by_) (Zv bx by_)++XW (XG bx by_ lo hi) (p.take k)),Xt g=true:=by rw [hta];rw [hta] at hall;intro g hg;rcases List.mem_append.1 hg with h|h;exact sdL_ok (Yu q19) g h;exact JV (λ _ _ _ e=>growH_ok e) hall g h
     have hlm:(sdL p (Zw bx by_) (Zv bx by_)++XW (XG bx by_ lo hi) (p.take k)).length=2+p.length:=by rw [List.length_append,ZH,hta];rfl
     rw [hta] at hall;obtain ⟨XX,hX0⟩:∃ z,z=sdL p (Zw bx by_) (Zv bx by_)++XW (XG bx by_ lo hi) (p.take k):=⟨_,rfl⟩;rw [<- hX0] at hmo hlm N4 s12;have hX1:XX=grwL bx by_ lo hi p:=by rw [hX0,hta];rfl
     clear hX0;refine wp_cond_false (ev (vb s45 q28)) ?_;refine wp_exit ?_;refine th_e (th_e (ib_x (Xk (wp_seq ?_))));have hX0:=Xf.e 86 1 (λ I v=>∃ A7 c7,v=.tuple #[.agg #[Sv A7 ((XZ (Xs XX)).length) c7],Bv (YA (Xs XX))]/\XI 136 3 Xd I w27.heap.size (Sv A7 (XZ (Xs XX)).length c7) (XZ (Xs XX))) (λ hb _ h=>by obtain ⟨A7',c7',e,f7'⟩:=h;exact ⟨A7',c7',e,f7'.below hb XE⟩);have hX1:=Xf.e 87 2 (λ I v=>∃ A7 c7,v=.agg #[Sv A7 ((XZ (Xs XX)).length) c7]/\XI 136 3 Xd I w27.heap.size (Sv A7 (XZ (Xs XX)).length c7) (XZ (Xs XX))) (λ hb _ h=>by obtain ⟨A7',c7',e,f7'⟩:=h;exact ⟨A7',c7',e,f7'.below hb XE⟩);have hX2:Xf [] (λ L aa I=>X6 I (w.heap.size+1) 26 [Nz] (L 4) (λ I vs=>∃ A7 c7,vs=[Sv A7 ((XZ (Xs XX)).length) c7]/\XI 136 3 Xd I w27.heap.size (Sv A7 (XZ (Xs XX)).length c7) (XZ (Xs XX)))):=λ L aa I w' kk vv hkk hb x2=>(x2.bel hb (λ _ ⟨A7',c7',e,f7'⟩=>⟨A7',c7',e,f7'.below hb XE⟩));have C:=hX0.a (hX1.a hX2);refine Xr C [85,86,87,88,0,11] [some (Sv A4 XX.length c4),none,none,some (Bv (YA (Xs XX))),none,some (Bv (YA (Xs XX)))] (Yc 6) [85,86,87,88,11] [(w.heap.size+1)] ?_ (e4 ?_ ?_ ?_ ?_ (e2 ?_ ?_ .nil)) ?_
     ·exact λ _ h=>⟨Cz,Cz,(⟨λ _=>b4.kp h Sz,Cz⟩)⟩
     ·exact ZK s12 rfl rfl rfl λ _ _ _ _=>C.q rfl
     ·intro M J I H _ _ F;obtain ⟨x0,x1,x2⟩:=H.x;simp [go_sem,(gS J 85 (H.d 0 rfl rfl))];refine (iMeet_c A4 XX c4 I (by rw [hlm];omega) hmo ((N4.kp H.k i4 Oz (by simp<;>omega)).out Xx) N4.nilcap).mono ?_;rintro x wx ⟨_,rfl,⟨A7,c7,rfl,f0⟩,hb⟩;have f7:=XI.mono (show XI 136 3 Xd wx I.heap.size (Sv A7 (XZ (Xs XX)).length c7) (XZ (Xs XX)) from ⟨_,_,rfl,f0⟩) H.k.size;exact (F _ _ (H.k.call hb) trivial ⟨(λ _=>⟨A7,c7,H.f.s S,f7⟩),(hX1.b rfl hb x1),(x2.bel hb (λ _ ⟨A7',c7',e,f7'⟩=>⟨A7',c7',e,f7'.below hb XE⟩))⟩)
     ·intro M J I H _ _ F;obtain ⟨x0,x1,x2⟩:=H.x;obtain ⟨A7,c7,ee1,f7⟩:=x0 (H.r 1 rfl);exact XP rfl (ev ee1) rfl (F _ _ H.k trivial ⟨(hX0.q rfl x0),(λ _=>⟨A7,c7,H.f.s S,f7⟩),(x2.bel bR (λ _ ⟨A7',c7',e,f7'⟩=>⟨A7',c7',e,f7'.below bR XE⟩))⟩)
     ·intro M J I H _ _ F;obtain ⟨x0,x1,x2⟩:=H.x;obtain ⟨A7,c7,ee1,f7⟩:=x0 (H.r 1 rfl);exact XP rfl (ev ee1) rfl (F _ _ H.k rfl (C.q rfl H.x))
     ·intro M J I H _ _ F;obtain ⟨x0,x1,x2⟩:=H.x;obtain ⟨A7,c7,ee2,f7⟩:=x1 (H.r 2 rfl);have Y:=x2.1 H.n;simp [go_sem,ee2,H.f.g rfl s10,Y.cell,Y.frz];have f7:=f7.otherC (f7.typ Y Dz) [Sv A7 ((XZ (Xs XX)).length) c7] 0;exact F undef _ (H.k.store (.inr Sz) [Sv A7 ((XZ (Xs XX)).length) c7] 0) trivial ⟨(λ h=>by obtain ⟨A7',c7',e,f7'⟩:=x0 h;exact ⟨A7',c7',e,f7'.otherC (f7'.typ Y Dz) [Sv A7 ((XZ (Xs XX)).length) c7] 0⟩),(λ h=>by obtain ⟨A7',c7',e,f7'⟩:=x1 h;exact ⟨A7',c7',e,f7'.otherC (f7'.typ Y Dz) [Sv A7 ((XZ (Xs XX)).length) c7] 0⟩),(X6.set Y (us:=[Sv A7 ((XZ (Xs XX)).length) c7]) rfl ⟨A7,c7,rfl,f7⟩)⟩
     ·exact KW 3 rfl rfl rfl rfl λ _ _ _ _=>C.q rfl
     intro L a46 w47 W K P V hX;obtain ⟨x0,x1,x2⟩:=hX;replace S:=K.Z S;replace O:=K.E O;replace s10:=K.G s10;have s11:=gS a46 11 (V 5 _ rfl);clear b4;obtain ⟨_,b4,A7,c7,rfl,N7⟩:=x2.2 (W 4 Dz);have i7:∀ p,A7=some p->p.block<w47.heap.size:=λ p hp=>(N7.blk p hp).2;have zw27:=X;have zw47:=P.size;replace X:=Nat.le_refl w47.heap.size;replace U:=P.below U U.size (by simp<;>omega);clear K P V W x0 x1 x2 C hX0 hX1 hX2 s1 s2 s3 s4 s12 s42 s43 s44 s45 N4 i4;refine Xk (wp_ret ?_);refine bodyPost_ret (v:=.tuple #[.agg #[Sv A7 ((XZ (Xs XX)).length) c7],Bv (YA (Xs XX))]) (by simp [results,Tryz.results98,go_sem,s10,b4.cell,s11]) O ?_;rw [hX1] at N7;have h0:=grow_all hT (Yu q19) hall;exact ⟨_,by rw [h0.1,hX1],by rw [h0.2];exact N7.mono Oz,U⟩
end Go.Proofs.YtbekjpkcicjcgaaGreat
