/-
 Growing along a direction: the two half planes beside a region, of the program.
 Conditions: valid regions; directions from -100 to 100.
-/
import Derived.Test.YtbekjpkcicjcgaaGreatPul
set_option maxHeartbeats 3000000
set_option maxRecDepth 100000
namespace Go.Proofs.YtbekjpkcicjcgaaGreat
open Go.RowKit
theorem XG.lit {α:Type} {T sz g base:Nat} {enc:α->List Value} {w:World} {xs:List α} (X5:∀ x,(enc x).length=sz) (h:Xq w g T (xs.flatMap enc)) (hb:base<=g) (hm:xs.length<=1000000):XG T sz enc w base (Sv (some ⟨g,0,none⟩) xs.length xs.length) xs:=by
 have hl:(xs.flatMap enc).length=xs.length*sz:=by
  clear h hb hm;induction xs with
  | nil=>simp
  | cons x t ih=>rw [List.flatMap_cons,List.length_append,ih,X5,List.length_cons,Nat.add_mul,Nat.one_mul,Nat.add_comm]
 refine ⟨_,_,rfl,hl,.inr ⟨g,xs.length,(xs.flatMap enc).toArray,rfl,hb,h,Nat.le_refl _,Nat.le_trans hm Dz,by simpa using hl, ?_⟩⟩;exact List.take_of_length_le (by show (xs.flatMap enc).length<=_;omega)
theorem two_slI {w:World} {g T:Nat} {x y:Int} (h:Xq w g T [Vi x,Vi y]):Sl 1 Kk w (some ⟨g,0,none⟩) [x,y] :=
 (XG.lit (enc:=Kk) (xs:=[x,y]) (base:=0) (T:=T) ZI h (Nat.zero_le _) Sz).out ZI
def Zh (bx by_:Int):Int:=(-by_).tdiv ((Xn [bx,by_]:Nat):Int)
def Zf (bx by_:Int):Int:=bx.tdiv ((Xn [bx,by_]:Nat):Int)
structure DirIn (bx by_:Int):Prop where
 x : -100<=bx/\bx<=100
 y : -100<=by_/\by_<=100
 nz:¬ (bx=0/\by_=0)
structure DirOk (bx by_:Int):Prop where
 g:1<=((Xn [bx,by_]:Nat):Int)/\((Xn [bx,by_]:Nat):Int)<=100
 a : -100<=Zh bx by_/\Zh bx by_<=100
 b : -100<=Zf bx by_/\Zf bx by_<=100
 nz:¬ (Zh bx by_=0/\Zf bx by_=0)
theorem dirOk {bx by_:Int} (h:DirIn bx by_):DirOk bx by_:=by
 have hx:=h.x;have hy:=h.y;have hn:=h.nz;have hg:Xn [bx,by_]=Nat.gcd bx.natAbs by_.natAbs:=by rw [Jp]
 have d1:=Nat.gcd_dvd_left bx.natAbs by_.natAbs;have d2:=Nat.gcd_dvd_right bx.natAbs by_.natAbs;have hp:0<Nat.gcd bx.natAbs by_.natAbs:=by
  rcases Classical.em (bx=0) with e|e
  ·exact Nat.gcd_pos_of_pos_right _ Oz
  ·exact Nat.gcd_pos_of_pos_left _ Oz
 have hle:Nat.gcd bx.natAbs by_.natAbs<=100:=by
  rcases Classical.em (bx=0) with e|e
  ·exact Nat.le_trans (Nat.le_of_dvd Oz d2) Oz
  ·exact Nat.le_trans (Nat.le_of_dvd Oz d1) Oz
 have a1:=tdiv_le (-by_) (Xn [bx,by_]) 100 Oz Oz;have b1:=tdiv_le bx (Xn [bx,by_]) 100 Oz Oz;refine ⟨⟨by rw [hg];omega,by rw [hg];omega⟩,a1,b1, ?_⟩;rintro ⟨e1,e2⟩;refine hn ⟨?_, ?_⟩
 ·have q:=Int.mul_tdiv_cancel' (show ((Xn [bx,by_]:Nat):Int) ∣ bx from Int.ofNat_dvd_left.2 (by rw [hg];exact d1));unfold Zf at e2;rw [e2] at q;omega
 ·have q:=Int.mul_tdiv_cancel' (show ((Xn [bx,by_]:Nat):Int) ∣ -by_ from Int.ofNat_dvd_left.2 (by rw [hg,Int.natAbs_neg];exact d2));unfold Zh at e1;rw [e1] at q;omega
def Jb (p:List Half) (a b:Int):Option Half:=Zd (a*(ZS p a b).d) (b*(ZS p a b).d) (ZS p a b).n
def sdL (p:List Half) (a b:Int):List Half:=[(Jb p a b).getD Xa,(Jb p (-a) (-b)).getD Xa]
structure SdB (p:List Half) (a b:Int):Prop where
 x : -500000000000<=a*(ZS p a b).d/\a*(ZS p a b).d<=500000000000
 y : -500000000000<=b*(ZS p a b).d/\b*(ZS p a b).d<=500000000000
 n : -500000000000000000<=(ZS p a b).n/\(ZS p a b).n<=500000000000000000
theorem sdB {p:List Half} {a b:Int} (hp:Xc p=true) (hne:p≠[]) (ha : -100<=a/\a<=100) (hb : -100<=b/\b<=100):SdB p a b:=by
 have R:=supR hp hne (a:=a) (b:=b) ⟨Oz,Oz⟩ ⟨Oz,Oz⟩;have d1:=R.d;have x:=JE (a:=a) (b:=(ZS p a b).d) (A:=100) (B:=5000000000) ⟨Oz,Oz⟩ ⟨Oz,Oz⟩;have y:=JE (a:=b) (b:=(ZS p a b).d) (A:=100) (B:=5000000000) ⟨Oz,Oz⟩ ⟨Oz,Oz⟩;exact ⟨⟨Oz,Oz⟩,⟨Oz,Oz⟩,R.n⟩
theorem iSides_c (p:List Half) (bx by_:Int) (a:Kw) (w:World) (hp:Xc p=true) (hne:p≠[]) (hD:DirIn bx by_) (hsp:Sl 3 Xe w a.A p) :
 Calls Tryz.prog 143 #[.agg #[Sv a.A p.length a.c],Vi bx,Vi by_] w λ x w'=>∃ A c,x=.returned (.tuple #[Sv A (sdL p (Zh bx by_) (Zf bx by_)).length c,Bv ((Jb p (Zh bx by_) (Zf bx by_)).isSome&&(Jb p (-Zh bx by_) (-Zf bx by_)).isSome)])/\XG 136 3 Xe w' w.heap.size (Sv A (sdL p (Zh bx by_) (Zf bx by_)).length c) (sdL p (Zh bx by_) (Zf bx by_))/\Below w.heap.size w w':=by
 have hO:=dirOk hD;have hgo:=hO.g;have hDx:=hD.x;have hDy:=hD.y;refine Yz Tryz.func143 rfl (n:=76) Tryz.ntmps143 Sz ?_;intro a0 S O ha;have s0:a0.tmps[0]?.getD undef=.agg #[Sv a.A p.length a.c]:=ha 0 _ rfl;have s1:a0.tmps[1]?.getD undef=Vi bx:=ha 1 _ rfl;have s2:a0.tmps[2]?.getD undef=Vi by_:=ha 2 _ rfl;clear ha;have U:=Below.refl w.heap.size w;have X:=Nat.le_refl w.heap.size;refine wp_seq ?_;refine Yk [3,6,7] [Pz w.heap.size,Nz,Bf] [some (.cells [Sv a.A p.length a.c].toArray 26),none,none] [0,1,1] [3,6,7] [0,1,2] (by kernel_rfl) (by rw [S];decide) (ec ?_ (ec ?_ (ec ?_ .nil))) ?_
 ·intro a w' K hs N Q F;simp [go_sem,K.g rfl s0];rw [hs];exact F
 ·intro a w' K hs N Q F;simp [go_sem];exact F
 ·intro a w' K hs N Q F;simp [go_sem];exact F
 intro a1 w2 K V hb hO;replace S:=K.size.trans S;replace O:=K.defers.trans O;replace s1:=K.g rfl s1;replace s2:=K.g rfl s2;have s3:a1.tmps[3]?.getD undef=Pz w.heap.size:=V 0 Dz;have b3:Xq w2 w.heap.size 26 [Sv a.A p.length a.c]:=hO 0 _ rfl;have hG:=b3.lt;replace U:=Xf U hb;have zw2:=Nat.le_trans X hb.size;replace X:=Nat.le_refl w2.heap.size;clear K V hb hO s0;refine Xi (wp_seq ?_);have C:=Xd.e 19 2 (λ I v=>∃ g1,v=Sv (some ⟨g1,0,none⟩) 2 2/\Xq I g1 3 [Vi bx,Vi by_]/\w2.heap.size<=g1) (λ hb _ h=>by obtain ⟨g1',e,f1'⟩:=h;exact ⟨g1',e,⟨f1'.1.bel hb,f1'.2⟩⟩);refine Xr C [17,18,19,20,21,8] [some (Vi bx),some (Vi by_),none,some (.int .u64 ((Xn [bx,by_]:Nat):Int)),some (Vi ((Xn [bx,by_]:Nat):Int)),some (Vi ((Xn [bx,by_]:Nat):Int))] (X9 6) [17,18,19,20,21,8] [] ?_ (e4 ?_ ?_ ?_ ?_ (e2 ?_ ?_ .nil)) ?_
 ·exact λ _ h=>Cz
 ·exact Y4 s1 rfl rfl rfl λ _ _ _ _=>C.q rfl
 ·exact Y4 s2 rfl rfl rfl λ _ _ _ _=>C.q rfl
 ·intro M J I H _ _ F;have x0:=H.x;simp [go_sem,(gS J 17 (H.d 0 rfl rfl)),(gS J 18 (H.d 1 rfl rfl))];have f1:Xq (I.alloc (.cells #[Vi bx,Vi by_] 3)) I.heap.size 3 [Vi bx,Vi by_]/\w2.heap.size<=I.heap.size:=⟨Xq.new _ _ _,H.k.size⟩;exact F _ _ (H.k.alloc _) trivial (λ _=>⟨_,H.f.s S,f1⟩)
 ·intro M J I H _ _ F;have x0:=H.x;obtain ⟨g1,ee2,f1⟩:=x0 (H.r 2 rfl);simp [go_sem,ee2];refine (JN (some ⟨g1,0,none⟩) [bx,by_] 2 I Sz (by intro n hn;simp only [List.mem_cons,List.not_mem_nil,or_false] at hn;rcases hn with rfl|rfl<;>exact ⟨Oz,Oz⟩) (two_slI f1.1)).mono ?_;rintro x wx ⟨rfl,hb⟩;exact (F _ _ (H.k.call hb) rfl (C.b rfl hb H.x))
 ·intro M J I H _ _ F;simp [go_sem,(gS J 20 (H.d 3 rfl rfl))];exact (F _ _ H.k (congrArg (Value.int .i64) (wrp Oz)) (C.q rfl H.x))
 ·exact KS 4 rfl rfl rfl rfl λ _ _ _ _=>C.q rfl
 intro L a4 w5 W K P V hX;have x0:=hX;replace S:=K.Z S;replace O:=K.E O;obtain ⟨s1,s2,s3⟩:=K.G3 s1 s2 s3;have s8:=gS a4 8 (V 5 _ rfl);replace b3:=b3.k0 P;replace X:=Nat.le_trans X P.size;replace U:=P.below0 U;clear K P V W x0 C;obtain ⟨gg,egg⟩:∃ z:Int,z=((Xn [bx,by_]:Nat):Int):=⟨_,rfl⟩;rw [<- egg] at s8;have hgg:1<=gg/\gg<=100:=by rw [egg];exact hO.g
 have hta:(-by_).tdiv gg=Zh bx by_:=by rw [egg];rfl
 have htb:bx.tdiv gg=Zf bx by_:=by rw [egg];rfl
 have hA:=hO.a;have hBb:=hO.b;have tb1 : -100<=(-by_).tdiv gg/\(-by_).tdiv gg<=100:=by rw [hta];exact hA
 have tb2 : -100<=bx.tdiv gg/\bx.tdiv gg<=100:=by rw [htb];exact hBb
 refine Xi (wp_seq ?_);refine Xl [22,23,24,25,26,27,28,9,10] [some (Vi by_),some (Vi (-by_)),some (Vi gg),some (Vi ((-by_).tdiv gg)),some (Vi bx),some (Vi gg),some (Vi (bx.tdiv gg)),some (Vi ((-by_).tdiv gg)),some (Vi (bx.tdiv gg))] ([[],[0],[],[0,1,2],[],[],[4,5],[0,1,2,3],[0,1,2,3,4,5,6,7]]) [22,23,24,25,26,27,28,9,10] [] (λ _ _ _=>True) ?_ (e4 ?_ ?_ ?_ ?_ (e4 ?_ ?_ ?_ ?_ (en rfl ?_ .nil))) ?_
 ·exact λ _ _=>trivial
 ·exact Kq s2 rfl rfl rfl
 ·exact λ M J I H _ _ F=>Ji rfl (ev (H.d 0 rfl rfl)) Oz (F _ _ H.k rfl trivial)
 ·exact Kq s8 rfl rfl rfl
 ·exact λ M J I H _ _ F=>wp_quo rfl (ev (H.d 1 rfl rfl)) (ev (H.d 2 rfl rfl)) Oz Oz (F _ _ H.k rfl trivial)
 ·exact Kq s1 rfl rfl rfl
 ·exact Kq s8 rfl rfl rfl
 ·exact λ M J I H _ _ F=>wp_quo rfl (ev (H.d 4 rfl rfl)) (ev (H.d 5 rfl rfl)) Oz Oz (F _ _ H.k rfl trivial)
 ·exact Jm 3 rfl rfl rfl rfl
 ·exact Jm 6 rfl rfl rfl rfl
 intro L a6 w7 W K P V hX;replace S:=K.Z S;replace O:=K.E O;replace s3:=K.G s3;have s9:=gS a6 9 (V 7 _ rfl);have s10:=gS a6 10 (V 8 _ rfl);replace b3:=b3.k0 P;replace X:=Nat.le_trans X P.size;replace U:=P.below0 U;clear K P V W hX s1 s2 s8;rw [hta] at s9;rw [htb] at s10;obtain ⟨da,eda⟩:∃ z:Int,z=Zh bx by_:=⟨_,rfl⟩;rw [<- eda] at s9;obtain ⟨db,edb⟩:∃ z:Int,z=Zf bx by_:=⟨_,rfl⟩;rw [<- edb] at s10;rw [<- eda] at hA;rw [<- edb] at hBb;obtain ⟨⟨u1,u2⟩,⟨u3,u4⟩,⟨u5,u6⟩⟩:=sdB hp hne hA hBb;obtain ⟨⟨v1,v2⟩,⟨v3,v4⟩,⟨v5,v6⟩⟩:=sdB (a:=-da) (b:=-db) hp hne ⟨Oz,Oz⟩ ⟨Oz,Oz⟩;refine Xi (wp_seq ?_);have hX0:=Xd.x 11 10 12 w7 46 [V0,V0] (λ _ vs=>vs=[Vi ((ZS p da db).n),Vi ((ZS p da db).d)]) (λ _ _ h=>h);have hX1:=Xd.x 12 11 13 w7 46 [V0,V0] (λ _ vs=>vs=[Vi ((ZS p (-da) (-db)).n),Vi ((ZS p (-da) (-db)).d)]) (λ _ _ h=>h);have hX2:Xd [11,12] (λ L aa I=>(L 10=true->L 11=true->aa.tmps[11]?.getD undef≠aa.tmps[12]?.getD undef)):=λ L aa I w' kk vv hkk hb x2=>(λ h1 h2 e=>x2 h1 h2 ((Xv (hkk 11 Sz) vv).symm.trans (e.trans (Xv (hkk 12 Sz) vv))));have C:=hX0.a (hX1.a hX2);refine Xr C [29,30,31,32,33,34,35,36,37,38,11,12,0,0] [some (.agg #[Sv a.A p.length a.c]),some (Vi da),some (Vi db),some (X0 (ZS p da db)),some (.agg #[Sv a.A p.length a.c]),some (Vi da),some (Vi (-da)),some (Vi db),some (Vi (-db)),some (X0 (ZS p (-da) (-db))),none,none,none,none] ([[],[],[],[0,1,2],[],[],[5],[],[7],[0,1,2,3,4,5,6,7,8],[],[],[0,1,2,3,4,5,6,7,8,9,10,11],[0,1,2,3,4,5,6,7,8,9,10,11,12]]) [29,30,31,32,33,34,35,36,37,38,11,12] [] ?_ (e4 ?_ ?_ ?_ ?_ (e4 ?_ ?_ ?_ ?_ (e4 ?_ ?_ ?_ ?_ (e2 ?_ ?_ .nil)))) ?_
 ·exact λ _ h=>⟨Cz,Cz,Cz⟩
 ·intro M J I H _ _ F;simp [go_sem,H.f.g rfl s3,(b3.k0 H.k).cell];exact (F _ _ H.k rfl (C.q rfl H.x))
 ·exact Y4 s9 rfl rfl rfl λ _ _ _ _=>C.q rfl
 ·exact Y4 s10 rfl rfl rfl λ _ _ _ _=>C.q rfl
 ·intro M J I H _ _ F;simp [go_sem,(gS J 29 (H.d 0 rfl rfl)),(gS J 30 (H.d 1 rfl rfl)),(gS J 31 (H.d 2 rfl rfl))];have hBi:=H.k.below0 U;refine (iSupport_c p a da db I hp hne ⟨Oz,Oz⟩ ⟨Oz,Oz⟩ (hsp.below hBi)).mono ?_;rintro x wx ⟨rfl,hb⟩;exact (F _ _ (H.k.call hb) rfl (C.b rfl hb H.x))
 ·intro M J I H _ _ F;simp [go_sem,H.f.g rfl s3,(b3.k0 H.k).cell];exact (F _ _ H.k rfl (C.q rfl H.x))
 ·exact Y4 s9 rfl rfl rfl λ _ _ _ _=>C.q rfl
 ·exact λ M J I H _ _ F=>Ji rfl (ev (H.d 5 rfl rfl)) Oz (F _ _ H.k rfl (C.q rfl H.x))
 ·exact Y4 s10 rfl rfl rfl λ _ _ _ _=>C.q rfl
 ·exact λ M J I H _ _ F=>Ji rfl (ev (H.d 7 rfl rfl)) Oz (F _ _ H.k rfl (C.q rfl H.x))
 ·intro M J I H _ _ F;simp [go_sem,(gS J 33 (H.d 4 rfl rfl)),(gS J 35 (H.d 6 rfl rfl)),(gS J 37 (H.d 8 rfl rfl))];have hBi:=H.k.below0 U;refine (iSupport_c p a (-da) (-db) I hp hne ⟨Oz,Oz⟩ ⟨Oz,Oz⟩ (hsp.below hBi)).mono ?_;rintro x wx ⟨rfl,hb⟩;exact (F _ _ (H.k.call hb) rfl (C.b rfl hb H.x))
 ·intro M J I H _ _ F;obtain ⟨x0,x1,x2⟩:=H.x;simp [go_sem];exact F _ _ (H.k.alloc _) trivial ⟨(λ _=>by rw [show Yc M 10 12=false from H.t 12 rfl];exact X6.new (s:=11) (H.f.lt (by rw [S];decide)) H.k.size [V0,V0]),(hX1.b rfl (Xb bR _) x1),(λ h1 h2 e=>by obtain ⟨g2,e2,_,l2⟩:=(x1 h2).lt;rw [Xp (H.f.lt (by rw [S];decide)),Xv Dz,e2] at e;exact ptr_ne Oz e)⟩
 ·intro M J I H _ _ F;obtain ⟨x0,x1,x2⟩:=H.x;simp [go_sem];exact F _ _ (H.k.alloc _) trivial ⟨(hX0.b rfl (Xb bR _) x0),(λ _=>by rw [show Yc M 11 13=false from H.t 13 rfl];exact X6.new (s:=12) (H.f.lt (by rw [S];decide)) H.k.size [V0,V0]),(λ h1 h2 e=>by obtain ⟨g2,e2,_,l2⟩:=(x0 h1).lt;rw [Xp (H.f.lt (by rw [S];decide)),Xv Dz,e2] at e;exact ptr_ne Oz e)⟩
 ·intro M J I H _ _ F;obtain ⟨x0,x1,x2⟩:=H.x;obtain ⟨g,eg,hg,y,_⟩:=x0 (H.r 10 rfl);have Y:=y H.n;simp [go_sem,(gS J 32 (H.d 3 rfl rfl)),eg,Y.cell,Y.frz];exact F undef _ (H.k.store (.inl hg) [Vi ((ZS p da db).n),Vi ((ZS p da db).d)] 0) trivial ⟨(λ _=>X6.set eg hg Y (us:=[Vi ((ZS p da db).n),Vi ((ZS p da db).d)]) rfl rfl),(λ h=>(x1 h).oth (λ e=>x2 (H.r 10 rfl) h (eg.trans e.symm)) [Vi ((ZS p da db).n),Vi ((ZS p da db).d)] 0 (λ _ h=>h)),(x2)⟩
 ·intro M J I H _ _ F;obtain ⟨x0,x1,x2⟩:=H.x;obtain ⟨g,eg,hg,y,_⟩:=x1 (H.r 11 rfl);have Y:=y H.n;simp [go_sem,(gS J 38 (H.d 9 rfl rfl)),eg,Y.cell,Y.frz];exact F undef _ (H.k.store (.inl hg) [Vi ((ZS p (-da) (-db)).n),Vi ((ZS p (-da) (-db)).d)] 0) trivial ⟨(λ h=>(x0 h).oth (λ e=>x2 h (H.r 11 rfl) (e.trans eg.symm)) [Vi ((ZS p (-da) (-db)).n),Vi ((ZS p (-da) (-db)).d)] 0 (λ _ h=>h)),(λ _=>X6.set eg hg Y (us:=[Vi ((ZS p (-da) (-db)).n),Vi ((ZS p (-da) (-db)).d)]) rfl rfl),(x2)⟩
 intro L a8 w9 W K P V hX;obtain ⟨x0,x1,x2⟩:=hX;replace S:=K.Z S;replace O:=K.E O;obtain ⟨s9,s10⟩:=K.G2 s9 s10;obtain ⟨g10,s11,lg10,-,b10⟩:=x0 (W 10 Dz);obtain ⟨_,b10,rfl⟩:=b10 (W 12 Dz);have ug10:=b10.lt;obtain ⟨g11,s12,lg11,-,b11⟩:=x1 (W 11 Dz);obtain ⟨_,b11,rfl⟩:=b11 (W 13 Dz);have ug11:=b11.lt;have ng10g11:g10≠g11:=by
  intro e;subst e;exact x2 (W 10 Dz) (W 11 Dz) (s11.trans s12.symm)
 have zw7:=X;have zw9:=P.size;replace X:=Nat.le_refl w9.heap.size;replace U:=P.below0 U;clear K P V W x0 x1 x2 C hX0 hX1 hX2 s3 b3;refine Xi (wp_seq ?_);have C:=Xd.x 13 14 15 w9 136 [V0,V0,V0] (λ _ vs=>vs=[Vi (((Jb p da db).getD Xa).a),Vi (((Jb p da db).getD Xa).b),Vi (((Jb p da db).getD Xa).c)]) (λ _ _ h=>h);refine Xr C [40,41,42,43,44,45,46,47,48,49,50,39,51,52,13,0,14] [some (Vi da),some (.pointer (some ⟨g10,1,none⟩)),some (Vi ((ZS p da db).d)),some (Vi (da*((ZS p da db).d))),some (Vi db),some (.pointer (some ⟨g10,1,none⟩)),some (Vi ((ZS p da db).d)),some (Vi (db*((ZS p da db).d))),some (Pz g10),some (Vi ((ZS p da db).n)),some (.tuple #[YI ((Jb p da db).getD Xa),Bv ((Jb p da db).isSome)]),some (.tuple #[YI ((Jb p da db).getD Xa),Bv ((Jb p da db).isSome)]),some (YI ((Jb p da db).getD Xa)),some (Bv ((Jb p da db).isSome)),none,none,some (Bv ((Jb p da db).isSome))] (X9 17) [40,41,42,43,44,45,46,47,48,49,50,39,51,52,13,14] [] ?_ (e4 ?_ ?_ ?_ ?_ (e4 ?_ ?_ ?_ ?_ (e4 ?_ ?_ ?_ ?_ (e4 ?_ ?_ ?_ ?_ (en rfl ?_ .nil))))) ?_
 ·exact λ _ h=>Cz
 ·exact Y4 s9 rfl rfl rfl λ _ _ _ _=>C.q rfl
 ·intro M J I H _ _ F;simp [go_sem,H.f.g rfl s11];exact (F _ _ H.k rfl (C.q rfl H.x))
 ·intro M J I H _ _ F;simp [go_sem,(gS J 41 (H.d 1 rfl rfl)),(b10.k0 H.k).cell];exact (F _ _ H.k rfl (C.q rfl H.x))
 ·exact λ M J I H _ _ F=>Zo rfl (ev (H.d 0 rfl rfl)) (ev (H.d 2 rfl rfl)) Oz (F _ _ H.k rfl (C.q rfl H.x))
 ·exact Y4 s10 rfl rfl rfl λ _ _ _ _=>C.q rfl
 ·intro M J I H _ _ F;simp [go_sem,H.f.g rfl s11];exact (F _ _ H.k rfl (C.q rfl H.x))
 ·intro M J I H _ _ F;simp [go_sem,(gS J 45 (H.d 5 rfl rfl)),(b10.k0 H.k).cell];exact (F _ _ H.k rfl (C.q rfl H.x))
 ·exact λ M J I H _ _ F=>Zo rfl (ev (H.d 4 rfl rfl)) (ev (H.d 6 rfl rfl)) Oz (F _ _ H.k rfl (C.q rfl H.x))
 ·intro M J I H _ _ F;simp [go_sem,H.f.g rfl s11];exact (F _ _ H.k rfl (C.q rfl H.x))
 ·intro M J I H _ _ F;simp [go_sem,(gS J 48 (H.d 8 rfl rfl)),(b10.k0 H.k).cell];exact (F _ _ H.k rfl (C.q rfl H.x))
 ·intro M J I H _ _ F;simp [go_sem,(gS J 43 (H.d 3 rfl rfl)),(gS J 47 (H.d 7 rfl rfl)),(gS J 49 (H.d 9 rfl rfl))];refine (show Calls Tryz.prog 142 #[Vi (da*(ZS p da db).d),Vi (db*(ZS p da db).d),Vi (ZS p da db).n] I (λ e w'=>e=.returned (Kr (Jb p da db))/\Below I.heap.size I w') from iHalfOf_c _ _ _ I ⟨Oz,Oz⟩ ⟨Oz,Oz⟩ ⟨Oz,Oz⟩).mono ?_;rintro x wx ⟨rfl,hb⟩;exact (F _ _ (H.k.call hb) (optHalf_eq _) (C.b rfl hb H.x))
 ·exact oMDX 10 rfl rfl rfl rfl λ _ _ _ _=>C.q rfl
 ·exact JV 11 rfl rfl rfl rfl rfl λ _ _ _ _=>C.q rfl
 ·exact JV 11 rfl rfl rfl rfl rfl λ _ _ _ _=>C.q rfl
 ·intro M J I H _ _ F;have x0:=H.x;simp [go_sem];exact F _ _ (H.k.alloc _) trivial (λ _=>by rw [show Yc M 14 15=false from H.t 15 rfl];exact X6.new (s:=13) (H.f.lt (by rw [S];decide)) H.k.size [V0,V0,V0])
 ·intro M J I H _ _ F;have x0:=H.x;obtain ⟨g,eg,hg,y,_⟩:=x0 (H.r 14 rfl);have Y:=y H.n;simp [go_sem,(gS J 51 (H.d 12 rfl rfl)),eg,Y.cell,Y.frz];exact F undef _ (H.k.store (.inl hg) [Vi (((Jb p da db).getD Xa).a),Vi (((Jb p da db).getD Xa).b),Vi (((Jb p da db).getD Xa).c)] 0) trivial (λ _=>X6.set eg hg Y (us:=[Vi (((Jb p da db).getD Xa).a),Vi (((Jb p da db).getD Xa).b),Vi (((Jb p da db).getD Xa).c)]) rfl rfl)
 ·exact KS 13 rfl rfl rfl rfl λ _ _ _ _=>C.q rfl
 intro L a12 w13 W K P V hX;have x0:=hX;replace S:=K.Z S;replace O:=K.E O;obtain ⟨s9,s10,s12⟩:=K.G3 s9 s10 s12;have s14:=gS a12 14 (V 16 _ rfl);replace b11:=b11.k0 P;obtain ⟨g14,s13,lg14,-,b14⟩:=x0 (W 14 Dz);obtain ⟨_,b14,rfl⟩:=b14 (W 15 Dz);have ug14:=b14.lt;have zw13:=P.size;replace X:=Nat.le_refl w13.heap.size;replace U:=P.below0 U;clear K P V W x0 C s11 b10;refine Xi (wp_seq ?_);have C:=Xd.x 15 16 17 w13 136 [V0,V0,V0] (λ _ vs=>vs=[Vi (((Jb p (-da) (-db)).getD Xa).a),Vi (((Jb p (-da) (-db)).getD Xa).b),Vi (((Jb p (-da) (-db)).getD Xa).c)]) (λ _ _ h=>h);refine Xr C [54,55,56,57,58,59,60,61,62,63,64,65,66,53,67,68,15,0,16] [some (Vi da),some (Vi (-da)),some (.pointer (some ⟨g11,1,none⟩)),some (Vi ((ZS p (-da) (-db)).d)),some (Vi ((-da)*((ZS p (-da) (-db)).d))),some (Vi db),some (Vi (-db)),some (.pointer (some ⟨g11,1,none⟩)),some (Vi ((ZS p (-da) (-db)).d)),some (Vi ((-db)*((ZS p (-da) (-db)).d))),some (Pz g11),some (Vi ((ZS p (-da) (-db)).n)),some (.tuple #[YI ((Jb p (-da) (-db)).getD Xa),Bv ((Jb p (-da) (-db)).isSome)]),some (.tuple #[YI ((Jb p (-da) (-db)).getD Xa),Bv ((Jb p (-da) (-db)).isSome)]),some (YI ((Jb p (-da) (-db)).getD Xa)),some (Bv ((Jb p (-da) (-db)).isSome)),none,none,some (Bv ((Jb p (-da) (-db)).isSome))] (X9 19) [54,55,56,57,58,59,60,61,62,63,64,65,66,53,67,68,15,16] [] ?_ (e4 ?_ ?_ ?_ ?_ (e4 ?_ ?_ ?_ ?_ (e4 ?_ ?_ ?_ ?_ (e4 ?_ ?_ ?_ ?_ (e2 ?_ ?_ (en rfl ?_ .nil)))))) ?_
 ·exact λ _ h=>Cz
 ·exact Y4 s9 rfl rfl rfl λ _ _ _ _=>C.q rfl
 ·exact λ M J I H _ _ F=>Ji rfl (ev (H.d 0 rfl rfl)) Oz (F _ _ H.k rfl (C.q rfl H.x))
 ·intro M J I H _ _ F;simp [go_sem,H.f.g rfl s12];exact (F _ _ H.k rfl (C.q rfl H.x))
 ·intro M J I H _ _ F;simp [go_sem,(gS J 56 (H.d 2 rfl rfl)),(b11.k0 H.k).cell];exact (F _ _ H.k rfl (C.q rfl H.x))
 ·exact λ M J I H _ _ F=>Zo rfl (ev (H.d 1 rfl rfl)) (ev (H.d 3 rfl rfl)) Oz (F _ _ H.k rfl (C.q rfl H.x))
 ·exact Y4 s10 rfl rfl rfl λ _ _ _ _=>C.q rfl
 ·exact λ M J I H _ _ F=>Ji rfl (ev (H.d 5 rfl rfl)) Oz (F _ _ H.k rfl (C.q rfl H.x))
 ·intro M J I H _ _ F;simp [go_sem,H.f.g rfl s12];exact (F _ _ H.k rfl (C.q rfl H.x))
 ·intro M J I H _ _ F;simp [go_sem,(gS J 61 (H.d 7 rfl rfl)),(b11.k0 H.k).cell];exact (F _ _ H.k rfl (C.q rfl H.x))
 ·exact λ M J I H _ _ F=>Zo rfl (ev (H.d 6 rfl rfl)) (ev (H.d 8 rfl rfl)) Oz (F _ _ H.k rfl (C.q rfl H.x))
 ·intro M J I H _ _ F;simp [go_sem,H.f.g rfl s12];exact (F _ _ H.k rfl (C.q rfl H.x))
 ·intro M J I H _ _ F;simp [go_sem,(gS J 64 (H.d 10 rfl rfl)),(b11.k0 H.k).cell];exact (F _ _ H.k rfl (C.q rfl H.x))
 ·intro M J I H _ _ F;simp [go_sem,(gS J 58 (H.d 4 rfl rfl)),(gS J 63 (H.d 9 rfl rfl)),(gS J 65 (H.d 11 rfl rfl))];refine (show Calls Tryz.prog 142 #[Vi ((-da)*(ZS p (-da) (-db)).d),Vi ((-db)*(ZS p (-da) (-db)).d),Vi (ZS p (-da) (-db)).n] I (λ e w'=>e=.returned (Kr (Jb p (-da) (-db)))/\Below I.heap.size I w') from iHalfOf_c _ _ _ I ⟨Oz,Oz⟩ ⟨Oz,Oz⟩ ⟨Oz,Oz⟩).mono ?_;rintro x wx ⟨rfl,hb⟩;exact (F _ _ (H.k.call hb) (optHalf_eq _) (C.b rfl hb H.x))
 ·exact oMDX 12 rfl rfl rfl rfl λ _ _ _ _=>C.q rfl
 ·exact JV 13 rfl rfl rfl rfl rfl λ _ _ _ _=>C.q rfl
 ·exact JV 13 rfl rfl rfl rfl rfl λ _ _ _ _=>C.q rfl
 ·intro M J I H _ _ F;have x0:=H.x;simp [go_sem];exact F _ _ (H.k.alloc _) trivial (λ _=>by rw [show Yc M 16 17=false from H.t 17 rfl];exact X6.new (s:=15) (H.f.lt (by rw [S];decide)) H.k.size [V0,V0,V0])
 ·intro M J I H _ _ F;have x0:=H.x;obtain ⟨g,eg,hg,y,_⟩:=x0 (H.r 16 rfl);have Y:=y H.n;simp [go_sem,(gS J 67 (H.d 14 rfl rfl)),eg,Y.cell,Y.frz];exact F undef _ (H.k.store (.inl hg) [Vi (((Jb p (-da) (-db)).getD Xa).a),Vi (((Jb p (-da) (-db)).getD Xa).b),Vi (((Jb p (-da) (-db)).getD Xa).c)] 0) trivial (λ _=>X6.set eg hg Y (us:=[Vi (((Jb p (-da) (-db)).getD Xa).a),Vi (((Jb p (-da) (-db)).getD Xa).b),Vi (((Jb p (-da) (-db)).getD Xa).c)]) rfl rfl)
 ·exact KS 15 rfl rfl rfl rfl λ _ _ _ _=>C.q rfl
 intro L a15 w16 W K P V hX;have x0:=hX;replace S:=K.Z S;replace O:=K.E O;obtain ⟨s14,s13⟩:=K.G2 s14 s13;have s16:=gS a15 16 (V 18 _ rfl);replace b14:=b14.k0 P;obtain ⟨g17,s15,lg17,-,b17⟩:=x0 (W 16 Dz);obtain ⟨_,b17,rfl⟩:=b17 (W 17 Dz);have ug17:=b17.lt;have zw16:=P.size;replace X:=Nat.le_refl w16.heap.size;replace U:=P.below0 U;clear K P V W x0 C s9 s10 s12 b11;refine Xi (wp_seq ?_);have hX0:=Xd.e 71 2 (λ I v=>∃ g2,v=Sv (some ⟨g2,0,none⟩) 2 2/\Xq I g2 136 [Vi (((Jb p da db).getD Xa).a),Vi (((Jb p da db).getD Xa).b),Vi (((Jb p da db).getD Xa).c),Vi (((Jb p (-da) (-db)).getD Xa).a),Vi (((Jb p (-da) (-db)).getD Xa).b),Vi (((Jb p (-da) (-db)).getD Xa).c)]/\w16.heap.size<=g2) (λ hb _ h=>by obtain ⟨g2',e,f2'⟩:=h;exact ⟨g2',e,⟨f2'.1.bel hb,f2'.2⟩⟩);have hX1:=Xd.e 6 7 (λ I v=>∃ g2,v=Sv (some ⟨g2,0,none⟩) 2 2/\Xq I g2 136 [Vi (((Jb p da db).getD Xa).a),Vi (((Jb p da db).getD Xa).b),Vi (((Jb p da db).getD Xa).c),Vi (((Jb p (-da) (-db)).getD Xa).a),Vi (((Jb p (-da) (-db)).getD Xa).b),Vi (((Jb p (-da) (-db)).getD Xa).c)]/\w16.heap.size<=g2) (λ hb _ h=>by obtain ⟨g2',e,f2'⟩:=h;exact ⟨g2',e,⟨f2'.1.bel hb,f2'.2⟩⟩);have C:=hX0.a hX1;refine Xr C [69,70,71,72,73,74,75,6,7] [some (YI ((Jb p da db).getD Xa)),some (YI ((Jb p (-da) (-db)).getD Xa)),none,some (Bv ((Jb p da db).isSome)),some (Bv ((Jb p da db).isSome)),some ((bif (Jb p da db).isSome then (Bv ((Jb p (-da) (-db)).isSome):Value) else undef)),some (Bv ((Jb p da db).isSome&&(Jb p (-da) (-db)).isSome)),none,some (Bv ((Jb p da db).isSome&&(Jb p (-da) (-db)).isSome))] (X9 9) [69,70,71,72,73,74,75,6,7] [] ?_ (e4 ?_ ?_ ?_ ?_ (en rfl ?_ (eg ?_ (e2 ?_ ?_ (en rfl ?_ .nil))))) ?_
 ·exact λ _ h=>⟨Cz,Cz⟩
 ·intro M J I H _ _ F;simp [go_sem,H.f.g rfl s13,(b14.k0 H.k).cell];exact (F _ _ H.k rfl (C.q rfl H.x))
 ·intro M J I H _ _ F;simp [go_sem,H.f.g rfl s15,(b17.k0 H.k).cell];exact (F _ _ H.k rfl (C.q rfl H.x))
 ·intro M J I H _ _ F;obtain ⟨x0,x1⟩:=H.x;simp [go_sem,(gS J 69 (H.d 0 rfl rfl)),(gS J 70 (H.d 1 rfl rfl))];have f2:Xq (I.alloc (.cells #[Vi (((Jb p da db).getD Xa).a),Vi (((Jb p da db).getD Xa).b),Vi (((Jb p da db).getD Xa).c),Vi (((Jb p (-da) (-db)).getD Xa).a),Vi (((Jb p (-da) (-db)).getD Xa).b),Vi (((Jb p (-da) (-db)).getD Xa).c)] 136)) I.heap.size 136 [Vi (((Jb p da db).getD Xa).a),Vi (((Jb p da db).getD Xa).b),Vi (((Jb p da db).getD Xa).c),Vi (((Jb p (-da) (-db)).getD Xa).a),Vi (((Jb p (-da) (-db)).getD Xa).b),Vi (((Jb p (-da) (-db)).getD Xa).c)]/\w16.heap.size<=I.heap.size:=⟨Xq.new _ _ _,H.k.size⟩;exact F _ _ (H.k.alloc _) trivial ⟨(λ _=>⟨_,H.f.s S,f2⟩),(hX1.b rfl (Xb bR _) x1)⟩
 ·exact Y4 s14 rfl rfl rfl λ _ _ _ _=>C.q rfl
 ·exact oMDX 3 rfl rfl rfl rfl λ _ _ _ _=>C.q rfl
 ·intro M J I H _ _ F;refine wgt rfl rfl rfl (H.d 4 rfl rfl) (λ qg=>F _ _ H.k (XC qg).symm (C.q rfl H.x)) λ qg=>?_;exact XQ rfl (ev (H.f.g rfl s16)) (F _ _ H.k (Xz qg).symm (C.q rfl H.x))
 ·exact λ M J I H _ _ F=>Za rfl (ev (H.d 4 rfl rfl)) (λ h=>(ev ((H.d 5 rfl rfl).trans (Xz h))).trans (J9 h)) (λ h=>vand_f h) (F _ _ H.k rfl (C.q rfl H.x))
 ·intro M J I H _ _ F;obtain ⟨x0,x1⟩:=H.x;obtain ⟨g2,ee2,f2⟩:=x0 (H.r 2 rfl);exact ZL rfl (ev ee2) (F _ _ H.k trivial ⟨(hX0.q rfl x0),(λ _=>⟨g2,H.f.s S,f2⟩)⟩)
 ·exact KS 6 rfl rfl rfl rfl λ _ _ _ _=>C.q rfl
 intro L a18 w19 W K P V hX;obtain ⟨x0,x1⟩:=hX;replace S:=K.Z S;replace O:=K.E O;have s7:=gS a18 7 (V 8 _ rfl);obtain ⟨g2,s6,N2⟩:=x1 (W 7 Dz);have zw19:=P.size;replace X:=Nat.le_refl w19.heap.size;replace U:=P.below0 U;clear K P V W x0 x1 C hX0 hX1 s14 s13 s16 s15 b14 b17;refine Xi (wp_ret ?_);refine bodyPost_ret (v:=.tuple #[Sv (some ⟨g2,0,none⟩) 2 2,Bv ((Jb p da db).isSome&&(Jb p (-da) (-db)).isSome)]) (by simp [results,Tryz.results143,go_sem,s6,s7]) O ?_;refine ⟨some ⟨g2,0,none⟩,2,by rw [<- eda,<- edb];rfl, ?_,U⟩;rw [<- eda,<- edb];exact XG.lit (enc:=Xe) (xs:=sdL p da db) Xx N2.1 (by have:=N2.2;omega) (by simp [sdL])
def Yl (bx by_ lo hi:Int) (h:Half):Option Half:=Zd h.a h.b (h.c+max (-lo*(h.a*bx+h.b*by_)) (-hi*(h.a*bx+h.b*by_)))
theorem growH_ok {bx by_ lo hi:Int} {h g:Half} (e:Yl bx by_ lo hi h=some g):Xs g=true:=halfOf_ok e
structure GrowB (bx by_ lo hi:Int) (h:Half):Prop where
 x : -5000000<=h.a*bx/\h.a*bx<=5000000
 y : -5000000<=h.b*by_/\h.b*by_<=5000000
 p : -10000000000<=-lo*(h.a*bx+h.b*by_)/\-lo*(h.a*bx+h.b*by_)<=10000000000
 q : -10000000000<=-hi*(h.a*bx+h.b*by_)/\-hi*(h.a*bx+h.b*by_)<=10000000000
structure DrvIn (bx by_ lo hi:Int):Prop where
 x : -100<=bx/\bx<=100
 y : -100<=by_/\by_<=100
 lw : -1000<=lo/\lo<=1000
 hw:lo<=hi/\hi<=1000
theorem growB {bx by_ lo hi:Int} {h:Half} (D:DrvIn bx by_ lo hi) (hh:Xs h=true):GrowB bx by_ lo hi h:=by
 obtain ⟨a1,a2,_⟩:=Zk.1 hh;have l:=D.lw;have u:=D.hw;have x:=JE (a:=h.a) (b:=bx) (A:=50000) (B:=100) a1 D.x;have y:=JE (a:=h.b) (b:=by_) (A:=50000) (B:=100) a2 D.y;have p:=JE (a:=-lo) (b:=h.a*bx+h.b*by_) (A:=1000) (B:=10000000) ⟨Oz,Oz⟩ ⟨Oz,Oz⟩;have q:=JE (a:=-hi) (b:=h.a*bx+h.b*by_) (A:=1000) (B:=10000000) ⟨Oz,Oz⟩ ⟨Oz,Oz⟩;exact ⟨⟨Oz,Oz⟩,⟨Oz,Oz⟩,⟨Oz,Oz⟩,⟨Oz,Oz⟩⟩
def growT (p:List Half) (bx by_:Int):Bool:=decide (p.length=0)||(bx == 0&&by_ == 0)
def sdO (p:List Half) (a b:Int):Bool:=(Jb p a b).isSome&&(Jb p (-a) (-b)).isSome
def grwL (bx by_ lo hi:Int) (p:List Half):List Half:=sdL p (Zh bx by_) (Zf bx by_)++Ks (Yl bx by_ lo hi) p
def JT (bx by_ lo hi:Int) (p:List Half):Bool:=growT p bx by_||(sdO p (Zh bx by_) (Zf bx by_)&&Zj (Yl bx by_ lo hi) p&&Yt (Xk (grwL bx by_ lo hi p)))
def grwR (bx by_ lo hi:Int) (p:List Half):List Half:=if growT p bx by_=true then p else if (sdO p (Zh bx by_) (Zf bx by_)&&Zj (Yl bx by_ lo hi) p)=true then X3 (Xk (grwL bx by_ lo hi p)) else []
theorem grow_triv {bx by_ lo hi:Int} {p:List Half} (h:growT p bx by_=true):JT bx by_ lo hi p=true/\grwR bx by_ lo hi p=p:=by
 unfold JT grwR;rw [h,if_pos rfl];exact ⟨rfl,rfl⟩
theorem grow_side {bx by_ lo hi:Int} {p:List Half} (h:growT p bx by_=false) (hs:sdO p (Zh bx by_) (Zf bx by_)=false):JT bx by_ lo hi p=false/\grwR bx by_ lo hi p=[]:=by
 unfold JT grwR;rw [h,hs,if_neg Sz,if_neg Sz];exact ⟨rfl,rfl⟩
theorem grow_stop {bx by_ lo hi:Int} {p:List Half} (h:growT p bx by_=false) (hs:Zj (Yl bx by_ lo hi) p=false):JT bx by_ lo hi p=false/\grwR bx by_ lo hi p=[]:=by
 unfold JT grwR;rw [h,hs,if_neg Sz,if_neg Sz];exact ⟨Sz,rfl⟩
theorem grow_all {bx by_ lo hi:Int} {p:List Half} (h:growT p bx by_=false) (hs:sdO p (Zh bx by_) (Zf bx by_)=true) (hm:Zj (Yl bx by_ lo hi) p=true):JT bx by_ lo hi p=Yt (Xk (grwL bx by_ lo hi p))/\grwR bx by_ lo hi p=X3 (Xk (grwL bx by_ lo hi p)):=by
 unfold JT grwR;rw [h,hs,hm,if_neg Sz,if_pos Sz];exact ⟨Sz,rfl⟩
theorem movAll_stop {f:Half->Option Half} {p:List Half} {k:Nat} (h:k<p.length) (hs:(f (p.getD k Xa)).isSome=false):Zj f p=false:=by
 have e:p.getD k Xa=p[k]:=by rw [List.getD_eq_getElem?_getD,List.getElem?_eq_getElem h,Option.getD_some]
 rw [e] at hs;unfold Zj;rw [List.all_eq_false];exact ⟨p[k],List.getElem_mem h,by rw [hs];decide⟩
theorem grow_ne {p:List Half} {bx by_:Int} (h:growT p bx by_=false):p≠[]/\¬ (bx=0/\by_=0):=by
 unfold growT at h;refine ⟨λ e=>?_,λ e=>?_⟩
 ·rw [e] at h;simp at h
 ·rw [e.1,e.2] at h;simp at h
theorem sdL_ok {p:List Half} {a b:Int} (h:sdO p a b=true):∀ g∈sdL p a b,Xs g=true:=by
 unfold sdO at h;obtain ⟨x,hx⟩:=Option.isSome_iff_exists.1 (and_t1 h);obtain ⟨y,hy⟩:=Option.isSome_iff_exists.1 (and_t2 h);intro g hg;unfold sdL at hg;rw [hx,hy] at hg;simp only [Option.getD_some,List.mem_cons,List.not_mem_nil,or_false] at hg;rcases hg with rfl|rfl
 ·exact halfOf_ok hx
 ·exact halfOf_ok hy
theorem app_next {s:List Half} {f:Half->Option Half} {p:List Half} {k:Nat} (h:k<p.length) (hs:(f (p.getD k Xa)).isSome=true):s++Ks f (p.take (k+1))=s++Ks f (p.take k)++[(f (p.getD k Xa)).getD Xa]:=by
 rw [movL_next h hs,List.append_assoc]
theorem iGrow_c (p:List Half) (bx by_ lo hi:Int) (a:Kw) (w:World) (hp:Xc p=true) (D:DrvIn bx by_ lo hi) (hsp:Sl 3 Xe w a.A p) :
 Calls Tryz.prog 98 #[.agg #[Sv a.A p.length a.c],Vi bx,Vi by_,Vi lo,Vi hi] w λ x w'=>∃ v,x=.returned (.tuple #[.agg #[v],Bv (JT bx by_ lo hi p)])/\XG 136 3 Xe w' w.heap.size v (grwR bx by_ lo hi p)/\Below w.heap.size w w':=by
 have hlp:=Y0 hp;have hDlo:=D.lw;have hDhi:=D.hw;obtain ⟨i0h,hi0h,hz0h,hz1h,hz2h⟩:=info_parts (show (Tryz.prog.info? 136).map (λ i=>(i.zero,i.size,i.bytes))=some (some (.agg #[V0,V0,V0]),3,24) by kernel_rfl);refine Yz Tryz.func98 rfl (n:=89) Tryz.ntmps98 Sz ?_;intro a0 S O ha;have s0:a0.tmps[0]?.getD undef=.agg #[Sv a.A p.length a.c]:=ha 0 _ rfl;have s1:a0.tmps[1]?.getD undef=Vi bx:=ha 1 _ rfl;have s2:a0.tmps[2]?.getD undef=Vi by_:=ha 2 _ rfl;have s3:a0.tmps[3]?.getD undef=Vi lo:=ha 3 _ rfl;have s4:a0.tmps[4]?.getD undef=Vi hi:=ha 4 _ rfl;clear ha;have U:=Below.refl w.heap.size w;have X:=Nat.le_refl w.heap.size;refine wp_seq ?_;refine Yk [5,10,11] [Pz w.heap.size,Pz (w.heap.size+1),Bf] [some (.cells [Sv a.A p.length a.c].toArray 26),some (.cells [Nz].toArray 26),none] [0,1,2] [5,10,11] [0,1,2] (by kernel_rfl) (by rw [S];decide) (ec ?_ (ec ?_ (ec ?_ .nil))) ?_
 ·intro a w' K hs N Q F;simp [go_sem,K.g rfl s0];rw [hs];exact F
 ·intro a w' K hs N Q F;simp [go_sem];rw [hs];exact F
 ·intro a w' K hs N Q F;simp [go_sem];exact F
 intro a1 w2 K V hb hO;replace S:=K.size.trans S;replace O:=K.defers.trans O;replace s1:=K.g rfl s1;replace s2:=K.g rfl s2;replace s3:=K.g rfl s3;replace s4:=K.g rfl s4;have s5:a1.tmps[5]?.getD undef=Pz w.heap.size:=V 0 Dz;have s10:a1.tmps[10]?.getD undef=Pz (w.heap.size+1):=V 1 Dz;have b3:Xq w2 w.heap.size 26 [Sv a.A p.length a.c]:=hO 0 _ rfl;have b4:Xq w2 (w.heap.size+1) 26 [Nz]:=hO 1 _ rfl;have hG:=b4.lt;replace U:=Xf U hb;have zw2:=Nat.le_trans X hb.size;replace X:=Nat.le_refl w2.heap.size;clear K V hb hO s0;refine Xi (wp_seq (wp_seq ?_));rcases Bool.eq_false_or_eq_true (decide (p.length=0)) with q5|q5
 ·refine Xl [19,20,21,22,23,24,25,26,27,28] [some (.agg #[Sv a.A p.length a.c]),some Bt,some Bt,some (undef),some (undef),some (undef),some (undef),some (undef),some (undef),some Bt] (X9 10) [19,20,21,22,23,24,25,26,27,28] [] (λ _ _ _=>True) ?_ (e2 ?_ ?_ (en rfl ?_ (eg ?_ (eg ?_ (eg ?_ (eg ?_ (eg ?_ (eg ?_ (en rfl ?_ .nil))))))))) ?_
  ·exact λ _ _=>trivial
  ·intro M J I H _ _ F;simp [go_sem,H.f.g rfl s5,(b3.k0 H.k).cell];exact (F _ _ H.k rfl trivial)
  ·intro M J I H _ _ F;simp [go_sem,(gS J 19 (H.d 0 rfl rfl))];refine (ZW p a I).mono ?_;rintro x wx ⟨rfl,hb⟩;exact (F _ _ (H.k.call hb) (by show _=_;simp only [q5]) trivial)
  ·exact KC 1 rfl rfl rfl rfl
  ·intro M J I H _ _ F;refine wnt_n rfl rfl rfl (H.d 2 rfl rfl) Dz ?_;exact F _ _ H.k rfl trivial
  ·intro M J I H _ _ F;refine wnt_n rfl rfl rfl (H.d 2 rfl rfl) Dz ?_;exact F _ _ H.k rfl trivial
  ·intro M J I H _ _ F;refine wnt_n rfl rfl rfl (H.d 2 rfl rfl) Dz ?_;exact F _ _ H.k rfl trivial
  ·intro M J I H _ _ F;refine wnt_u rfl rfl rfl (H.d 5 rfl rfl) ?_;exact F _ _ H.k rfl trivial
  ·intro M J I H _ _ F;refine wnt_u rfl rfl rfl (H.d 5 rfl rfl) ?_;exact F _ _ H.k rfl trivial
  ·intro M J I H _ _ F;refine wnt_n rfl rfl rfl (H.d 2 rfl rfl) Dz ?_;exact F _ _ H.k rfl trivial
  ·exact λ M J I H _ _ F=>Za rfl (ev (H.d 2 rfl rfl)) (λ _=>rfl) Cz (F _ _ H.k rfl trivial)
  intro L a6 w7 W K P V hX;replace S:=K.Z S;replace O:=K.E O;obtain ⟨s1,s2,s3,s4,s5,s10⟩:=K.G6 s1 s2 s3 s4 s5 s10;have s28:=gS a6 28 (V 9 _ rfl);replace b3:=b3.k0 P;replace b4:=b4.k0 P;replace X:=Nat.le_trans X P.size;replace U:=P.below0 U;clear K P V W hX;refine Xi ?_;refine wp_cond_true (ev s28) ?_;refine wp_seq ?_;have hX0:=Xd.e 30 1 (λ I v=>∃ m1,v=.agg #[Sv m1.A p.length m1.c]/\X1 I w7.heap.size p m1) (λ hb _ h=>by obtain ⟨m1',e,f1'⟩:=h;exact ⟨m1',e,f1'.below hb Xy⟩);have hX1:Xd [] (λ L aa I=>XY I (w.heap.size+1) 26 [Nz] (L 2) (λ I vs=>∃ m1,vs=[Sv m1.A p.length m1.c]/\X1 I w7.heap.size p m1)):=λ L aa I w' kk vv hkk hb x1=>(x1.bel hb (λ _ ⟨m1',e,f1'⟩=>⟨m1',e,f1'.below hb Xy⟩));have C:=hX0.a hX1;refine Xr C [29,30,0,11] [some (.agg #[Sv a.A p.length a.c]),none,none,some Bt] (X9 4) [29,30,11] [(w.heap.size+1)] ?_ (e4 ?_ ?_ ?_ ?_ .nil) ?_
  ·exact λ _ h=>⟨Cz,(⟨λ _=>b4.kp h Sz,Cz⟩)⟩
  ·intro M J I H _ _ F;simp [go_sem,H.f.g rfl s5,(b3.kp H.k (by simp<;>omega)).cell];exact (F _ _ H.k rfl (C.q rfl H.x))
  ·intro M J I H _ _ F;obtain ⟨x0,x1⟩:=H.x;simp [go_sem,(gS J 29 (H.d 0 rfl rfl))];have hBi:=H.k.below U U.size (by simp<;>omega);refine (Jh p a I (by have:=Y0 hp;omega) (hsp.below hBi)).mono ?_;rintro x wx ⟨m1,rfl,f0,hb⟩;have f1:=f0.mono H.k.size;exact (F _ _ (H.k.call hb) trivial ⟨(λ _=>⟨m1,H.f.s S,f1⟩),(x1.bel hb (λ _ ⟨m1',e,f1'⟩=>⟨m1',e,f1'.below hb Xy⟩))⟩)
  ·intro M J I H _ _ F;obtain ⟨x0,x1⟩:=H.x;obtain ⟨m1,ee1,f1⟩:=x0 (H.r 1 rfl);have Y:=x1.1 H.n;simp [go_sem,ee1,H.f.g rfl s10,Y.cell,Y.frz];have f1:=f1.otherT Y Dz [Sv m1.A p.length m1.c] 0;exact F undef _ (H.k.store (.inr Sz) [Sv m1.A p.length m1.c] 0) trivial ⟨(λ h=>by obtain ⟨m1',e,f1'⟩:=x0 h;exact ⟨m1',e,f1'.otherT Y Dz [Sv m1.A p.length m1.c] 0⟩),(XY.set Y (us:=[Sv m1.A p.length m1.c]) rfl ⟨m1,rfl,f1⟩)⟩
  ·exact JL rfl rfl λ _ _ _ _=>C.q rfl
  intro L a8 w9 W K P V hX;obtain ⟨x0,x1⟩:=hX;replace S:=K.Z S;replace O:=K.E O;replace s10:=K.G s10;have s11:=gS a8 11 (V 3 _ rfl);clear b4;obtain ⟨_,b4,m1,rfl,N1⟩:=x1.2 (W 2 Dz);have zw7:=X;have zw9:=P.size;replace X:=Nat.le_refl w9.heap.size;replace U:=P.below U U.size (by simp<;>omega);clear K P V W x0 x1 C hX0 hX1 s1 s2 s3 s4 s5 s28 b3;refine Xi (wp_ret (Ki ?_));refine bodyPost_ret (v:=.tuple #[.agg #[Sv m1.A p.length m1.c],Bt]) (by simp [results,Tryz.results98,go_sem,s10,b4.cell,s11]) O ?_;have hT:growT p bx by_=true:=by unfold growT;rw [q5];rfl
  have h0:=grow_triv (lo:=lo) (hi:=hi) hT;exact ⟨_,by rw [h0.1],by rw [h0.2];exact N1.halves.mono Oz,U⟩
 ·refine Xl [19,20,21,22,23,24,25,26,27,28] [some (.agg #[Sv a.A p.length a.c]),some Bf,some Bf,some (Vi bx),some (Bv (bx == 0)),some (Bv (bx == 0)),some ((bif bx == 0 then (Vi by_:Value) else undef)),some ((bif bx == 0 then (Bv (by_ == 0):Value) else undef)),some (Bv (bx == 0&&by_ == 0)),some (Bv (bx == 0&&by_ == 0))] (X9 10) [19,20,21,22,23,24,25,26,27,28] [] (λ _ _ _=>True) ?_ (e2 ?_ ?_ (en rfl ?_ (eg ?_ (eg ?_ (eg ?_ (eg ?_ (eg ?_ (eg ?_ (en rfl ?_ .nil))))))))) ?_
  ·exact λ _ _=>trivial
  ·intro M J I H _ _ F;simp [go_sem,H.f.g rfl s5,(b3.k0 H.k).cell];exact (F _ _ H.k rfl trivial)
  ·intro M J I H _ _ F;simp [go_sem,(gS J 19 (H.d 0 rfl rfl))];refine (ZW p a I).mono ?_;rintro x wx ⟨rfl,hb⟩;exact (F _ _ (H.k.call hb) (by show _=_;simp only [q5]) trivial)
  ·exact KC 1 rfl rfl rfl rfl
  ·intro M J I H _ _ F;refine YM rfl rfl rfl (H.d 2 rfl rfl) ?_;exact XQ rfl (ev (H.f.g rfl s1)) (F _ _ H.k rfl trivial)
  ·intro M J I H _ _ F;refine YM rfl rfl rfl (H.d 2 rfl rfl) ?_;exact Y8 rfl (ev (H.d 3 rfl rfl)) rfl rfl rfl (F _ _ H.k rfl trivial)
  ·intro M J I H _ _ F;refine YM rfl rfl rfl (H.d 2 rfl rfl) ?_;exact XQ rfl (ev (H.d 4 rfl rfl)) (F _ _ H.k rfl trivial)
  ·intro M J I H _ _ F;refine wgt rfl rfl rfl (H.d 5 rfl rfl) (λ qg=>F _ _ H.k (XC qg).symm trivial) λ qg=>?_;exact XQ rfl (ev (H.f.g rfl s2)) (F _ _ H.k (Xz qg).symm trivial)
  ·intro M J I H _ _ F;refine wgt rfl rfl rfl (H.d 5 rfl rfl) (λ qg=>F _ _ H.k (XC qg).symm trivial) λ qg=>?_;exact Y8 rfl (ev ((H.d 6 rfl rfl).trans (Xz qg))) rfl rfl rfl (F _ _ H.k (Xz qg).symm trivial)
  ·intro M J I H _ _ F;refine YM rfl rfl rfl (H.d 2 rfl rfl) ?_;exact Za rfl (ev (H.d 5 rfl rfl)) (λ h=>(ev ((H.d 7 rfl rfl).trans (Xz h))).trans (J9 h)) (λ h=>vand_f h) (F _ _ H.k rfl trivial)
  ·exact λ M J I H _ _ F=>Za rfl (ev (H.d 2 rfl rfl)) Cz (λ _=>(ev (H.d 8 rfl rfl))) (F _ _ H.k rfl trivial)
  intro L a10 w11 W K P V hX;replace S:=K.Z S;replace O:=K.E O;obtain ⟨s1,s2,s3,s4,s5,s10⟩:=K.G6 s1 s2 s3 s4 s5 s10;have s28:=gS a10 28 (V 9 _ rfl);replace b3:=b3.k0 P;replace b4:=b4.k0 P;replace X:=Nat.le_trans X P.size;replace U:=P.below0 U;clear K P V W hX;refine Xi ?_;rcases Bool.eq_false_or_eq_true (bx == 0&&by_ == 0) with q12|q12
  ·refine wp_cond_true (ev (vb s28 q12)) ?_;refine wp_seq ?_;have hX0:=Xd.e 30 1 (λ I v=>∃ m2,v=.agg #[Sv m2.A p.length m2.c]/\X1 I w11.heap.size p m2) (λ hb _ h=>by obtain ⟨m2',e,f2'⟩:=h;exact ⟨m2',e,f2'.below hb Xy⟩);have hX1:Xd [] (λ L aa I=>XY I (w.heap.size+1) 26 [Nz] (L 2) (λ I vs=>∃ m2,vs=[Sv m2.A p.length m2.c]/\X1 I w11.heap.size p m2)):=λ L aa I w' kk vv hkk hb x1=>(x1.bel hb (λ _ ⟨m2',e,f2'⟩=>⟨m2',e,f2'.below hb Xy⟩));have C:=hX0.a hX1;refine Xr C [29,30,0,11] [some (.agg #[Sv a.A p.length a.c]),none,none,some Bt] (X9 4) [29,30,11] [(w.heap.size+1)] ?_ (e4 ?_ ?_ ?_ ?_ .nil) ?_
   ·exact λ _ h=>⟨Cz,(⟨λ _=>b4.kp h Sz,Cz⟩)⟩
   ·intro M J I H _ _ F;simp [go_sem,H.f.g rfl s5,(b3.kp H.k (by simp<;>omega)).cell];exact (F _ _ H.k rfl (C.q rfl H.x))
   ·intro M J I H _ _ F;obtain ⟨x0,x1⟩:=H.x;simp [go_sem,(gS J 29 (H.d 0 rfl rfl))];have hBi:=H.k.below U U.size (by simp<;>omega);refine (Jh p a I (by have:=Y0 hp;omega) (hsp.below hBi)).mono ?_;rintro x wx ⟨m2,rfl,f0,hb⟩;have f2:=f0.mono H.k.size;exact (F _ _ (H.k.call hb) trivial ⟨(λ _=>⟨m2,H.f.s S,f2⟩),(x1.bel hb (λ _ ⟨m2',e,f2'⟩=>⟨m2',e,f2'.below hb Xy⟩))⟩)
   ·intro M J I H _ _ F;obtain ⟨x0,x1⟩:=H.x;obtain ⟨m2,ee1,f2⟩:=x0 (H.r 1 rfl);have Y:=x1.1 H.n;simp [go_sem,ee1,H.f.g rfl s10,Y.cell,Y.frz];have f2:=f2.otherT Y Dz [Sv m2.A p.length m2.c] 0;exact F undef _ (H.k.store (.inr Sz) [Sv m2.A p.length m2.c] 0) trivial ⟨(λ h=>by obtain ⟨m2',e,f2'⟩:=x0 h;exact ⟨m2',e,f2'.otherT Y Dz [Sv m2.A p.length m2.c] 0⟩),(XY.set Y (us:=[Sv m2.A p.length m2.c]) rfl ⟨m2,rfl,f2⟩)⟩
   ·exact JL rfl rfl λ _ _ _ _=>C.q rfl
   intro L a13 w14 W K P V hX;obtain ⟨x0,x1⟩:=hX;replace S:=K.Z S;replace O:=K.E O;replace s10:=K.G s10;have s11:=gS a13 11 (V 3 _ rfl);clear b4;obtain ⟨_,b4,m2,rfl,N2⟩:=x1.2 (W 2 Dz);have zw11:=X;have zw14:=P.size;replace X:=Nat.le_refl w14.heap.size;replace U:=P.below U U.size (by simp<;>omega);clear K P V W x0 x1 C hX0 hX1 s1 s2 s3 s4 s5 s28 b3;refine Xi (wp_ret (Ki ?_));refine bodyPost_ret (v:=.tuple #[.agg #[Sv m2.A p.length m2.c],Bt]) (by simp [results,Tryz.results98,go_sem,s10,b4.cell,s11]) O ?_;have hT:growT p bx by_=true:=by unfold growT;rw [q5,q12];rfl
   have h0:=grow_triv (lo:=lo) (hi:=hi) hT;exact ⟨_,by rw [h0.1],by rw [h0.2];exact N2.halves.mono Oz,U⟩
  ·have hT:growT p bx by_=false:=by unfold growT;rw [q5,q12];rfl
   obtain ⟨hne,hnz⟩:=grow_ne hT;refine wp_cond_false (ev (vb s28 q12)) ?_;refine wp_skip (Xi (wp_seq ?_));have hX0:=Xd.e 35 3 (λ I v=>∃ A3 c3,v=.tuple #[Sv A3 ((sdL p (Zh bx by_) (Zf bx by_)).length) c3,Bv (sdO p (Zh bx by_) (Zf bx by_))]/\XG 136 3 Xe I w11.heap.size (Sv A3 (sdL p (Zh bx by_) (Zf bx by_)).length c3) (sdL p (Zh bx by_) (Zf bx by_))) (λ hb _ h=>by obtain ⟨A3',c3',e,f3'⟩:=h;exact ⟨A3',c3',e,f3'.below hb Xy⟩);have hX1:=Xd.e 31 4 (λ I v=>∃ A3 c3,v=.tuple #[Sv A3 ((sdL p (Zh bx by_) (Zf bx by_)).length) c3,Bv (sdO p (Zh bx by_) (Zf bx by_))]/\XG 136 3 Xe I w11.heap.size (Sv A3 (sdL p (Zh bx by_) (Zf bx by_)).length c3) (sdL p (Zh bx by_) (Zf bx by_))) (λ hb _ h=>by obtain ⟨A3',c3',e,f3'⟩:=h;exact ⟨A3',c3',e,f3'.below hb Xy⟩);have hX2:=Xd.e 36 5 (λ I v=>∃ A3 c3,v=Sv A3 ((sdL p (Zh bx by_) (Zf bx by_)).length) c3/\XG 136 3 Xe I w11.heap.size (Sv A3 (sdL p (Zh bx by_) (Zf bx by_)).length c3) (sdL p (Zh bx by_) (Zf bx by_))) (λ hb _ h=>by obtain ⟨A3',c3',e,f3'⟩:=h;exact ⟨A3',c3',e,f3'.below hb Xy⟩);have hX3:=Xd.e 12 7 (λ I v=>∃ A3 c3,v=Sv A3 ((sdL p (Zh bx by_) (Zf bx by_)).length) c3/\XG 136 3 Xe I w11.heap.size (Sv A3 (sdL p (Zh bx by_) (Zf bx by_)).length c3) (sdL p (Zh bx by_) (Zf bx by_))) (λ hb _ h=>by obtain ⟨A3',c3',e,f3'⟩:=h;exact ⟨A3',c3',e,f3'.below hb Xy⟩);have C:=hX0.a (hX1.a (hX2.a hX3));refine Xr C [32,33,34,35,31,36,37,12,13] [some (.agg #[Sv a.A p.length a.c]),some (Vi bx),some (Vi by_),none,none,none,some (Bv (sdO p (Zh bx by_) (Zf bx by_))),none,some (Bv (sdO p (Zh bx by_) (Zf bx by_)))] (X9 9) [32,33,34,35,31,36,37,12,13] [] ?_ (e4 ?_ ?_ ?_ ?_ (e4 ?_ ?_ ?_ ?_ (en rfl ?_ .nil))) ?_
   ·exact λ _ h=>⟨Cz,Cz,Cz,Cz⟩
   ·intro M J I H _ _ F;simp [go_sem,H.f.g rfl s5,(b3.k0 H.k).cell];exact (F _ _ H.k rfl (C.q rfl H.x))
   ·exact Y4 s1 rfl rfl rfl λ _ _ _ _=>C.q rfl
   ·exact Y4 s2 rfl rfl rfl λ _ _ _ _=>C.q rfl
   ·intro M J I H _ _ F;obtain ⟨x0,x1,x2,x3⟩:=H.x;simp [go_sem,(gS J 32 (H.d 0 rfl rfl)),(gS J 33 (H.d 1 rfl rfl)),(gS J 34 (H.d 2 rfl rfl))];have hBi:=H.k.below0 U;refine (iSides_c p bx by_ a I hp hne ⟨D.x,D.y,hnz⟩ (hsp.below hBi)).mono ?_;rintro x wx ⟨A3,c3,rfl,f0,hb⟩;have f3:=f0.mono H.k.size;exact (F _ _ (H.k.call hb) trivial ⟨(λ _=>⟨A3,c3,H.f.s S,f3⟩),(hX1.b rfl hb x1),(hX2.b rfl hb x2),(hX3.b rfl hb x3)⟩)
   ·intro M J I H _ _ F;obtain ⟨x0,x1,x2,x3⟩:=H.x;obtain ⟨A3,c3,ee3,f3⟩:=x0 (H.r 3 rfl);exact XQ rfl (ev ee3) (F _ _ H.k trivial ⟨(hX0.q rfl x0),(λ _=>⟨A3,c3,H.f.s S,f3⟩),(hX2.q rfl x2),(hX3.q rfl x3)⟩)
   ·intro M J I H _ _ F;obtain ⟨x0,x1,x2,x3⟩:=H.x;obtain ⟨A3,c3,ee4,f3⟩:=x1 (H.r 4 rfl);exact XI rfl (ev ee4) rfl (F _ _ H.k trivial ⟨(hX0.q rfl x0),(hX1.q rfl x1),(λ _=>⟨A3,c3,H.f.s S,f3⟩),(hX3.q rfl x3)⟩)
   ·intro M J I H _ _ F;obtain ⟨x0,x1,x2,x3⟩:=H.x;obtain ⟨A3,c3,ee4,f3⟩:=x1 (H.r 4 rfl);exact XI rfl (ev ee4) rfl (F _ _ H.k rfl (C.q rfl H.x))
   ·intro M J I H _ _ F;obtain ⟨x0,x1,x2,x3⟩:=H.x;obtain ⟨A3,c3,ee5,f3⟩:=x2 (H.r 5 rfl);exact ZL rfl (ev ee5) (F _ _ H.k trivial ⟨(hX0.q rfl x0),(hX1.q rfl x1),(hX2.q rfl x2),(λ _=>⟨A3,c3,H.f.s S,f3⟩)⟩)
   ·exact KS 6 rfl rfl rfl rfl λ _ _ _ _=>C.q rfl
   intro L a15 w16 W K P V hX;obtain ⟨x0,x1,x2,x3⟩:=hX;replace S:=K.Z S;replace O:=K.E O;obtain ⟨s1,s2,s3,s4,s5,s10⟩:=K.G6 s1 s2 s3 s4 s5 s10;have s13:=gS a15 13 (V 8 _ rfl);replace b3:=b3.k0 P;replace b4:=b4.k0 P;obtain ⟨A3,c3,s12,N3⟩:=x3 (W 7 Dz);have i3:∀ p,A3=some p->p.block<w16.heap.size:=λ p hp=>(N3.blk p hp).2;have zw11:=X;have zw16:=P.size;replace X:=Nat.le_refl w16.heap.size;replace U:=P.below0 U;clear K P V W x0 x1 x2 x3 C hX0 hX1 hX2 hX3 s28;refine Xi (wp_seq (wp_seq ?_));refine Xl [38,39] [some (Bv (sdO p (Zh bx by_) (Zf bx by_))),some (Bv (!(sdO p (Zh bx by_) (Zf bx by_))))] (X9 2) [38,39] [] (λ _ _ _=>True) ?_ (e2 ?_ ?_ .nil) ?_
   ·exact λ _ _=>trivial
   ·exact Kq s13 rfl rfl rfl
   ·exact JC 0 rfl rfl rfl rfl
   intro L a17 w18 W K P V hX;replace S:=K.Z S;replace O:=K.E O;obtain ⟨s1,s2,s3,s4,s5,s10,s12⟩:=K.G7 s1 s2 s3 s4 s5 s10 s12;have s39:=gS a17 39 (V 1 _ rfl);replace b3:=b3.k0 P;replace b4:=b4.k0 P;replace N3:=N3.below P.toBelow Xy;replace X:=Nat.le_trans X P.size;replace U:=P.below0 U;clear K P V W hX s13;refine Xi ?_;rcases Bool.eq_false_or_eq_true (!(sdO p (Zh bx by_) (Zf bx by_))) with q19|q19
   ·refine wp_cond_true (ev (vb s39 q19)) ?_;refine wp_seq ?_;have C:Xd [] (λ L aa I=>XY I (w.heap.size+1) 26 [Nz] (L 1) (λ _ vs=>vs=[Nz])):=λ L aa I w' kk vv hkk hb x0=>(x0.bel hb (λ _ h=>h));refine Xr C [40,0,11] [some (.agg #[Nz]),none,some Bf] (X9 3) [40,11] [(w.heap.size+1)] ?_ (e2 ?_ ?_ (en rfl ?_ .nil)) ?_
    ·exact λ _ h=>(⟨λ _=>b4.kp h Sz,Cz⟩)
    ·intro M J I H _ _ F;simp [go_sem];exact (F _ _ H.k rfl H.x)
    ·intro M J I H _ _ F;have x0:=H.x;have Y:=x0.1 H.n;simp [go_sem,(gS J 40 (H.d 0 rfl rfl)),H.f.g rfl s10,Y.cell,Y.frz];exact F undef _ (H.k.store (.inr Sz) [Nz] 0) trivial (XY.set Y (us:=[Nz]) rfl rfl)
    ·exact JL rfl rfl λ _ _ _ _ h=>h
    intro L a20 w21 W K P V hX;have x0:=hX;replace S:=K.Z S;replace O:=K.E O;replace s10:=K.G s10;have s11:=gS a20 11 (V 2 _ rfl);clear b4;obtain ⟨_,b4,rfl⟩:=x0.2 (W 1 Dz);replace X:=Nat.le_trans X P.size;replace U:=P.below U U.size (by simp<;>omega);clear K P V W x0 C s1 s2 s3 s4 s5 s12 s39 b3 N3 i3;refine Xi (wp_ret (Ki ?_));refine bodyPost_ret (v:=.tuple #[.agg #[Nz],Bf]) (by simp [results,Tryz.results98,go_sem,s10,b4.cell,s11]) O ?_;have h0:=grow_side (lo:=lo) (hi:=hi) hT (JD q19);exact ⟨_,by rw [h0.1],by rw [h0.2];exact XG.nilN _ _ _ _ _,U⟩
   ·refine wp_cond_false (ev (vb s39 q19)) ?_;refine wp_skip (Xi (wp_seq (wp_seq ?_)));refine Xl [41,42,43,44] [some (Pz w.heap.size),some (Sv a.A p.length a.c),some (Vi (p.length:Int)),some V0] (X9 4) [41,42,43,44] [] (λ _ _ _=>True) ?_ (e4 ?_ ?_ ?_ ?_ .nil) ?_
    ·exact λ _ _=>trivial
    ·intro M J I H _ _ F;simp [go_sem,H.f.g rfl s5];exact (F _ _ H.k rfl trivial)
    ·intro M J I H _ _ F;simp [go_sem,(gS J 41 (H.d 0 rfl rfl)),(b3.k0 H.k).cell];exact (F _ _ H.k rfl trivial)
    ·intro M J I H _ _ F;simp [go_sem,(gS J 42 (H.d 1 rfl rfl))];exact (F _ _ H.k rfl trivial)
    ·exact oMCT rfl rfl
    intro L a22 w23 W K P V hX;replace S:=K.Z S;replace O:=K.E O;obtain ⟨s1,s2,s3,s4,s10,s12⟩:=K.G6 s1 s2 s3 s4 s10 s12;have s42:=gS a22 42 (V 1 _ rfl);have s43:=gS a22 43 (V 2 _ rfl);have s44:=gS a22 44 (V 3 _ rfl);replace b4:=b4.k0 P;replace N3:=N3.below P.toBelow Xy;replace X:=Nat.le_trans X P.size;replace U:=P.below0 U;clear K P V W hX s5 s39 b3;refine Xi (wp_block ?_);refine wp_loop (λ al wl=>al.tmps.size=89/\al.defers=[]/\∃ (k:Nat) (A4:Option Addr) (c4:Nat),(k<=p.length)/\(Zj (Yl bx by_ lo hi) (p.take k)=true)/\al.tmps[1]?.getD undef=Vi bx/\al.tmps[2]?.getD undef=Vi by_/\al.tmps[3]?.getD undef=Vi lo/\al.tmps[4]?.getD undef=Vi hi/\al.tmps[10]?.getD undef=Pz (w.heap.size+1)/\al.tmps[12]?.getD undef=Sv A4 ((sdL p (Zh bx by_) (Zf bx by_)++Ks (Yl bx by_ lo hi) (p.take k)).length) c4/\al.tmps[42]?.getD undef=Sv a.A p.length a.c/\al.tmps[43]?.getD undef=Vi (p.length:Int)/\al.tmps[44]?.getD undef=Vi (k:Int)/\Xq wl (w.heap.size+1) 26 [Nz]/\XG 136 3 Xe wl w11.heap.size (Sv A4 (sdL p (Zh bx by_) (Zf bx by_)++Ks (Yl bx by_ lo hi) (p.take k)).length c4) (sdL p (Zh bx by_) (Zf bx by_)++Ks (Yl bx by_ lo hi) (p.take k))/\Below w.heap.size w wl/\w16.heap.size<=wl.heap.size) (λ al _=>(p.length-(intOf (al.tmps[44]?.getD undef)).toNat)) ?_ ?_
    ·exact ⟨S,O,(0),(A3),(c3),(Nat.zero_le _),(rfl),s1,s2,s3,s4,s10,s12,s42,s43,s44,b4,(N3),U,Oz⟩
    clear S O U X s1 s2 s3 s4 s10 s12 s42 s43 s44 b4 N3;rintro a24 w25 ⟨S,O,k,A4,c4,hk,hall,s1,s2,s3,s4,s10,s12,s42,s43,s44,b4,N4,U,X⟩;have zw25:=X;replace X:=Nat.le_refl w25.heap.size;have i4:∀ p,A4=some p->p.block<w25.heap.size:=λ p hp=>(N4.blk p hp).2;have hmu:(p.length-(intOf (a24.tmps[44]?.getD undef)).toNat)=(p.length-(intOf ((Vi (k:Int)))).toNat):=by rw [s44]
    refine wp_seq ?_;refine Xl [45] [some (Bv (decide ((k:Int)<(p.length:Int))))] (X9 1) [45] [] (λ _ _ _=>True) ?_ (en rfl ?_ .nil) ?_
    ·exact λ _ _=>trivial
    ·exact λ M J I H _ _ F=>Y8 rfl (ev (H.f.g rfl s44)) (ev (H.f.g rfl s43)) rfl rfl (F _ _ H.k rfl trivial)
    intro L a26 w27 W K P V hX;replace S:=K.Z S;replace O:=K.E O;obtain ⟨s1,s2,s3,s4,s10,s12,s42,s43⟩:=K.G8 s1 s2 s3 s4 s10 s12 s42 s43;replace s44:=K.G s44;have s45:=gS a26 45 (V 0 _ rfl);replace b4:=b4.k0 P;replace N4:=N4.below P.toBelow Xy;replace X:=Nat.le_trans X P.size;replace U:=P.below0 U;clear K P V W hX;refine Xi (wp_seq ?_);rcases Bool.eq_false_or_eq_true (decide ((k:Int)<(p.length:Int))) with q28|q28
    ·have hkl:k<p.length:=by have:=J0 q28;omega
     obtain ⟨bp,op,ep,fp⟩:=ElS.open_ (hsp.below U) Oz;have hh:=getD_halfOk hkl hp;obtain ⟨⟨k1,k2⟩,⟨k3,k4⟩,⟨k5,k6⟩,⟨k7,k8⟩⟩:=growB D hh;obtain ⟨⟨h1,h2⟩,⟨h3,h4⟩,⟨h5,h6⟩,_⟩:=Zk.1 hh;refine wp_cond_true (ev (vb s45 q28)) ?_;refine wp_skip (Xi (wp_seq (wp_block (wp_seq ?_))));have C:=Xd.x 15 2 3 w27 136 [V0,V0,V0] (λ _ vs=>vs=[Vi ((p.getD k Xa).a),Vi ((p.getD k Xa).b),Vi ((p.getD k Xa).c)]) (λ _ _ h=>h);refine Xr C [46,47,15,0] [some (.pointer (some ⟨bp,op+k*3,none⟩)),some (YI (p.getD k Xa)),none,none] (X9 4) [46,47,15] [] ?_ (e4 ?_ ?_ ?_ ?_ .nil) ?_
     ·exact λ _ h=>Cz
     ·intro M J I H _ _ F;simp [go_sem,H.f.g rfl s42,H.f.g rfl s44,hkl,ep];exact (F _ _ H.k rfl (C.q rfl H.x))
     ·intro M J I H _ _ F;have hE:=fp.kp H.k Sz;simp [go_sem,(gS J 46 (H.d 0 rfl rfl)),(hE.at_ Xa (i:=k) Oz 0 (p:=op+k*3) Oz rfl),(hE.at_ Xa (i:=k) Oz 1 (p:=op+k*3+1) Oz rfl),(hE.at_ Xa (i:=k) Oz 2 (p:=op+k*3+2) Oz rfl)];exact (F _ _ H.k rfl (C.q rfl H.x))
     ·intro M J I H _ _ F;have x0:=H.x;simp [go_sem];exact F _ _ (H.k.alloc _) trivial (λ _=>by rw [show Yc M 2 3=false from H.t 3 rfl];exact X6.new (s:=15) (H.f.lt (by rw [S];decide)) H.k.size [V0,V0,V0])
     ·intro M J I H _ _ F;have x0:=H.x;obtain ⟨g,eg,hg,y,_⟩:=x0 (H.r 2 rfl);have Y:=y H.n;simp [go_sem,(gS J 47 (H.d 1 rfl rfl)),eg,Y.cell,Y.frz];exact F undef _ (H.k.store (.inl hg) [Vi ((p.getD k Xa).a),Vi ((p.getD k Xa).b),Vi ((p.getD k Xa).c)] 0) trivial (λ _=>X6.set eg hg Y (us:=[Vi ((p.getD k Xa).a),Vi ((p.getD k Xa).b),Vi ((p.getD k Xa).c)]) rfl rfl)
     intro L a29 w30 W K P V hX;have x0:=hX;replace S:=K.Z S;replace O:=K.E O;obtain ⟨s1,s2,s3,s4,s10,s12,s42,s43⟩:=K.G8 s1 s2 s3 s4 s10 s12 s42 s43;replace s44:=K.G s44;replace b4:=b4.k0 P;obtain ⟨g31,s15,lg31,-,b31⟩:=x0 (W 2 Dz);obtain ⟨_,b31,rfl⟩:=b31 (W 3 Dz);have ug31:=b31.lt;replace N4:=N4.below P.toBelow Xy;have zw27:=X;have zw30:=P.size;replace X:=Nat.le_refl w30.heap.size;replace U:=P.below0 U;clear K P V W x0 C s45 fp;refine Xi (wp_seq ?_);refine Xl [48,49,50,51,52,53,54,55,56,16] [some (Pz g31),some (Vi ((p.getD k Xa).a)),some (Vi bx),some (Vi (((p.getD k Xa).a)*bx)),some (.pointer (some ⟨g31,1,none⟩)),some (Vi ((p.getD k Xa).b)),some (Vi by_),some (Vi (((p.getD k Xa).b)*by_)),some (Vi ((((p.getD k Xa).a)*bx)+(((p.getD k Xa).b)*by_))),some (Vi ((((p.getD k Xa).a)*bx)+(((p.getD k Xa).b)*by_)))] (X9 10) [48,49,50,51,52,53,54,55,56,16] [] (λ _ _ _=>True) ?_ (e4 ?_ ?_ ?_ ?_ (e4 ?_ ?_ ?_ ?_ (e2 ?_ ?_ .nil))) ?_
     ·exact λ _ _=>trivial
     ·intro M J I H _ _ F;simp [go_sem,H.f.g rfl s15];exact (F _ _ H.k rfl trivial)
     ·intro M J I H _ _ F;simp [go_sem,(gS J 48 (H.d 0 rfl rfl)),(b31.k0 H.k).cell];exact (F _ _ H.k rfl trivial)
     ·exact Kq s1 rfl rfl rfl
     ·exact λ M J I H _ _ F=>Zo rfl (ev (H.d 1 rfl rfl)) (ev (H.d 2 rfl rfl)) Oz (F _ _ H.k rfl trivial)
     ·intro M J I H _ _ F;simp [go_sem,H.f.g rfl s15];exact (F _ _ H.k rfl trivial)
     ·intro M J I H _ _ F;simp [go_sem,(gS J 52 (H.d 4 rfl rfl)),(b31.k0 H.k).cell];exact (F _ _ H.k rfl trivial)
     ·exact Kq s2 rfl rfl rfl
     ·exact λ M J I H _ _ F=>Zo rfl (ev (H.d 5 rfl rfl)) (ev (H.d 6 rfl rfl)) Oz (F _ _ H.k rfl trivial)
     ·exact λ M J I H _ _ F=>Zi rfl (ev (H.d 3 rfl rfl)) (ev (H.d 7 rfl rfl)) Oz (F _ _ H.k rfl trivial)
     ·exact Jm 8 rfl rfl rfl rfl
     intro L a32 w33 W K P V hX;replace S:=K.Z S;replace O:=K.E O;obtain ⟨s1,s2,s3,s4,s10,s12,s42,s43⟩:=K.G8 s1 s2 s3 s4 s10 s12 s42 s43;obtain ⟨s44,s15⟩:=K.G2 s44 s15;have s16:=gS a32 16 (V 9 _ rfl);replace b4:=b4.k0 P;replace b31:=b31.k0 P;replace N4:=N4.below P.toBelow Xy;replace X:=Nat.le_trans X P.size;replace U:=P.below0 U;clear K P V W hX;refine Xi (wp_seq ?_);have C:=Xd.x 17 20 21 w33 136 [V0,V0,V0] (λ _ vs=>vs=[Vi (((Yl bx by_ lo hi (p.getD k Xa)).getD Xa).a),Vi (((Yl bx by_ lo hi (p.getD k Xa)).getD Xa).b),Vi (((Yl bx by_ lo hi (p.getD k Xa)).getD Xa).c)]) (λ _ _ h=>h);refine Xr C [58,59,60,61,62,63,64,65,66,67,68,69,70,71,72,73,74,57,75,76,17,0,18] [some (Pz g31),some (Vi ((p.getD k Xa).a)),some (.pointer (some ⟨g31,1,none⟩)),some (Vi ((p.getD k Xa).b)),some (.pointer (some ⟨g31,2,none⟩)),some (Vi ((p.getD k Xa).c)),some (Vi lo),some (Vi (-lo)),some (Vi ((((p.getD k Xa).a)*bx)+(((p.getD k Xa).b)*by_))),some (Vi ((-lo)*((((p.getD k Xa).a)*bx)+(((p.getD k Xa).b)*by_)))),some (Vi hi),some (Vi (-hi)),some (Vi ((((p.getD k Xa).a)*bx)+(((p.getD k Xa).b)*by_))),some (Vi ((-hi)*((((p.getD k Xa).a)*bx)+(((p.getD k Xa).b)*by_)))),some (Vi (max ((-lo)*((((p.getD k Xa).a)*bx)+(((p.getD k Xa).b)*by_))) ((-hi)*((((p.getD k Xa).a)*bx)+(((p.getD k Xa).b)*by_))))),some (Vi (((p.getD k Xa).c)+(max ((-lo)*((((p.getD k Xa).a)*bx)+(((p.getD k Xa).b)*by_))) ((-hi)*((((p.getD k Xa).a)*bx)+(((p.getD k Xa).b)*by_)))))),some (.tuple #[YI ((Yl bx by_ lo hi (p.getD k Xa)).getD Xa),Bv ((Yl bx by_ lo hi (p.getD k Xa)).isSome)]),some (.tuple #[YI ((Yl bx by_ lo hi (p.getD k Xa)).getD Xa),Bv ((Yl bx by_ lo hi (p.getD k Xa)).isSome)]),some (YI ((Yl bx by_ lo hi (p.getD k Xa)).getD Xa)),some (Bv ((Yl bx by_ lo hi (p.getD k Xa)).isSome)),none,none,some (Bv ((Yl bx by_ lo hi (p.getD k Xa)).isSome))] (X9 23) [58,59,60,61,62,63,64,65,66,67,68,69,70,71,72,73,74,57,75,76,17,18] [] ?_ (e4 ?_ ?_ ?_ ?_ (e4 ?_ ?_ ?_ ?_ (e4 ?_ ?_ ?_ ?_ (e4 ?_ ?_ ?_ ?_ (e4 ?_ ?_ ?_ ?_ (e2 ?_ ?_ (en rfl ?_ .nil))))))) ?_
     ·exact λ _ h=>Cz
     ·intro M J I H _ _ F;simp [go_sem,H.f.g rfl s15];exact (F _ _ H.k rfl (C.q rfl H.x))
     ·intro M J I H _ _ F;simp [go_sem,(gS J 58 (H.d 0 rfl rfl)),(b31.k0 H.k).cell];exact (F _ _ H.k rfl (C.q rfl H.x))
     ·intro M J I H _ _ F;simp [go_sem,H.f.g rfl s15];exact (F _ _ H.k rfl (C.q rfl H.x))
     ·intro M J I H _ _ F;simp [go_sem,(gS J 60 (H.d 2 rfl rfl)),(b31.k0 H.k).cell];exact (F _ _ H.k rfl (C.q rfl H.x))
     ·intro M J I H _ _ F;simp [go_sem,H.f.g rfl s15];exact (F _ _ H.k rfl (C.q rfl H.x))
     ·intro M J I H _ _ F;simp [go_sem,(gS J 62 (H.d 4 rfl rfl)),(b31.k0 H.k).cell];exact (F _ _ H.k rfl (C.q rfl H.x))
     ·exact Y4 s3 rfl rfl rfl λ _ _ _ _=>C.q rfl
     ·exact λ M J I H _ _ F=>Ji rfl (ev (H.d 6 rfl rfl)) Oz (F _ _ H.k rfl (C.q rfl H.x))
     ·exact Y4 s16 rfl rfl rfl λ _ _ _ _=>C.q rfl
     ·exact λ M J I H _ _ F=>Zo rfl (ev (H.d 7 rfl rfl)) (ev (H.d 8 rfl rfl)) Oz (F _ _ H.k rfl (C.q rfl H.x))
     ·exact Y4 s4 rfl rfl rfl λ _ _ _ _=>C.q rfl
     ·exact λ M J I H _ _ F=>Ji rfl (ev (H.d 10 rfl rfl)) Oz (F _ _ H.k rfl (C.q rfl H.x))
     ·exact Y4 s16 rfl rfl rfl λ _ _ _ _=>C.q rfl
     ·exact λ M J I H _ _ F=>Zo rfl (ev (H.d 11 rfl rfl)) (ev (H.d 12 rfl rfl)) Oz (F _ _ H.k rfl (C.q rfl H.x))
     ·intro M J I H _ _ F;simp [go_sem,(gS J 67 (H.d 9 rfl rfl)),(gS J 71 (H.d 13 rfl rfl))];exact (F _ _ H.k rfl (C.q rfl H.x))
     ·exact λ M J I H _ _ F=>Zi rfl (ev (H.d 5 rfl rfl)) (ev (H.d 14 rfl rfl)) Oz (F _ _ H.k rfl (C.q rfl H.x))
     ·intro M J I H _ _ F;simp [go_sem,(gS J 59 (H.d 1 rfl rfl)),(gS J 61 (H.d 3 rfl rfl)),(gS J 73 (H.d 15 rfl rfl))];refine (show Calls Tryz.prog 142 #[Vi (p.getD k Xa).a,Vi (p.getD k Xa).b,Vi ((p.getD k Xa).c+max (-lo*((p.getD k Xa).a*bx+(p.getD k Xa).b*by_)) (-hi*((p.getD k Xa).a*bx+(p.getD k Xa).b*by_)))] I (λ e w'=>e=.returned (Kr (Yl bx by_ lo hi (p.getD k Xa)))/\Below I.heap.size I w') from iHalfOf_c _ _ _ I ⟨Oz,Oz⟩ ⟨Oz,Oz⟩ ⟨Oz,Oz⟩).mono ?_;rintro x wx ⟨rfl,hb⟩;exact (F _ _ (H.k.call hb) (optHalf_eq _) (C.b rfl hb H.x))
     ·exact oMDX 16 rfl rfl rfl rfl λ _ _ _ _=>C.q rfl
     ·exact JV 17 rfl rfl rfl rfl rfl λ _ _ _ _=>C.q rfl
     ·exact JV 17 rfl rfl rfl rfl rfl λ _ _ _ _=>C.q rfl
     ·intro M J I H _ _ F;have x0:=H.x;simp [go_sem];exact F _ _ (H.k.alloc _) trivial (λ _=>by rw [show Yc M 20 21=false from H.t 21 rfl];exact X6.new (s:=17) (H.f.lt (by rw [S];decide)) H.k.size [V0,V0,V0])
     ·intro M J I H _ _ F;have x0:=H.x;obtain ⟨g,eg,hg,y,_⟩:=x0 (H.r 20 rfl);have Y:=y H.n;simp [go_sem,(gS J 75 (H.d 18 rfl rfl)),eg,Y.cell,Y.frz];exact F undef _ (H.k.store (.inl hg) [Vi (((Yl bx by_ lo hi (p.getD k Xa)).getD Xa).a),Vi (((Yl bx by_ lo hi (p.getD k Xa)).getD Xa).b),Vi (((Yl bx by_ lo hi (p.getD k Xa)).getD Xa).c)] 0) trivial (λ _=>X6.set eg hg Y (us:=[Vi (((Yl bx by_ lo hi (p.getD k Xa)).getD Xa).a),Vi (((Yl bx by_ lo hi (p.getD k Xa)).getD Xa).b),Vi (((Yl bx by_ lo hi (p.getD k Xa)).getD Xa).c)]) rfl rfl)
     ·exact KS 19 rfl rfl rfl rfl λ _ _ _ _=>C.q rfl
     intro L a34 w35 W K P V hX;have x0:=hX;replace S:=K.Z S;replace O:=K.E O;obtain ⟨s1,s2,s3,s4,s10,s12,s42,s43⟩:=K.G8 s1 s2 s3 s4 s10 s12 s42 s43;replace s44:=K.G s44;have s18:=gS a34 18 (V 22 _ rfl);replace b4:=b4.k0 P;obtain ⟨g36,s17,lg36,-,b36⟩:=x0 (W 20 Dz);obtain ⟨_,b36,rfl⟩:=b36 (W 21 Dz);have ug36:=b36.lt;replace N4:=N4.below P.toBelow Xy;have zw33:=X;have zw35:=P.size;replace X:=Nat.le_refl w35.heap.size;replace U:=P.below0 U;clear K P V W x0 C s15 s16 b31;refine Xi (wp_seq (wp_seq ?_));refine Xl [77,78] [some (Bv ((Yl bx by_ lo hi (p.getD k Xa)).isSome)),some (Bv (!((Yl bx by_ lo hi (p.getD k Xa)).isSome)))] (X9 2) [77,78] [] (λ _ _ _=>True) ?_ (e2 ?_ ?_ .nil) ?_
     ·exact λ _ _=>trivial
     ·exact Kq s18 rfl rfl rfl
     ·exact JC 0 rfl rfl rfl rfl
     intro L a37 w38 W K P V hX;replace S:=K.Z S;replace O:=K.E O;obtain ⟨s1,s2,s3,s4,s10,s12,s42,s43⟩:=K.G8 s1 s2 s3 s4 s10 s12 s42 s43;obtain ⟨s44,s17⟩:=K.G2 s44 s17;have s78:=gS a37 78 (V 1 _ rfl);replace b4:=b4.k0 P;replace b36:=b36.k0 P;replace N4:=N4.below P.toBelow Xy;replace X:=Nat.le_trans X P.size;replace U:=P.below0 U;clear K P V W hX s18;refine Xi ?_;rcases Bool.eq_false_or_eq_true (!((Yl bx by_ lo hi (p.getD k Xa)).isSome)) with q39|q39
     ·refine wp_cond_true (ev (vb s78 q39)) ?_;refine wp_seq ?_;have C:Xd [] (λ L aa I=>XY I (w.heap.size+1) 26 [Nz] (L 1) (λ _ vs=>vs=[Nz])):=λ L aa I w' kk vv hkk hb x0=>(x0.bel hb (λ _ h=>h));refine Xr C [79,0,11] [some (.agg #[Nz]),none,some Bf] (X9 3) [79,11] [(w.heap.size+1)] ?_ (e2 ?_ ?_ (en rfl ?_ .nil)) ?_
      ·exact λ _ h=>(⟨λ _=>b4.kp h Sz,Cz⟩)
      ·intro M J I H _ _ F;simp [go_sem];exact (F _ _ H.k rfl H.x)
      ·intro M J I H _ _ F;have x0:=H.x;have Y:=x0.1 H.n;simp [go_sem,(gS J 79 (H.d 0 rfl rfl)),H.f.g rfl s10,Y.cell,Y.frz];exact F undef _ (H.k.store (.inr Sz) [Nz] 0) trivial (XY.set Y (us:=[Nz]) rfl rfl)
      ·exact JL rfl rfl λ _ _ _ _ h=>h
      intro L a40 w41 W K P V hX;have x0:=hX;replace S:=K.Z S;replace O:=K.E O;replace s10:=K.G s10;have s11:=gS a40 11 (V 2 _ rfl);clear b4;obtain ⟨_,b4,rfl⟩:=x0.2 (W 1 Dz);replace X:=Nat.le_trans X P.size;replace U:=P.below U U.size (by simp<;>omega);clear K P V W x0 C s1 s2 s3 s4 s12 s42 s43 s44 s17 s78 b36 N4 i4;refine Xi (wp_ret ?_);refine Ki (ib_r (Ki (Ki (ib_r (Ki ?_)))));refine bodyPost_ret (v:=.tuple #[.agg #[Nz],Bf]) (by simp [results,Tryz.results98,go_sem,s10,b4.cell,s11]) O ?_;have h0:=grow_stop (lo:=lo) (hi:=hi) hT (movAll_stop hkl (JD q39));exact ⟨_,by rw [h0.1],by rw [h0.2];exact XG.nilN _ _ _ _ _,U⟩
     ·refine wp_cond_false (ev (vb s78 q39)) ?_;refine wp_skip (Xi ?_);have hX0:=Xd.e 82 2 (λ I v=>∃ g5,v=Sv (some ⟨g5,0,none⟩) 1 1/\Xq I g5 136 [Vi (((Yl bx by_ lo hi (p.getD k Xa)).getD Xa).a),Vi (((Yl bx by_ lo hi (p.getD k Xa)).getD Xa).b),Vi (((Yl bx by_ lo hi (p.getD k Xa)).getD Xa).c)]/\w38.heap.size<=g5) (λ hb _ h=>by obtain ⟨g5',e,f5'⟩:=h;exact ⟨g5',e,⟨f5'.1.bel hb,f5'.2⟩⟩);have hX1:=Xd.e 83 3 (λ I v=>∃ A6 c6,v=Sv A6 (((sdL p (Zh bx by_) (Zf bx by_)++Ks (Yl bx by_ lo hi) (p.take k))++[((Yl bx by_ lo hi (p.getD k Xa)).getD Xa)]).length) c6/\XG 136 3 Xe I w11.heap.size (Sv A6 ((sdL p (Zh bx by_) (Zf bx by_)++Ks (Yl bx by_ lo hi) (p.take k))++[((Yl bx by_ lo hi (p.getD k Xa)).getD Xa)]).length c6) ((sdL p (Zh bx by_) (Zf bx by_)++Ks (Yl bx by_ lo hi) (p.take k))++[((Yl bx by_ lo hi (p.getD k Xa)).getD Xa)])) (λ hb _ h=>by obtain ⟨A6',c6',e,f6'⟩:=h;exact ⟨A6',c6',e,f6'.below hb Xy⟩);have hX2:=Xd.e 12 4 (λ I v=>∃ A6 c6,v=Sv A6 (((sdL p (Zh bx by_) (Zf bx by_)++Ks (Yl bx by_ lo hi) (p.take k))++[((Yl bx by_ lo hi (p.getD k Xa)).getD Xa)]).length) c6/\XG 136 3 Xe I w11.heap.size (Sv A6 ((sdL p (Zh bx by_) (Zf bx by_)++Ks (Yl bx by_ lo hi) (p.take k))++[((Yl bx by_ lo hi (p.getD k Xa)).getD Xa)]).length c6) ((sdL p (Zh bx by_) (Zf bx by_)++Ks (Yl bx by_ lo hi) (p.take k))++[((Yl bx by_ lo hi (p.getD k Xa)).getD Xa)])) (λ hb _ h=>by obtain ⟨A6',c6',e,f6'⟩:=h;exact ⟨A6',c6',e,f6'.below hb Xy⟩);have hX3:Xd [] (λ L aa I=>(L 3=false->XG 136 3 Xe I w11.heap.size (Sv A4 (sdL p (Zh bx by_) (Zf bx by_)++Ks (Yl bx by_ lo hi) (p.take k)).length c4) (sdL p (Zh bx by_) (Zf bx by_)++Ks (Yl bx by_ lo hi) (p.take k)))):=λ L aa I w' kk vv hkk hb x3=>(λ h=>(x3 h).below hb Xy);have hX4:Xd [12] (λ L aa I=>(L 4=false->aa.tmps[12]?.getD undef=Sv A4 ((sdL p (Zh bx by_) (Zf bx by_)++Ks (Yl bx by_ lo hi) (p.take k)).length) c4)):=λ L aa I w' kk vv hkk hb x4=>(λ h=>(Xv (hkk 12 Sz) vv).trans (x4 h));have C:=hX0.a (hX1.a (hX2.a (hX3.a hX4)));refine Xr C [80,81,82,83,12] [some (Sv A4 ((sdL p (Zh bx by_) (Zf bx by_)++Ks (Yl bx by_ lo hi) (p.take k)).length) c4),some (YI ((Yl bx by_ lo hi (p.getD k Xa)).getD Xa)),none,none,none] (X9 5) [80,81,82,83,12] (blkL A4) ?_ (e4 ?_ ?_ ?_ ?_ (en rfl ?_ .nil)) ?_
      ·exact λ _ h=>⟨Cz,Cz,Cz,(λ _=>N4.below h.toBelow Xy),(λ _=>s12)⟩
      ·intro M J I H _ _ F;obtain ⟨x0,x1,x2,x3,x4⟩:=H.x;exact XQ rfl (ev (x4 (H.t 4 rfl))) (F _ _ H.k rfl (C.q rfl H.x))
      ·intro M J I H _ _ F;simp [go_sem,H.f.g rfl s17,(b36.kp H.k (YX (λ p hp=>by have q1:=N4.blk p hp;have q2:=i4 p hp;omega))).cell];exact (F _ _ H.k rfl (C.q rfl H.x))
      ·intro M J I H _ _ F;obtain ⟨x0,x1,x2,x3,x4⟩:=H.x;simp [go_sem,(gS J 81 (H.d 1 rfl rfl))];have f5:Xq (I.alloc (.cells #[Vi (((Yl bx by_ lo hi (p.getD k Xa)).getD Xa).a),Vi (((Yl bx by_ lo hi (p.getD k Xa)).getD Xa).b),Vi (((Yl bx by_ lo hi (p.getD k Xa)).getD Xa).c)] 136)) I.heap.size 136 [Vi (((Yl bx by_ lo hi (p.getD k Xa)).getD Xa).a),Vi (((Yl bx by_ lo hi (p.getD k Xa)).getD Xa).b),Vi (((Yl bx by_ lo hi (p.getD k Xa)).getD Xa).c)]/\w38.heap.size<=I.heap.size:=⟨Xq.new _ _ _,H.k.size⟩;exact F _ _ (H.k.alloc _) trivial ⟨(λ _=>⟨_,H.f.s S,f5⟩),(hX1.b rfl (Xb bR _) x1),(hX2.b rfl (Xb bR _) x2),(λ h=>(x3 h).below (Xb bR _) Xy),(λ h=>(Xv Dz _).trans (x4 h))⟩
      ·intro M J I H _ _ F;obtain ⟨x0,x1,x2,x3,x4⟩:=H.x;obtain ⟨g5,ee2,f5⟩:=x0 (H.r 2 rfl);refine wp_app1 Xx rfl w11.heap.size i0h _ 24 Tryz.underlying24 hi0h hz0h hz1h hz2h rfl Dz (ev (H.d 0 rfl rfl)) (x3 H.n) (ev ee2) (y:=((Yl bx by_ lo hi (p.getD k Xa)).getD Xa)) f5.1 Ze (by have:=H.k.size;omega) (by rw [List.length_append,movL_len,List.length_take];simp only [sdL,List.length_cons,List.length_nil];omega) Dz ?_;intro A6 c6 wx f6 hG;exact F _ _ (H.k.trans2 hG (λ m h=>.inl h)) trivial ⟨(λ h=>by rw [Xv Dz];obtain ⟨g',e,f'⟩:=x0 h;exact ⟨g',e,f'.1.kp hG (YX (λ p hp=>by have q1:=N4.blk p hp;have q2:=f'.2;omega)),f'.2⟩),(λ _=>⟨A6,c6,H.f.s S,f6⟩),(λ h=>absurd (H.t 4 rfl) (by rw [show M 4=true by simpa [Yc] using h];decide)),(λ h=>by simp [Yc] at h),(λ h=>(Xv Dz _).trans (x4 h))⟩
      ·intro M J I H _ _ F;obtain ⟨x0,x1,x2,x3,x4⟩:=H.x;obtain ⟨A6,c6,ee3,f6⟩:=x1 (H.r 3 rfl);exact ZL rfl (ev ee3) (F _ _ H.k trivial ⟨(hX0.q rfl x0),(hX1.q rfl x1),(λ _=>⟨A6,c6,H.f.s S,f6⟩),(λ h=>(x3 h).below bR Xy),(λ h=>by simp [Yc] at h)⟩)
      intro L a42 w43 W K P V hX;obtain ⟨x0,x1,x2,x3,x4⟩:=hX;replace S:=K.Z S;replace O:=K.E O;have hB9:=P.below U U.size (λ m hm=>by obtain ⟨p,hp,rfl⟩:=blkL_in hm;have q1:=N4.blk p hp;have q2:=i4 p hp;omega);obtain ⟨s1,s2,s3,s4,s10,s42,s43,s44⟩:=K.G8 s1 s2 s3 s4 s10 s42 s43 s44;replace b4:=b4.kp P (YX (λ p hp=>by have q1:=N4.blk p hp;have q2:=i4 p hp;omega));obtain ⟨A6,c6,s12,N6⟩:=x2 (W 4 Dz);have i6:∀ p,A6=some p->p.block<w43.heap.size:=λ p hp=>(N6.blk p hp).2;have zw38:=X;have zw43:=P.size;replace X:=Nat.le_refl w43.heap.size;replace U:=hB9;clear K P V W x0 x1 x2 x3 x4 C hX0 hX1 hX2 hX3 hX4 s17 s78 b36 N4 i4;refine ib_n (Xi ?_);refine Xl [84,44] [some (Vi ((k:Int)+1)),some (Vi ((k:Int)+1))] (X9 2) [84,44] [] (λ L aa I=>(L 1=false->aa.tmps[44]?.getD undef=Vi (k:Int))) ?_ (e2 ?_ ?_ .nil) ?_
      ·exact λ _ h=>(λ _=>s44)
      ·intro M J I H _ _ F;have x0:=H.x;exact Zi rfl (ev (x0 (H.t 1 rfl))) rfl Oz (F _ _ H.k rfl (λ h=>(Xv Dz _).trans (x0 h)))
      ·intro M J I H _ _ F;have x0:=H.x;exact XQ rfl (ev (H.d 0 rfl rfl)) (F _ _ H.k rfl (λ h=>by simp [Yc] at h))
      intro L a44 w45 W K P V hX;have x0:=hX;replace S:=K.Z S;replace O:=K.E O;obtain ⟨s1,s2,s3,s4,s10,s42,s43,s12⟩:=K.G8 s1 s2 s3 s4 s10 s42 s43 s12;have s44:=gS a44 44 (V 1 _ rfl);replace b4:=b4.k0 P;replace N6:=N6.below P.toBelow Xy;replace X:=Nat.le_trans X P.size;replace U:=P.below0 U;clear K P V W x0;refine Xi ?_;refine ⟨?_, ?_⟩
      ·exact ⟨S,O,(k+1),(A6),(c6),Oz,(movAll_next hkl hall (YT q39)),s1,s2,s3,s4,s10,(by rw [app_next hkl (YT q39)];exact s12),s42,s43,s44,b4,(by rw [app_next hkl (YT q39)];exact N6),U,Oz⟩
      ·show (p.length-(intOf (a44.tmps[44]?.getD undef)).toNat)<_;rw [s44,hmu];simp only [intOf];omega
    ·have ek:k=p.length:=by have:=Jr q28;omega
     have hta:p.take k=p:=by rw [ek];exact List.take_length
     have hmo:∀ g∈(sdL p (Zh bx by_) (Zf bx by_)++Ks (Yl bx by_ lo hi) (p.take k)),Xs g=true:=by rw [hta];rw [hta] at hall;intro g hg;rcases List.mem_append.1 hg with h|h;exact sdL_ok (YT q19) g h;exact movL_ok (λ _ _ _ e=>growH_ok e) hall g h
     have hlm:(sdL p (Zh bx by_) (Zf bx by_)++Ks (Yl bx by_ lo hi) (p.take k)).length=2+p.length:=by rw [List.length_append,movL_len,hta];rfl
     rw [hta] at hall;obtain ⟨XX,hX0⟩:∃ z,z=sdL p (Zh bx by_) (Zf bx by_)++Ks (Yl bx by_ lo hi) (p.take k):=⟨_,rfl⟩;rw [<- hX0] at hmo hlm N4 s12;have hX1:XX=grwL bx by_ lo hi p:=by rw [hX0,hta];rfl
     clear hX0;refine wp_cond_false (ev (vb s45 q28)) ?_;refine wp_exit ?_;refine th_e (th_e (ib_x (Xi (wp_seq ?_))));have hX0:=Xd.e 86 1 (λ I v=>∃ A7 c7,v=.tuple #[.agg #[Sv A7 ((X3 (Xk XX)).length) c7],Bv (Yt (Xk XX))]/\XG 136 3 Xe I w27.heap.size (Sv A7 (X3 (Xk XX)).length c7) (X3 (Xk XX))) (λ hb _ h=>by obtain ⟨A7',c7',e,f7'⟩:=h;exact ⟨A7',c7',e,f7'.below hb Xy⟩);have hX1:=Xd.e 87 2 (λ I v=>∃ A7 c7,v=.agg #[Sv A7 ((X3 (Xk XX)).length) c7]/\XG 136 3 Xe I w27.heap.size (Sv A7 (X3 (Xk XX)).length c7) (X3 (Xk XX))) (λ hb _ h=>by obtain ⟨A7',c7',e,f7'⟩:=h;exact ⟨A7',c7',e,f7'.below hb Xy⟩);have hX2:Xd [] (λ L aa I=>XY I (w.heap.size+1) 26 [Nz] (L 4) (λ I vs=>∃ A7 c7,vs=[Sv A7 ((X3 (Xk XX)).length) c7]/\XG 136 3 Xe I w27.heap.size (Sv A7 (X3 (Xk XX)).length c7) (X3 (Xk XX)))):=λ L aa I w' kk vv hkk hb x2=>(x2.bel hb (λ _ ⟨A7',c7',e,f7'⟩=>⟨A7',c7',e,f7'.below hb Xy⟩));have C:=hX0.a (hX1.a hX2);refine Xr C [85,86,87,88,0,11] [some (Sv A4 XX.length c4),none,none,some (Bv (Yt (Xk XX))),none,some (Bv (Yt (Xk XX)))] (X9 6) [85,86,87,88,11] [(w.heap.size+1)] ?_ (e4 ?_ ?_ ?_ ?_ (e2 ?_ ?_ .nil)) ?_
     ·exact λ _ h=>⟨Cz,Cz,(⟨λ _=>b4.kp h Sz,Cz⟩)⟩
     ·exact Y4 s12 rfl rfl rfl λ _ _ _ _=>C.q rfl
     ·intro M J I H _ _ F;obtain ⟨x0,x1,x2⟩:=H.x;simp [go_sem,(gS J 85 (H.d 0 rfl rfl))];refine (iMeet_c A4 XX c4 I (by rw [hlm];omega) hmo ((N4.kp H.k i4 Oz (by simp<;>omega)).out Xx) N4.nilcap).mono ?_;rintro x wx ⟨_,rfl,⟨A7,c7,rfl,f0⟩,hb⟩;have f7:=XG.mono (show XG 136 3 Xe wx I.heap.size (Sv A7 (X3 (Xk XX)).length c7) (X3 (Xk XX)) from ⟨_,_,rfl,f0⟩) H.k.size;exact (F _ _ (H.k.call hb) trivial ⟨(λ _=>⟨A7,c7,H.f.s S,f7⟩),(hX1.b rfl hb x1),(x2.bel hb (λ _ ⟨A7',c7',e,f7'⟩=>⟨A7',c7',e,f7'.below hb Xy⟩))⟩)
     ·intro M J I H _ _ F;obtain ⟨x0,x1,x2⟩:=H.x;obtain ⟨A7,c7,ee1,f7⟩:=x0 (H.r 1 rfl);exact XI rfl (ev ee1) rfl (F _ _ H.k trivial ⟨(hX0.q rfl x0),(λ _=>⟨A7,c7,H.f.s S,f7⟩),(x2.bel bR (λ _ ⟨A7',c7',e,f7'⟩=>⟨A7',c7',e,f7'.below bR Xy⟩))⟩)
     ·intro M J I H _ _ F;obtain ⟨x0,x1,x2⟩:=H.x;obtain ⟨A7,c7,ee1,f7⟩:=x0 (H.r 1 rfl);exact XI rfl (ev ee1) rfl (F _ _ H.k rfl (C.q rfl H.x))
     ·intro M J I H _ _ F;obtain ⟨x0,x1,x2⟩:=H.x;obtain ⟨A7,c7,ee2,f7⟩:=x1 (H.r 2 rfl);have Y:=x2.1 H.n;simp [go_sem,ee2,H.f.g rfl s10,Y.cell,Y.frz];have f7:=f7.otherC (f7.typ Y Dz) [Sv A7 ((X3 (Xk XX)).length) c7] 0;exact F undef _ (H.k.store (.inr Sz) [Sv A7 ((X3 (Xk XX)).length) c7] 0) trivial ⟨(λ h=>by obtain ⟨A7',c7',e,f7'⟩:=x0 h;exact ⟨A7',c7',e,f7'.otherC (f7'.typ Y Dz) [Sv A7 ((X3 (Xk XX)).length) c7] 0⟩),(λ h=>by obtain ⟨A7',c7',e,f7'⟩:=x1 h;exact ⟨A7',c7',e,f7'.otherC (f7'.typ Y Dz) [Sv A7 ((X3 (Xk XX)).length) c7] 0⟩),(XY.set Y (us:=[Sv A7 ((X3 (Xk XX)).length) c7]) rfl ⟨A7,c7,rfl,f7⟩)⟩
     ·exact KS 3 rfl rfl rfl rfl λ _ _ _ _=>C.q rfl
     intro L a46 w47 W K P V hX;obtain ⟨x0,x1,x2⟩:=hX;replace S:=K.Z S;replace O:=K.E O;replace s10:=K.G s10;have s11:=gS a46 11 (V 5 _ rfl);clear b4;obtain ⟨_,b4,A7,c7,rfl,N7⟩:=x2.2 (W 4 Dz);have i7:∀ p,A7=some p->p.block<w47.heap.size:=λ p hp=>(N7.blk p hp).2;have zw27:=X;have zw47:=P.size;replace X:=Nat.le_refl w47.heap.size;replace U:=P.below U U.size (by simp<;>omega);clear K P V W x0 x1 x2 C hX0 hX1 hX2 s1 s2 s3 s4 s12 s42 s43 s44 s45 N4 i4;refine Xi (wp_ret ?_);refine bodyPost_ret (v:=.tuple #[.agg #[Sv A7 ((X3 (Xk XX)).length) c7],Bv (Yt (Xk XX))]) (by simp [results,Tryz.results98,go_sem,s10,b4.cell,s11]) O ?_;rw [hX1] at N7;have h0:=grow_all hT (YT q19) hall;exact ⟨_,by rw [h0.1,hX1],by rw [h0.2];exact N7.mono Oz,U⟩
end Go.Proofs.YtbekjpkcicjcgaaGreat
