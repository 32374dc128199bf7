/-
 Growing along a direction: the two half planes beside a region, of the program.
 Conditions: valid regions; directions from -100 to 100.
-/
import Derived.Test.YtabfdkpdppemaaaGreatV1
set_option maxHeartbeats 3000000
set_option maxRecDepth 100000
namespace Go.Proofs.YtabfdkpdppemaaaGreat
open Go.RowKit
theorem XH.lit {α:Type} {T sz g base:Nat} {enc:α->List Value} {w:World} {xs:List α} (Ye:∀ x,(enc x).length=sz) (h:Xn w g T (xs.flatMap enc)) (hb:base<=g) (hm:xs.length<=1000000):XH T sz enc w base (.slice (some ⟨g,0,none⟩) xs.length xs.length) xs:=by
 have hl:(xs.flatMap enc).length=xs.length*sz:=by
  clear h hb hm;induction xs with
  | nil=>simp
  | cons x t ih=>rw [List.flatMap_cons,List.length_append,ih,Ye,List.length_cons,Nat.add_mul,Nat.one_mul,Nat.add_comm]
 refine ⟨_,_,rfl,hl,.inr ⟨g,xs.length,(xs.flatMap enc).toArray,rfl,hb,h,Nat.le_refl _,Nat.le_trans hm (by decide),by simpa using hl, ?_⟩⟩;exact List.take_of_length_le (by show (xs.flatMap enc).length<=_;omega)
theorem two_slI {w:World} {g T:Nat} {x y:Int} (h:Xn w g T [.int .i64 x,.int .i64 y]):Sl 1 Kf w (some ⟨g,0,none⟩) [x,y] :=
 (XH.lit (enc:=Kf) (xs:=[x,y]) (base:=0) (T:=T) ZT h (Nat.zero_le _) (by simp)).out ZT
def ZD (bx by_:Int):Int:=(-by_).tdiv ((Xu [bx,by_]:Nat):Int)
def ZA (bx by_:Int):Int:=bx.tdiv ((Xu [bx,by_]:Nat):Int)
structure DirIn (bx by_:Int):Prop where
 x : -100<=bx/\bx<=100
 y : -100<=by_/\by_<=100
 nz:¬ (bx=0/\by_=0)
structure DirOk (bx by_:Int):Prop where
 g:1<=((Xu [bx,by_]:Nat):Int)/\((Xu [bx,by_]:Nat):Int)<=100
 a : -100<=ZD bx by_/\ZD bx by_<=100
 b : -100<=ZA bx by_/\ZA bx by_<=100
 nz:¬ (ZD bx by_=0/\ZA bx by_=0)
theorem dirOk {bx by_:Int} (h:DirIn bx by_):DirOk bx by_:=by
 have hx:=h.x;have hy:=h.y;have hn:=h.nz;have hg:Xu [bx,by_]=Nat.gcd bx.natAbs by_.natAbs:=by rw [JW]
 have d1:=Nat.gcd_dvd_left bx.natAbs by_.natAbs;have d2:=Nat.gcd_dvd_right bx.natAbs by_.natAbs;have hp:0<Nat.gcd bx.natAbs by_.natAbs:=by
  rcases Classical.em (bx=0) with e|e
  ·exact Nat.gcd_pos_of_pos_right _ (by omega)
  ·exact Nat.gcd_pos_of_pos_left _ (by omega)
 have hle:Nat.gcd bx.natAbs by_.natAbs<=100:=by
  rcases Classical.em (bx=0) with e|e
  ·exact Nat.le_trans (Nat.le_of_dvd (by omega) d2) (by omega)
  ·exact Nat.le_trans (Nat.le_of_dvd (by omega) d1) (by omega)
 have a1:=tdiv_le (-by_) (Xu [bx,by_]) 100 (by omega) (by omega);have b1:=tdiv_le bx (Xu [bx,by_]) 100 (by omega) (by omega);refine ⟨⟨by rw [hg];omega,by rw [hg];omega⟩,a1,b1, ?_⟩;rintro ⟨e1,e2⟩;refine hn ⟨?_, ?_⟩
 ·have q:=Int.mul_tdiv_cancel' (show ((Xu [bx,by_]:Nat):Int) ∣ bx from Int.ofNat_dvd_left.2 (by rw [hg];exact d1));unfold ZA at e2;rw [e2] at q;omega
 ·have q:=Int.mul_tdiv_cancel' (show ((Xu [bx,by_]:Nat):Int) ∣ -by_ from Int.ofNat_dvd_left.2 (by rw [hg,Int.natAbs_neg];exact d2));unfold ZD at e1;rw [e1] at q;omega
def JF (p:List Half) (a b:Int):Option Half:=Zy (a*(Kc p a b).d) (b*(Kc p a b).d) (Kc p a b).n
def sdL (p:List Half) (a b:Int):List Half:=[(JF p a b).getD Xd,(JF p (-a) (-b)).getD Xd]
structure SdB (p:List Half) (a b:Int):Prop where
 x : -500000000000<=a*(Kc p a b).d/\a*(Kc p a b).d<=500000000000
 y : -500000000000<=b*(Kc p a b).d/\b*(Kc p a b).d<=500000000000
 n : -500000000000000000<=(Kc p a b).n/\(Kc p a b).n<=500000000000000000
theorem sdB {p:List Half} {a b:Int} (hp:Xe p=true) (hne:p≠[]) (ha : -100<=a/\a<=100) (hb : -100<=b/\b<=100):SdB p a b:=by
 have R:=supR hp hne (a:=a) (b:=b) ⟨by omega,by omega⟩ ⟨by omega,by omega⟩;have d1:=R.d;have x:=mulB (a:=a) (b:=(Kc p a b).d) (A:=100) (B:=5000000000) ⟨by omega,by omega⟩ ⟨by omega,by omega⟩;have y:=mulB (a:=b) (b:=(Kc p a b).d) (A:=100) (B:=5000000000) ⟨by omega,by omega⟩ ⟨by omega,by omega⟩;exact ⟨⟨by omega,by omega⟩,⟨by omega,by omega⟩,R.n⟩
theorem iSides_c (p:List Half) (bx by_:Int) (a:Ks) (w:World) (hp:Xe p=true) (hne:p≠[]) (hD:DirIn bx by_) (hsp:Sl 3 Xg w a.A p) :
 Calls Tryz.prog 240 #[.agg #[.slice a.A p.length a.c],.int .i64 bx,.int .i64 by_] w λ x w'=>∃ A c,x=.returned (.tuple #[.slice A (sdL p (ZD bx by_) (ZA bx by_)).length c,.bool ((JF p (ZD bx by_) (ZA bx by_)).isSome&&(JF p (-ZD bx by_) (-ZA bx by_)).isSome)])/\XH 174 3 Xg w' w.heap.size (.slice A (sdL p (ZD bx by_) (ZA bx by_)).length c) (sdL p (ZD bx by_) (ZA bx by_))/\Below w.heap.size w w':=by
 have hO:=dirOk hD;have hgo:=hO.g;have hDx:=hD.x;have hDy:=hD.y;refine Yp Tryz.func240 rfl (n:=76) Tryz.ntmps240 (by simp) ?_;intro a0 S O ha;have s0:a0.tmps[0]?.getD undef=.agg #[.slice a.A p.length a.c]:=ha 0 _ rfl;have s1:a0.tmps[1]?.getD undef=.int .i64 bx:=ha 1 _ rfl;have s2:a0.tmps[2]?.getD undef=.int .i64 by_:=ha 2 _ rfl;clear ha;have U:=Below.refl w.heap.size w;have Y:=Nat.le_refl w.heap.size;refine wp_seq ?_;refine Yf [3,6,7] [.pointer (some ⟨w.heap.size,0,none⟩),.slice none 0 0,.bool false] [some (.cells [.slice a.A p.length a.c].toArray 26),none,none] [0,1,1] [3,6,7] [0,1,2] (by kernel_rfl) (by rw [S];decide) (ec ?_ (ec ?_ (ec ?_ .nil))) ?_
 ·intro a w' J hs N Q F;simp [go_sem,J.g rfl s0];rw [hs];exact F
 ·intro a w' J hs N Q F;simp [go_sem];exact F
 ·intro a w' J hs N Q F;simp [go_sem];exact F
 intro a1 w2 J V hb hO;replace S:=J.size.trans S;replace O:=J.defers.trans O;replace s1:=J.g rfl s1;replace s2:=J.g rfl s2;have s3:a1.tmps[3]?.getD undef=.pointer (some ⟨w.heap.size,0,none⟩):=V 0 (by decide);have b3:Xn w2 w.heap.size 26 [.slice a.A p.length a.c]:=hO 0 _ rfl;have hG:=b3.lt;replace U:=Xh U hb;have zw2:=Nat.le_trans Y hb.size;replace Y:=Nat.le_refl w2.heap.size;clear J V hb hO s0;refine Xi (wp_seq ?_);have C:Xw [19] (λ L aa I=>(L 2=true->(λ I v=>∃ g1,v=.slice (some ⟨g1,0,none⟩) 2 2/\Xn I g1 3 [.int .i64 bx,.int .i64 by_]/\w2.heap.size<=g1) I (aa.tmps[19]?.getD undef))):=by
  intro L aa I w' kk vv hkk hb W;have x0:=W;exact (λ h=>by rw [Xa (hkk 19 (by simp))];obtain ⟨g1',e,f1'⟩:=x0 h;exact ⟨g1',e,⟨f1'.1.bel hb,f1'.2⟩⟩)
 refine Xk C [17,18,19,20,21,8] [some (.int .i64 bx),some (.int .i64 by_),none,some (.int .u64 ((Xu [bx,by_]:Nat):Int)),some (.int .i64 ((Xu [bx,by_]:Nat):Int)),some (.int .i64 ((Xu [bx,by_]:Nat):Int))] (X1 6) [17,18,19,20,21,8] [] ?_ (e4 ?_ ?_ ?_ ?_ (e2 ?_ ?_ .nil)) ?_
 ·exact λ _ h=>(λ h=>by cases h)
 ·exact YJ s1 rfl rfl rfl λ _ _ _ _=>C.q rfl
 ·exact YJ s2 rfl rfl rfl λ _ _ _ _=>C.q rfl
 ·intro M K I H _ _ F;have x0:=H.x;simp [go_sem,(gS K 17 (H.d 0 rfl rfl)),(gS K 18 (H.d 1 rfl rfl))];have f1:Xn (I.alloc (.cells #[.int .i64 bx,.int .i64 by_] 3)) I.heap.size 3 [.int .i64 bx,.int .i64 by_]/\w2.heap.size<=I.heap.size:=⟨Xn.new _ _ _,H.k.size⟩;exact F _ _ (H.k.alloc _) trivial (λ _=>by rw [Xb (H.f.lt (by rw [S];decide))];exact ⟨_,rfl,f1⟩)
 ·intro M K I H _ _ F;have x0:=H.x;obtain ⟨g1,ee2,f1⟩:=x0 (H.r 2 rfl);simp [go_sem,ee2];refine (gcdOfAll_c (some ⟨g1,0,none⟩) [bx,by_] 2 I (by simp) (by intro n hn;simp only [List.mem_cons,List.not_mem_nil,or_false] at hn;rcases hn with rfl|rfl<;>exact ⟨by omega,by omega⟩) (two_slI f1.1)).mono ?_;rintro x wx ⟨rfl,hb⟩;exact (F _ _ (H.k.call hb) rfl (C.b rfl hb H.x))
 ·intro M K I H _ _ F;simp [go_sem,(gS K 20 (H.d 3 rfl rfl))];exact (F _ _ H.k (congrArg (Value.int .i64) (wrp (by omega))) (C.q rfl H.x))
 ·exact Kj 4 rfl rfl rfl rfl λ _ _ _ _=>C.q rfl
 intro L a4 w5 X J P V W;have x0:=W;replace S:=J.Z S;replace O:=J.E O;replace s1:=J.G s1;replace s2:=J.G s2;replace s3:=J.G s3;have s8:=gS a4 8 (V 5 _ rfl);replace b3:=b3.k0 P;replace Y:=Nat.le_trans Y P.size;replace U:=P.below0 U;clear J P V X x0 C;obtain ⟨gg,egg⟩:∃ z:Int,z=((Xu [bx,by_]:Nat):Int):=⟨_,rfl⟩;rw [<- egg] at s8;have hgg:1<=gg/\gg<=100:=by rw [egg];exact hO.g
 have hta:(-by_).tdiv gg=ZD bx by_:=by rw [egg];rfl
 have htb:bx.tdiv gg=ZA bx by_:=by rw [egg];rfl
 have hA:=hO.a;have hBb:=hO.b;have tb1 : -100<=(-by_).tdiv gg/\(-by_).tdiv gg<=100:=by rw [hta];exact hA
 have tb2 : -100<=bx.tdiv gg/\bx.tdiv gg<=100:=by rw [htb];exact hBb
 refine Xi (wp_seq ?_);refine Xj [22,23,24,25,26,27,28,9,10] [some (.int .i64 by_),some (.int .i64 (-by_)),some (.int .i64 gg),some (.int .i64 ((-by_).tdiv gg)),some (.int .i64 bx),some (.int .i64 gg),some (.int .i64 (bx.tdiv gg)),some (.int .i64 ((-by_).tdiv gg)),some (.int .i64 (bx.tdiv gg))] ([[],[0],[],[0,1,2],[],[],[4,5],[0,1,2,3],[0,1,2,3,4,5,6,7]]) [22,23,24,25,26,27,28,9,10] [] (λ _ _ _=>True) ?_ (e4 ?_ ?_ ?_ ?_ (e4 ?_ ?_ ?_ ?_ (en rfl ?_ .nil))) ?_
 ·exact λ _ _=>trivial
 ·exact Zq s2 rfl rfl rfl
 ·exact λ M K I H _ _ F=>JO rfl (ev (H.d 0 rfl rfl)) (by omega) (F _ _ H.k rfl trivial)
 ·exact Zq s8 rfl rfl rfl
 ·exact λ M K I H _ _ F=>wp_quo rfl (ev (H.d 1 rfl rfl)) (ev (H.d 2 rfl rfl)) (by omega) (by omega) (F _ _ H.k rfl trivial)
 ·exact Zq s1 rfl rfl rfl
 ·exact Zq s8 rfl rfl rfl
 ·exact λ M K I H _ _ F=>wp_quo rfl (ev (H.d 4 rfl rfl)) (ev (H.d 5 rfl rfl)) (by omega) (by omega) (F _ _ H.k rfl trivial)
 ·exact K6 3 rfl rfl rfl rfl
 ·exact K6 6 rfl rfl rfl rfl
 intro L a6 w7 X J P V W;replace S:=J.Z S;replace O:=J.E O;replace s3:=J.G s3;have s9:=gS a6 9 (V 7 _ rfl);have s10:=gS a6 10 (V 8 _ rfl);replace b3:=b3.k0 P;replace Y:=Nat.le_trans Y P.size;replace U:=P.below0 U;clear J P V X W s1 s2 s8;rw [hta] at s9;rw [htb] at s10;obtain ⟨da,eda⟩:∃ z:Int,z=ZD bx by_:=⟨_,rfl⟩;rw [<- eda] at s9;obtain ⟨db,edb⟩:∃ z:Int,z=ZA bx by_:=⟨_,rfl⟩;rw [<- edb] at s10;rw [<- eda] at hA;rw [<- edb] at hBb;obtain ⟨⟨u1,u2⟩,⟨u3,u4⟩,⟨u5,u6⟩⟩:=sdB hp hne hA hBb;obtain ⟨⟨v1,v2⟩,⟨v3,v4⟩,⟨v5,v6⟩⟩:=sdB (a:=-da) (b:=-db) hp hne ⟨by omega,by omega⟩ ⟨by omega,by omega⟩;refine Xi (wp_seq ?_);have C:Xw [11,12] (λ L aa I=>(L 10=true->XL w7 aa I 11 36 [.int .i64 0,.int .i64 0] (L 12) (λ _ vs=>vs=[.int .i64 ((Kc p da db).n),.int .i64 ((Kc p da db).d)]))/\(L 11=true->XL w7 aa I 12 36 [.int .i64 0,.int .i64 0] (L 13) (λ _ vs=>vs=[.int .i64 ((Kc p (-da) (-db)).n),.int .i64 ((Kc p (-da) (-db)).d)]))/\(L 10=true->L 11=true->aa.tmps[11]?.getD undef≠aa.tmps[12]?.getD undef)):=by
  intro L aa I w' kk vv hkk hb W;obtain ⟨x0,x1,x2⟩:=W;exact ⟨(λ h=>((x0 h).bel hb (λ _ h=>h)).put (hkk 11 (by simp)) _),(λ h=>((x1 h).bel hb (λ _ h=>h)).put (hkk 12 (by simp)) _),(λ h1 h2 e=>x2 h1 h2 ((Xa (hkk 11 (by simp)) vv).symm.trans (e.trans (Xa (hkk 12 (by simp)) vv))))⟩
 refine Xk C [29,30,31,32,33,34,35,36,37,38,11,12,0,0] [some (.agg #[.slice a.A p.length a.c]),some (.int .i64 da),some (.int .i64 db),some (Yc (Kc p da db)),some (.agg #[.slice a.A p.length a.c]),some (.int .i64 da),some (.int .i64 (-da)),some (.int .i64 db),some (.int .i64 (-db)),some (Yc (Kc p (-da) (-db))),none,none,none,none] ([[],[],[],[0,1,2],[],[],[5],[],[7],[0,1,2,3,4,5,6,7,8],[],[],[0,1,2,3,4,5,6,7,8,9,10,11],[0,1,2,3,4,5,6,7,8,9,10,11,12]]) [29,30,31,32,33,34,35,36,37,38,11,12] [] ?_ (e4 ?_ ?_ ?_ ?_ (e4 ?_ ?_ ?_ ?_ (e4 ?_ ?_ ?_ ?_ (e2 ?_ ?_ .nil)))) ?_
 ·exact λ _ h=>⟨(λ h=>by cases h),(λ h=>by cases h),(λ h=>by cases h)⟩
 ·intro M K I H _ _ F;simp [go_sem,H.f.g rfl s3,(b3.k0 H.k).cell];exact (F _ _ H.k rfl (C.q rfl H.x))
 ·exact YJ s9 rfl rfl rfl λ _ _ _ _=>C.q rfl
 ·exact YJ s10 rfl rfl rfl λ _ _ _ _=>C.q rfl
 ·intro M K I H _ _ F;simp [go_sem,(gS K 29 (H.d 0 rfl rfl)),(gS K 30 (H.d 1 rfl rfl)),(gS K 31 (H.d 2 rfl rfl))];have hBi:=H.k.below0 U;refine (iSupport_c p a da db I hp hne ⟨by omega,by omega⟩ ⟨by omega,by omega⟩ (hsp.below hBi)).mono ?_;rintro x wx ⟨rfl,hb⟩;exact (F _ _ (H.k.call hb) rfl (C.b rfl hb H.x))
 ·intro M K I H _ _ F;simp [go_sem,H.f.g rfl s3,(b3.k0 H.k).cell];exact (F _ _ H.k rfl (C.q rfl H.x))
 ·exact YJ s9 rfl rfl rfl λ _ _ _ _=>C.q rfl
 ·exact λ M K I H _ _ F=>JO rfl (ev (H.d 5 rfl rfl)) (by omega) (F _ _ H.k rfl (C.q rfl H.x))
 ·exact YJ s10 rfl rfl rfl λ _ _ _ _=>C.q rfl
 ·exact λ M K I H _ _ F=>JO rfl (ev (H.d 7 rfl rfl)) (by omega) (F _ _ H.k rfl (C.q rfl H.x))
 ·intro M K I H _ _ F;simp [go_sem,(gS K 33 (H.d 4 rfl rfl)),(gS K 35 (H.d 6 rfl rfl)),(gS K 37 (H.d 8 rfl rfl))];have hBi:=H.k.below0 U;refine (iSupport_c p a (-da) (-db) I hp hne ⟨by omega,by omega⟩ ⟨by omega,by omega⟩ (hsp.below hBi)).mono ?_;rintro x wx ⟨rfl,hb⟩;exact (F _ _ (H.k.call hb) rfl (C.b rfl hb H.x))
 ·intro M K I H _ _ F;obtain ⟨x0,x1,x2⟩:=H.x;simp [go_sem];exact F _ _ (H.k.alloc _) trivial ⟨(λ _=>by rw [show X9 M 10 12=false from H.t 12 rfl];exact XL.new (s:=11) (H.f.lt (by rw [S];decide)) H.k.size [.int .i64 0,.int .i64 0]),(λ h=>((x1 h).bel (Xc bR _) (λ _ h=>h)).put (by decide) _),(λ h1 h2 e=>by obtain ⟨g2,e2,_,l2⟩:=(x1 h2).lt;rw [Xb (H.f.lt (by rw [S];decide)),Xa (by decide),e2] at e;exact ptr_ne (by omega) e)⟩
 ·intro M K I H _ _ F;obtain ⟨x0,x1,x2⟩:=H.x;simp [go_sem];exact F _ _ (H.k.alloc _) trivial ⟨(λ h=>((x0 h).bel (Xc bR _) (λ _ h=>h)).put (by decide) _),(λ _=>by rw [show X9 M 11 13=false from H.t 13 rfl];exact XL.new (s:=12) (H.f.lt (by rw [S];decide)) H.k.size [.int .i64 0,.int .i64 0]),(λ h1 h2 e=>by obtain ⟨g2,e2,_,l2⟩:=(x0 h1).lt;rw [Xb (H.f.lt (by rw [S];decide)),Xa (by decide),e2] at e;exact ptr_ne (by omega) e)⟩
 ·intro M K I H _ _ F;obtain ⟨x0,x1,x2⟩:=H.x;obtain ⟨g,eg,hg,y,_⟩:=x0 (H.r 10 rfl);have HT:=y H.n;simp [go_sem,(gS K 32 (H.d 3 rfl rfl)),eg,HT.cell,HT.frz];exact F undef _ (H.k.store (.inl hg) [.int .i64 ((Kc p da db).n),.int .i64 ((Kc p da db).d)] 0) trivial ⟨(λ _=>XL.set eg hg HT (us:=[.int .i64 ((Kc p da db).n),.int .i64 ((Kc p da db).d)]) rfl rfl),(λ h=>(x1 h).oth (λ e=>x2 (H.r 10 rfl) h (eg.trans e.symm)) [.int .i64 ((Kc p da db).n),.int .i64 ((Kc p da db).d)] 0 (λ _ h=>h)),(x2)⟩
 ·intro M K I H _ _ F;obtain ⟨x0,x1,x2⟩:=H.x;obtain ⟨g,eg,hg,y,_⟩:=x1 (H.r 11 rfl);have HT:=y H.n;simp [go_sem,(gS K 38 (H.d 9 rfl rfl)),eg,HT.cell,HT.frz];exact F undef _ (H.k.store (.inl hg) [.int .i64 ((Kc p (-da) (-db)).n),.int .i64 ((Kc p (-da) (-db)).d)] 0) trivial ⟨(λ h=>(x0 h).oth (λ e=>x2 h (H.r 11 rfl) (e.trans eg.symm)) [.int .i64 ((Kc p (-da) (-db)).n),.int .i64 ((Kc p (-da) (-db)).d)] 0 (λ _ h=>h)),(λ _=>XL.set eg hg HT (us:=[.int .i64 ((Kc p (-da) (-db)).n),.int .i64 ((Kc p (-da) (-db)).d)]) rfl rfl),(x2)⟩
 intro L a8 w9 X J P V W;obtain ⟨x0,x1,x2⟩:=W;replace S:=J.Z S;replace O:=J.E O;replace s9:=J.G s9;replace s10:=J.G s10;obtain ⟨g10,s11,lg10,-,b10⟩:=x0 (X 10 (by decide));obtain ⟨_,b10,rfl⟩:=b10 (X 12 (by decide));have ug10:=b10.lt;obtain ⟨g11,s12,lg11,-,b11⟩:=x1 (X 11 (by decide));obtain ⟨_,b11,rfl⟩:=b11 (X 13 (by decide));have ug11:=b11.lt;have ng10g11:g10≠g11:=by
  intro e;subst e;exact x2 (X 10 (by decide)) (X 11 (by decide)) (s11.trans s12.symm)
 have zw7:=Y;have zw9:=P.size;replace Y:=Nat.le_refl w9.heap.size;replace U:=P.below0 U;clear J P V X x0 x1 x2 C s3 b3;refine Xi (wp_seq ?_);have C:Xw [13] (λ L aa I=>(L 14=true->XL w9 aa I 13 174 [.int .i64 0,.int .i64 0,.int .i64 0] (L 15) (λ _ vs=>vs=[.int .i64 (((JF p da db).getD Xd).a),.int .i64 (((JF p da db).getD Xd).b),.int .i64 (((JF p da db).getD Xd).c)]))):=by
  intro L aa I w' kk vv hkk hb W;have x0:=W;exact (λ h=>((x0 h).bel hb (λ _ h=>h)).put (hkk 13 (by simp)) _)
 refine Xk C [40,41,42,43,44,45,46,47,48,49,50,39,51,52,13,0,14] [some (.int .i64 da),some (.pointer (some ⟨g10,1,none⟩)),some (.int .i64 ((Kc p da db).d)),some (.int .i64 (da*((Kc p da db).d))),some (.int .i64 db),some (.pointer (some ⟨g10,1,none⟩)),some (.int .i64 ((Kc p da db).d)),some (.int .i64 (db*((Kc p da db).d))),some (.pointer (some ⟨g10,0,none⟩)),some (.int .i64 ((Kc p da db).n)),some (.tuple #[Y8 ((JF p da db).getD Xd),.bool ((JF p da db).isSome)]),some (.tuple #[Y8 ((JF p da db).getD Xd),.bool ((JF p da db).isSome)]),some (Y8 ((JF p da db).getD Xd)),some (.bool ((JF p da db).isSome)),none,none,some (.bool ((JF p da db).isSome))] (X1 17) [40,41,42,43,44,45,46,47,48,49,50,39,51,52,13,14] [] ?_ (e4 ?_ ?_ ?_ ?_ (e4 ?_ ?_ ?_ ?_ (e4 ?_ ?_ ?_ ?_ (e4 ?_ ?_ ?_ ?_ (en rfl ?_ .nil))))) ?_
 ·exact λ _ h=>(λ h=>by cases h)
 ·exact YJ s9 rfl rfl rfl λ _ _ _ _=>C.q rfl
 ·intro M K I H _ _ F;simp [go_sem,H.f.g rfl s11];exact (F _ _ H.k rfl (C.q rfl H.x))
 ·intro M K I H _ _ F;simp [go_sem,(gS K 41 (H.d 1 rfl rfl)),(b10.k0 H.k).cell];exact (F _ _ H.k rfl (C.q rfl H.x))
 ·exact λ M K I H _ _ F=>ZK rfl (ev (H.d 0 rfl rfl)) (ev (H.d 2 rfl rfl)) (by omega) (F _ _ H.k rfl (C.q rfl H.x))
 ·exact YJ s10 rfl rfl rfl λ _ _ _ _=>C.q rfl
 ·intro M K I H _ _ F;simp [go_sem,H.f.g rfl s11];exact (F _ _ H.k rfl (C.q rfl H.x))
 ·intro M K I H _ _ F;simp [go_sem,(gS K 45 (H.d 5 rfl rfl)),(b10.k0 H.k).cell];exact (F _ _ H.k rfl (C.q rfl H.x))
 ·exact λ M K I H _ _ F=>ZK rfl (ev (H.d 4 rfl rfl)) (ev (H.d 6 rfl rfl)) (by omega) (F _ _ H.k rfl (C.q rfl H.x))
 ·intro M K I H _ _ F;simp [go_sem,H.f.g rfl s11];exact (F _ _ H.k rfl (C.q rfl H.x))
 ·intro M K I H _ _ F;simp [go_sem,(gS K 48 (H.d 8 rfl rfl)),(b10.k0 H.k).cell];exact (F _ _ H.k rfl (C.q rfl H.x))
 ·intro M K I H _ _ F;simp [go_sem,(gS K 43 (H.d 3 rfl rfl)),(gS K 47 (H.d 7 rfl rfl)),(gS K 49 (H.d 9 rfl rfl))];refine (show Calls Tryz.prog 207 #[.int .i64 (da*(Kc p da db).d),.int .i64 (db*(Kc p da db).d),.int .i64 (Kc p da db).n] I (λ e w'=>e=.returned (KP (JF p da db))/\Below I.heap.size I w') from iHalfOf_c _ _ _ I ⟨by omega,by omega⟩ ⟨by omega,by omega⟩ ⟨by omega,by omega⟩).mono ?_;rintro x wx ⟨rfl,hb⟩;exact (F _ _ (H.k.call hb) (optHalf_eq _) (C.b rfl hb H.x))
 ·exact oMDX 10 rfl rfl rfl rfl λ _ _ _ _=>C.q rfl
 ·exact JZ 11 rfl rfl rfl rfl rfl λ _ _ _ _=>C.q rfl
 ·exact JZ 11 rfl rfl rfl rfl rfl λ _ _ _ _=>C.q rfl
 ·intro M K I H _ _ F;have x0:=H.x;simp [go_sem];exact F _ _ (H.k.alloc _) trivial (λ _=>by rw [show X9 M 14 15=false from H.t 15 rfl];exact XL.new (s:=13) (H.f.lt (by rw [S];decide)) H.k.size [.int .i64 0,.int .i64 0,.int .i64 0])
 ·intro M K I H _ _ F;have x0:=H.x;obtain ⟨g,eg,hg,y,_⟩:=x0 (H.r 14 rfl);have HT:=y H.n;simp [go_sem,(gS K 51 (H.d 12 rfl rfl)),eg,HT.cell,HT.frz];exact F undef _ (H.k.store (.inl hg) [.int .i64 (((JF p da db).getD Xd).a),.int .i64 (((JF p da db).getD Xd).b),.int .i64 (((JF p da db).getD Xd).c)] 0) trivial (λ _=>XL.set eg hg HT (us:=[.int .i64 (((JF p da db).getD Xd).a),.int .i64 (((JF p da db).getD Xd).b),.int .i64 (((JF p da db).getD Xd).c)]) rfl rfl)
 ·exact Kj 13 rfl rfl rfl rfl λ _ _ _ _=>C.q rfl
 intro L a12 w13 X J P V W;have x0:=W;replace S:=J.Z S;replace O:=J.E O;replace s9:=J.G s9;replace s10:=J.G s10;replace s12:=J.G s12;have s14:=gS a12 14 (V 16 _ rfl);replace b11:=b11.k0 P;obtain ⟨g14,s13,lg14,-,b14⟩:=x0 (X 14 (by decide));obtain ⟨_,b14,rfl⟩:=b14 (X 15 (by decide));have ug14:=b14.lt;have zw13:=P.size;replace Y:=Nat.le_refl w13.heap.size;replace U:=P.below0 U;clear J P V X x0 C s11 b10;refine Xi (wp_seq ?_);have C:Xw [15] (λ L aa I=>(L 16=true->XL w13 aa I 15 174 [.int .i64 0,.int .i64 0,.int .i64 0] (L 17) (λ _ vs=>vs=[.int .i64 (((JF p (-da) (-db)).getD Xd).a),.int .i64 (((JF p (-da) (-db)).getD Xd).b),.int .i64 (((JF p (-da) (-db)).getD Xd).c)]))):=by
  intro L aa I w' kk vv hkk hb W;have x0:=W;exact (λ h=>((x0 h).bel hb (λ _ h=>h)).put (hkk 15 (by simp)) _)
 refine Xk C [54,55,56,57,58,59,60,61,62,63,64,65,66,53,67,68,15,0,16] [some (.int .i64 da),some (.int .i64 (-da)),some (.pointer (some ⟨g11,1,none⟩)),some (.int .i64 ((Kc p (-da) (-db)).d)),some (.int .i64 ((-da)*((Kc p (-da) (-db)).d))),some (.int .i64 db),some (.int .i64 (-db)),some (.pointer (some ⟨g11,1,none⟩)),some (.int .i64 ((Kc p (-da) (-db)).d)),some (.int .i64 ((-db)*((Kc p (-da) (-db)).d))),some (.pointer (some ⟨g11,0,none⟩)),some (.int .i64 ((Kc p (-da) (-db)).n)),some (.tuple #[Y8 ((JF p (-da) (-db)).getD Xd),.bool ((JF p (-da) (-db)).isSome)]),some (.tuple #[Y8 ((JF p (-da) (-db)).getD Xd),.bool ((JF p (-da) (-db)).isSome)]),some (Y8 ((JF p (-da) (-db)).getD Xd)),some (.bool ((JF p (-da) (-db)).isSome)),none,none,some (.bool ((JF p (-da) (-db)).isSome))] (X1 19) [54,55,56,57,58,59,60,61,62,63,64,65,66,53,67,68,15,16] [] ?_ (e4 ?_ ?_ ?_ ?_ (e4 ?_ ?_ ?_ ?_ (e4 ?_ ?_ ?_ ?_ (e4 ?_ ?_ ?_ ?_ (e2 ?_ ?_ (en rfl ?_ .nil)))))) ?_
 ·exact λ _ h=>(λ h=>by cases h)
 ·exact YJ s9 rfl rfl rfl λ _ _ _ _=>C.q rfl
 ·exact λ M K I H _ _ F=>JO rfl (ev (H.d 0 rfl rfl)) (by omega) (F _ _ H.k rfl (C.q rfl H.x))
 ·intro M K I H _ _ F;simp [go_sem,H.f.g rfl s12];exact (F _ _ H.k rfl (C.q rfl H.x))
 ·intro M K I H _ _ F;simp [go_sem,(gS K 56 (H.d 2 rfl rfl)),(b11.k0 H.k).cell];exact (F _ _ H.k rfl (C.q rfl H.x))
 ·exact λ M K I H _ _ F=>ZK rfl (ev (H.d 1 rfl rfl)) (ev (H.d 3 rfl rfl)) (by omega) (F _ _ H.k rfl (C.q rfl H.x))
 ·exact YJ s10 rfl rfl rfl λ _ _ _ _=>C.q rfl
 ·exact λ M K I H _ _ F=>JO rfl (ev (H.d 5 rfl rfl)) (by omega) (F _ _ H.k rfl (C.q rfl H.x))
 ·intro M K I H _ _ F;simp [go_sem,H.f.g rfl s12];exact (F _ _ H.k rfl (C.q rfl H.x))
 ·intro M K I H _ _ F;simp [go_sem,(gS K 61 (H.d 7 rfl rfl)),(b11.k0 H.k).cell];exact (F _ _ H.k rfl (C.q rfl H.x))
 ·exact λ M K I H _ _ F=>ZK rfl (ev (H.d 6 rfl rfl)) (ev (H.d 8 rfl rfl)) (by omega) (F _ _ H.k rfl (C.q rfl H.x))
 ·intro M K I H _ _ F;simp [go_sem,H.f.g rfl s12];exact (F _ _ H.k rfl (C.q rfl H.x))
 ·intro M K I H _ _ F;simp [go_sem,(gS K 64 (H.d 10 rfl rfl)),(b11.k0 H.k).cell];exact (F _ _ H.k rfl (C.q rfl H.x))
 ·intro M K I H _ _ F;simp [go_sem,(gS K 58 (H.d 4 rfl rfl)),(gS K 63 (H.d 9 rfl rfl)),(gS K 65 (H.d 11 rfl rfl))];refine (show Calls Tryz.prog 207 #[.int .i64 ((-da)*(Kc p (-da) (-db)).d),.int .i64 ((-db)*(Kc p (-da) (-db)).d),.int .i64 (Kc p (-da) (-db)).n] I (λ e w'=>e=.returned (KP (JF p (-da) (-db)))/\Below I.heap.size I w') from iHalfOf_c _ _ _ I ⟨by omega,by omega⟩ ⟨by omega,by omega⟩ ⟨by omega,by omega⟩).mono ?_;rintro x wx ⟨rfl,hb⟩;exact (F _ _ (H.k.call hb) (optHalf_eq _) (C.b rfl hb H.x))
 ·exact oMDX 12 rfl rfl rfl rfl λ _ _ _ _=>C.q rfl
 ·exact JZ 13 rfl rfl rfl rfl rfl λ _ _ _ _=>C.q rfl
 ·exact JZ 13 rfl rfl rfl rfl rfl λ _ _ _ _=>C.q rfl
 ·intro M K I H _ _ F;have x0:=H.x;simp [go_sem];exact F _ _ (H.k.alloc _) trivial (λ _=>by rw [show X9 M 16 17=false from H.t 17 rfl];exact XL.new (s:=15) (H.f.lt (by rw [S];decide)) H.k.size [.int .i64 0,.int .i64 0,.int .i64 0])
 ·intro M K I H _ _ F;have x0:=H.x;obtain ⟨g,eg,hg,y,_⟩:=x0 (H.r 16 rfl);have HT:=y H.n;simp [go_sem,(gS K 67 (H.d 14 rfl rfl)),eg,HT.cell,HT.frz];exact F undef _ (H.k.store (.inl hg) [.int .i64 (((JF p (-da) (-db)).getD Xd).a),.int .i64 (((JF p (-da) (-db)).getD Xd).b),.int .i64 (((JF p (-da) (-db)).getD Xd).c)] 0) trivial (λ _=>XL.set eg hg HT (us:=[.int .i64 (((JF p (-da) (-db)).getD Xd).a),.int .i64 (((JF p (-da) (-db)).getD Xd).b),.int .i64 (((JF p (-da) (-db)).getD Xd).c)]) rfl rfl)
 ·exact Kj 15 rfl rfl rfl rfl λ _ _ _ _=>C.q rfl
 intro L a15 w16 X J P V W;have x0:=W;replace S:=J.Z S;replace O:=J.E O;replace s14:=J.G s14;replace s13:=J.G s13;have s16:=gS a15 16 (V 18 _ rfl);replace b14:=b14.k0 P;obtain ⟨g17,s15,lg17,-,b17⟩:=x0 (X 16 (by decide));obtain ⟨_,b17,rfl⟩:=b17 (X 17 (by decide));have ug17:=b17.lt;have zw16:=P.size;replace Y:=Nat.le_refl w16.heap.size;replace U:=P.below0 U;clear J P V X x0 C s9 s10 s12 b11;refine Xi (wp_seq ?_);have C:Xw [6,71] (λ L aa I=>(L 2=true->(λ I v=>∃ g2,v=.slice (some ⟨g2,0,none⟩) 2 2/\Xn I g2 174 [.int .i64 (((JF p da db).getD Xd).a),.int .i64 (((JF p da db).getD Xd).b),.int .i64 (((JF p da db).getD Xd).c),.int .i64 (((JF p (-da) (-db)).getD Xd).a),.int .i64 (((JF p (-da) (-db)).getD Xd).b),.int .i64 (((JF p (-da) (-db)).getD Xd).c)]/\w16.heap.size<=g2) I (aa.tmps[71]?.getD undef))/\(L 7=true->(λ I v=>∃ g2,v=.slice (some ⟨g2,0,none⟩) 2 2/\Xn I g2 174 [.int .i64 (((JF p da db).getD Xd).a),.int .i64 (((JF p da db).getD Xd).b),.int .i64 (((JF p da db).getD Xd).c),.int .i64 (((JF p (-da) (-db)).getD Xd).a),.int .i64 (((JF p (-da) (-db)).getD Xd).b),.int .i64 (((JF p (-da) (-db)).getD Xd).c)]/\w16.heap.size<=g2) I (aa.tmps[6]?.getD undef))):=by
  intro L aa I w' kk vv hkk hb W;obtain ⟨x0,x1⟩:=W;exact ⟨(λ h=>by rw [Xa (hkk 71 (by simp))];obtain ⟨g2',e,f2'⟩:=x0 h;exact ⟨g2',e,⟨f2'.1.bel hb,f2'.2⟩⟩),(λ h=>by rw [Xa (hkk 6 (by simp))];obtain ⟨g2',e,f2'⟩:=x1 h;exact ⟨g2',e,⟨f2'.1.bel hb,f2'.2⟩⟩)⟩
 refine Xk C [69,70,71,72,73,74,75,6,7] [some (Y8 ((JF p da db).getD Xd)),some (Y8 ((JF p (-da) (-db)).getD Xd)),none,some (.bool ((JF p da db).isSome)),some (.bool ((JF p da db).isSome)),some ((bif (JF p da db).isSome then (.bool ((JF p (-da) (-db)).isSome):Value) else undef)),some (.bool ((JF p da db).isSome&&(JF p (-da) (-db)).isSome)),none,some (.bool ((JF p da db).isSome&&(JF p (-da) (-db)).isSome))] (X1 9) [69,70,71,72,73,74,75,6,7] [] ?_ (e4 ?_ ?_ ?_ ?_ (en rfl ?_ (eg ?_ (e2 ?_ ?_ (en rfl ?_ .nil))))) ?_
 ·exact λ _ h=>⟨(λ h=>by cases h),(λ h=>by cases h)⟩
 ·intro M K I H _ _ F;simp [go_sem,H.f.g rfl s13,(b14.k0 H.k).cell];exact (F _ _ H.k rfl (C.q rfl H.x))
 ·intro M K I H _ _ F;simp [go_sem,H.f.g rfl s15,(b17.k0 H.k).cell];exact (F _ _ H.k rfl (C.q rfl H.x))
 ·intro M K I H _ _ F;obtain ⟨x0,x1⟩:=H.x;simp [go_sem,(gS K 69 (H.d 0 rfl rfl)),(gS K 70 (H.d 1 rfl rfl))];have f2:Xn (I.alloc (.cells #[.int .i64 (((JF p da db).getD Xd).a),.int .i64 (((JF p da db).getD Xd).b),.int .i64 (((JF p da db).getD Xd).c),.int .i64 (((JF p (-da) (-db)).getD Xd).a),.int .i64 (((JF p (-da) (-db)).getD Xd).b),.int .i64 (((JF p (-da) (-db)).getD Xd).c)] 174)) I.heap.size 174 [.int .i64 (((JF p da db).getD Xd).a),.int .i64 (((JF p da db).getD Xd).b),.int .i64 (((JF p da db).getD Xd).c),.int .i64 (((JF p (-da) (-db)).getD Xd).a),.int .i64 (((JF p (-da) (-db)).getD Xd).b),.int .i64 (((JF p (-da) (-db)).getD Xd).c)]/\w16.heap.size<=I.heap.size:=⟨Xn.new _ _ _,H.k.size⟩;exact F _ _ (H.k.alloc _) trivial ⟨(λ _=>by rw [Xb (H.f.lt (by rw [S];decide))];exact ⟨_,rfl,f2⟩),(λ h=>by rw [Xa (by decide)];obtain ⟨g2',e,f2'⟩:=x1 h;exact ⟨g2',e,⟨f2'.1.bel (Xc bR _),f2'.2⟩⟩)⟩
 ·exact YJ s14 rfl rfl rfl λ _ _ _ _=>C.q rfl
 ·exact oMDX 3 rfl rfl rfl rfl λ _ _ _ _=>C.q rfl
 ·intro M K I H _ _ F;refine wgt rfl rfl rfl (H.d 4 rfl rfl) (λ qg=>F _ _ H.k (XA qg).symm (C.q rfl H.x)) λ qg=>?_;exact XN rfl (ev (H.f.g rfl s16)) (F _ _ H.k (XD qg).symm (C.q rfl H.x))
 ·exact λ M K I H _ _ F=>YQ rfl (ev (H.d 4 rfl rfl)) (λ h=>(ev ((H.d 5 rfl rfl).trans (XD h))).trans (vand_t h)) (λ h=>vand_f h) (F _ _ H.k rfl (C.q rfl H.x))
 ·intro M K I H _ _ F;obtain ⟨x0,x1⟩:=H.x;obtain ⟨g2,ee2,f2⟩:=x0 (H.r 2 rfl);exact Y7 rfl (ev ee2) (F _ _ H.k trivial ⟨(λ h=>by rw [Xa (by decide)];obtain ⟨g2',e,f2'⟩:=x0 h;exact ⟨g2',e,⟨f2'.1.bel bR,f2'.2⟩⟩),(λ _=>by rw [Xb (H.f.lt (by rw [S];decide))];exact ⟨g2,rfl,f2⟩)⟩)
 ·exact Kj 6 rfl rfl rfl rfl λ _ _ _ _=>C.q rfl
 intro L a18 w19 X J P V W;obtain ⟨x0,x1⟩:=W;replace S:=J.Z S;replace O:=J.E O;have s7:=gS a18 7 (V 8 _ rfl);obtain ⟨g2,s6,N2⟩:=x1 (X 7 (by decide));have zw19:=P.size;replace Y:=Nat.le_refl w19.heap.size;replace U:=P.below0 U;clear J P V X x0 x1 C s14 s13 s16 s15 b14 b17;refine Xi (wp_ret ?_);refine bodyPost_ret (v:=.tuple #[.slice (some ⟨g2,0,none⟩) 2 2,.bool ((JF p da db).isSome&&(JF p (-da) (-db)).isSome)]) (by simp [results,Tryz.results240,go_sem,s6,s7]) O ?_;refine ⟨some ⟨g2,0,none⟩,2,by rw [<- eda,<- edb];rfl, ?_,U⟩;rw [<- eda,<- edb];exact XH.lit (enc:=Xg) (xs:=sdL p da db) Xx N2.1 (by have:=N2.2;omega) (by simp [sdL])
def YD (bx by_ lo hi:Int) (h:Half):Option Half:=Zy h.a h.b (h.c+max (-lo*(h.a*bx+h.b*by_)) (-hi*(h.a*bx+h.b*by_)))
theorem growH_ok {bx by_ lo hi:Int} {h g:Half} (e:YD bx by_ lo hi h=some g):Xy g=true:=halfOf_ok e
structure GrowB (bx by_ lo hi:Int) (h:Half):Prop where
 x : -5000000<=h.a*bx/\h.a*bx<=5000000
 y : -5000000<=h.b*by_/\h.b*by_<=5000000
 p : -10000000000<=-lo*(h.a*bx+h.b*by_)/\-lo*(h.a*bx+h.b*by_)<=10000000000
 q : -10000000000<=-hi*(h.a*bx+h.b*by_)/\-hi*(h.a*bx+h.b*by_)<=10000000000
structure DrvIn (bx by_ lo hi:Int):Prop where
 x : -100<=bx/\bx<=100
 y : -100<=by_/\by_<=100
 lw : -1000<=lo/\lo<=1000
 hw:lo<=hi/\hi<=1000
theorem growB {bx by_ lo hi:Int} {h:Half} (D:DrvIn bx by_ lo hi) (hh:Xy h=true):GrowB bx by_ lo hi h:=by
 obtain ⟨a1,a2,_⟩:=Zv.1 hh;have l:=D.lw;have u:=D.hw;have x:=mulB (a:=h.a) (b:=bx) (A:=50000) (B:=100) a1 D.x;have y:=mulB (a:=h.b) (b:=by_) (A:=50000) (B:=100) a2 D.y;have p:=mulB (a:=-lo) (b:=h.a*bx+h.b*by_) (A:=1000) (B:=10000000) ⟨by omega,by omega⟩ ⟨by omega,by omega⟩;have q:=mulB (a:=-hi) (b:=h.a*bx+h.b*by_) (A:=1000) (B:=10000000) ⟨by omega,by omega⟩ ⟨by omega,by omega⟩;exact ⟨⟨by omega,by omega⟩,⟨by omega,by omega⟩,⟨by omega,by omega⟩,⟨by omega,by omega⟩⟩
def growT (p:List Half) (bx by_:Int):Bool:=decide (p.length=0)||(bx == 0&&by_ == 0)
def sdO (p:List Half) (a b:Int):Bool:=(JF p a b).isSome&&(JF p (-a) (-b)).isSome
def grwL (bx by_ lo hi:Int) (p:List Half):List Half:=sdL p (ZD bx by_) (ZA bx by_)++KQ (YD bx by_ lo hi) p
def J6 (bx by_ lo hi:Int) (p:List Half):Bool:=growT p bx by_||(sdO p (ZD bx by_) (ZA bx by_)&&ZF (YD bx by_ lo hi) p&&YK (Xq (grwL bx by_ lo hi p)))
def grwR (bx by_ lo hi:Int) (p:List Half):List Half:=if growT p bx by_=true then p else if (sdO p (ZD bx by_) (ZA bx by_)&&ZF (YD bx by_ lo hi) p)=true then Yd (Xq (grwL bx by_ lo hi p)) else []
theorem grow_triv {bx by_ lo hi:Int} {p:List Half} (h:growT p bx by_=true):J6 bx by_ lo hi p=true/\grwR bx by_ lo hi p=p:=by
 unfold J6 grwR;rw [h,if_pos rfl];exact ⟨rfl,rfl⟩
theorem grow_side {bx by_ lo hi:Int} {p:List Half} (h:growT p bx by_=false) (hs:sdO p (ZD bx by_) (ZA bx by_)=false):J6 bx by_ lo hi p=false/\grwR bx by_ lo hi p=[]:=by
 unfold J6 grwR;rw [h,hs,if_neg (by simp),if_neg (by simp)];exact ⟨rfl,rfl⟩
theorem grow_stop {bx by_ lo hi:Int} {p:List Half} (h:growT p bx by_=false) (hs:ZF (YD bx by_ lo hi) p=false):J6 bx by_ lo hi p=false/\grwR bx by_ lo hi p=[]:=by
 unfold J6 grwR;rw [h,hs,if_neg (by simp),if_neg (by simp)];exact ⟨by simp,rfl⟩
theorem grow_all {bx by_ lo hi:Int} {p:List Half} (h:growT p bx by_=false) (hs:sdO p (ZD bx by_) (ZA bx by_)=true) (hm:ZF (YD bx by_ lo hi) p=true):J6 bx by_ lo hi p=YK (Xq (grwL bx by_ lo hi p))/\grwR bx by_ lo hi p=Yd (Xq (grwL bx by_ lo hi p)):=by
 unfold J6 grwR;rw [h,hs,hm,if_neg (by simp),if_pos (by simp)];exact ⟨by simp,rfl⟩
theorem movAll_stop {f:Half->Option Half} {p:List Half} {k:Nat} (h:k<p.length) (hs:(f (p.getD k Xd)).isSome=false):ZF f p=false:=by
 have e:p.getD k Xd=p[k]:=by rw [List.getD_eq_getElem?_getD,List.getElem?_eq_getElem h,Option.getD_some]
 rw [e] at hs;unfold ZF;rw [List.all_eq_false];exact ⟨p[k],List.getElem_mem h,by rw [hs];decide⟩
theorem grow_ne {p:List Half} {bx by_:Int} (h:growT p bx by_=false):p≠[]/\¬ (bx=0/\by_=0):=by
 unfold growT at h;refine ⟨λ e=>?_,λ e=>?_⟩
 ·rw [e] at h;simp at h
 ·rw [e.1,e.2] at h;simp at h
theorem sdL_ok {p:List Half} {a b:Int} (h:sdO p a b=true):∀ g∈sdL p a b,Xy g=true:=by
 unfold sdO at h;obtain ⟨x,hx⟩:=Option.isSome_iff_exists.1 (and_t1 h);obtain ⟨y,hy⟩:=Option.isSome_iff_exists.1 (and_t2 h);intro g hg;unfold sdL at hg;rw [hx,hy] at hg;simp only [Option.getD_some,List.mem_cons,List.not_mem_nil,or_false] at hg;rcases hg with rfl|rfl
 ·exact halfOf_ok hx
 ·exact halfOf_ok hy
theorem app_next {s:List Half} {f:Half->Option Half} {p:List Half} {k:Nat} (h:k<p.length) (hs:(f (p.getD k Xd)).isSome=true):s++KQ f (p.take (k+1))=s++KQ f (p.take k)++[(f (p.getD k Xd)).getD Xd]:=by
 rw [movL_next h hs,List.append_assoc]
theorem iGrow_c (p:List Half) (bx by_ lo hi:Int) (a:Ks) (w:World) (hp:Xe p=true) (D:DrvIn bx by_ lo hi) (hsp:Sl 3 Xg w a.A p) :
 Calls Tryz.prog 196 #[.agg #[.slice a.A p.length a.c],.int .i64 bx,.int .i64 by_,.int .i64 lo,.int .i64 hi] w λ x w'=>∃ v,x=.returned (.tuple #[.agg #[v],.bool (J6 bx by_ lo hi p)])/\XH 174 3 Xg w' w.heap.size v (grwR bx by_ lo hi p)/\Below w.heap.size w w':=by
 have hlp:=Yo hp;have hDlo:=D.lw;have hDhi:=D.hw;obtain ⟨i0h,hi0h,hz0h,hz1h,hz2h⟩:=info_parts (show (Tryz.prog.info? 174).map (λ i=>(i.zero,i.size,i.bytes))=some (some (.agg #[.int .i64 0,.int .i64 0,.int .i64 0]),3,24) by kernel_rfl);refine Yp Tryz.func196 rfl (n:=89) Tryz.ntmps196 (by simp) ?_;intro a0 S O ha;have s0:a0.tmps[0]?.getD undef=.agg #[.slice a.A p.length a.c]:=ha 0 _ rfl;have s1:a0.tmps[1]?.getD undef=.int .i64 bx:=ha 1 _ rfl;have s2:a0.tmps[2]?.getD undef=.int .i64 by_:=ha 2 _ rfl;have s3:a0.tmps[3]?.getD undef=.int .i64 lo:=ha 3 _ rfl;have s4:a0.tmps[4]?.getD undef=.int .i64 hi:=ha 4 _ rfl;clear ha;have U:=Below.refl w.heap.size w;have Y:=Nat.le_refl w.heap.size;refine wp_seq ?_;refine Yf [5,10,11] [.pointer (some ⟨w.heap.size,0,none⟩),.pointer (some ⟨(w.heap.size+1),0,none⟩),.bool false] [some (.cells [.slice a.A p.length a.c].toArray 26),some (.cells [.slice none 0 0].toArray 26),none] [0,1,2] [5,10,11] [0,1,2] (by kernel_rfl) (by rw [S];decide) (ec ?_ (ec ?_ (ec ?_ .nil))) ?_
 ·intro a w' J hs N Q F;simp [go_sem,J.g rfl s0];rw [hs];exact F
 ·intro a w' J hs N Q F;simp [go_sem];rw [hs];exact F
 ·intro a w' J hs N Q F;simp [go_sem];exact F
 intro a1 w2 J V hb hO;replace S:=J.size.trans S;replace O:=J.defers.trans O;replace s1:=J.g rfl s1;replace s2:=J.g rfl s2;replace s3:=J.g rfl s3;replace s4:=J.g rfl s4;have s5:a1.tmps[5]?.getD undef=.pointer (some ⟨w.heap.size,0,none⟩):=V 0 (by decide);have s10:a1.tmps[10]?.getD undef=.pointer (some ⟨(w.heap.size+1),0,none⟩):=V 1 (by decide);have b3:Xn w2 w.heap.size 26 [.slice a.A p.length a.c]:=hO 0 _ rfl;have b4:Xn w2 (w.heap.size+1) 26 [.slice none 0 0]:=hO 1 _ rfl;have hG:=b4.lt;replace U:=Xh U hb;have zw2:=Nat.le_trans Y hb.size;replace Y:=Nat.le_refl w2.heap.size;clear J V hb hO s0;refine Xi (wp_seq (wp_seq ?_));rcases Bool.eq_false_or_eq_true (decide (p.length=0)) with q5|q5
 ·refine Xj [19,20,21,22,23,24,25,26,27,28] [some (.agg #[.slice a.A p.length a.c]),some (.bool true),some (.bool true),some (undef),some (undef),some (undef),some (undef),some (undef),some (undef),some (.bool true)] (X1 10) [19,20,21,22,23,24,25,26,27,28] [] (λ _ _ _=>True) ?_ (e2 ?_ ?_ (en rfl ?_ (eg ?_ (eg ?_ (eg ?_ (eg ?_ (eg ?_ (eg ?_ (en rfl ?_ .nil))))))))) ?_
  ·exact λ _ _=>trivial
  ·intro M K I H _ _ F;simp [go_sem,H.f.g rfl s5,(b3.k0 H.k).cell];exact (F _ _ H.k rfl trivial)
  ·intro M K I H _ _ F;simp [go_sem,(gS K 19 (H.d 0 rfl rfl))];refine (Z8 p a I).mono ?_;rintro x wx ⟨rfl,hb⟩;exact (F _ _ (H.k.call hb) (by show _=_;simp only [q5]) trivial)
  ·exact Ko 1 rfl rfl rfl rfl
  ·intro M K I H _ _ F;refine wnt_n rfl rfl rfl (H.d 2 rfl rfl) (by decide) ?_;exact F _ _ H.k rfl trivial
  ·intro M K I H _ _ F;refine wnt_n rfl rfl rfl (H.d 2 rfl rfl) (by decide) ?_;exact F _ _ H.k rfl trivial
  ·intro M K I H _ _ F;refine wnt_n rfl rfl rfl (H.d 2 rfl rfl) (by decide) ?_;exact F _ _ H.k rfl trivial
  ·intro M K I H _ _ F;refine wnt_u rfl rfl rfl (H.d 5 rfl rfl) ?_;exact F _ _ H.k rfl trivial
  ·intro M K I H _ _ F;refine wnt_u rfl rfl rfl (H.d 5 rfl rfl) ?_;exact F _ _ H.k rfl trivial
  ·intro M K I H _ _ F;refine wnt_n rfl rfl rfl (H.d 2 rfl rfl) (by decide) ?_;exact F _ _ H.k rfl trivial
  ·exact λ M K I H _ _ F=>YQ rfl (ev (H.d 2 rfl rfl)) (λ _=>rfl) (λ h=>by cases h) (F _ _ H.k rfl trivial)
  intro L a6 w7 X J P V W;replace S:=J.Z S;replace O:=J.E O;replace s1:=J.G s1;replace s2:=J.G s2;replace s3:=J.G s3;replace s4:=J.G s4;replace s5:=J.G s5;replace s10:=J.G s10;have s28:=gS a6 28 (V 9 _ rfl);replace b3:=b3.k0 P;replace b4:=b4.k0 P;replace Y:=Nat.le_trans Y P.size;replace U:=P.below0 U;clear J P V X W;refine Xi ?_;refine wp_cond_true (ev s28) ?_;refine wp_seq ?_;have C:Xw [30] (λ L aa I=>(L 1=true->(λ I v=>∃ m1,v=.agg #[.slice m1.A p.length m1.c]/\X3 I w7.heap.size p m1) I (aa.tmps[30]?.getD undef))/\X0 I (w.heap.size+1) 26 [.slice none 0 0] (L 2) (λ I vs=>∃ m1,vs=[.slice m1.A p.length m1.c]/\X3 I w7.heap.size p m1)):=by
   intro L aa I w' kk vv hkk hb W;obtain ⟨x0,x1⟩:=W;exact ⟨(λ h=>by rw [Xa (hkk 30 (by simp))];obtain ⟨m1',e,f1'⟩:=x0 h;exact ⟨m1',e,f1'.below hb Xf⟩),(x1.bel hb (λ _ ⟨m1',e,f1'⟩=>⟨m1',e,f1'.below hb Xf⟩))⟩
  refine Xk C [29,30,0,11] [some (.agg #[.slice a.A p.length a.c]),none,none,some (.bool true)] (X1 4) [29,30,11] [(w.heap.size+1)] ?_ (e4 ?_ ?_ ?_ ?_ .nil) ?_
  ·exact λ _ h=>⟨(λ h=>by cases h),(⟨λ _=>b4.kp h (by simp),(λ h=>by cases h)⟩)⟩
  ·intro M K I H _ _ F;simp [go_sem,H.f.g rfl s5,(b3.kp H.k (by simp<;>omega)).cell];exact (F _ _ H.k rfl (C.q rfl H.x))
  ·intro M K I H _ _ F;obtain ⟨x0,x1⟩:=H.x;simp [go_sem,(gS K 29 (H.d 0 rfl rfl))];have hBi:=H.k.below U U.size (by simp<;>omega);refine (KK p a I (by have:=Yo hp;omega) (hsp.below hBi)).mono ?_;rintro x wx ⟨m1,rfl,f0,hb⟩;have f1:=f0.mono H.k.size;exact (F _ _ (H.k.call hb) trivial ⟨(λ _=>by rw [Xb (H.f.lt (by rw [S];decide))];exact ⟨m1,rfl,f1⟩),(x1.bel hb (λ _ ⟨m1',e,f1'⟩=>⟨m1',e,f1'.below hb Xf⟩))⟩)
  ·intro M K I H _ _ F;obtain ⟨x0,x1⟩:=H.x;obtain ⟨m1,ee1,f1⟩:=x0 (H.r 1 rfl);have HT:=x1.1 H.n;simp [go_sem,ee1,H.f.g rfl s10,HT.cell,HT.frz];have f1:=f1.otherT HT (by decide) [.slice m1.A p.length m1.c] 0;exact F undef _ (H.k.store (.inr (by simp)) [.slice m1.A p.length m1.c] 0) trivial ⟨(λ h=>by obtain ⟨m1',e,f1'⟩:=x0 h;exact ⟨m1',e,f1'.otherT HT (by decide) [.slice m1.A p.length m1.c] 0⟩),(X0.set HT (us:=[.slice m1.A p.length m1.c]) rfl ⟨m1,rfl,f1⟩)⟩
  ·exact Jy rfl rfl λ _ _ _ _=>C.q rfl
  intro L a8 w9 X J P V W;obtain ⟨x0,x1⟩:=W;replace S:=J.Z S;replace O:=J.E O;replace s10:=J.G s10;have s11:=gS a8 11 (V 3 _ rfl);clear b4;obtain ⟨_,b4,m1,rfl,N1⟩:=x1.2 (X 2 (by decide));have zw7:=Y;have zw9:=P.size;replace Y:=Nat.le_refl w9.heap.size;replace U:=P.below U U.size (by simp<;>omega);clear J P V X x0 x1 C s1 s2 s3 s4 s5 s28 b3;refine Xi (wp_ret (Zh ?_));refine bodyPost_ret (v:=.tuple #[.agg #[.slice m1.A p.length m1.c],.bool true]) (by simp [results,Tryz.results196,go_sem,s10,b4.cell,s11]) O ?_;have hT:growT p bx by_=true:=by unfold growT;rw [q5];rfl
  have h0:=grow_triv (lo:=lo) (hi:=hi) hT;exact ⟨_,by rw [h0.1],by rw [h0.2];exact N1.halves.mono (by omega),U⟩
 ·refine Xj [19,20,21,22,23,24,25,26,27,28] [some (.agg #[.slice a.A p.length a.c]),some (.bool false),some (.bool false),some (.int .i64 bx),some (.bool (bx == 0)),some (.bool (bx == 0)),some ((bif bx == 0 then (.int .i64 by_:Value) else undef)),some ((bif bx == 0 then (.bool (by_ == 0):Value) else undef)),some (.bool (bx == 0&&by_ == 0)),some (.bool (bx == 0&&by_ == 0))] (X1 10) [19,20,21,22,23,24,25,26,27,28] [] (λ _ _ _=>True) ?_ (e2 ?_ ?_ (en rfl ?_ (eg ?_ (eg ?_ (eg ?_ (eg ?_ (eg ?_ (eg ?_ (en rfl ?_ .nil))))))))) ?_
  ·exact λ _ _=>trivial
  ·intro M K I H _ _ F;simp [go_sem,H.f.g rfl s5,(b3.k0 H.k).cell];exact (F _ _ H.k rfl trivial)
  ·intro M K I H _ _ F;simp [go_sem,(gS K 19 (H.d 0 rfl rfl))];refine (Z8 p a I).mono ?_;rintro x wx ⟨rfl,hb⟩;exact (F _ _ (H.k.call hb) (by show _=_;simp only [q5]) trivial)
  ·exact Ko 1 rfl rfl rfl rfl
  ·intro M K I H _ _ F;refine Yj rfl rfl rfl (H.d 2 rfl rfl) ?_;exact XN rfl (ev (H.f.g rfl s1)) (F _ _ H.k rfl trivial)
  ·intro M K I H _ _ F;refine Yj rfl rfl rfl (H.d 2 rfl rfl) ?_;exact YG rfl (ev (H.d 3 rfl rfl)) rfl rfl rfl (F _ _ H.k rfl trivial)
  ·intro M K I H _ _ F;refine Yj rfl rfl rfl (H.d 2 rfl rfl) ?_;exact XN rfl (ev (H.d 4 rfl rfl)) (F _ _ H.k rfl trivial)
  ·intro M K I H _ _ F;refine wgt rfl rfl rfl (H.d 5 rfl rfl) (λ qg=>F _ _ H.k (XA qg).symm trivial) λ qg=>?_;exact XN rfl (ev (H.f.g rfl s2)) (F _ _ H.k (XD qg).symm trivial)
  ·intro M K I H _ _ F;refine wgt rfl rfl rfl (H.d 5 rfl rfl) (λ qg=>F _ _ H.k (XA qg).symm trivial) λ qg=>?_;exact YG rfl (ev ((H.d 6 rfl rfl).trans (XD qg))) rfl rfl rfl (F _ _ H.k (XD qg).symm trivial)
  ·intro M K I H _ _ F;refine Yj rfl rfl rfl (H.d 2 rfl rfl) ?_;exact YQ rfl (ev (H.d 5 rfl rfl)) (λ h=>(ev ((H.d 7 rfl rfl).trans (XD h))).trans (vand_t h)) (λ h=>vand_f h) (F _ _ H.k rfl trivial)
  ·exact λ M K I H _ _ F=>YQ rfl (ev (H.d 2 rfl rfl)) (λ h=>by cases h) (λ _=>(ev (H.d 8 rfl rfl))) (F _ _ H.k rfl trivial)
  intro L a10 w11 X J P V W;replace S:=J.Z S;replace O:=J.E O;replace s1:=J.G s1;replace s2:=J.G s2;replace s3:=J.G s3;replace s4:=J.G s4;replace s5:=J.G s5;replace s10:=J.G s10;have s28:=gS a10 28 (V 9 _ rfl);replace b3:=b3.k0 P;replace b4:=b4.k0 P;replace Y:=Nat.le_trans Y P.size;replace U:=P.below0 U;clear J P V X W;refine Xi ?_;rcases Bool.eq_false_or_eq_true (bx == 0&&by_ == 0) with q12|q12
  ·refine wp_cond_true (ev (vb s28 q12)) ?_;refine wp_seq ?_;have C:Xw [30] (λ L aa I=>(L 1=true->(λ I v=>∃ m2,v=.agg #[.slice m2.A p.length m2.c]/\X3 I w11.heap.size p m2) I (aa.tmps[30]?.getD undef))/\X0 I (w.heap.size+1) 26 [.slice none 0 0] (L 2) (λ I vs=>∃ m2,vs=[.slice m2.A p.length m2.c]/\X3 I w11.heap.size p m2)):=by
    intro L aa I w' kk vv hkk hb W;obtain ⟨x0,x1⟩:=W;exact ⟨(λ h=>by rw [Xa (hkk 30 (by simp))];obtain ⟨m2',e,f2'⟩:=x0 h;exact ⟨m2',e,f2'.below hb Xf⟩),(x1.bel hb (λ _ ⟨m2',e,f2'⟩=>⟨m2',e,f2'.below hb Xf⟩))⟩
   refine Xk C [29,30,0,11] [some (.agg #[.slice a.A p.length a.c]),none,none,some (.bool true)] (X1 4) [29,30,11] [(w.heap.size+1)] ?_ (e4 ?_ ?_ ?_ ?_ .nil) ?_
   ·exact λ _ h=>⟨(λ h=>by cases h),(⟨λ _=>b4.kp h (by simp),(λ h=>by cases h)⟩)⟩
   ·intro M K I H _ _ F;simp [go_sem,H.f.g rfl s5,(b3.kp H.k (by simp<;>omega)).cell];exact (F _ _ H.k rfl (C.q rfl H.x))
   ·intro M K I H _ _ F;obtain ⟨x0,x1⟩:=H.x;simp [go_sem,(gS K 29 (H.d 0 rfl rfl))];have hBi:=H.k.below U U.size (by simp<;>omega);refine (KK p a I (by have:=Yo hp;omega) (hsp.below hBi)).mono ?_;rintro x wx ⟨m2,rfl,f0,hb⟩;have f2:=f0.mono H.k.size;exact (F _ _ (H.k.call hb) trivial ⟨(λ _=>by rw [Xb (H.f.lt (by rw [S];decide))];exact ⟨m2,rfl,f2⟩),(x1.bel hb (λ _ ⟨m2',e,f2'⟩=>⟨m2',e,f2'.below hb Xf⟩))⟩)
   ·intro M K I H _ _ F;obtain ⟨x0,x1⟩:=H.x;obtain ⟨m2,ee1,f2⟩:=x0 (H.r 1 rfl);have HT:=x1.1 H.n;simp [go_sem,ee1,H.f.g rfl s10,HT.cell,HT.frz];have f2:=f2.otherT HT (by decide) [.slice m2.A p.length m2.c] 0;exact F undef _ (H.k.store (.inr (by simp)) [.slice m2.A p.length m2.c] 0) trivial ⟨(λ h=>by obtain ⟨m2',e,f2'⟩:=x0 h;exact ⟨m2',e,f2'.otherT HT (by decide) [.slice m2.A p.length m2.c] 0⟩),(X0.set HT (us:=[.slice m2.A p.length m2.c]) rfl ⟨m2,rfl,f2⟩)⟩
   ·exact Jy rfl rfl λ _ _ _ _=>C.q rfl
   intro L a13 w14 X J P V W;obtain ⟨x0,x1⟩:=W;replace S:=J.Z S;replace O:=J.E O;replace s10:=J.G s10;have s11:=gS a13 11 (V 3 _ rfl);clear b4;obtain ⟨_,b4,m2,rfl,N2⟩:=x1.2 (X 2 (by decide));have zw11:=Y;have zw14:=P.size;replace Y:=Nat.le_refl w14.heap.size;replace U:=P.below U U.size (by simp<;>omega);clear J P V X x0 x1 C s1 s2 s3 s4 s5 s28 b3;refine Xi (wp_ret (Zh ?_));refine bodyPost_ret (v:=.tuple #[.agg #[.slice m2.A p.length m2.c],.bool true]) (by simp [results,Tryz.results196,go_sem,s10,b4.cell,s11]) O ?_;have hT:growT p bx by_=true:=by unfold growT;rw [q5,q12];rfl
   have h0:=grow_triv (lo:=lo) (hi:=hi) hT;exact ⟨_,by rw [h0.1],by rw [h0.2];exact N2.halves.mono (by omega),U⟩
  ·have hT:growT p bx by_=false:=by unfold growT;rw [q5,q12];rfl
   obtain ⟨hne,hnz⟩:=grow_ne hT;refine wp_cond_false (ev (vb s28 q12)) ?_;refine wp_skip (Xi (wp_seq ?_));have C:Xw [12,31,35,36] (λ L aa I=>(L 3=true->(λ I v=>∃ A3 c3,v=.tuple #[.slice A3 ((sdL p (ZD bx by_) (ZA bx by_)).length) c3,.bool (sdO p (ZD bx by_) (ZA bx by_))]/\XH 174 3 Xg I w11.heap.size (.slice A3 (sdL p (ZD bx by_) (ZA bx by_)).length c3) (sdL p (ZD bx by_) (ZA bx by_))) I (aa.tmps[35]?.getD undef))/\(L 4=true->(λ I v=>∃ A3 c3,v=.tuple #[.slice A3 ((sdL p (ZD bx by_) (ZA bx by_)).length) c3,.bool (sdO p (ZD bx by_) (ZA bx by_))]/\XH 174 3 Xg I w11.heap.size (.slice A3 (sdL p (ZD bx by_) (ZA bx by_)).length c3) (sdL p (ZD bx by_) (ZA bx by_))) I (aa.tmps[31]?.getD undef))/\(L 5=true->(λ I v=>∃ A3 c3,v=.slice A3 ((sdL p (ZD bx by_) (ZA bx by_)).length) c3/\XH 174 3 Xg I w11.heap.size (.slice A3 (sdL p (ZD bx by_) (ZA bx by_)).length c3) (sdL p (ZD bx by_) (ZA bx by_))) I (aa.tmps[36]?.getD undef))/\(L 7=true->(λ I v=>∃ A3 c3,v=.slice A3 ((sdL p (ZD bx by_) (ZA bx by_)).length) c3/\XH 174 3 Xg I w11.heap.size (.slice A3 (sdL p (ZD bx by_) (ZA bx by_)).length c3) (sdL p (ZD bx by_) (ZA bx by_))) I (aa.tmps[12]?.getD undef))):=by
    intro L aa I w' kk vv hkk hb W;obtain ⟨x0,x1,x2,x3⟩:=W;exact ⟨(λ h=>by rw [Xa (hkk 35 (by simp))];obtain ⟨A3',c3',e,f3'⟩:=x0 h;exact ⟨A3',c3',e,f3'.below hb Xf⟩),(λ h=>by rw [Xa (hkk 31 (by simp))];obtain ⟨A3',c3',e,f3'⟩:=x1 h;exact ⟨A3',c3',e,f3'.below hb Xf⟩),(λ h=>by rw [Xa (hkk 36 (by simp))];obtain ⟨A3',c3',e,f3'⟩:=x2 h;exact ⟨A3',c3',e,f3'.below hb Xf⟩),(λ h=>by rw [Xa (hkk 12 (by simp))];obtain ⟨A3',c3',e,f3'⟩:=x3 h;exact ⟨A3',c3',e,f3'.below hb Xf⟩)⟩
   refine Xk C [32,33,34,35,31,36,37,12,13] [some (.agg #[.slice a.A p.length a.c]),some (.int .i64 bx),some (.int .i64 by_),none,none,none,some (.bool (sdO p (ZD bx by_) (ZA bx by_))),none,some (.bool (sdO p (ZD bx by_) (ZA bx by_)))] (X1 9) [32,33,34,35,31,36,37,12,13] [] ?_ (e4 ?_ ?_ ?_ ?_ (e4 ?_ ?_ ?_ ?_ (en rfl ?_ .nil))) ?_
   ·exact λ _ h=>⟨(λ h=>by cases h),(λ h=>by cases h),(λ h=>by cases h),(λ h=>by cases h)⟩
   ·intro M K I H _ _ F;simp [go_sem,H.f.g rfl s5,(b3.k0 H.k).cell];exact (F _ _ H.k rfl (C.q rfl H.x))
   ·exact YJ s1 rfl rfl rfl λ _ _ _ _=>C.q rfl
   ·exact YJ s2 rfl rfl rfl λ _ _ _ _=>C.q rfl
   ·intro M K I H _ _ F;obtain ⟨x0,x1,x2,x3⟩:=H.x;simp [go_sem,(gS K 32 (H.d 0 rfl rfl)),(gS K 33 (H.d 1 rfl rfl)),(gS K 34 (H.d 2 rfl rfl))];have hBi:=H.k.below0 U;refine (iSides_c p bx by_ a I hp hne ⟨D.x,D.y,hnz⟩ (hsp.below hBi)).mono ?_;rintro x wx ⟨A3,c3,rfl,f0,hb⟩;have f3:=f0.mono H.k.size;exact (F _ _ (H.k.call hb) trivial ⟨(λ _=>by rw [Xb (H.f.lt (by rw [S];decide))];exact ⟨A3,c3,rfl,f3⟩),(λ h=>by rw [Xa (by decide)];obtain ⟨A3',c3',e,f3'⟩:=x1 h;exact ⟨A3',c3',e,f3'.below hb Xf⟩),(λ h=>by rw [Xa (by decide)];obtain ⟨A3',c3',e,f3'⟩:=x2 h;exact ⟨A3',c3',e,f3'.below hb Xf⟩),(λ h=>by rw [Xa (by decide)];obtain ⟨A3',c3',e,f3'⟩:=x3 h;exact ⟨A3',c3',e,f3'.below hb Xf⟩)⟩)
   ·intro M K I H _ _ F;obtain ⟨x0,x1,x2,x3⟩:=H.x;obtain ⟨A3,c3,ee3,f3⟩:=x0 (H.r 3 rfl);exact XN rfl (ev ee3) (F _ _ H.k trivial ⟨(λ h=>by rw [Xa (by decide)];obtain ⟨A3',c3',e,f3'⟩:=x0 h;exact ⟨A3',c3',e,f3'.below bR Xf⟩),(λ _=>by rw [Xb (H.f.lt (by rw [S];decide))];exact ⟨A3,c3,rfl,f3⟩),(λ h=>by rw [Xa (by decide)];obtain ⟨A3',c3',e,f3'⟩:=x2 h;exact ⟨A3',c3',e,f3'.below bR Xf⟩),(λ h=>by rw [Xa (by decide)];obtain ⟨A3',c3',e,f3'⟩:=x3 h;exact ⟨A3',c3',e,f3'.below bR Xf⟩)⟩)
   ·intro M K I H _ _ F;obtain ⟨x0,x1,x2,x3⟩:=H.x;obtain ⟨A3,c3,ee4,f3⟩:=x1 (H.r 4 rfl);exact XC rfl (ev ee4) rfl (F _ _ H.k trivial ⟨(λ h=>by rw [Xa (by decide)];obtain ⟨A3',c3',e,f3'⟩:=x0 h;exact ⟨A3',c3',e,f3'.below bR Xf⟩),(λ h=>by rw [Xa (by decide)];obtain ⟨A3',c3',e,f3'⟩:=x1 h;exact ⟨A3',c3',e,f3'.below bR Xf⟩),(λ _=>by rw [Xb (H.f.lt (by rw [S];decide))];exact ⟨A3,c3,rfl,f3⟩),(λ h=>by rw [Xa (by decide)];obtain ⟨A3',c3',e,f3'⟩:=x3 h;exact ⟨A3',c3',e,f3'.below bR Xf⟩)⟩)
   ·intro M K I H _ _ F;obtain ⟨x0,x1,x2,x3⟩:=H.x;obtain ⟨A3,c3,ee4,f3⟩:=x1 (H.r 4 rfl);exact XC rfl (ev ee4) rfl (F _ _ H.k rfl (C.q rfl H.x))
   ·intro M K I H _ _ F;obtain ⟨x0,x1,x2,x3⟩:=H.x;obtain ⟨A3,c3,ee5,f3⟩:=x2 (H.r 5 rfl);exact Y7 rfl (ev ee5) (F _ _ H.k trivial ⟨(λ h=>by rw [Xa (by decide)];obtain ⟨A3',c3',e,f3'⟩:=x0 h;exact ⟨A3',c3',e,f3'.below bR Xf⟩),(λ h=>by rw [Xa (by decide)];obtain ⟨A3',c3',e,f3'⟩:=x1 h;exact ⟨A3',c3',e,f3'.below bR Xf⟩),(λ h=>by rw [Xa (by decide)];obtain ⟨A3',c3',e,f3'⟩:=x2 h;exact ⟨A3',c3',e,f3'.below bR Xf⟩),(λ _=>by rw [Xb (H.f.lt (by rw [S];decide))];exact ⟨A3,c3,rfl,f3⟩)⟩)
   ·exact Kj 6 rfl rfl rfl rfl λ _ _ _ _=>C.q rfl
   intro L a15 w16 X J P V W;obtain ⟨x0,x1,x2,x3⟩:=W;replace S:=J.Z S;replace O:=J.E O;replace s1:=J.G s1;replace s2:=J.G s2;replace s3:=J.G s3;replace s4:=J.G s4;replace s5:=J.G s5;replace s10:=J.G s10;have s13:=gS a15 13 (V 8 _ rfl);replace b3:=b3.k0 P;replace b4:=b4.k0 P;obtain ⟨A3,c3,s12,N3⟩:=x3 (X 7 (by decide));have i3:∀ p,A3=some p->p.block<w16.heap.size:=λ p hp=>(N3.blk p hp).2;have zw11:=Y;have zw16:=P.size;replace Y:=Nat.le_refl w16.heap.size;replace U:=P.below0 U;clear J P V X x0 x1 x2 x3 C s28;refine Xi (wp_seq (wp_seq ?_));refine Xj [38,39] [some (.bool (sdO p (ZD bx by_) (ZA bx by_))),some (.bool (!(sdO p (ZD bx by_) (ZA bx by_))))] (X1 2) [38,39] [] (λ _ _ _=>True) ?_ (e2 ?_ ?_ .nil) ?_
   ·exact λ _ _=>trivial
   ·exact Zq s13 rfl rfl rfl
   ·exact KY 0 rfl rfl rfl rfl
   intro L a17 w18 X J P V W;replace S:=J.Z S;replace O:=J.E O;replace s1:=J.G s1;replace s2:=J.G s2;replace s3:=J.G s3;replace s4:=J.G s4;replace s5:=J.G s5;replace s10:=J.G s10;replace s12:=J.G s12;have s39:=gS a17 39 (V 1 _ rfl);replace b3:=b3.k0 P;replace b4:=b4.k0 P;replace N3:=N3.below P.toBelow Xf;replace Y:=Nat.le_trans Y P.size;replace U:=P.below0 U;clear J P V X W s13;refine Xi ?_;rcases Bool.eq_false_or_eq_true (!(sdO p (ZD bx by_) (ZA bx by_))) with q19|q19
   ·refine wp_cond_true (ev (vb s39 q19)) ?_;refine wp_seq ?_;have C:Xw [] (λ L aa I=>X0 I (w.heap.size+1) 26 [.slice none 0 0] (L 1) (λ _ vs=>vs=[.slice none 0 0])):=by
     intro L aa I w' kk vv hkk hb W;have x0:=W;exact (x0.bel hb (λ _ h=>h))
    refine Xk C [40,0,11] [some (.agg #[.slice none 0 0]),none,some (.bool false)] (X1 3) [40,11] [(w.heap.size+1)] ?_ (e2 ?_ ?_ (en rfl ?_ .nil)) ?_
    ·exact λ _ h=>(⟨λ _=>b4.kp h (by simp),(λ h=>by cases h)⟩)
    ·intro M K I H _ _ F;simp [go_sem];exact (F _ _ H.k rfl H.x)
    ·intro M K I H _ _ F;have x0:=H.x;have HT:=x0.1 H.n;simp [go_sem,(gS K 40 (H.d 0 rfl rfl)),H.f.g rfl s10,HT.cell,HT.frz];exact F undef _ (H.k.store (.inr (by simp)) [.slice none 0 0] 0) trivial (X0.set HT (us:=[.slice none 0 0]) rfl rfl)
    ·exact Jy rfl rfl λ _ _ _ _ h=>h
    intro L a20 w21 X J P V W;have x0:=W;replace S:=J.Z S;replace O:=J.E O;replace s10:=J.G s10;have s11:=gS a20 11 (V 2 _ rfl);clear b4;obtain ⟨_,b4,rfl⟩:=x0.2 (X 1 (by decide));replace Y:=Nat.le_trans Y P.size;replace U:=P.below U U.size (by simp<;>omega);clear J P V X x0 C s1 s2 s3 s4 s5 s12 s39 b3 N3 i3;refine Xi (wp_ret (Zh ?_));refine bodyPost_ret (v:=.tuple #[.agg #[.slice none 0 0],.bool false]) (by simp [results,Tryz.results196,go_sem,s10,b4.cell,s11]) O ?_;have h0:=grow_side (lo:=lo) (hi:=hi) hT (Jf q19);exact ⟨_,by rw [h0.1],by rw [h0.2];exact XH.nilN _ _ _ _ _,U⟩
   ·refine wp_cond_false (ev (vb s39 q19)) ?_;refine wp_skip (Xi (wp_seq (wp_seq ?_)));refine Xj [41,42,43,44] [some (.pointer (some ⟨w.heap.size,0,none⟩)),some (.slice a.A p.length a.c),some (.int .i64 (p.length:Int)),some (.int .i64 0)] (X1 4) [41,42,43,44] [] (λ _ _ _=>True) ?_ (e4 ?_ ?_ ?_ ?_ .nil) ?_
    ·exact λ _ _=>trivial
    ·intro M K I H _ _ F;simp [go_sem,H.f.g rfl s5];exact (F _ _ H.k rfl trivial)
    ·intro M K I H _ _ F;simp [go_sem,(gS K 41 (H.d 0 rfl rfl)),(b3.k0 H.k).cell];exact (F _ _ H.k rfl trivial)
    ·intro M K I H _ _ F;simp [go_sem,(gS K 42 (H.d 1 rfl rfl))];exact (F _ _ H.k rfl trivial)
    ·exact oMCT rfl rfl
    intro L a22 w23 X J P V W;replace S:=J.Z S;replace O:=J.E O;replace s1:=J.G s1;replace s2:=J.G s2;replace s3:=J.G s3;replace s4:=J.G s4;replace s10:=J.G s10;replace s12:=J.G s12;have s42:=gS a22 42 (V 1 _ rfl);have s43:=gS a22 43 (V 2 _ rfl);have s44:=gS a22 44 (V 3 _ rfl);replace b4:=b4.k0 P;replace N3:=N3.below P.toBelow Xf;replace Y:=Nat.le_trans Y P.size;replace U:=P.below0 U;clear J P V X W s5 s39 b3;refine Xi (wp_block ?_);refine wp_loop (λ al wl=>al.tmps.size=89/\al.defers=[]/\∃ (k:Nat) (A4:Option Addr) (c4:Nat),(k<=p.length)/\(ZF (YD bx by_ lo hi) (p.take k)=true)/\al.tmps[1]?.getD undef=.int .i64 bx/\al.tmps[2]?.getD undef=.int .i64 by_/\al.tmps[3]?.getD undef=.int .i64 lo/\al.tmps[4]?.getD undef=.int .i64 hi/\al.tmps[10]?.getD undef=.pointer (some ⟨(w.heap.size+1),0,none⟩)/\al.tmps[12]?.getD undef=.slice A4 ((sdL p (ZD bx by_) (ZA bx by_)++KQ (YD bx by_ lo hi) (p.take k)).length) c4/\al.tmps[42]?.getD undef=.slice a.A p.length a.c/\al.tmps[43]?.getD undef=.int .i64 (p.length:Int)/\al.tmps[44]?.getD undef=.int .i64 (k:Int)/\Xn wl (w.heap.size+1) 26 [.slice none 0 0]/\XH 174 3 Xg wl w11.heap.size (.slice A4 (sdL p (ZD bx by_) (ZA bx by_)++KQ (YD bx by_ lo hi) (p.take k)).length c4) (sdL p (ZD bx by_) (ZA bx by_)++KQ (YD bx by_ lo hi) (p.take k))/\Below w.heap.size w wl/\w16.heap.size<=wl.heap.size) (λ al _=>(p.length-(intOf (al.tmps[44]?.getD undef)).toNat)) ?_ ?_
    ·exact ⟨S,O,(0),(A3),(c3),(Nat.zero_le _),(rfl),s1,s2,s3,s4,s10,s12,s42,s43,s44,b4,(N3),U,(by omega)⟩
    clear S O U Y s1 s2 s3 s4 s10 s12 s42 s43 s44 b4 N3;rintro a24 w25 ⟨S,O,k,A4,c4,hk,hall,s1,s2,s3,s4,s10,s12,s42,s43,s44,b4,N4,U,Y⟩;have zw25:=Y;replace Y:=Nat.le_refl w25.heap.size;have i4:∀ p,A4=some p->p.block<w25.heap.size:=λ p hp=>(N4.blk p hp).2;have hmu:(p.length-(intOf (a24.tmps[44]?.getD undef)).toNat)=(p.length-(intOf ((.int .i64 (k:Int)))).toNat):=by rw [s44]
    refine wp_seq ?_;refine Xj [45] [some (.bool (decide ((k:Int)<(p.length:Int))))] (X1 1) [45] [] (λ _ _ _=>True) ?_ (en rfl ?_ .nil) ?_
    ·exact λ _ _=>trivial
    ·exact λ M K I H _ _ F=>YG rfl (ev (H.f.g rfl s44)) (ev (H.f.g rfl s43)) rfl rfl (F _ _ H.k rfl trivial)
    intro L a26 w27 X J P V W;replace S:=J.Z S;replace O:=J.E O;replace s1:=J.G s1;replace s2:=J.G s2;replace s3:=J.G s3;replace s4:=J.G s4;replace s10:=J.G s10;replace s12:=J.G s12;replace s42:=J.G s42;replace s43:=J.G s43;replace s44:=J.G s44;have s45:=gS a26 45 (V 0 _ rfl);replace b4:=b4.k0 P;replace N4:=N4.below P.toBelow Xf;replace Y:=Nat.le_trans Y P.size;replace U:=P.below0 U;clear J P V X W;refine Xi (wp_seq ?_);rcases Bool.eq_false_or_eq_true (decide ((k:Int)<(p.length:Int))) with q28|q28
    ·have hkl:k<p.length:=by have:=JK q28;omega
     obtain ⟨bp,op,ep,fp⟩:=ElS.open_ (hsp.below U) (by omega);have hh:=getD_halfOk hkl hp;obtain ⟨⟨k1,k2⟩,⟨k3,k4⟩,⟨k5,k6⟩,⟨k7,k8⟩⟩:=growB D hh;obtain ⟨⟨h1,h2⟩,⟨h3,h4⟩,⟨h5,h6⟩,_⟩:=Zv.1 hh;refine wp_cond_true (ev (vb s45 q28)) ?_;refine wp_skip (Xi (wp_seq (wp_block (wp_seq ?_))));have C:Xw [15] (λ L aa I=>(L 2=true->XL w27 aa I 15 174 [.int .i64 0,.int .i64 0,.int .i64 0] (L 3) (λ _ vs=>vs=[.int .i64 ((p.getD k Xd).a),.int .i64 ((p.getD k Xd).b),.int .i64 ((p.getD k Xd).c)]))):=by
      intro L aa I w' kk vv hkk hb W;have x0:=W;exact (λ h=>((x0 h).bel hb (λ _ h=>h)).put (hkk 15 (by simp)) _)
     refine Xk C [46,47,15,0] [some (.pointer (some ⟨bp,op+k*3,none⟩)),some (Y8 (p.getD k Xd)),none,none] (X1 4) [46,47,15] [] ?_ (e4 ?_ ?_ ?_ ?_ .nil) ?_
     ·exact λ _ h=>(λ h=>by cases h)
     ·intro M K I H _ _ F;simp [go_sem,H.f.g rfl s42,H.f.g rfl s44,hkl,ep];exact (F _ _ H.k rfl (C.q rfl H.x))
     ·intro M K I H _ _ F;have hE:=fp.kp H.k (by simp);simp [go_sem,(gS K 46 (H.d 0 rfl rfl)),(hE.at_ Xd (i:=k) (by omega) 0 (p:=op+k*3) (by omega) rfl),(hE.at_ Xd (i:=k) (by omega) 1 (p:=op+k*3+1) (by omega) rfl),(hE.at_ Xd (i:=k) (by omega) 2 (p:=op+k*3+2) (by omega) rfl)];exact (F _ _ H.k rfl (C.q rfl H.x))
     ·intro M K I H _ _ F;have x0:=H.x;simp [go_sem];exact F _ _ (H.k.alloc _) trivial (λ _=>by rw [show X9 M 2 3=false from H.t 3 rfl];exact XL.new (s:=15) (H.f.lt (by rw [S];decide)) H.k.size [.int .i64 0,.int .i64 0,.int .i64 0])
     ·intro M K I H _ _ F;have x0:=H.x;obtain ⟨g,eg,hg,y,_⟩:=x0 (H.r 2 rfl);have HT:=y H.n;simp [go_sem,(gS K 47 (H.d 1 rfl rfl)),eg,HT.cell,HT.frz];exact F undef _ (H.k.store (.inl hg) [.int .i64 ((p.getD k Xd).a),.int .i64 ((p.getD k Xd).b),.int .i64 ((p.getD k Xd).c)] 0) trivial (λ _=>XL.set eg hg HT (us:=[.int .i64 ((p.getD k Xd).a),.int .i64 ((p.getD k Xd).b),.int .i64 ((p.getD k Xd).c)]) rfl rfl)
     intro L a29 w30 X J P V W;have x0:=W;replace S:=J.Z S;replace O:=J.E O;replace s1:=J.G s1;replace s2:=J.G s2;replace s3:=J.G s3;replace s4:=J.G s4;replace s10:=J.G s10;replace s12:=J.G s12;replace s42:=J.G s42;replace s43:=J.G s43;replace s44:=J.G s44;replace b4:=b4.k0 P;obtain ⟨g31,s15,lg31,-,b31⟩:=x0 (X 2 (by decide));obtain ⟨_,b31,rfl⟩:=b31 (X 3 (by decide));have ug31:=b31.lt;replace N4:=N4.below P.toBelow Xf;have zw27:=Y;have zw30:=P.size;replace Y:=Nat.le_refl w30.heap.size;replace U:=P.below0 U;clear J P V X x0 C s45 fp;refine Xi (wp_seq ?_);refine Xj [48,49,50,51,52,53,54,55,56,16] [some (.pointer (some ⟨g31,0,none⟩)),some (.int .i64 ((p.getD k Xd).a)),some (.int .i64 bx),some (.int .i64 (((p.getD k Xd).a)*bx)),some (.pointer (some ⟨g31,1,none⟩)),some (.int .i64 ((p.getD k Xd).b)),some (.int .i64 by_),some (.int .i64 (((p.getD k Xd).b)*by_)),some (.int .i64 ((((p.getD k Xd).a)*bx)+(((p.getD k Xd).b)*by_))),some (.int .i64 ((((p.getD k Xd).a)*bx)+(((p.getD k Xd).b)*by_)))] (X1 10) [48,49,50,51,52,53,54,55,56,16] [] (λ _ _ _=>True) ?_ (e4 ?_ ?_ ?_ ?_ (e4 ?_ ?_ ?_ ?_ (e2 ?_ ?_ .nil))) ?_
     ·exact λ _ _=>trivial
     ·intro M K I H _ _ F;simp [go_sem,H.f.g rfl s15];exact (F _ _ H.k rfl trivial)
     ·intro M K I H _ _ F;simp [go_sem,(gS K 48 (H.d 0 rfl rfl)),(b31.k0 H.k).cell];exact (F _ _ H.k rfl trivial)
     ·exact Zq s1 rfl rfl rfl
     ·exact λ M K I H _ _ F=>ZK rfl (ev (H.d 1 rfl rfl)) (ev (H.d 2 rfl rfl)) (by omega) (F _ _ H.k rfl trivial)
     ·intro M K I H _ _ F;simp [go_sem,H.f.g rfl s15];exact (F _ _ H.k rfl trivial)
     ·intro M K I H _ _ F;simp [go_sem,(gS K 52 (H.d 4 rfl rfl)),(b31.k0 H.k).cell];exact (F _ _ H.k rfl trivial)
     ·exact Zq s2 rfl rfl rfl
     ·exact λ M K I H _ _ F=>ZK rfl (ev (H.d 5 rfl rfl)) (ev (H.d 6 rfl rfl)) (by omega) (F _ _ H.k rfl trivial)
     ·exact λ M K I H _ _ F=>Y5 rfl (ev (H.d 3 rfl rfl)) (ev (H.d 7 rfl rfl)) (by omega) (F _ _ H.k rfl trivial)
     ·exact K6 8 rfl rfl rfl rfl
     intro L a32 w33 X J P V W;replace S:=J.Z S;replace O:=J.E O;replace s1:=J.G s1;replace s2:=J.G s2;replace s3:=J.G s3;replace s4:=J.G s4;replace s10:=J.G s10;replace s12:=J.G s12;replace s42:=J.G s42;replace s43:=J.G s43;replace s44:=J.G s44;replace s15:=J.G s15;have s16:=gS a32 16 (V 9 _ rfl);replace b4:=b4.k0 P;replace b31:=b31.k0 P;replace N4:=N4.below P.toBelow Xf;replace Y:=Nat.le_trans Y P.size;replace U:=P.below0 U;clear J P V X W;refine Xi (wp_seq ?_);have C:Xw [17] (λ L aa I=>(L 20=true->XL w33 aa I 17 174 [.int .i64 0,.int .i64 0,.int .i64 0] (L 21) (λ _ vs=>vs=[.int .i64 (((YD bx by_ lo hi (p.getD k Xd)).getD Xd).a),.int .i64 (((YD bx by_ lo hi (p.getD k Xd)).getD Xd).b),.int .i64 (((YD bx by_ lo hi (p.getD k Xd)).getD Xd).c)]))):=by
      intro L aa I w' kk vv hkk hb W;have x0:=W;exact (λ h=>((x0 h).bel hb (λ _ h=>h)).put (hkk 17 (by simp)) _)
     refine Xk C [58,59,60,61,62,63,64,65,66,67,68,69,70,71,72,73,74,57,75,76,17,0,18] [some (.pointer (some ⟨g31,0,none⟩)),some (.int .i64 ((p.getD k Xd).a)),some (.pointer (some ⟨g31,1,none⟩)),some (.int .i64 ((p.getD k Xd).b)),some (.pointer (some ⟨g31,2,none⟩)),some (.int .i64 ((p.getD k Xd).c)),some (.int .i64 lo),some (.int .i64 (-lo)),some (.int .i64 ((((p.getD k Xd).a)*bx)+(((p.getD k Xd).b)*by_))),some (.int .i64 ((-lo)*((((p.getD k Xd).a)*bx)+(((p.getD k Xd).b)*by_)))),some (.int .i64 hi),some (.int .i64 (-hi)),some (.int .i64 ((((p.getD k Xd).a)*bx)+(((p.getD k Xd).b)*by_))),some (.int .i64 ((-hi)*((((p.getD k Xd).a)*bx)+(((p.getD k Xd).b)*by_)))),some (.int .i64 (max ((-lo)*((((p.getD k Xd).a)*bx)+(((p.getD k Xd).b)*by_))) ((-hi)*((((p.getD k Xd).a)*bx)+(((p.getD k Xd).b)*by_))))),some (.int .i64 (((p.getD k Xd).c)+(max ((-lo)*((((p.getD k Xd).a)*bx)+(((p.getD k Xd).b)*by_))) ((-hi)*((((p.getD k Xd).a)*bx)+(((p.getD k Xd).b)*by_)))))),some (.tuple #[Y8 ((YD bx by_ lo hi (p.getD k Xd)).getD Xd),.bool ((YD bx by_ lo hi (p.getD k Xd)).isSome)]),some (.tuple #[Y8 ((YD bx by_ lo hi (p.getD k Xd)).getD Xd),.bool ((YD bx by_ lo hi (p.getD k Xd)).isSome)]),some (Y8 ((YD bx by_ lo hi (p.getD k Xd)).getD Xd)),some (.bool ((YD bx by_ lo hi (p.getD k Xd)).isSome)),none,none,some (.bool ((YD bx by_ lo hi (p.getD k Xd)).isSome))] (X1 23) [58,59,60,61,62,63,64,65,66,67,68,69,70,71,72,73,74,57,75,76,17,18] [] ?_ (e4 ?_ ?_ ?_ ?_ (e4 ?_ ?_ ?_ ?_ (e4 ?_ ?_ ?_ ?_ (e4 ?_ ?_ ?_ ?_ (e4 ?_ ?_ ?_ ?_ (e2 ?_ ?_ (en rfl ?_ .nil))))))) ?_
     ·exact λ _ h=>(λ h=>by cases h)
     ·intro M K I H _ _ F;simp [go_sem,H.f.g rfl s15];exact (F _ _ H.k rfl (C.q rfl H.x))
     ·intro M K I H _ _ F;simp [go_sem,(gS K 58 (H.d 0 rfl rfl)),(b31.k0 H.k).cell];exact (F _ _ H.k rfl (C.q rfl H.x))
     ·intro M K I H _ _ F;simp [go_sem,H.f.g rfl s15];exact (F _ _ H.k rfl (C.q rfl H.x))
     ·intro M K I H _ _ F;simp [go_sem,(gS K 60 (H.d 2 rfl rfl)),(b31.k0 H.k).cell];exact (F _ _ H.k rfl (C.q rfl H.x))
     ·intro M K I H _ _ F;simp [go_sem,H.f.g rfl s15];exact (F _ _ H.k rfl (C.q rfl H.x))
     ·intro M K I H _ _ F;simp [go_sem,(gS K 62 (H.d 4 rfl rfl)),(b31.k0 H.k).cell];exact (F _ _ H.k rfl (C.q rfl H.x))
     ·exact YJ s3 rfl rfl rfl λ _ _ _ _=>C.q rfl
     ·exact λ M K I H _ _ F=>JO rfl (ev (H.d 6 rfl rfl)) (by omega) (F _ _ H.k rfl (C.q rfl H.x))
     ·exact YJ s16 rfl rfl rfl λ _ _ _ _=>C.q rfl
     ·exact λ M K I H _ _ F=>ZK rfl (ev (H.d 7 rfl rfl)) (ev (H.d 8 rfl rfl)) (by omega) (F _ _ H.k rfl (C.q rfl H.x))
     ·exact YJ s4 rfl rfl rfl λ _ _ _ _=>C.q rfl
     ·exact λ M K I H _ _ F=>JO rfl (ev (H.d 10 rfl rfl)) (by omega) (F _ _ H.k rfl (C.q rfl H.x))
     ·exact YJ s16 rfl rfl rfl λ _ _ _ _=>C.q rfl
     ·exact λ M K I H _ _ F=>ZK rfl (ev (H.d 11 rfl rfl)) (ev (H.d 12 rfl rfl)) (by omega) (F _ _ H.k rfl (C.q rfl H.x))
     ·intro M K I H _ _ F;simp [go_sem,(gS K 67 (H.d 9 rfl rfl)),(gS K 71 (H.d 13 rfl rfl))];exact (F _ _ H.k rfl (C.q rfl H.x))
     ·exact λ M K I H _ _ F=>Y5 rfl (ev (H.d 5 rfl rfl)) (ev (H.d 14 rfl rfl)) (by omega) (F _ _ H.k rfl (C.q rfl H.x))
     ·intro M K I H _ _ F;simp [go_sem,(gS K 59 (H.d 1 rfl rfl)),(gS K 61 (H.d 3 rfl rfl)),(gS K 73 (H.d 15 rfl rfl))];refine (show Calls Tryz.prog 207 #[.int .i64 (p.getD k Xd).a,.int .i64 (p.getD k Xd).b,.int .i64 ((p.getD k Xd).c+max (-lo*((p.getD k Xd).a*bx+(p.getD k Xd).b*by_)) (-hi*((p.getD k Xd).a*bx+(p.getD k Xd).b*by_)))] I (λ e w'=>e=.returned (KP (YD bx by_ lo hi (p.getD k Xd)))/\Below I.heap.size I w') from iHalfOf_c _ _ _ I ⟨by omega,by omega⟩ ⟨by omega,by omega⟩ ⟨by omega,by omega⟩).mono ?_;rintro x wx ⟨rfl,hb⟩;exact (F _ _ (H.k.call hb) (optHalf_eq _) (C.b rfl hb H.x))
     ·exact oMDX 16 rfl rfl rfl rfl λ _ _ _ _=>C.q rfl
     ·exact JZ 17 rfl rfl rfl rfl rfl λ _ _ _ _=>C.q rfl
     ·exact JZ 17 rfl rfl rfl rfl rfl λ _ _ _ _=>C.q rfl
     ·intro M K I H _ _ F;have x0:=H.x;simp [go_sem];exact F _ _ (H.k.alloc _) trivial (λ _=>by rw [show X9 M 20 21=false from H.t 21 rfl];exact XL.new (s:=17) (H.f.lt (by rw [S];decide)) H.k.size [.int .i64 0,.int .i64 0,.int .i64 0])
     ·intro M K I H _ _ F;have x0:=H.x;obtain ⟨g,eg,hg,y,_⟩:=x0 (H.r 20 rfl);have HT:=y H.n;simp [go_sem,(gS K 75 (H.d 18 rfl rfl)),eg,HT.cell,HT.frz];exact F undef _ (H.k.store (.inl hg) [.int .i64 (((YD bx by_ lo hi (p.getD k Xd)).getD Xd).a),.int .i64 (((YD bx by_ lo hi (p.getD k Xd)).getD Xd).b),.int .i64 (((YD bx by_ lo hi (p.getD k Xd)).getD Xd).c)] 0) trivial (λ _=>XL.set eg hg HT (us:=[.int .i64 (((YD bx by_ lo hi (p.getD k Xd)).getD Xd).a),.int .i64 (((YD bx by_ lo hi (p.getD k Xd)).getD Xd).b),.int .i64 (((YD bx by_ lo hi (p.getD k Xd)).getD Xd).c)]) rfl rfl)
     ·exact Kj 19 rfl rfl rfl rfl λ _ _ _ _=>C.q rfl
     intro L a34 w35 X J P V W;have x0:=W;replace S:=J.Z S;replace O:=J.E O;replace s1:=J.G s1;replace s2:=J.G s2;replace s3:=J.G s3;replace s4:=J.G s4;replace s10:=J.G s10;replace s12:=J.G s12;replace s42:=J.G s42;replace s43:=J.G s43;replace s44:=J.G s44;have s18:=gS a34 18 (V 22 _ rfl);replace b4:=b4.k0 P;obtain ⟨g36,s17,lg36,-,b36⟩:=x0 (X 20 (by decide));obtain ⟨_,b36,rfl⟩:=b36 (X 21 (by decide));have ug36:=b36.lt;replace N4:=N4.below P.toBelow Xf;have zw33:=Y;have zw35:=P.size;replace Y:=Nat.le_refl w35.heap.size;replace U:=P.below0 U;clear J P V X x0 C s15 s16 b31;refine Xi (wp_seq (wp_seq ?_));refine Xj [77,78] [some (.bool ((YD bx by_ lo hi (p.getD k Xd)).isSome)),some (.bool (!((YD bx by_ lo hi (p.getD k Xd)).isSome)))] (X1 2) [77,78] [] (λ _ _ _=>True) ?_ (e2 ?_ ?_ .nil) ?_
     ·exact λ _ _=>trivial
     ·exact Zq s18 rfl rfl rfl
     ·exact KY 0 rfl rfl rfl rfl
     intro L a37 w38 X J P V W;replace S:=J.Z S;replace O:=J.E O;replace s1:=J.G s1;replace s2:=J.G s2;replace s3:=J.G s3;replace s4:=J.G s4;replace s10:=J.G s10;replace s12:=J.G s12;replace s42:=J.G s42;replace s43:=J.G s43;replace s44:=J.G s44;replace s17:=J.G s17;have s78:=gS a37 78 (V 1 _ rfl);replace b4:=b4.k0 P;replace b36:=b36.k0 P;replace N4:=N4.below P.toBelow Xf;replace Y:=Nat.le_trans Y P.size;replace U:=P.below0 U;clear J P V X W s18;refine Xi ?_;rcases Bool.eq_false_or_eq_true (!((YD bx by_ lo hi (p.getD k Xd)).isSome)) with q39|q39
     ·refine wp_cond_true (ev (vb s78 q39)) ?_;refine wp_seq ?_;have C:Xw [] (λ L aa I=>X0 I (w.heap.size+1) 26 [.slice none 0 0] (L 1) (λ _ vs=>vs=[.slice none 0 0])):=by
       intro L aa I w' kk vv hkk hb W;have x0:=W;exact (x0.bel hb (λ _ h=>h))
      refine Xk C [79,0,11] [some (.agg #[.slice none 0 0]),none,some (.bool false)] (X1 3) [79,11] [(w.heap.size+1)] ?_ (e2 ?_ ?_ (en rfl ?_ .nil)) ?_
      ·exact λ _ h=>(⟨λ _=>b4.kp h (by simp),(λ h=>by cases h)⟩)
      ·intro M K I H _ _ F;simp [go_sem];exact (F _ _ H.k rfl H.x)
      ·intro M K I H _ _ F;have x0:=H.x;have HT:=x0.1 H.n;simp [go_sem,(gS K 79 (H.d 0 rfl rfl)),H.f.g rfl s10,HT.cell,HT.frz];exact F undef _ (H.k.store (.inr (by simp)) [.slice none 0 0] 0) trivial (X0.set HT (us:=[.slice none 0 0]) rfl rfl)
      ·exact Jy rfl rfl λ _ _ _ _ h=>h
      intro L a40 w41 X J P V W;have x0:=W;replace S:=J.Z S;replace O:=J.E O;replace s10:=J.G s10;have s11:=gS a40 11 (V 2 _ rfl);clear b4;obtain ⟨_,b4,rfl⟩:=x0.2 (X 1 (by decide));replace Y:=Nat.le_trans Y P.size;replace U:=P.below U U.size (by simp<;>omega);clear J P V X x0 C s1 s2 s3 s4 s12 s42 s43 s44 s17 s78 b36 N4 i4;refine Xi (wp_ret ?_);refine Zh (ib_r (Zh (Zh (ib_r (Zh ?_)))));refine bodyPost_ret (v:=.tuple #[.agg #[.slice none 0 0],.bool false]) (by simp [results,Tryz.results196,go_sem,s10,b4.cell,s11]) O ?_;have h0:=grow_stop (lo:=lo) (hi:=hi) hT (movAll_stop hkl (Jf q39));exact ⟨_,by rw [h0.1],by rw [h0.2];exact XH.nilN _ _ _ _ _,U⟩
     ·refine wp_cond_false (ev (vb s78 q39)) ?_;refine wp_skip (Xi ?_);have C:Xw [12,82,83] (λ L aa I=>(L 2=true->(λ I v=>∃ g5,v=.slice (some ⟨g5,0,none⟩) 1 1/\Xn I g5 174 [.int .i64 (((YD bx by_ lo hi (p.getD k Xd)).getD Xd).a),.int .i64 (((YD bx by_ lo hi (p.getD k Xd)).getD Xd).b),.int .i64 (((YD bx by_ lo hi (p.getD k Xd)).getD Xd).c)]/\w38.heap.size<=g5) I (aa.tmps[82]?.getD undef))/\(L 3=true->(λ I v=>∃ A6 c6,v=.slice A6 (((sdL p (ZD bx by_) (ZA bx by_)++KQ (YD bx by_ lo hi) (p.take k))++[((YD bx by_ lo hi (p.getD k Xd)).getD Xd)]).length) c6/\XH 174 3 Xg I w11.heap.size (.slice A6 ((sdL p (ZD bx by_) (ZA bx by_)++KQ (YD bx by_ lo hi) (p.take k))++[((YD bx by_ lo hi (p.getD k Xd)).getD Xd)]).length c6) ((sdL p (ZD bx by_) (ZA bx by_)++KQ (YD bx by_ lo hi) (p.take k))++[((YD bx by_ lo hi (p.getD k Xd)).getD Xd)])) I (aa.tmps[83]?.getD undef))/\(L 4=true->(λ I v=>∃ A6 c6,v=.slice A6 (((sdL p (ZD bx by_) (ZA bx by_)++KQ (YD bx by_ lo hi) (p.take k))++[((YD bx by_ lo hi (p.getD k Xd)).getD Xd)]).length) c6/\XH 174 3 Xg I w11.heap.size (.slice A6 ((sdL p (ZD bx by_) (ZA bx by_)++KQ (YD bx by_ lo hi) (p.take k))++[((YD bx by_ lo hi (p.getD k Xd)).getD Xd)]).length c6) ((sdL p (ZD bx by_) (ZA bx by_)++KQ (YD bx by_ lo hi) (p.take k))++[((YD bx by_ lo hi (p.getD k Xd)).getD Xd)])) I (aa.tmps[12]?.getD undef))/\(L 3=false->XH 174 3 Xg I w11.heap.size (.slice A4 (sdL p (ZD bx by_) (ZA bx by_)++KQ (YD bx by_ lo hi) (p.take k)).length c4) (sdL p (ZD bx by_) (ZA bx by_)++KQ (YD bx by_ lo hi) (p.take k)))/\(L 4=false->aa.tmps[12]?.getD undef=.slice A4 ((sdL p (ZD bx by_) (ZA bx by_)++KQ (YD bx by_ lo hi) (p.take k)).length) c4)):=by
       intro L aa I w' kk vv hkk hb W;obtain ⟨x0,x1,x2,x3,x4⟩:=W;exact ⟨(λ h=>by rw [Xa (hkk 82 (by simp))];obtain ⟨g5',e,f5'⟩:=x0 h;exact ⟨g5',e,⟨f5'.1.bel hb,f5'.2⟩⟩),(λ h=>by rw [Xa (hkk 83 (by simp))];obtain ⟨A6',c6',e,f6'⟩:=x1 h;exact ⟨A6',c6',e,f6'.below hb Xf⟩),(λ h=>by rw [Xa (hkk 12 (by simp))];obtain ⟨A6',c6',e,f6'⟩:=x2 h;exact ⟨A6',c6',e,f6'.below hb Xf⟩),(λ h=>(x3 h).below hb Xf),(λ h=>(Xa (hkk 12 (by simp)) vv).trans (x4 h))⟩
      refine Xk C [80,81,82,83,12] [some (.slice A4 ((sdL p (ZD bx by_) (ZA bx by_)++KQ (YD bx by_ lo hi) (p.take k)).length) c4),some (Y8 ((YD bx by_ lo hi (p.getD k Xd)).getD Xd)),none,none,none] (X1 5) [80,81,82,83,12] (blkL A4) ?_ (e4 ?_ ?_ ?_ ?_ (en rfl ?_ .nil)) ?_
      ·exact λ _ h=>⟨(λ h=>by cases h),(λ h=>by cases h),(λ h=>by cases h),(λ _=>N4.below h.toBelow Xf),(λ _=>s12)⟩
      ·intro M K I H _ _ F;obtain ⟨x0,x1,x2,x3,x4⟩:=H.x;exact XN rfl (ev (x4 (H.t 4 rfl))) (F _ _ H.k rfl (C.q rfl H.x))
      ·intro M K I H _ _ F;simp [go_sem,H.f.g rfl s17,(b36.kp H.k (Yw (λ p hp=>by have q1:=N4.blk p hp;have q2:=i4 p hp;omega))).cell];exact (F _ _ H.k rfl (C.q rfl H.x))
      ·intro M K I H _ _ F;obtain ⟨x0,x1,x2,x3,x4⟩:=H.x;simp [go_sem,(gS K 81 (H.d 1 rfl rfl))];have f5:Xn (I.alloc (.cells #[.int .i64 (((YD bx by_ lo hi (p.getD k Xd)).getD Xd).a),.int .i64 (((YD bx by_ lo hi (p.getD k Xd)).getD Xd).b),.int .i64 (((YD bx by_ lo hi (p.getD k Xd)).getD Xd).c)] 174)) I.heap.size 174 [.int .i64 (((YD bx by_ lo hi (p.getD k Xd)).getD Xd).a),.int .i64 (((YD bx by_ lo hi (p.getD k Xd)).getD Xd).b),.int .i64 (((YD bx by_ lo hi (p.getD k Xd)).getD Xd).c)]/\w38.heap.size<=I.heap.size:=⟨Xn.new _ _ _,H.k.size⟩;exact F _ _ (H.k.alloc _) trivial ⟨(λ _=>by rw [Xb (H.f.lt (by rw [S];decide))];exact ⟨_,rfl,f5⟩),(λ h=>by rw [Xa (by decide)];obtain ⟨A6',c6',e,f6'⟩:=x1 h;exact ⟨A6',c6',e,f6'.below (Xc bR _) Xf⟩),(λ h=>by rw [Xa (by decide)];obtain ⟨A6',c6',e,f6'⟩:=x2 h;exact ⟨A6',c6',e,f6'.below (Xc bR _) Xf⟩),(λ h=>(x3 h).below (Xc bR _) Xf),(λ h=>(Xa (by decide) _).trans (x4 h))⟩
      ·intro M K I H _ _ F;obtain ⟨x0,x1,x2,x3,x4⟩:=H.x;obtain ⟨g5,ee2,f5⟩:=x0 (H.r 2 rfl);refine wp_app1 Xx rfl w11.heap.size i0h _ 24 Tryz.underlying24 hi0h hz0h hz1h hz2h rfl (by decide) (ev (H.d 0 rfl rfl)) (x3 H.n) (ev ee2) (y:=((YD bx by_ lo hi (p.getD k Xd)).getD Xd)) f5.1 Zz (by have:=H.k.size;omega) (by rw [List.length_append,movL_len,List.length_take];simp only [sdL,List.length_cons,List.length_nil];omega) (by decide) ?_;intro A6 c6 wx f6 hG;exact F _ _ (H.k.trans2 hG (λ m h=>.inl h)) trivial ⟨(λ h=>by rw [Xa (by decide)];obtain ⟨g',e,f'⟩:=x0 h;exact ⟨g',e,f'.1.kp hG (Yw (λ p hp=>by have q1:=N4.blk p hp;have q2:=f'.2;omega)),f'.2⟩),(λ _=>by rw [Xb (H.f.lt (by rw [S];decide))];exact ⟨A6,c6,rfl,f6⟩),(λ h=>absurd (H.t 4 rfl) (by rw [show M 4=true by simpa [X9] using h];decide)),(λ h=>by simp [X9] at h),(λ h=>(Xa (by decide) _).trans (x4 h))⟩
      ·intro M K I H _ _ F;obtain ⟨x0,x1,x2,x3,x4⟩:=H.x;obtain ⟨A6,c6,ee3,f6⟩:=x1 (H.r 3 rfl);exact Y7 rfl (ev ee3) (F _ _ H.k trivial ⟨(λ h=>by rw [Xa (by decide)];obtain ⟨g5',e,f5'⟩:=x0 h;exact ⟨g5',e,⟨f5'.1.bel bR,f5'.2⟩⟩),(λ h=>by rw [Xa (by decide)];obtain ⟨A6',c6',e,f6'⟩:=x1 h;exact ⟨A6',c6',e,f6'.below bR Xf⟩),(λ _=>by rw [Xb (H.f.lt (by rw [S];decide))];exact ⟨A6,c6,rfl,f6⟩),(λ h=>(x3 h).below bR Xf),(λ h=>by simp [X9] at h)⟩)
      intro L a42 w43 X J P V W;obtain ⟨x0,x1,x2,x3,x4⟩:=W;replace S:=J.Z S;replace O:=J.E O;have hB9:=P.below U U.size (λ m hm=>by obtain ⟨p,hp,rfl⟩:=J4 hm;have q1:=N4.blk p hp;have q2:=i4 p hp;omega);replace s1:=J.G s1;replace s2:=J.G s2;replace s3:=J.G s3;replace s4:=J.G s4;replace s10:=J.G s10;replace s42:=J.G s42;replace s43:=J.G s43;replace s44:=J.G s44;replace b4:=b4.kp P (Yw (λ p hp=>by have q1:=N4.blk p hp;have q2:=i4 p hp;omega));obtain ⟨A6,c6,s12,N6⟩:=x2 (X 4 (by decide));have i6:∀ p,A6=some p->p.block<w43.heap.size:=λ p hp=>(N6.blk p hp).2;have zw38:=Y;have zw43:=P.size;replace Y:=Nat.le_refl w43.heap.size;replace U:=hB9;clear J P V X x0 x1 x2 x3 x4 C s17 s78 b36 N4 i4;refine ib_n (Xi ?_);refine Xj [84,44] [some (.int .i64 ((k:Int)+1)),some (.int .i64 ((k:Int)+1))] (X1 2) [84,44] [] (λ L aa I=>(L 1=false->aa.tmps[44]?.getD undef=.int .i64 (k:Int))) ?_ (e2 ?_ ?_ .nil) ?_
      ·exact λ _ h=>(λ _=>s44)
      ·intro M K I H _ _ F;have x0:=H.x;exact Y5 rfl (ev (x0 (H.t 1 rfl))) rfl (by omega) (F _ _ H.k rfl (λ h=>(Xa (by decide) _).trans (x0 h)))
      ·intro M K I H _ _ F;have x0:=H.x;exact XN rfl (ev (H.d 0 rfl rfl)) (F _ _ H.k rfl (λ h=>by simp [X9] at h))
      intro L a44 w45 X J P V W;have x0:=W;replace S:=J.Z S;replace O:=J.E O;replace s1:=J.G s1;replace s2:=J.G s2;replace s3:=J.G s3;replace s4:=J.G s4;replace s10:=J.G s10;replace s42:=J.G s42;replace s43:=J.G s43;replace s12:=J.G s12;have s44:=gS a44 44 (V 1 _ rfl);replace b4:=b4.k0 P;replace N6:=N6.below P.toBelow Xf;replace Y:=Nat.le_trans Y P.size;replace U:=P.below0 U;clear J P V X x0;refine Xi ?_;refine ⟨?_, ?_⟩
      ·exact ⟨S,O,(k+1),(A6),(c6),(by omega),(movAll_next hkl hall (Yt q39)),s1,s2,s3,s4,s10,(by rw [app_next hkl (Yt q39)];exact s12),s42,s43,s44,b4,(by rw [app_next hkl (Yt q39)];exact N6),U,(by omega)⟩
      ·show (p.length-(intOf (a44.tmps[44]?.getD undef)).toNat)<_;rw [s44,hmu];simp only [intOf];omega
    ·have ek:k=p.length:=by have:=KM q28;omega
     have hta:p.take k=p:=by rw [ek];exact List.take_length
     have hmo:∀ g∈(sdL p (ZD bx by_) (ZA bx by_)++KQ (YD bx by_ lo hi) (p.take k)),Xy g=true:=by rw [hta];rw [hta] at hall;intro g hg;rcases List.mem_append.1 hg with h|h;exact sdL_ok (Yt q19) g h;exact movL_ok (λ _ _ _ e=>growH_ok e) hall g h
     have hlm:(sdL p (ZD bx by_) (ZA bx by_)++KQ (YD bx by_ lo hi) (p.take k)).length=2+p.length:=by rw [List.length_append,movL_len,hta];rfl
     rw [hta] at hall;obtain ⟨XX,hX0⟩:∃ z,z=sdL p (ZD bx by_) (ZA bx by_)++KQ (YD bx by_ lo hi) (p.take k):=⟨_,rfl⟩;rw [<- hX0] at hmo hlm N4 s12;have hX1:XX=grwL bx by_ lo hi p:=by rw [hX0,hta];rfl
     clear hX0;refine wp_cond_false (ev (vb s45 q28)) ?_;refine wp_exit ?_;refine th_e (th_e (ib_x (Xi (wp_seq ?_))));have C:Xw [86,87] (λ L aa I=>(L 1=true->(λ I v=>∃ A7 c7,v=.tuple #[.agg #[.slice A7 ((Yd (Xq XX)).length) c7],.bool (YK (Xq XX))]/\XH 174 3 Xg I w27.heap.size (.slice A7 (Yd (Xq XX)).length c7) (Yd (Xq XX))) I (aa.tmps[86]?.getD undef))/\(L 2=true->(λ I v=>∃ A7 c7,v=.agg #[.slice A7 ((Yd (Xq XX)).length) c7]/\XH 174 3 Xg I w27.heap.size (.slice A7 (Yd (Xq XX)).length c7) (Yd (Xq XX))) I (aa.tmps[87]?.getD undef))/\X0 I (w.heap.size+1) 26 [.slice none 0 0] (L 4) (λ I vs=>∃ A7 c7,vs=[.slice A7 ((Yd (Xq XX)).length) c7]/\XH 174 3 Xg I w27.heap.size (.slice A7 (Yd (Xq XX)).length c7) (Yd (Xq XX)))):=by
      intro L aa I w' kk vv hkk hb W;obtain ⟨x0,x1,x2⟩:=W;exact ⟨(λ h=>by rw [Xa (hkk 86 (by simp))];obtain ⟨A7',c7',e,f7'⟩:=x0 h;exact ⟨A7',c7',e,f7'.below hb Xf⟩),(λ h=>by rw [Xa (hkk 87 (by simp))];obtain ⟨A7',c7',e,f7'⟩:=x1 h;exact ⟨A7',c7',e,f7'.below hb Xf⟩),(x2.bel hb (λ _ ⟨A7',c7',e,f7'⟩=>⟨A7',c7',e,f7'.below hb Xf⟩))⟩
     refine Xk C [85,86,87,88,0,11] [some (.slice A4 XX.length c4),none,none,some (.bool (YK (Xq XX))),none,some (.bool (YK (Xq XX)))] (X1 6) [85,86,87,88,11] [(w.heap.size+1)] ?_ (e4 ?_ ?_ ?_ ?_ (e2 ?_ ?_ .nil)) ?_
     ·exact λ _ h=>⟨(λ h=>by cases h),(λ h=>by cases h),(⟨λ _=>b4.kp h (by simp),(λ h=>by cases h)⟩)⟩
     ·exact YJ s12 rfl rfl rfl λ _ _ _ _=>C.q rfl
     ·intro M K I H _ _ F;obtain ⟨x0,x1,x2⟩:=H.x;simp [go_sem,(gS K 85 (H.d 0 rfl rfl))];refine (iMeet_c A4 XX c4 I (by rw [hlm];omega) hmo ((N4.kp H.k i4 (by omega) (by simp<;>omega)).out Xx) N4.nilcap).mono ?_;rintro x wx ⟨_,rfl,⟨A7,c7,rfl,f0⟩,hb⟩;have f7:=XH.mono (show XH 174 3 Xg wx I.heap.size (.slice A7 (Yd (Xq XX)).length c7) (Yd (Xq XX)) from ⟨_,_,rfl,f0⟩) H.k.size;exact (F _ _ (H.k.call hb) trivial ⟨(λ _=>by rw [Xb (H.f.lt (by rw [S];decide))];exact ⟨A7,c7,rfl,f7⟩),(λ h=>by rw [Xa (by decide)];obtain ⟨A7',c7',e,f7'⟩:=x1 h;exact ⟨A7',c7',e,f7'.below hb Xf⟩),(x2.bel hb (λ _ ⟨A7',c7',e,f7'⟩=>⟨A7',c7',e,f7'.below hb Xf⟩))⟩)
     ·intro M K I H _ _ F;obtain ⟨x0,x1,x2⟩:=H.x;obtain ⟨A7,c7,ee1,f7⟩:=x0 (H.r 1 rfl);exact XC rfl (ev ee1) rfl (F _ _ H.k trivial ⟨(λ h=>by rw [Xa (by decide)];obtain ⟨A7',c7',e,f7'⟩:=x0 h;exact ⟨A7',c7',e,f7'.below bR Xf⟩),(λ _=>by rw [Xb (H.f.lt (by rw [S];decide))];exact ⟨A7,c7,rfl,f7⟩),(x2.bel bR (λ _ ⟨A7',c7',e,f7'⟩=>⟨A7',c7',e,f7'.below bR Xf⟩))⟩)
     ·intro M K I H _ _ F;obtain ⟨x0,x1,x2⟩:=H.x;obtain ⟨A7,c7,ee1,f7⟩:=x0 (H.r 1 rfl);exact XC rfl (ev ee1) rfl (F _ _ H.k rfl (C.q rfl H.x))
     ·intro M K I H _ _ F;obtain ⟨x0,x1,x2⟩:=H.x;obtain ⟨A7,c7,ee2,f7⟩:=x1 (H.r 2 rfl);have HT:=x2.1 H.n;simp [go_sem,ee2,H.f.g rfl s10,HT.cell,HT.frz];have f7:=f7.otherC (f7.typ HT (by decide)) [.slice A7 ((Yd (Xq XX)).length) c7] 0;exact F undef _ (H.k.store (.inr (by simp)) [.slice A7 ((Yd (Xq XX)).length) c7] 0) trivial ⟨(λ h=>by obtain ⟨A7',c7',e,f7'⟩:=x0 h;exact ⟨A7',c7',e,f7'.otherC (f7'.typ HT (by decide)) [.slice A7 ((Yd (Xq XX)).length) c7] 0⟩),(λ h=>by obtain ⟨A7',c7',e,f7'⟩:=x1 h;exact ⟨A7',c7',e,f7'.otherC (f7'.typ HT (by decide)) [.slice A7 ((Yd (Xq XX)).length) c7] 0⟩),(X0.set HT (us:=[.slice A7 ((Yd (Xq XX)).length) c7]) rfl ⟨A7,c7,rfl,f7⟩)⟩
     ·exact Kj 3 rfl rfl rfl rfl λ _ _ _ _=>C.q rfl
     intro L a46 w47 X J P V W;obtain ⟨x0,x1,x2⟩:=W;replace S:=J.Z S;replace O:=J.E O;replace s10:=J.G s10;have s11:=gS a46 11 (V 5 _ rfl);clear b4;obtain ⟨_,b4,A7,c7,rfl,N7⟩:=x2.2 (X 4 (by decide));have i7:∀ p,A7=some p->p.block<w47.heap.size:=λ p hp=>(N7.blk p hp).2;have zw27:=Y;have zw47:=P.size;replace Y:=Nat.le_refl w47.heap.size;replace U:=P.below U U.size (by simp<;>omega);clear J P V X x0 x1 x2 C s1 s2 s3 s4 s12 s42 s43 s44 s45 N4 i4;refine Xi (wp_ret ?_);refine bodyPost_ret (v:=.tuple #[.agg #[.slice A7 ((Yd (Xq XX)).length) c7],.bool (YK (Xq XX))]) (by simp [results,Tryz.results196,go_sem,s10,b4.cell,s11]) O ?_;rw [hX1] at N7;have h0:=grow_all hT (Yt q19) hall;exact ⟨_,by rw [h0.1,hX1],by rw [h0.2];exact N7.mono (by omega),U⟩
end Go.Proofs.YtabfdkpdppemaaaGreat
