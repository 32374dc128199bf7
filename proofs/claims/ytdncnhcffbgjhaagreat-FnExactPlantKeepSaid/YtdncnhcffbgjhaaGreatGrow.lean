/-
 Growing along a direction: the two half planes beside a region, of the program.
 Conditions: valid regions; directions from -100 to 100.
-/
import Derived.Test.YtdncnhcffbgjhaaGreatVa
import Derived.Test.YtdncnhcffbgjhaaGreatPulS
import Derived.Test.YtdncnhcffbgjhaaGreatInv2
import Derived.Test.YtdncnhcffbgjhaaGreatCopy
namespace Go.Proofs.YtdncnhcffbgjhaaGreat
open Go.RowKit
theorem New.lit {α:Type} {T sz g base:Nat} {enc:α→List Value} {w:World} {xs:List α} (hsz:∀ x,(enc x).length=sz) (h:HasT w g T (xs.flatMap enc)) (hb:base≤g) (hm:xs.length≤1000000):New T sz enc w base (.slice (some ⟨g,0,none⟩) xs.length xs.length) xs:=by
 have hl:(xs.flatMap enc).length=xs.length*sz:=by
  clear h hb hm
  induction xs with
  | nil=>simp
  | cons x t ih=>rw [List.flatMap_cons,List.length_append,ih,hsz,List.length_cons,Nat.add_mul,Nat.one_mul,Nat.add_comm]
 refine ⟨_,_,rfl,hl,.inr ⟨g,xs.length,(xs.flatMap enc).toArray,rfl,hb,h,Nat.le_refl _,Nat.le_trans hm (by decide),by simpa using hl, ?_⟩⟩
 exact List.take_of_length_le (by show (xs.flatMap enc).length≤_;omega)
theorem two_slI {w:World} {g T:Nat} {x y:Int} (h:HasT w g T [.int .i64 x,.int .i64 y]):Sl 1 intC w (some ⟨g,0,none⟩) [x,y] :=
 (New.lit (enc:=intC) (xs:=[x,y]) (base:=0) (T:=T) intC_len h (Nat.zero_le _) (by simp)).out intC_len
def dirA (bx by_:Int):Int:=(-by_).tdiv ((gcdAll [bx,by_]:Nat):Int)
def dirB (bx by_:Int):Int:=bx.tdiv ((gcdAll [bx,by_]:Nat):Int)
structure DirIn (bx by_:Int):Prop where
 x : -100≤bx∧bx≤100
 y : -100≤by_∧by_≤100
 nz:¬ (bx=0∧by_=0)
structure DirOk (bx by_:Int):Prop where
 g:1≤((gcdAll [bx,by_]:Nat):Int)∧((gcdAll [bx,by_]:Nat):Int)≤100
 a : -100≤dirA bx by_∧dirA bx by_≤100
 b : -100≤dirB bx by_∧dirB bx by_≤100
 nz:¬ (dirA bx by_=0∧dirB bx by_=0)
theorem dirOk {bx by_:Int} (h:DirIn bx by_):DirOk bx by_:=by
 have hx:=h.x
 have hy:=h.y
 have hn:=h.nz
 have hg:gcdAll [bx,by_]=Nat.gcd bx.natAbs by_.natAbs:=by rw [gcd_pair]
 have d1:=Nat.gcd_dvd_left bx.natAbs by_.natAbs
 have d2:=Nat.gcd_dvd_right bx.natAbs by_.natAbs
 have hp:0<Nat.gcd bx.natAbs by_.natAbs:=by
  rcases Classical.em (bx=0) with e|e
  ·exact Nat.gcd_pos_of_pos_right _ (by omega)
  ·exact Nat.gcd_pos_of_pos_left _ (by omega)
 have hle:Nat.gcd bx.natAbs by_.natAbs≤100:=by
  rcases Classical.em (bx=0) with e|e
  ·exact Nat.le_trans (Nat.le_of_dvd (by omega) d2) (by omega)
  ·exact Nat.le_trans (Nat.le_of_dvd (by omega) d1) (by omega)
 have a1:=tdiv_le (-by_) (gcdAll [bx,by_]) 100 (by omega) (by omega)
 have b1:=tdiv_le bx (gcdAll [bx,by_]) 100 (by omega) (by omega)
 refine ⟨⟨by rw [hg];omega,by rw [hg];omega⟩,a1,b1, ?_⟩
 rintro ⟨e1,e2⟩
 refine hn ⟨?_, ?_⟩
 ·have q:=Int.mul_tdiv_cancel' (show ((gcdAll [bx,by_]:Nat):Int) ∣ bx from Int.ofNat_dvd_left.2 (by rw [hg];exact d1))
  unfold dirB at e2
  rw [e2] at q;omega
 ·have q:=Int.mul_tdiv_cancel' (show ((gcdAll [bx,by_]:Nat):Int) ∣ -by_ from Int.ofNat_dvd_left.2 (by rw [hg,Int.natAbs_neg];exact d2))
  unfold dirA at e1
  rw [e1] at q;omega
/-- The half plane of a direction that just holds a region. -/
def sdH (p:List Half) (a b:Int):Option Half:=halfOf (a*(sup p a b).d) (b*(sup p a b).d) (sup p a b).n
def sdL (p:List Half) (a b:Int):List Half:=[(sdH p a b).getD half0,(sdH p (-a) (-b)).getD half0]
structure SdB (p:List Half) (a b:Int):Prop where
 x : -500000000000≤a*(sup p a b).d∧a*(sup p a b).d≤500000000000
 y : -500000000000≤b*(sup p a b).d∧b*(sup p a b).d≤500000000000
 n : -500000000000000000≤(sup p a b).n∧(sup p a b).n≤500000000000000000
theorem sdB {p:List Half} {a b:Int} (hp:regionOk p=true) (hne:p≠[]) (ha : -100≤a∧a≤100) (hb : -100≤b∧b≤100):SdB p a b:=by
 have R:=supR hp hne (a:=a) (b:=b) ⟨by omega,by omega⟩ ⟨by omega,by omega⟩
 have d1:=R.d
 have x:=mulB (a:=a) (b:=(sup p a b).d) (A:=100) (B:=5000000000) ⟨by omega,by omega⟩ ⟨by omega,by omega⟩
 have y:=mulB (a:=b) (b:=(sup p a b).d) (A:=100) (B:=5000000000) ⟨by omega,by omega⟩ ⟨by omega,by omega⟩
 exact ⟨⟨by omega,by omega⟩,⟨by omega,by omega⟩,R.n⟩
theorem topH_sd {p:List Half} {a b:Int} (hp:regionOk p=true) (hne:p≠[]) (ha : -100≤a∧a≤100) (hb : -100≤b∧b≤100) (hab:¬ (a=0∧b=0)):topH a b (sup p a b)=sdH p a b:=by
 have R:=supR hp hne (a:=a) (b:=b) ⟨by omega,by omega⟩ ⟨by omega,by omega⟩
 unfold topH sdH
 split
 ·rename_i hd
  have:=ero_none (c:=0) (n:=-(sup p a b).n) hab hd (by rw [Int.natAbs_neg];exact R.g)
  rw [show 0*(sup p a b).d - -(sup p a b).n=(sup p a b).n by omega] at this
  exact this.symm
 ·rfl
set_option maxRecDepth 100000 in
set_option maxHeartbeats 3000000 in
theorem iSides_c (p:List Half) (bx by_:Int) (a:SlA) (w:World) (hp:regionOk p=true) (hne:p≠[]) (hD:DirIn bx by_) (hsp:Sl 3 halfC w a.A p) :
 Calls Tryz.prog 221 #[.agg #[.slice a.A p.length a.c],.int .i64 bx,.int .i64 by_] w fun x w'=>∃ A c,x=.returned (.tuple #[.slice A (sdL p (dirA bx by_) (dirB bx by_)).length c,.bool ((sdH p (dirA bx by_) (dirB bx by_)).isSome&&(sdH p (-dirA bx by_) (-dirB bx by_)).isSome)])∧New 111 3 halfC w' w.heap.size (.slice A (sdL p (dirA bx by_) (dirB bx by_)).length c) (sdL p (dirA bx by_) (dirB bx by_))∧Below w.heap.size w w':=by
 have hO:=dirOk hD
 have hgo:=hO.g
 have hDx:=hD.x
 have hDy:=hD.y
 refine calls_v Tryz.func221 rfl (n:=76) Tryz.ntmps221 (by simp) ?_
 intro a0 hz hdf ha
 have s0:a0.tmps[0]?.getD undef=.agg #[.slice a.A p.length a.c]:=ha 0 _ rfl;have s1:a0.tmps[1]?.getD undef=.int .i64 bx:=ha 1 _ rfl;have s2:a0.tmps[2]?.getD undef=.int .i64 by_:=ha 2 _ rfl;clear ha
 have hB:=Below.refl w.heap.size w
 have hZ:=Nat.le_refl w.heap.size
 refine wp_seq ?_
 refine wp_entry [3,6,7] [.pointer (some ⟨w.heap.size,0,none⟩),.slice none 0 0,.bool false] [some (.cells [.slice a.A p.length a.c].toArray 37),none,none] [0,1,1] [3,6,7] [0,1,2] (by kernel_rfl) (by rw [hz];decide) (ec ?_ (ec ?_ (ec ?_ .nil))) ?_
 ·intro a w' hF hs N Q hN;simp [go_sem,hF.g rfl s0];rw [hs];exact hN
 ·intro a w' hF hs N Q hN;simp [go_sem];exact hN
 ·intro a w' hF hs N Q hN;simp [go_sem];exact hN
 intro a1 w2 hF hV hb hO
 replace hz:=hF.size.trans hz;replace hdf:=hF.defers.trans hdf;replace s1:=hF.g rfl s1;replace s2:=hF.g rfl s2
 have s3:a1.tmps[3]?.getD undef=.pointer (some ⟨w.heap.size,0,none⟩):=hV 0 (by decide)
 have b3:HasT w2 w.heap.size 37 [.slice a.A p.length a.c]:=hO 0 _ rfl
 have hG:=b3.lt
 replace hB:=below_tr hB hb;have zw2:=Nat.le_trans hZ hb.size;replace hZ:=Nat.le_refl w2.heap.size;clear hF hV hb hO s0;refine th_n ?_;refine wp_seq ?_
 have hXb:StaysX [19] (fun L aa ww=>(L 2=true→(fun ww v=>∃ g1,v=.slice (some ⟨g1,0,none⟩) 2 2∧HasT ww g1 3 [.int .i64 bx,.int .i64 by_]∧w2.heap.size≤g1) ww (aa.tmps[19]?.getD undef))):=by
  intro L aa ww w' kk vv hkk hb hX
  have x0:=hX
  exact (fun h=>by rw [put_ne' (hkk 19 (by simp))];obtain ⟨g1',e,f1'⟩:=x0 h;exact ⟨g1',e,⟨f1'.1.bel hb,f1'.2⟩⟩)
 refine wp_regK hXb (by kernel_rfl) [17,18,19,20,21,8] [some (.int .i64 bx),some (.int .i64 by_),none,some (.int .u64 ((gcdAll [bx,by_]:Nat):Int)),some (.int .i64 ((gcdAll [bx,by_]:Nat):Int)),some (.int .i64 ((gcdAll [bx,by_]:Nat):Int))] (dlR 6) [17,18,19,20,21,8] [0,1,2,3,4,5] [] (by kernel_rfl) (by rw [hz];decide) ?_ (en rfl ?_ (en rfl ?_ (en rfl ?_ (en rfl ?_ (en rfl ?_ (en rfl ?_ .nil)))))) ?_
 ·exact fun _ h=>(fun h=>by cases h)
 ·exact fun Lk ak ww H _ _ hN=>wp_move rfl (ev (H.f.g rfl s1)) (hN _ _ H.k rfl (hXb.q rfl H.x))
 ·exact fun Lk ak ww H _ _ hN=>wp_move rfl (ev (H.f.g rfl s2)) (hN _ _ H.k rfl (hXb.q rfl H.x))
 ·intro Lk ak ww H _ _ hN
  have x0:=H.x
  simp [go_sem,(gS ak 17 (H.d 0 rfl rfl)),(gS ak 18 (H.d 1 rfl rfl))]
  have f1:HasT (ww.alloc (.cells #[.int .i64 bx,.int .i64 by_] 3)) ww.heap.size 3 [.int .i64 bx,.int .i64 by_]∧w2.heap.size≤ww.heap.size:=⟨HasT.new _ _ _,H.k.size⟩
  exact hN _ _ (H.k.alloc _) trivial (fun _=>by rw [put_get_self (H.f.lt (by rw [hz];decide))];exact ⟨_,rfl,f1⟩)
 ·intro Lk ak ww H _ _ hN
  have x0:=H.x
  obtain ⟨g1,ee2,f1⟩:=x0 (H.r 2 rfl)
  simp [go_sem,ee2]
  refine (gcdOfAll_c (some ⟨g1,0,none⟩) [bx,by_] 2 ww (by simp) (by intro n hn;simp only [List.mem_cons,List.not_mem_nil,or_false] at hn;rcases hn with rfl|rfl<;>exact ⟨by omega,by omega⟩) (two_slI f1.1)).mono ?_
  rintro x wx ⟨rfl,hb⟩
  exact (hN _ _ (H.k.call hb) rfl (hXb.b rfl hb H.x))
 ·intro Lk ak ww H _ _ hN
  simp [go_sem,(gS ak 20 (H.d 3 rfl rfl))]
  exact (hN _ _ H.k (congrArg (Value.int .i64) (wrp (by omega))) (hXb.q rfl H.x))
 ·exact fun Lk ak ww H _ _ hN=>wp_assign rfl (ev (H.d 4 rfl rfl)) (hN _ _ H.k rfl (hXb.q rfl H.x))
 intro L a4 w5 hL hF hK hV hX;have x0:=hX;replace hz:=hF.Z hz;replace hdf:=hF.E hdf;replace s1:=hF.G s1;replace s2:=hF.G s2;replace s3:=hF.G s3;have s8:=gS a4 8 (hV 5 _ rfl);replace b3:=b3.k0 hK;replace hZ:=Nat.le_trans hZ hK.size;replace hB:=hK.below0 hB;clear hF hK hV hL x0 hXb
 obtain ⟨gg,egg⟩:∃ z:Int,z=((gcdAll [bx,by_]:Nat):Int):=⟨_,rfl⟩
 rw [← egg] at s8
 have hgg:1≤gg∧gg≤100:=by rw [egg];exact hO.g
 have hta:(-by_).tdiv gg=dirA bx by_:=by rw [egg];rfl
 have htb:bx.tdiv gg=dirB bx by_:=by rw [egg];rfl
 have hA:=hO.a
 have hBb:=hO.b
 have tb1 : -100≤(-by_).tdiv gg∧(-by_).tdiv gg≤100:=by rw [hta];exact hA
 have tb2 : -100≤bx.tdiv gg∧bx.tdiv gg≤100:=by rw [htb];exact hBb
 refine th_n ?_;refine wp_seq ?_
 refine wp_regJ (by kernel_rfl) [22,23,24,25,26,27,28,9,10] [some (.int .i64 by_),some (.int .i64 (-by_)),some (.int .i64 gg),some (.int .i64 ((-by_).tdiv gg)),some (.int .i64 bx),some (.int .i64 gg),some (.int .i64 (bx.tdiv gg)),some (.int .i64 ((-by_).tdiv gg)),some (.int .i64 (bx.tdiv gg))] ([[],[0],[],[0,1,2],[],[],[4,5],[0,1,2,3],[0,1,2,3,4,5,6,7]]) [22,23,24,25,26,27,28,9,10] [0,1,2,3,4,5,6,7,8] [] (fun _ _ _=>True) (by kernel_rfl) (by rw [hz];decide) ?_ (en rfl ?_ (en rfl ?_ (en rfl ?_ (en rfl ?_ (en rfl ?_ (en rfl ?_ (en rfl ?_ (en rfl ?_ (en rfl ?_ .nil))))))))) ?_
 ·exact fun _ _=>trivial
 ·exact fun Lk ak ww H _ _ hN=>wp_move rfl (ev (H.f.g rfl s2)) (hN _ _ H.k rfl trivial)
 ·exact fun Lk ak ww H _ _ hN=>wp_neg rfl (ev (H.d 0 rfl rfl)) (by omega) (hN _ _ H.k rfl trivial)
 ·exact fun Lk ak ww H _ _ hN=>wp_move rfl (ev (H.f.g rfl s8)) (hN _ _ H.k rfl trivial)
 ·exact fun Lk ak ww H _ _ hN=>wp_quo rfl (ev (H.d 1 rfl rfl)) (ev (H.d 2 rfl rfl)) (by omega) (by omega) (hN _ _ H.k rfl trivial)
 ·exact fun Lk ak ww H _ _ hN=>wp_move rfl (ev (H.f.g rfl s1)) (hN _ _ H.k rfl trivial)
 ·exact fun Lk ak ww H _ _ hN=>wp_move rfl (ev (H.f.g rfl s8)) (hN _ _ H.k rfl trivial)
 ·exact fun Lk ak ww H _ _ hN=>wp_quo rfl (ev (H.d 4 rfl rfl)) (ev (H.d 5 rfl rfl)) (by omega) (by omega) (hN _ _ H.k rfl trivial)
 ·exact fun Lk ak ww H _ _ hN=>wp_assign rfl (ev (H.d 3 rfl rfl)) (hN _ _ H.k rfl trivial)
 ·exact fun Lk ak ww H _ _ hN=>wp_assign rfl (ev (H.d 6 rfl rfl)) (hN _ _ H.k rfl trivial)
 intro L a6 w7 hL hF hK hV hX;replace hz:=hF.Z hz;replace hdf:=hF.E hdf;replace s3:=hF.G s3;have s9:=gS a6 9 (hV 7 _ rfl);have s10:=gS a6 10 (hV 8 _ rfl);replace b3:=b3.k0 hK;replace hZ:=Nat.le_trans hZ hK.size;replace hB:=hK.below0 hB;clear hF hK hV hL hX s1 s2 s8
 rw [hta] at s9
 rw [htb] at s10
 obtain ⟨da,eda⟩:∃ z:Int,z=dirA bx by_:=⟨_,rfl⟩
 rw [← eda] at s9
 obtain ⟨db,edb⟩:∃ z:Int,z=dirB bx by_:=⟨_,rfl⟩
 rw [← edb] at s10
 rw [← eda] at hA
 rw [← edb] at hBb
 obtain ⟨⟨u1,u2⟩,⟨u3,u4⟩,⟨u5,u6⟩⟩:=sdB hp hne hA hBb
 obtain ⟨⟨v1,v2⟩,⟨v3,v4⟩,⟨v5,v6⟩⟩:=sdB (a:=-da) (b:=-db) hp hne ⟨by omega,by omega⟩ ⟨by omega,by omega⟩
 refine th_n ?_;refine wp_seq ?_
 have hXb:StaysX [11,12] (fun L aa ww=>(L 10=true→BoxX w7 aa ww 11 52 [.int .i64 0,.int .i64 0] (L 12) (fun _ vs=>vs=[.int .i64 ((sup p da db).n),.int .i64 ((sup p da db).d)]))∧(L 11=true→BoxX w7 aa ww 12 52 [.int .i64 0,.int .i64 0] (L 13) (fun _ vs=>vs=[.int .i64 ((sup p (-da) (-db)).n),.int .i64 ((sup p (-da) (-db)).d)]))∧(L 10=true→L 11=true→aa.tmps[11]?.getD undef≠aa.tmps[12]?.getD undef)):=by
  intro L aa ww w' kk vv hkk hb hX
  obtain ⟨x0,x1,x2⟩:=hX
  exact ⟨(fun h=>((x0 h).bel hb (fun _ h=>h)).put (hkk 11 (by simp)) _),(fun h=>((x1 h).bel hb (fun _ h=>h)).put (hkk 12 (by simp)) _),(fun h1 h2 e=>x2 h1 h2 ((put_ne' (hkk 11 (by simp)) vv).symm.trans (e.trans (put_ne' (hkk 12 (by simp)) vv))))⟩
 refine wp_regK hXb (by kernel_rfl) [29,30,31,32,33,34,35,36,37,38,11,12,0,0] [some (.agg #[.slice a.A p.length a.c]),some (.int .i64 da),some (.int .i64 db),some (ratioV (sup p da db)),some (.agg #[.slice a.A p.length a.c]),some (.int .i64 da),some (.int .i64 (-da)),some (.int .i64 db),some (.int .i64 (-db)),some (ratioV (sup p (-da) (-db))),none,none,none,none] ([[],[],[],[0,1,2],[],[],[5],[],[7],[0,1,2,3,4,5,6,7,8],[],[],[0,1,2,3,4,5,6,7,8,9,10,11],[0,1,2,3,4,5,6,7,8,9,10,11,12]]) [29,30,31,32,33,34,35,36,37,38,11,12] [0,1,2,3,4,5,6,7,8,9,10,11,12,13] [] (by kernel_rfl) (by rw [hz];decide) ?_ (en rfl ?_ (en rfl ?_ (en rfl ?_ (en rfl ?_ (en rfl ?_ (en rfl ?_ (en rfl ?_ (en rfl ?_ (en rfl ?_ (en rfl ?_ (en rfl ?_ (en rfl ?_ (en rfl ?_ (en rfl ?_ .nil)))))))))))))) ?_
 ·exact fun _ h=>⟨(fun h=>by cases h),(fun h=>by cases h),(fun h=>by cases h)⟩
 ·intro Lk ak ww H _ _ hN
  simp [go_sem,H.f.g rfl s3,(b3.k0 H.k).cell]
  exact (hN _ _ H.k rfl (hXb.q rfl H.x))
 ·exact fun Lk ak ww H _ _ hN=>wp_move rfl (ev (H.f.g rfl s9)) (hN _ _ H.k rfl (hXb.q rfl H.x))
 ·exact fun Lk ak ww H _ _ hN=>wp_move rfl (ev (H.f.g rfl s10)) (hN _ _ H.k rfl (hXb.q rfl H.x))
 ·intro Lk ak ww H _ _ hN
  simp [go_sem,(gS ak 29 (H.d 0 rfl rfl)),(gS ak 30 (H.d 1 rfl rfl)),(gS ak 31 (H.d 2 rfl rfl))]
  have hBi:=H.k.below0 hB
  refine (iSupport_c p a da db ww hp hne ⟨by omega,by omega⟩ ⟨by omega,by omega⟩ (hsp.below hBi)).mono ?_
  rintro x wx ⟨rfl,hb⟩
  exact (hN _ _ (H.k.call hb) rfl (hXb.b rfl hb H.x))
 ·intro Lk ak ww H _ _ hN
  simp [go_sem,H.f.g rfl s3,(b3.k0 H.k).cell]
  exact (hN _ _ H.k rfl (hXb.q rfl H.x))
 ·exact fun Lk ak ww H _ _ hN=>wp_move rfl (ev (H.f.g rfl s9)) (hN _ _ H.k rfl (hXb.q rfl H.x))
 ·exact fun Lk ak ww H _ _ hN=>wp_neg rfl (ev (H.d 5 rfl rfl)) (by omega) (hN _ _ H.k rfl (hXb.q rfl H.x))
 ·exact fun Lk ak ww H _ _ hN=>wp_move rfl (ev (H.f.g rfl s10)) (hN _ _ H.k rfl (hXb.q rfl H.x))
 ·exact fun Lk ak ww H _ _ hN=>wp_neg rfl (ev (H.d 7 rfl rfl)) (by omega) (hN _ _ H.k rfl (hXb.q rfl H.x))
 ·intro Lk ak ww H _ _ hN
  simp [go_sem,(gS ak 33 (H.d 4 rfl rfl)),(gS ak 35 (H.d 6 rfl rfl)),(gS ak 37 (H.d 8 rfl rfl))]
  have hBi:=H.k.below0 hB
  refine (iSupport_c p a (-da) (-db) ww hp hne ⟨by omega,by omega⟩ ⟨by omega,by omega⟩ (hsp.below hBi)).mono ?_
  rintro x wx ⟨rfl,hb⟩
  exact (hN _ _ (H.k.call hb) rfl (hXb.b rfl hb H.x))
 ·intro Lk ak ww H _ _ hN
  obtain ⟨x0,x1,x2⟩:=H.x
  simp [go_sem]
  exact hN _ _ (H.k.alloc _) trivial ⟨(fun _=>by rw [show upd Lk 10 12=false from H.t 12 rfl];exact BoxX.new (s:=11) (H.f.lt (by rw [hz];decide)) H.k.size [.int .i64 0,.int .i64 0]),(fun h=>((x1 h).bel (below_al bR _) (fun _ h=>h)).put (by decide) _),(fun h1 h2 e=>by obtain ⟨g2,e2,_,l2⟩:=(x1 h2).lt;rw [put_get_self (H.f.lt (by rw [hz];decide)),put_ne' (by decide),e2] at e;exact ptr_ne (by omega) e)⟩
 ·intro Lk ak ww H _ _ hN
  obtain ⟨x0,x1,x2⟩:=H.x
  simp [go_sem]
  exact hN _ _ (H.k.alloc _) trivial ⟨(fun h=>((x0 h).bel (below_al bR _) (fun _ h=>h)).put (by decide) _),(fun _=>by rw [show upd Lk 11 13=false from H.t 13 rfl];exact BoxX.new (s:=12) (H.f.lt (by rw [hz];decide)) H.k.size [.int .i64 0,.int .i64 0]),(fun h1 h2 e=>by obtain ⟨g2,e2,_,l2⟩:=(x0 h1).lt;rw [put_get_self (H.f.lt (by rw [hz];decide)),put_ne' (by decide),e2] at e;exact ptr_ne (by omega) e)⟩
 ·intro Lk ak ww H _ _ hN
  obtain ⟨x0,x1,x2⟩:=H.x
  obtain ⟨g,eg,hg,y,_⟩:=x0 (H.r 10 rfl)
  have HT:=y H.n
  simp [go_sem,(gS ak 32 (H.d 3 rfl rfl)),eg,HT.cell,HT.frz]
  exact hN undef _ (H.k.store (.inl hg) [.int .i64 ((sup p da db).n),.int .i64 ((sup p da db).d)] 0) trivial ⟨(fun _=>BoxX.set eg hg HT (us:=[.int .i64 ((sup p da db).n),.int .i64 ((sup p da db).d)]) rfl rfl),(fun h=>(x1 h).oth (fun e=>x2 (H.r 10 rfl) h (eg.trans e.symm)) [.int .i64 ((sup p da db).n),.int .i64 ((sup p da db).d)] 0 (fun _ h=>h)),(x2)⟩
 ·intro Lk ak ww H _ _ hN
  obtain ⟨x0,x1,x2⟩:=H.x
  obtain ⟨g,eg,hg,y,_⟩:=x1 (H.r 11 rfl)
  have HT:=y H.n
  simp [go_sem,(gS ak 38 (H.d 9 rfl rfl)),eg,HT.cell,HT.frz]
  exact hN undef _ (H.k.store (.inl hg) [.int .i64 ((sup p (-da) (-db)).n),.int .i64 ((sup p (-da) (-db)).d)] 0) trivial ⟨(fun h=>(x0 h).oth (fun e=>x2 h (H.r 11 rfl) (e.trans eg.symm)) [.int .i64 ((sup p (-da) (-db)).n),.int .i64 ((sup p (-da) (-db)).d)] 0 (fun _ h=>h)),(fun _=>BoxX.set eg hg HT (us:=[.int .i64 ((sup p (-da) (-db)).n),.int .i64 ((sup p (-da) (-db)).d)]) rfl rfl),(x2)⟩
 intro L a8 w9 hL hF hK hV hX
 obtain ⟨x0,x1,x2⟩:=hX
 replace hz:=hF.Z hz;replace hdf:=hF.E hdf;replace s9:=hF.G s9;replace s10:=hF.G s10
 obtain ⟨g10,s11,lg10,-,b10⟩:=x0 (hL 10 (by decide))
 obtain ⟨_,b10,rfl⟩:=b10 (hL 12 (by decide))
 have ug10:=b10.lt
 obtain ⟨g11,s12,lg11,-,b11⟩:=x1 (hL 11 (by decide))
 obtain ⟨_,b11,rfl⟩:=b11 (hL 13 (by decide))
 have ug11:=b11.lt
 have ng10g11:g10≠g11:=by
  intro e;subst e;exact x2 (hL 10 (by decide)) (hL 11 (by decide)) (s11.trans s12.symm)
 have zw7:=hZ;have zw9:=hK.size;replace hZ:=Nat.le_refl w9.heap.size;replace hB:=hK.below0 hB;clear hF hK hV hL x0 x1 x2 hXb s3 b3;refine th_n ?_;refine wp_seq ?_
 have hXb:StaysX [13] (fun L aa ww=>(L 14=true→BoxX w9 aa ww 13 111 [.int .i64 0,.int .i64 0,.int .i64 0] (L 15) (fun _ vs=>vs=[.int .i64 (((sdH p da db).getD half0).a),.int .i64 (((sdH p da db).getD half0).b),.int .i64 (((sdH p da db).getD half0).c)]))):=by
  intro L aa ww w' kk vv hkk hb hX
  have x0:=hX
  exact (fun h=>((x0 h).bel hb (fun _ h=>h)).put (hkk 13 (by simp)) _)
 refine wp_regK hXb (by kernel_rfl) [40,41,42,43,44,45,46,47,48,49,50,39,51,52,13,0,14] [some (.int .i64 da),some (.pointer (some ⟨g10,1,none⟩)),some (.int .i64 ((sup p da db).d)),some (.int .i64 (da*((sup p da db).d))),some (.int .i64 db),some (.pointer (some ⟨g10,1,none⟩)),some (.int .i64 ((sup p da db).d)),some (.int .i64 (db*((sup p da db).d))),some (.pointer (some ⟨g10,0,none⟩)),some (.int .i64 ((sup p da db).n)),some (.tuple #[halfV ((sdH p da db).getD half0),.bool ((sdH p da db).isSome)]),some (.tuple #[halfV ((sdH p da db).getD half0),.bool ((sdH p da db).isSome)]),some (halfV ((sdH p da db).getD half0)),some (.bool ((sdH p da db).isSome)),none,none,some (.bool ((sdH p da db).isSome))] (dlR 17) [40,41,42,43,44,45,46,47,48,49,50,39,51,52,13,14] [0,1,2,3,4,5,6,7,8,9,10,11,12,13,14,15,16] [] (by kernel_rfl) (by rw [hz];decide) ?_ (en rfl ?_ (en rfl ?_ (en rfl ?_ (en rfl ?_ (en rfl ?_ (en rfl ?_ (en rfl ?_ (en rfl ?_ (en rfl ?_ (en rfl ?_ (en rfl ?_ (en rfl ?_ (en rfl ?_ (en rfl ?_ (en rfl ?_ (en rfl ?_ (en rfl ?_ .nil))))))))))))))))) ?_
 ·exact fun _ h=>(fun h=>by cases h)
 ·exact fun Lk ak ww H _ _ hN=>wp_move rfl (ev (H.f.g rfl s9)) (hN _ _ H.k rfl (hXb.q rfl H.x))
 ·intro Lk ak ww H _ _ hN
  simp [go_sem,H.f.g rfl s11]
  exact (hN _ _ H.k rfl (hXb.q rfl H.x))
 ·intro Lk ak ww H _ _ hN
  simp [go_sem,(gS ak 41 (H.d 1 rfl rfl)),(b10.k0 H.k).cell]
  exact (hN _ _ H.k rfl (hXb.q rfl H.x))
 ·exact fun Lk ak ww H _ _ hN=>wp_mul rfl (ev (H.d 0 rfl rfl)) (ev (H.d 2 rfl rfl)) (by omega) (hN _ _ H.k rfl (hXb.q rfl H.x))
 ·exact fun Lk ak ww H _ _ hN=>wp_move rfl (ev (H.f.g rfl s10)) (hN _ _ H.k rfl (hXb.q rfl H.x))
 ·intro Lk ak ww H _ _ hN
  simp [go_sem,H.f.g rfl s11]
  exact (hN _ _ H.k rfl (hXb.q rfl H.x))
 ·intro Lk ak ww H _ _ hN
  simp [go_sem,(gS ak 45 (H.d 5 rfl rfl)),(b10.k0 H.k).cell]
  exact (hN _ _ H.k rfl (hXb.q rfl H.x))
 ·exact fun Lk ak ww H _ _ hN=>wp_mul rfl (ev (H.d 4 rfl rfl)) (ev (H.d 6 rfl rfl)) (by omega) (hN _ _ H.k rfl (hXb.q rfl H.x))
 ·intro Lk ak ww H _ _ hN
  simp [go_sem,H.f.g rfl s11]
  exact (hN _ _ H.k rfl (hXb.q rfl H.x))
 ·intro Lk ak ww H _ _ hN
  simp [go_sem,(gS ak 48 (H.d 8 rfl rfl)),(b10.k0 H.k).cell]
  exact (hN _ _ H.k rfl (hXb.q rfl H.x))
 ·intro Lk ak ww H _ _ hN
  simp [go_sem,(gS ak 43 (H.d 3 rfl rfl)),(gS ak 47 (H.d 7 rfl rfl)),(gS ak 49 (H.d 9 rfl rfl))]
  refine (show Calls Tryz.prog 134 #[.int .i64 (da*(sup p da db).d),.int .i64 (db*(sup p da db).d),.int .i64 (sup p da db).n] ww (fun e w'=>e=.returned (optHalfV (sdH p da db))∧Below ww.heap.size ww w') from iHalfOf_c _ _ _ ww ⟨by omega,by omega⟩ ⟨by omega,by omega⟩ ⟨by omega,by omega⟩).mono ?_
  rintro x wx ⟨rfl,hb⟩
  exact (hN _ _ (H.k.call hb) (optHalf_eq _) (hXb.b rfl hb H.x))
 ·exact fun Lk ak ww H _ _ hN=>wp_move rfl (ev (H.d 10 rfl rfl)) (hN _ _ H.k rfl (hXb.q rfl H.x))
 ·exact fun Lk ak ww H _ _ hN=>wp_extract rfl (ev (H.d 11 rfl rfl)) rfl (hN _ _ H.k rfl (hXb.q rfl H.x))
 ·exact fun Lk ak ww H _ _ hN=>wp_extract rfl (ev (H.d 11 rfl rfl)) rfl (hN _ _ H.k rfl (hXb.q rfl H.x))
 ·intro Lk ak ww H _ _ hN
  have x0:=H.x
  simp [go_sem]
  exact hN _ _ (H.k.alloc _) trivial (fun _=>by rw [show upd Lk 14 15=false from H.t 15 rfl];exact BoxX.new (s:=13) (H.f.lt (by rw [hz];decide)) H.k.size [.int .i64 0,.int .i64 0,.int .i64 0])
 ·intro Lk ak ww H _ _ hN
  have x0:=H.x
  obtain ⟨g,eg,hg,y,_⟩:=x0 (H.r 14 rfl)
  have HT:=y H.n
  simp [go_sem,(gS ak 51 (H.d 12 rfl rfl)),eg,HT.cell,HT.frz]
  exact hN undef _ (H.k.store (.inl hg) [.int .i64 (((sdH p da db).getD half0).a),.int .i64 (((sdH p da db).getD half0).b),.int .i64 (((sdH p da db).getD half0).c)] 0) trivial (fun _=>BoxX.set eg hg HT (us:=[.int .i64 (((sdH p da db).getD half0).a),.int .i64 (((sdH p da db).getD half0).b),.int .i64 (((sdH p da db).getD half0).c)]) rfl rfl)
 ·exact fun Lk ak ww H _ _ hN=>wp_assign rfl (ev (H.d 13 rfl rfl)) (hN _ _ H.k rfl (hXb.q rfl H.x))
 intro L a12 w13 hL hF hK hV hX;have x0:=hX;replace hz:=hF.Z hz;replace hdf:=hF.E hdf;replace s9:=hF.G s9;replace s10:=hF.G s10;replace s12:=hF.G s12;have s14:=gS a12 14 (hV 16 _ rfl);replace b11:=b11.k0 hK
 obtain ⟨g14,s13,lg14,-,b14⟩:=x0 (hL 14 (by decide))
 obtain ⟨_,b14,rfl⟩:=b14 (hL 15 (by decide))
 have ug14:=b14.lt
 have zw13:=hK.size;replace hZ:=Nat.le_refl w13.heap.size;replace hB:=hK.below0 hB;clear hF hK hV hL x0 hXb s11 b10;refine th_n ?_;refine wp_seq ?_
 have hXb:StaysX [15] (fun L aa ww=>(L 16=true→BoxX w13 aa ww 15 111 [.int .i64 0,.int .i64 0,.int .i64 0] (L 17) (fun _ vs=>vs=[.int .i64 (((sdH p (-da) (-db)).getD half0).a),.int .i64 (((sdH p (-da) (-db)).getD half0).b),.int .i64 (((sdH p (-da) (-db)).getD half0).c)]))):=by
  intro L aa ww w' kk vv hkk hb hX
  have x0:=hX
  exact (fun h=>((x0 h).bel hb (fun _ h=>h)).put (hkk 15 (by simp)) _)
 refine wp_regK hXb (by kernel_rfl) [54,55,56,57,58,59,60,61,62,63,64,65,66,53,67,68,15,0,16] [some (.int .i64 da),some (.int .i64 (-da)),some (.pointer (some ⟨g11,1,none⟩)),some (.int .i64 ((sup p (-da) (-db)).d)),some (.int .i64 ((-da)*((sup p (-da) (-db)).d))),some (.int .i64 db),some (.int .i64 (-db)),some (.pointer (some ⟨g11,1,none⟩)),some (.int .i64 ((sup p (-da) (-db)).d)),some (.int .i64 ((-db)*((sup p (-da) (-db)).d))),some (.pointer (some ⟨g11,0,none⟩)),some (.int .i64 ((sup p (-da) (-db)).n)),some (.tuple #[halfV ((sdH p (-da) (-db)).getD half0),.bool ((sdH p (-da) (-db)).isSome)]),some (.tuple #[halfV ((sdH p (-da) (-db)).getD half0),.bool ((sdH p (-da) (-db)).isSome)]),some (halfV ((sdH p (-da) (-db)).getD half0)),some (.bool ((sdH p (-da) (-db)).isSome)),none,none,some (.bool ((sdH p (-da) (-db)).isSome))] (dlR 19) [54,55,56,57,58,59,60,61,62,63,64,65,66,53,67,68,15,16] [0,1,2,3,4,5,6,7,8,9,10,11,12,13,14,15,16,17,18] [] (by kernel_rfl) (by rw [hz];decide) ?_ (en rfl ?_ (en rfl ?_ (en rfl ?_ (en rfl ?_ (en rfl ?_ (en rfl ?_ (en rfl ?_ (en rfl ?_ (en rfl ?_ (en rfl ?_ (en rfl ?_ (en rfl ?_ (en rfl ?_ (en rfl ?_ (en rfl ?_ (en rfl ?_ (en rfl ?_ (en rfl ?_ (en rfl ?_ .nil))))))))))))))))))) ?_
 ·exact fun _ h=>(fun h=>by cases h)
 ·exact fun Lk ak ww H _ _ hN=>wp_move rfl (ev (H.f.g rfl s9)) (hN _ _ H.k rfl (hXb.q rfl H.x))
 ·exact fun Lk ak ww H _ _ hN=>wp_neg rfl (ev (H.d 0 rfl rfl)) (by omega) (hN _ _ H.k rfl (hXb.q rfl H.x))
 ·intro Lk ak ww H _ _ hN
  simp [go_sem,H.f.g rfl s12]
  exact (hN _ _ H.k rfl (hXb.q rfl H.x))
 ·intro Lk ak ww H _ _ hN
  simp [go_sem,(gS ak 56 (H.d 2 rfl rfl)),(b11.k0 H.k).cell]
  exact (hN _ _ H.k rfl (hXb.q rfl H.x))
 ·exact fun Lk ak ww H _ _ hN=>wp_mul rfl (ev (H.d 1 rfl rfl)) (ev (H.d 3 rfl rfl)) (by omega) (hN _ _ H.k rfl (hXb.q rfl H.x))
 ·exact fun Lk ak ww H _ _ hN=>wp_move rfl (ev (H.f.g rfl s10)) (hN _ _ H.k rfl (hXb.q rfl H.x))
 ·exact fun Lk ak ww H _ _ hN=>wp_neg rfl (ev (H.d 5 rfl rfl)) (by omega) (hN _ _ H.k rfl (hXb.q rfl H.x))
 ·intro Lk ak ww H _ _ hN
  simp [go_sem,H.f.g rfl s12]
  exact (hN _ _ H.k rfl (hXb.q rfl H.x))
 ·intro Lk ak ww H _ _ hN
  simp [go_sem,(gS ak 61 (H.d 7 rfl rfl)),(b11.k0 H.k).cell]
  exact (hN _ _ H.k rfl (hXb.q rfl H.x))
 ·exact fun Lk ak ww H _ _ hN=>wp_mul rfl (ev (H.d 6 rfl rfl)) (ev (H.d 8 rfl rfl)) (by omega) (hN _ _ H.k rfl (hXb.q rfl H.x))
 ·intro Lk ak ww H _ _ hN
  simp [go_sem,H.f.g rfl s12]
  exact (hN _ _ H.k rfl (hXb.q rfl H.x))
 ·intro Lk ak ww H _ _ hN
  simp [go_sem,(gS ak 64 (H.d 10 rfl rfl)),(b11.k0 H.k).cell]
  exact (hN _ _ H.k rfl (hXb.q rfl H.x))
 ·intro Lk ak ww H _ _ hN
  simp [go_sem,(gS ak 58 (H.d 4 rfl rfl)),(gS ak 63 (H.d 9 rfl rfl)),(gS ak 65 (H.d 11 rfl rfl))]
  refine (show Calls Tryz.prog 134 #[.int .i64 ((-da)*(sup p (-da) (-db)).d),.int .i64 ((-db)*(sup p (-da) (-db)).d),.int .i64 (sup p (-da) (-db)).n] ww (fun e w'=>e=.returned (optHalfV (sdH p (-da) (-db)))∧Below ww.heap.size ww w') from iHalfOf_c _ _ _ ww ⟨by omega,by omega⟩ ⟨by omega,by omega⟩ ⟨by omega,by omega⟩).mono ?_
  rintro x wx ⟨rfl,hb⟩
  exact (hN _ _ (H.k.call hb) (optHalf_eq _) (hXb.b rfl hb H.x))
 ·exact fun Lk ak ww H _ _ hN=>wp_move rfl (ev (H.d 12 rfl rfl)) (hN _ _ H.k rfl (hXb.q rfl H.x))
 ·exact fun Lk ak ww H _ _ hN=>wp_extract rfl (ev (H.d 13 rfl rfl)) rfl (hN _ _ H.k rfl (hXb.q rfl H.x))
 ·exact fun Lk ak ww H _ _ hN=>wp_extract rfl (ev (H.d 13 rfl rfl)) rfl (hN _ _ H.k rfl (hXb.q rfl H.x))
 ·intro Lk ak ww H _ _ hN
  have x0:=H.x
  simp [go_sem]
  exact hN _ _ (H.k.alloc _) trivial (fun _=>by rw [show upd Lk 16 17=false from H.t 17 rfl];exact BoxX.new (s:=15) (H.f.lt (by rw [hz];decide)) H.k.size [.int .i64 0,.int .i64 0,.int .i64 0])
 ·intro Lk ak ww H _ _ hN
  have x0:=H.x
  obtain ⟨g,eg,hg,y,_⟩:=x0 (H.r 16 rfl)
  have HT:=y H.n
  simp [go_sem,(gS ak 67 (H.d 14 rfl rfl)),eg,HT.cell,HT.frz]
  exact hN undef _ (H.k.store (.inl hg) [.int .i64 (((sdH p (-da) (-db)).getD half0).a),.int .i64 (((sdH p (-da) (-db)).getD half0).b),.int .i64 (((sdH p (-da) (-db)).getD half0).c)] 0) trivial (fun _=>BoxX.set eg hg HT (us:=[.int .i64 (((sdH p (-da) (-db)).getD half0).a),.int .i64 (((sdH p (-da) (-db)).getD half0).b),.int .i64 (((sdH p (-da) (-db)).getD half0).c)]) rfl rfl)
 ·exact fun Lk ak ww H _ _ hN=>wp_assign rfl (ev (H.d 15 rfl rfl)) (hN _ _ H.k rfl (hXb.q rfl H.x))
 intro L a15 w16 hL hF hK hV hX;have x0:=hX;replace hz:=hF.Z hz;replace hdf:=hF.E hdf;replace s14:=hF.G s14;replace s13:=hF.G s13;have s16:=gS a15 16 (hV 18 _ rfl);replace b14:=b14.k0 hK
 obtain ⟨g17,s15,lg17,-,b17⟩:=x0 (hL 16 (by decide))
 obtain ⟨_,b17,rfl⟩:=b17 (hL 17 (by decide))
 have ug17:=b17.lt
 have zw16:=hK.size;replace hZ:=Nat.le_refl w16.heap.size;replace hB:=hK.below0 hB;clear hF hK hV hL x0 hXb s9 s10 s12 b11;refine th_n ?_;refine wp_seq ?_
 have hXb:StaysX [6,71] (fun L aa ww=>(L 2=true→(fun ww v=>∃ g2,v=.slice (some ⟨g2,0,none⟩) 2 2∧HasT ww g2 111 [.int .i64 (((sdH p da db).getD half0).a),.int .i64 (((sdH p da db).getD half0).b),.int .i64 (((sdH p da db).getD half0).c),.int .i64 (((sdH p (-da) (-db)).getD half0).a),.int .i64 (((sdH p (-da) (-db)).getD half0).b),.int .i64 (((sdH p (-da) (-db)).getD half0).c)]∧w16.heap.size≤g2) ww (aa.tmps[71]?.getD undef))∧(L 7=true→(fun ww v=>∃ g2,v=.slice (some ⟨g2,0,none⟩) 2 2∧HasT ww g2 111 [.int .i64 (((sdH p da db).getD half0).a),.int .i64 (((sdH p da db).getD half0).b),.int .i64 (((sdH p da db).getD half0).c),.int .i64 (((sdH p (-da) (-db)).getD half0).a),.int .i64 (((sdH p (-da) (-db)).getD half0).b),.int .i64 (((sdH p (-da) (-db)).getD half0).c)]∧w16.heap.size≤g2) ww (aa.tmps[6]?.getD undef))):=by
  intro L aa ww w' kk vv hkk hb hX
  obtain ⟨x0,x1⟩:=hX
  exact ⟨(fun h=>by rw [put_ne' (hkk 71 (by simp))];obtain ⟨g2',e,f2'⟩:=x0 h;exact ⟨g2',e,⟨f2'.1.bel hb,f2'.2⟩⟩),(fun h=>by rw [put_ne' (hkk 6 (by simp))];obtain ⟨g2',e,f2'⟩:=x1 h;exact ⟨g2',e,⟨f2'.1.bel hb,f2'.2⟩⟩)⟩
 refine wp_regK hXb (by kernel_rfl) [69,70,71,72,73,74,75,6,7] [some (halfV ((sdH p da db).getD half0)),some (halfV ((sdH p (-da) (-db)).getD half0)),none,some (.bool ((sdH p da db).isSome)),some (.bool ((sdH p da db).isSome)),some ((bif (sdH p da db).isSome then (.bool ((sdH p (-da) (-db)).isSome):Value) else undef)),some (.bool ((sdH p da db).isSome&&(sdH p (-da) (-db)).isSome)),none,some (.bool ((sdH p da db).isSome&&(sdH p (-da) (-db)).isSome))] (dlR 9) [69,70,71,72,73,74,75,6,7] [0,1,2,3,4,5,6,7,8] [] (by kernel_rfl) (by rw [hz];decide) ?_ (en rfl ?_ (en rfl ?_ (en rfl ?_ (en rfl ?_ (en rfl ?_ (eg ?_ (en rfl ?_ (en rfl ?_ (en rfl ?_ .nil))))))))) ?_
 ·exact fun _ h=>⟨(fun h=>by cases h),(fun h=>by cases h)⟩
 ·intro Lk ak ww H _ _ hN
  simp [go_sem,H.f.g rfl s13,(b14.k0 H.k).cell]
  exact (hN _ _ H.k rfl (hXb.q rfl H.x))
 ·intro Lk ak ww H _ _ hN
  simp [go_sem,H.f.g rfl s15,(b17.k0 H.k).cell]
  exact (hN _ _ H.k rfl (hXb.q rfl H.x))
 ·intro Lk ak ww H _ _ hN
  obtain ⟨x0,x1⟩:=H.x
  simp [go_sem,(gS ak 69 (H.d 0 rfl rfl)),(gS ak 70 (H.d 1 rfl rfl))]
  have f2:HasT (ww.alloc (.cells #[.int .i64 (((sdH p da db).getD half0).a),.int .i64 (((sdH p da db).getD half0).b),.int .i64 (((sdH p da db).getD half0).c),.int .i64 (((sdH p (-da) (-db)).getD half0).a),.int .i64 (((sdH p (-da) (-db)).getD half0).b),.int .i64 (((sdH p (-da) (-db)).getD half0).c)] 111)) ww.heap.size 111 [.int .i64 (((sdH p da db).getD half0).a),.int .i64 (((sdH p da db).getD half0).b),.int .i64 (((sdH p da db).getD half0).c),.int .i64 (((sdH p (-da) (-db)).getD half0).a),.int .i64 (((sdH p (-da) (-db)).getD half0).b),.int .i64 (((sdH p (-da) (-db)).getD half0).c)]∧w16.heap.size≤ww.heap.size:=⟨HasT.new _ _ _,H.k.size⟩
  exact hN _ _ (H.k.alloc _) trivial ⟨(fun _=>by rw [put_get_self (H.f.lt (by rw [hz];decide))];exact ⟨_,rfl,f2⟩),(fun h=>by rw [put_ne' (by decide)];obtain ⟨g2',e,f2'⟩:=x1 h;exact ⟨g2',e,⟨f2'.1.bel (below_al bR _),f2'.2⟩⟩)⟩
 ·exact fun Lk ak ww H _ _ hN=>wp_move rfl (ev (H.f.g rfl s14)) (hN _ _ H.k rfl (hXb.q rfl H.x))
 ·exact fun Lk ak ww H _ _ hN=>wp_move rfl (ev (H.d 3 rfl rfl)) (hN _ _ H.k rfl (hXb.q rfl H.x))
 ·intro Lk ak ww H _ _ hN
  refine wgt rfl rfl rfl (H.d 4 rfl rfl) (fun qg=>hN _ _ H.k (bif_f qg).symm (hXb.q rfl H.x)) fun qg=>?_
  exact wp_move rfl (ev (H.f.g rfl s16)) (hN _ _ H.k (bif_t qg).symm (hXb.q rfl H.x))
 ·exact fun Lk ak ww H _ _ hN=>wp_pick rfl (ev (H.d 4 rfl rfl)) (fun h=>(ev ((H.d 5 rfl rfl).trans (bif_t h))).trans (vand_t h)) (fun h=>vand_f h) (hN _ _ H.k rfl (hXb.q rfl H.x))
 ·intro Lk ak ww H _ _ hN
  obtain ⟨x0,x1⟩:=H.x
  obtain ⟨g2,ee2,f2⟩:=x0 (H.r 2 rfl)
  exact wp_assign rfl (ev ee2) (hN _ _ H.k trivial ⟨(fun h=>by rw [put_ne' (by decide)];obtain ⟨g2',e,f2'⟩:=x0 h;exact ⟨g2',e,⟨f2'.1.bel bR,f2'.2⟩⟩),(fun _=>by rw [put_get_self (H.f.lt (by rw [hz];decide))];exact ⟨g2,rfl,f2⟩)⟩)
 ·exact fun Lk ak ww H _ _ hN=>wp_assign rfl (ev (H.d 6 rfl rfl)) (hN _ _ H.k rfl (hXb.q rfl H.x))
 intro L a18 w19 hL hF hK hV hX
 obtain ⟨x0,x1⟩:=hX
 replace hz:=hF.Z hz;replace hdf:=hF.E hdf;have s7:=gS a18 7 (hV 8 _ rfl)
 obtain ⟨g2,s6,N2⟩:=x1 (hL 7 (by decide))
 have zw19:=hK.size;replace hZ:=Nat.le_refl w19.heap.size;replace hB:=hK.below0 hB;clear hF hK hV hL x0 x1 hXb s14 s13 s16 s15 b14 b17;refine th_n ?_
 refine wp_ret ?_
 refine bodyPost_ret (v:=.tuple #[.slice (some ⟨g2,0,none⟩) 2 2,.bool ((sdH p da db).isSome&&(sdH p (-da) (-db)).isSome)]) (by simp [results,Tryz.results221,go_sem,s6,s7]) hdf ?_
 refine ⟨some ⟨g2,0,none⟩,2,by rw [← eda,← edb];rfl, ?_,hB⟩
 rw [← eda,← edb]
 exact New.lit (enc:=halfC) (xs:=sdL p da db) halfC_len N2.1 (by have:=N2.2;omega) (by simp [sdL])
def growH (bx by_ lo hi:Int) (h:Half):Option Half:=halfOf h.a h.b (h.c+max (-lo*(h.a*bx+h.b*by_)) (-hi*(h.a*bx+h.b*by_)))
theorem growH_ok {bx by_ lo hi:Int} {h g:Half} (e:growH bx by_ lo hi h=some g):halfOk g=true:=halfOf_ok e
structure GrowB (bx by_ lo hi:Int) (h:Half):Prop where
 x : -5000000≤h.a*bx∧h.a*bx≤5000000
 y : -5000000≤h.b*by_∧h.b*by_≤5000000
 p : -10000000000≤-lo*(h.a*bx+h.b*by_)∧-lo*(h.a*bx+h.b*by_)≤10000000000
 q : -10000000000≤-hi*(h.a*bx+h.b*by_)∧-hi*(h.a*bx+h.b*by_)≤10000000000
structure DrvIn (bx by_ lo hi:Int):Prop where
 x : -100≤bx∧bx≤100
 y : -100≤by_∧by_≤100
 lw : -1000≤lo∧lo≤1000
 hw:lo≤hi∧hi≤1000
theorem growB {bx by_ lo hi:Int} {h:Half} (D:DrvIn bx by_ lo hi) (hh:halfOk h=true):GrowB bx by_ lo hi h:=by
 obtain ⟨a1,a2,_⟩:=halfOk_iff.1 hh
 have l:=D.lw
 have u:=D.hw
 have x:=mulB (a:=h.a) (b:=bx) (A:=50000) (B:=100) a1 D.x
 have y:=mulB (a:=h.b) (b:=by_) (A:=50000) (B:=100) a2 D.y
 have p:=mulB (a:=-lo) (b:=h.a*bx+h.b*by_) (A:=1000) (B:=10000000) ⟨by omega,by omega⟩ ⟨by omega,by omega⟩
 have q:=mulB (a:=-hi) (b:=h.a*bx+h.b*by_) (A:=1000) (B:=10000000) ⟨by omega,by omega⟩ ⟨by omega,by omega⟩
 exact ⟨⟨by omega,by omega⟩,⟨by omega,by omega⟩,⟨by omega,by omega⟩,⟨by omega,by omega⟩⟩
def growT (p:List Half) (bx by_:Int):Bool:=decide (p.length=0)||(bx == 0&&by_ == 0)
def sdO (p:List Half) (a b:Int):Bool:=(sdH p a b).isSome&&(sdH p (-a) (-b)).isSome
def grwL (bx by_ lo hi:Int) (p:List Half):List Half:=sdL p (dirA bx by_) (dirB bx by_)++movL (growH bx by_ lo hi) p
def grwOk (bx by_ lo hi:Int) (p:List Half):Bool:=growT p bx by_||(sdO p (dirA bx by_) (dirB bx by_)&&movAll (growH bx by_ lo hi) p&&meetOk (meetL (grwL bx by_ lo hi p)))
def grwR (bx by_ lo hi:Int) (p:List Half):List Half:=if growT p bx by_=true then p else if (sdO p (dirA bx by_) (dirB bx by_)&&movAll (growH bx by_ lo hi) p)=true then meetR (meetL (grwL bx by_ lo hi p)) else []
theorem grow_triv {bx by_ lo hi:Int} {p:List Half} (h:growT p bx by_=true):grwOk bx by_ lo hi p=true∧grwR bx by_ lo hi p=p:=by
 unfold grwOk grwR
 rw [h,if_pos rfl];exact ⟨rfl,rfl⟩
theorem grow_side {bx by_ lo hi:Int} {p:List Half} (h:growT p bx by_=false) (hs:sdO p (dirA bx by_) (dirB bx by_)=false):grwOk bx by_ lo hi p=false∧grwR bx by_ lo hi p=[]:=by
 unfold grwOk grwR
 rw [h,hs,if_neg (by simp),if_neg (by simp)];exact ⟨rfl,rfl⟩
theorem grow_stop {bx by_ lo hi:Int} {p:List Half} (h:growT p bx by_=false) (hs:movAll (growH bx by_ lo hi) p=false):grwOk bx by_ lo hi p=false∧grwR bx by_ lo hi p=[]:=by
 unfold grwOk grwR
 rw [h,hs,if_neg (by simp),if_neg (by simp)];exact ⟨by simp,rfl⟩
theorem grow_all {bx by_ lo hi:Int} {p:List Half} (h:growT p bx by_=false) (hs:sdO p (dirA bx by_) (dirB bx by_)=true) (hm:movAll (growH bx by_ lo hi) p=true):grwOk bx by_ lo hi p=meetOk (meetL (grwL bx by_ lo hi p))∧grwR bx by_ lo hi p=meetR (meetL (grwL bx by_ lo hi p)):=by
 unfold grwOk grwR
 rw [h,hs,hm,if_neg (by simp),if_pos (by simp)];exact ⟨by simp,rfl⟩
theorem movAll_stop {f:Half→Option Half} {p:List Half} {k:Nat} (h:k<p.length) (hs:(f (p.getD k half0)).isSome=false):movAll f p=false:=by
 have e:p.getD k half0=p[k]:=by rw [List.getD_eq_getElem?_getD,List.getElem?_eq_getElem h,Option.getD_some]
 rw [e] at hs
 unfold movAll
 rw [List.all_eq_false]
 exact ⟨p[k],List.getElem_mem h,by rw [hs];decide⟩
theorem grow_ne {p:List Half} {bx by_:Int} (h:growT p bx by_=false):p≠[]∧¬ (bx=0∧by_=0):=by
 unfold growT at h
 refine ⟨fun e=>?_,fun e=>?_⟩
 ·rw [e] at h;simp at h
 ·rw [e.1,e.2] at h;simp at h
theorem sdL_ok {p:List Half} {a b:Int} (h:sdO p a b=true):∀ g∈sdL p a b,halfOk g=true:=by
 unfold sdO at h
 obtain ⟨x,hx⟩:=Option.isSome_iff_exists.1 (and_t1 h)
 obtain ⟨y,hy⟩:=Option.isSome_iff_exists.1 (and_t2 h)
 intro g hg
 unfold sdL at hg
 rw [hx,hy] at hg
 simp only [Option.getD_some,List.mem_cons,List.not_mem_nil,or_false] at hg
 rcases hg with rfl|rfl
 ·exact halfOf_ok hx
 ·exact halfOf_ok hy
theorem app_next {s:List Half} {f:Half→Option Half} {p:List Half} {k:Nat} (h:k<p.length) (hs:(f (p.getD k half0)).isSome=true):s++movL f (p.take (k+1))=s++movL f (p.take k)++[(f (p.getD k half0)).getD half0]:=by
 rw [movL_next h hs,List.append_assoc]
set_option maxRecDepth 100000 in
set_option maxHeartbeats 2000000 in
theorem iGrow_c (p:List Half) (bx by_ lo hi:Int) (a:SlA) (w:World) (hp:regionOk p=true) (D:DrvIn bx by_ lo hi) (hsp:Sl 3 halfC w a.A p) :
 Calls Tryz.prog 205 #[.agg #[.slice a.A p.length a.c],.int .i64 bx,.int .i64 by_,.int .i64 lo,.int .i64 hi] w fun x w'=>∃ v,x=.returned (.tuple #[.agg #[v],.bool (grwOk bx by_ lo hi p)])∧New 111 3 halfC w' w.heap.size v (grwR bx by_ lo hi p)∧Below w.heap.size w w':=by
 have hlp:=reg_len hp
 have hDlo:=D.lw
 have hDhi:=D.hw
 obtain ⟨i0h,hi0h,hz0h,hz1h,hz2h⟩:=info_parts (show (Tryz.prog.info? 111).map (fun i=>(i.zero,i.size,i.bytes))=some (some (.agg #[.int .i64 0,.int .i64 0,.int .i64 0]),3,24) by kernel_rfl)
 refine calls_v Tryz.func205 rfl (n:=89) Tryz.ntmps205 (by simp) ?_
 intro a0 hz hdf ha
 have s0:a0.tmps[0]?.getD undef=.agg #[.slice a.A p.length a.c]:=ha 0 _ rfl;have s1:a0.tmps[1]?.getD undef=.int .i64 bx:=ha 1 _ rfl;have s2:a0.tmps[2]?.getD undef=.int .i64 by_:=ha 2 _ rfl;have s3:a0.tmps[3]?.getD undef=.int .i64 lo:=ha 3 _ rfl;have s4:a0.tmps[4]?.getD undef=.int .i64 hi:=ha 4 _ rfl;clear ha
 have hB:=Below.refl w.heap.size w
 have hZ:=Nat.le_refl w.heap.size
 refine wp_seq ?_
 refine wp_entry [5,10,11] [.pointer (some ⟨w.heap.size,0,none⟩),.pointer (some ⟨(w.heap.size+1),0,none⟩),.bool false] [some (.cells [.slice a.A p.length a.c].toArray 37),some (.cells [.slice none 0 0].toArray 37),none] [0,1,2] [5,10,11] [0,1,2] (by kernel_rfl) (by rw [hz];decide) (ec ?_ (ec ?_ (ec ?_ .nil))) ?_
 ·intro a w' hF hs N Q hN;simp [go_sem,hF.g rfl s0];rw [hs];exact hN
 ·intro a w' hF hs N Q hN;simp [go_sem];rw [hs];exact hN
 ·intro a w' hF hs N Q hN;simp [go_sem];exact hN
 intro a1 w2 hF hV hb hO
 replace hz:=hF.size.trans hz;replace hdf:=hF.defers.trans hdf;replace s1:=hF.g rfl s1;replace s2:=hF.g rfl s2;replace s3:=hF.g rfl s3;replace s4:=hF.g rfl s4
 have s5:a1.tmps[5]?.getD undef=.pointer (some ⟨w.heap.size,0,none⟩):=hV 0 (by decide)
 have s10:a1.tmps[10]?.getD undef=.pointer (some ⟨(w.heap.size+1),0,none⟩):=hV 1 (by decide)
 have b3:HasT w2 w.heap.size 37 [.slice a.A p.length a.c]:=hO 0 _ rfl
 have b4:HasT w2 (w.heap.size+1) 37 [.slice none 0 0]:=hO 1 _ rfl
 have hG:=b4.lt
 replace hB:=below_tr hB hb;have zw2:=Nat.le_trans hZ hb.size;replace hZ:=Nat.le_refl w2.heap.size;clear hF hV hb hO s0;refine th_n ?_;refine wp_seq ?_;refine wp_seq ?_
 rcases Bool.eq_false_or_eq_true (decide (p.length=0)) with q5|q5
 ·skip
  refine wp_regJ (by kernel_rfl) [19,20,21,22,23,24,25,26,27,28] [some (.agg #[.slice a.A p.length a.c]),some (.bool true),some (.bool true),some (undef),some (undef),some (undef),some (undef),some (undef),some (undef),some (.bool true)] (dlR 10) [19,20,21,22,23,24,25,26,27,28] [0,1,2,3,4,5,6,7,8,9] [] (fun _ _ _=>True) (by kernel_rfl) (by rw [hz];decide) ?_ (en rfl ?_ (en rfl ?_ (en rfl ?_ (eg ?_ (eg ?_ (eg ?_ (eg ?_ (eg ?_ (eg ?_ (en rfl ?_ .nil)))))))))) ?_
  ·exact fun _ _=>trivial
  ·intro Lk ak ww H _ _ hN
   simp [go_sem,H.f.g rfl s5,(b3.k0 H.k).cell]
   exact (hN _ _ H.k rfl trivial)
  ·intro Lk ak ww H _ _ hN
   simp [go_sem,(gS ak 19 (H.d 0 rfl rfl))]
   refine (iIsVoid_c p a ww).mono ?_
   rintro x wx ⟨rfl,hb⟩
   exact (hN _ _ (H.k.call hb) (by show _=_;simp only [q5]) trivial)
  ·exact fun Lk ak ww H _ _ hN=>wp_move rfl (ev (H.d 1 rfl rfl)) (hN _ _ H.k rfl trivial)
  ·intro Lk ak ww H _ _ hN
   refine wnt_n rfl rfl rfl (H.d 2 rfl rfl) (by decide) ?_
   exact hN _ _ H.k rfl trivial
  ·intro Lk ak ww H _ _ hN
   refine wnt_n rfl rfl rfl (H.d 2 rfl rfl) (by decide) ?_
   exact hN _ _ H.k rfl trivial
  ·intro Lk ak ww H _ _ hN
   refine wnt_n rfl rfl rfl (H.d 2 rfl rfl) (by decide) ?_
   exact hN _ _ H.k rfl trivial
  ·intro Lk ak ww H _ _ hN
   refine wnt_u rfl rfl rfl (H.d 5 rfl rfl) ?_
   exact hN _ _ H.k rfl trivial
  ·intro Lk ak ww H _ _ hN
   refine wnt_u rfl rfl rfl (H.d 5 rfl rfl) ?_
   exact hN _ _ H.k rfl trivial
  ·intro Lk ak ww H _ _ hN
   refine wnt_n rfl rfl rfl (H.d 2 rfl rfl) (by decide) ?_
   exact hN _ _ H.k rfl trivial
  ·exact fun Lk ak ww H _ _ hN=>wp_pick rfl (ev (H.d 2 rfl rfl)) (fun _=>rfl) (fun h=>by cases h) (hN _ _ H.k rfl trivial)
  intro L a6 w7 hL hF hK hV hX;replace hz:=hF.Z hz;replace hdf:=hF.E hdf;replace s1:=hF.G s1;replace s2:=hF.G s2;replace s3:=hF.G s3;replace s4:=hF.G s4;replace s5:=hF.G s5;replace s10:=hF.G s10;have s28:=gS a6 28 (hV 9 _ rfl);replace b3:=b3.k0 hK;replace b4:=b4.k0 hK;replace hZ:=Nat.le_trans hZ hK.size;replace hB:=hK.below0 hB;clear hF hK hV hL hX;refine th_n ?_
  refine wp_cond_true (ev s28) ?_
  refine wp_seq ?_
  have hXb:StaysX [30] (fun L aa ww=>(L 1=true→(fun ww v=>∃ m1,v=.agg #[.slice m1.A p.length m1.c]∧RegionNew ww w7.heap.size p m1) ww (aa.tmps[30]?.getD undef))∧PreX ww (w.heap.size+1) 37 [.slice none 0 0] (L 2) (fun ww vs=>∃ m1,vs=[.slice m1.A p.length m1.c]∧RegionNew ww w7.heap.size p m1)):=by
   intro L aa ww w' kk vv hkk hb hX
   obtain ⟨x0,x1⟩:=hX
   exact ⟨(fun h=>by rw [put_ne' (hkk 30 (by simp))];obtain ⟨m1',e,f1'⟩:=x0 h;exact ⟨m1',e,f1'.below hb leR⟩),(x1.bel hb (fun _ ⟨m1',e,f1'⟩=>⟨m1',e,f1'.below hb leR⟩))⟩
  refine wp_regK hXb (by kernel_rfl) [29,30,0,11] [some (.agg #[.slice a.A p.length a.c]),none,none,some (.bool true)] (dlR 4) [29,30,11] [0,1,2,3] [(w.heap.size+1)] (by kernel_rfl) (by rw [hz];decide) ?_ (en rfl ?_ (en rfl ?_ (en rfl ?_ (en rfl ?_ .nil)))) ?_
  ·exact fun _ h=>⟨(fun h=>by cases h),(⟨fun _=>b4.kp h (by simp),(fun h=>by cases h)⟩)⟩
  ·intro Lk ak ww H _ _ hN
   simp [go_sem,H.f.g rfl s5,(b3.kp H.k (by simp<;>omega)).cell]
   exact (hN _ _ H.k rfl (hXb.q rfl H.x))
  ·intro Lk ak ww H _ _ hN
   obtain ⟨x0,x1⟩:=H.x
   simp [go_sem,(gS ak 29 (H.d 0 rfl rfl))]
   have hBi:=H.k.below hB hB.size (by simp<;>omega)
   refine (iCopyRegion_c p a ww (by have:=reg_len hp;omega) (hsp.below hBi)).mono ?_
   rintro x wx ⟨m1,rfl,f0,hb⟩
   have f1:=f0.mono H.k.size
   exact (hN _ _ (H.k.call hb) trivial ⟨(fun _=>by rw [put_get_self (H.f.lt (by rw [hz];decide))];exact ⟨m1,rfl,f1⟩),(x1.bel hb (fun _ ⟨m1',e,f1'⟩=>⟨m1',e,f1'.below hb leR⟩))⟩)
  ·intro Lk ak ww H _ _ hN
   obtain ⟨x0,x1⟩:=H.x
   obtain ⟨m1,ee1,f1⟩:=x0 (H.r 1 rfl)
   have HT:=x1.1 H.n
   simp [go_sem,ee1,H.f.g rfl s10,HT.cell,HT.frz]
   have f1:=f1.otherT HT (by decide) [.slice m1.A p.length m1.c] 0
   exact hN undef _ (H.k.store (.inr (by simp)) [.slice m1.A p.length m1.c] 0) trivial ⟨(fun h=>by obtain ⟨m1',e,f1'⟩:=x0 h;exact ⟨m1',e,f1'.otherT HT (by decide) [.slice m1.A p.length m1.c] 0⟩),(PreX.set HT (us:=[.slice m1.A p.length m1.c]) rfl ⟨m1,rfl,f1⟩)⟩
  ·exact fun Lk ak ww H _ _ hN=>wp_assign rfl rfl (hN _ _ H.k rfl (hXb.q rfl H.x))
  intro L a8 w9 hL hF hK hV hX
  obtain ⟨x0,x1⟩:=hX
  replace hz:=hF.Z hz;replace hdf:=hF.E hdf;replace s10:=hF.G s10;have s11:=gS a8 11 (hV 3 _ rfl);clear b4
  obtain ⟨_,b4,m1,rfl,N1⟩:=x1.2 (hL 2 (by decide))
  have zw7:=hZ;have zw9:=hK.size;replace hZ:=Nat.le_refl w9.heap.size
  replace hB:=hK.below hB hB.size (by simp<;>omega)
  clear hF hK hV hL x0 x1 hXb s1 s2 s3 s4 s5 s28 b3;refine th_n ?_
  refine wp_ret ?_
  refine th_r ?_
  refine bodyPost_ret (v:=.tuple #[.agg #[.slice m1.A p.length m1.c],.bool true]) (by simp [results,Tryz.results205,go_sem,s10,b4.cell,s11]) hdf ?_
  have hT:growT p bx by_=true:=by unfold growT;rw [q5];rfl
  have h0:=grow_triv (lo:=lo) (hi:=hi) hT
  exact ⟨_,by rw [h0.1],by rw [h0.2];exact N1.halves.mono (by omega),hB⟩
 ·skip
  refine wp_regJ (by kernel_rfl) [19,20,21,22,23,24,25,26,27,28] [some (.agg #[.slice a.A p.length a.c]),some (.bool false),some (.bool false),some (.int .i64 bx),some (.bool (bx == 0)),some (.bool (bx == 0)),some ((bif bx == 0 then (.int .i64 by_:Value) else undef)),some ((bif bx == 0 then (.bool (by_ == 0):Value) else undef)),some (.bool (bx == 0&&by_ == 0)),some (.bool (bx == 0&&by_ == 0))] (dlR 10) [19,20,21,22,23,24,25,26,27,28] [0,1,2,3,4,5,6,7,8,9] [] (fun _ _ _=>True) (by kernel_rfl) (by rw [hz];decide) ?_ (en rfl ?_ (en rfl ?_ (en rfl ?_ (eg ?_ (eg ?_ (eg ?_ (eg ?_ (eg ?_ (eg ?_ (en rfl ?_ .nil)))))))))) ?_
  ·exact fun _ _=>trivial
  ·intro Lk ak ww H _ _ hN
   simp [go_sem,H.f.g rfl s5,(b3.k0 H.k).cell]
   exact (hN _ _ H.k rfl trivial)
  ·intro Lk ak ww H _ _ hN
   simp [go_sem,(gS ak 19 (H.d 0 rfl rfl))]
   refine (iIsVoid_c p a ww).mono ?_
   rintro x wx ⟨rfl,hb⟩
   exact (hN _ _ (H.k.call hb) (by show _=_;simp only [q5]) trivial)
  ·exact fun Lk ak ww H _ _ hN=>wp_move rfl (ev (H.d 1 rfl rfl)) (hN _ _ H.k rfl trivial)
  ·intro Lk ak ww H _ _ hN
   refine wnt_y rfl rfl rfl (H.d 2 rfl rfl) ?_
   exact wp_move rfl (ev (H.f.g rfl s1)) (hN _ _ H.k rfl trivial)
  ·intro Lk ak ww H _ _ hN
   refine wnt_y rfl rfl rfl (H.d 2 rfl rfl) ?_
   exact wp_bin rfl (ev (H.d 3 rfl rfl)) rfl rfl rfl (hN _ _ H.k rfl trivial)
  ·intro Lk ak ww H _ _ hN
   refine wnt_y rfl rfl rfl (H.d 2 rfl rfl) ?_
   exact wp_move rfl (ev (H.d 4 rfl rfl)) (hN _ _ H.k rfl trivial)
  ·intro Lk ak ww H _ _ hN
   refine wgt rfl rfl rfl (H.d 5 rfl rfl) (fun qg=>hN _ _ H.k (bif_f qg).symm trivial) fun qg=>?_
   exact wp_move rfl (ev (H.f.g rfl s2)) (hN _ _ H.k (bif_t qg).symm trivial)
  ·intro Lk ak ww H _ _ hN
   refine wgt rfl rfl rfl (H.d 5 rfl rfl) (fun qg=>hN _ _ H.k (bif_f qg).symm trivial) fun qg=>?_
   exact wp_bin rfl (ev ((H.d 6 rfl rfl).trans (bif_t qg))) rfl rfl rfl (hN _ _ H.k (bif_t qg).symm trivial)
  ·intro Lk ak ww H _ _ hN
   refine wnt_y rfl rfl rfl (H.d 2 rfl rfl) ?_
   exact wp_pick rfl (ev (H.d 5 rfl rfl)) (fun h=>(ev ((H.d 7 rfl rfl).trans (bif_t h))).trans (vand_t h)) (fun h=>vand_f h) (hN _ _ H.k rfl trivial)
  ·exact fun Lk ak ww H _ _ hN=>wp_pick rfl (ev (H.d 2 rfl rfl)) (fun h=>by cases h) (fun _=>(ev (H.d 8 rfl rfl))) (hN _ _ H.k rfl trivial)
  intro L a10 w11 hL hF hK hV hX;replace hz:=hF.Z hz;replace hdf:=hF.E hdf;replace s1:=hF.G s1;replace s2:=hF.G s2;replace s3:=hF.G s3;replace s4:=hF.G s4;replace s5:=hF.G s5;replace s10:=hF.G s10;have s28:=gS a10 28 (hV 9 _ rfl);replace b3:=b3.k0 hK;replace b4:=b4.k0 hK;replace hZ:=Nat.le_trans hZ hK.size;replace hB:=hK.below0 hB;clear hF hK hV hL hX;refine th_n ?_
  rcases Bool.eq_false_or_eq_true (bx == 0&&by_ == 0) with q12|q12
  ·skip
   refine wp_cond_true (ev (vb s28 q12)) ?_
   refine wp_seq ?_
   have hXb:StaysX [30] (fun L aa ww=>(L 1=true→(fun ww v=>∃ m2,v=.agg #[.slice m2.A p.length m2.c]∧RegionNew ww w11.heap.size p m2) ww (aa.tmps[30]?.getD undef))∧PreX ww (w.heap.size+1) 37 [.slice none 0 0] (L 2) (fun ww vs=>∃ m2,vs=[.slice m2.A p.length m2.c]∧RegionNew ww w11.heap.size p m2)):=by
    intro L aa ww w' kk vv hkk hb hX
    obtain ⟨x0,x1⟩:=hX
    exact ⟨(fun h=>by rw [put_ne' (hkk 30 (by simp))];obtain ⟨m2',e,f2'⟩:=x0 h;exact ⟨m2',e,f2'.below hb leR⟩),(x1.bel hb (fun _ ⟨m2',e,f2'⟩=>⟨m2',e,f2'.below hb leR⟩))⟩
   refine wp_regK hXb (by kernel_rfl) [29,30,0,11] [some (.agg #[.slice a.A p.length a.c]),none,none,some (.bool true)] (dlR 4) [29,30,11] [0,1,2,3] [(w.heap.size+1)] (by kernel_rfl) (by rw [hz];decide) ?_ (en rfl ?_ (en rfl ?_ (en rfl ?_ (en rfl ?_ .nil)))) ?_
   ·exact fun _ h=>⟨(fun h=>by cases h),(⟨fun _=>b4.kp h (by simp),(fun h=>by cases h)⟩)⟩
   ·intro Lk ak ww H _ _ hN
    simp [go_sem,H.f.g rfl s5,(b3.kp H.k (by simp<;>omega)).cell]
    exact (hN _ _ H.k rfl (hXb.q rfl H.x))
   ·intro Lk ak ww H _ _ hN
    obtain ⟨x0,x1⟩:=H.x
    simp [go_sem,(gS ak 29 (H.d 0 rfl rfl))]
    have hBi:=H.k.below hB hB.size (by simp<;>omega)
    refine (iCopyRegion_c p a ww (by have:=reg_len hp;omega) (hsp.below hBi)).mono ?_
    rintro x wx ⟨m2,rfl,f0,hb⟩
    have f2:=f0.mono H.k.size
    exact (hN _ _ (H.k.call hb) trivial ⟨(fun _=>by rw [put_get_self (H.f.lt (by rw [hz];decide))];exact ⟨m2,rfl,f2⟩),(x1.bel hb (fun _ ⟨m2',e,f2'⟩=>⟨m2',e,f2'.below hb leR⟩))⟩)
   ·intro Lk ak ww H _ _ hN
    obtain ⟨x0,x1⟩:=H.x
    obtain ⟨m2,ee1,f2⟩:=x0 (H.r 1 rfl)
    have HT:=x1.1 H.n
    simp [go_sem,ee1,H.f.g rfl s10,HT.cell,HT.frz]
    have f2:=f2.otherT HT (by decide) [.slice m2.A p.length m2.c] 0
    exact hN undef _ (H.k.store (.inr (by simp)) [.slice m2.A p.length m2.c] 0) trivial ⟨(fun h=>by obtain ⟨m2',e,f2'⟩:=x0 h;exact ⟨m2',e,f2'.otherT HT (by decide) [.slice m2.A p.length m2.c] 0⟩),(PreX.set HT (us:=[.slice m2.A p.length m2.c]) rfl ⟨m2,rfl,f2⟩)⟩
   ·exact fun Lk ak ww H _ _ hN=>wp_assign rfl rfl (hN _ _ H.k rfl (hXb.q rfl H.x))
   intro L a13 w14 hL hF hK hV hX
   obtain ⟨x0,x1⟩:=hX
   replace hz:=hF.Z hz;replace hdf:=hF.E hdf;replace s10:=hF.G s10;have s11:=gS a13 11 (hV 3 _ rfl);clear b4
   obtain ⟨_,b4,m2,rfl,N2⟩:=x1.2 (hL 2 (by decide))
   have zw11:=hZ;have zw14:=hK.size;replace hZ:=Nat.le_refl w14.heap.size
   replace hB:=hK.below hB hB.size (by simp<;>omega)
   clear hF hK hV hL x0 x1 hXb s1 s2 s3 s4 s5 s28 b3;refine th_n ?_
   refine wp_ret ?_
   refine th_r ?_
   refine bodyPost_ret (v:=.tuple #[.agg #[.slice m2.A p.length m2.c],.bool true]) (by simp [results,Tryz.results205,go_sem,s10,b4.cell,s11]) hdf ?_
   have hT:growT p bx by_=true:=by unfold growT;rw [q5,q12];rfl
   have h0:=grow_triv (lo:=lo) (hi:=hi) hT
   exact ⟨_,by rw [h0.1],by rw [h0.2];exact N2.halves.mono (by omega),hB⟩
  ·skip
   have hT:growT p bx by_=false:=by unfold growT;rw [q5,q12];rfl
   obtain ⟨hne,hnz⟩:=grow_ne hT
   refine wp_cond_false (ev (vb s28 q12)) ?_
   refine wp_skip ?_;refine th_n ?_;refine wp_seq ?_
   have hXb:StaysX [12,31,35,36] (fun L aa ww=>(L 3=true→(fun ww v=>∃ A3 c3,v=.tuple #[.slice A3 ((sdL p (dirA bx by_) (dirB bx by_)).length) c3,.bool (sdO p (dirA bx by_) (dirB bx by_))]∧New 111 3 halfC ww w11.heap.size (.slice A3 (sdL p (dirA bx by_) (dirB bx by_)).length c3) (sdL p (dirA bx by_) (dirB bx by_))) ww (aa.tmps[35]?.getD undef))∧(L 4=true→(fun ww v=>∃ A3 c3,v=.tuple #[.slice A3 ((sdL p (dirA bx by_) (dirB bx by_)).length) c3,.bool (sdO p (dirA bx by_) (dirB bx by_))]∧New 111 3 halfC ww w11.heap.size (.slice A3 (sdL p (dirA bx by_) (dirB bx by_)).length c3) (sdL p (dirA bx by_) (dirB bx by_))) ww (aa.tmps[31]?.getD undef))∧(L 5=true→(fun ww v=>∃ A3 c3,v=.slice A3 ((sdL p (dirA bx by_) (dirB bx by_)).length) c3∧New 111 3 halfC ww w11.heap.size (.slice A3 (sdL p (dirA bx by_) (dirB bx by_)).length c3) (sdL p (dirA bx by_) (dirB bx by_))) ww (aa.tmps[36]?.getD undef))∧(L 7=true→(fun ww v=>∃ A3 c3,v=.slice A3 ((sdL p (dirA bx by_) (dirB bx by_)).length) c3∧New 111 3 halfC ww w11.heap.size (.slice A3 (sdL p (dirA bx by_) (dirB bx by_)).length c3) (sdL p (dirA bx by_) (dirB bx by_))) ww (aa.tmps[12]?.getD undef))):=by
    intro L aa ww w' kk vv hkk hb hX
    obtain ⟨x0,x1,x2,x3⟩:=hX
    exact ⟨(fun h=>by rw [put_ne' (hkk 35 (by simp))];obtain ⟨A3',c3',e,f3'⟩:=x0 h;exact ⟨A3',c3',e,f3'.below hb leR⟩),(fun h=>by rw [put_ne' (hkk 31 (by simp))];obtain ⟨A3',c3',e,f3'⟩:=x1 h;exact ⟨A3',c3',e,f3'.below hb leR⟩),(fun h=>by rw [put_ne' (hkk 36 (by simp))];obtain ⟨A3',c3',e,f3'⟩:=x2 h;exact ⟨A3',c3',e,f3'.below hb leR⟩),(fun h=>by rw [put_ne' (hkk 12 (by simp))];obtain ⟨A3',c3',e,f3'⟩:=x3 h;exact ⟨A3',c3',e,f3'.below hb leR⟩)⟩
   refine wp_regK hXb (by kernel_rfl) [32,33,34,35,31,36,37,12,13] [some (.agg #[.slice a.A p.length a.c]),some (.int .i64 bx),some (.int .i64 by_),none,none,none,some (.bool (sdO p (dirA bx by_) (dirB bx by_))),none,some (.bool (sdO p (dirA bx by_) (dirB bx by_)))] (dlR 9) [32,33,34,35,31,36,37,12,13] [0,1,2,3,4,5,6,7,8] [] (by kernel_rfl) (by rw [hz];decide) ?_ (en rfl ?_ (en rfl ?_ (en rfl ?_ (en rfl ?_ (en rfl ?_ (en rfl ?_ (en rfl ?_ (en rfl ?_ (en rfl ?_ .nil))))))))) ?_
   ·exact fun _ h=>⟨(fun h=>by cases h),(fun h=>by cases h),(fun h=>by cases h),(fun h=>by cases h)⟩
   ·intro Lk ak ww H _ _ hN
    simp [go_sem,H.f.g rfl s5,(b3.k0 H.k).cell]
    exact (hN _ _ H.k rfl (hXb.q rfl H.x))
   ·exact fun Lk ak ww H _ _ hN=>wp_move rfl (ev (H.f.g rfl s1)) (hN _ _ H.k rfl (hXb.q rfl H.x))
   ·exact fun Lk ak ww H _ _ hN=>wp_move rfl (ev (H.f.g rfl s2)) (hN _ _ H.k rfl (hXb.q rfl H.x))
   ·intro Lk ak ww H _ _ hN
    obtain ⟨x0,x1,x2,x3⟩:=H.x
    simp [go_sem,(gS ak 32 (H.d 0 rfl rfl)),(gS ak 33 (H.d 1 rfl rfl)),(gS ak 34 (H.d 2 rfl rfl))]
    have hBi:=H.k.below0 hB
    refine (iSides_c p bx by_ a ww hp hne ⟨D.x,D.y,hnz⟩ (hsp.below hBi)).mono ?_
    rintro x wx ⟨A3,c3,rfl,f0,hb⟩
    have f3:=f0.mono H.k.size
    exact (hN _ _ (H.k.call hb) trivial ⟨(fun _=>by rw [put_get_self (H.f.lt (by rw [hz];decide))];exact ⟨A3,c3,rfl,f3⟩),(fun h=>by rw [put_ne' (by decide)];obtain ⟨A3',c3',e,f3'⟩:=x1 h;exact ⟨A3',c3',e,f3'.below hb leR⟩),(fun h=>by rw [put_ne' (by decide)];obtain ⟨A3',c3',e,f3'⟩:=x2 h;exact ⟨A3',c3',e,f3'.below hb leR⟩),(fun h=>by rw [put_ne' (by decide)];obtain ⟨A3',c3',e,f3'⟩:=x3 h;exact ⟨A3',c3',e,f3'.below hb leR⟩)⟩)
   ·intro Lk ak ww H _ _ hN
    obtain ⟨x0,x1,x2,x3⟩:=H.x
    obtain ⟨A3,c3,ee3,f3⟩:=x0 (H.r 3 rfl)
    exact wp_move rfl (ev ee3) (hN _ _ H.k trivial ⟨(fun h=>by rw [put_ne' (by decide)];obtain ⟨A3',c3',e,f3'⟩:=x0 h;exact ⟨A3',c3',e,f3'.below bR leR⟩),(fun _=>by rw [put_get_self (H.f.lt (by rw [hz];decide))];exact ⟨A3,c3,rfl,f3⟩),(fun h=>by rw [put_ne' (by decide)];obtain ⟨A3',c3',e,f3'⟩:=x2 h;exact ⟨A3',c3',e,f3'.below bR leR⟩),(fun h=>by rw [put_ne' (by decide)];obtain ⟨A3',c3',e,f3'⟩:=x3 h;exact ⟨A3',c3',e,f3'.below bR leR⟩)⟩)
   ·intro Lk ak ww H _ _ hN
    obtain ⟨x0,x1,x2,x3⟩:=H.x
    obtain ⟨A3,c3,ee4,f3⟩:=x1 (H.r 4 rfl)
    exact wp_extract rfl (ev ee4) rfl (hN _ _ H.k trivial ⟨(fun h=>by rw [put_ne' (by decide)];obtain ⟨A3',c3',e,f3'⟩:=x0 h;exact ⟨A3',c3',e,f3'.below bR leR⟩),(fun h=>by rw [put_ne' (by decide)];obtain ⟨A3',c3',e,f3'⟩:=x1 h;exact ⟨A3',c3',e,f3'.below bR leR⟩),(fun _=>by rw [put_get_self (H.f.lt (by rw [hz];decide))];exact ⟨A3,c3,rfl,f3⟩),(fun h=>by rw [put_ne' (by decide)];obtain ⟨A3',c3',e,f3'⟩:=x3 h;exact ⟨A3',c3',e,f3'.below bR leR⟩)⟩)
   ·intro Lk ak ww H _ _ hN
    obtain ⟨x0,x1,x2,x3⟩:=H.x
    obtain ⟨A3,c3,ee4,f3⟩:=x1 (H.r 4 rfl)
    exact wp_extract rfl (ev ee4) rfl (hN _ _ H.k rfl (hXb.q rfl H.x))
   ·intro Lk ak ww H _ _ hN
    obtain ⟨x0,x1,x2,x3⟩:=H.x
    obtain ⟨A3,c3,ee5,f3⟩:=x2 (H.r 5 rfl)
    exact wp_assign rfl (ev ee5) (hN _ _ H.k trivial ⟨(fun h=>by rw [put_ne' (by decide)];obtain ⟨A3',c3',e,f3'⟩:=x0 h;exact ⟨A3',c3',e,f3'.below bR leR⟩),(fun h=>by rw [put_ne' (by decide)];obtain ⟨A3',c3',e,f3'⟩:=x1 h;exact ⟨A3',c3',e,f3'.below bR leR⟩),(fun h=>by rw [put_ne' (by decide)];obtain ⟨A3',c3',e,f3'⟩:=x2 h;exact ⟨A3',c3',e,f3'.below bR leR⟩),(fun _=>by rw [put_get_self (H.f.lt (by rw [hz];decide))];exact ⟨A3,c3,rfl,f3⟩)⟩)
   ·exact fun Lk ak ww H _ _ hN=>wp_assign rfl (ev (H.d 6 rfl rfl)) (hN _ _ H.k rfl (hXb.q rfl H.x))
   intro L a15 w16 hL hF hK hV hX
   obtain ⟨x0,x1,x2,x3⟩:=hX
   replace hz:=hF.Z hz;replace hdf:=hF.E hdf;replace s1:=hF.G s1;replace s2:=hF.G s2;replace s3:=hF.G s3;replace s4:=hF.G s4;replace s5:=hF.G s5;replace s10:=hF.G s10;have s13:=gS a15 13 (hV 8 _ rfl);replace b3:=b3.k0 hK;replace b4:=b4.k0 hK
   obtain ⟨A3,c3,s12,N3⟩:=x3 (hL 7 (by decide))
   have i3:∀ p,A3=some p→p.block<w16.heap.size:=fun p hp=>(N3.blk p hp).2;have zw11:=hZ;have zw16:=hK.size;replace hZ:=Nat.le_refl w16.heap.size;replace hB:=hK.below0 hB;clear hF hK hV hL x0 x1 x2 x3 hXb s28;refine th_n ?_;refine wp_seq ?_;refine wp_seq ?_
   refine wp_regJ (by kernel_rfl) [38,39] [some (.bool (sdO p (dirA bx by_) (dirB bx by_))),some (.bool (!(sdO p (dirA bx by_) (dirB bx by_))))] (dlR 2) [38,39] [0,1] [] (fun _ _ _=>True) (by kernel_rfl) (by rw [hz];decide) ?_ (en rfl ?_ (en rfl ?_ .nil)) ?_
   ·exact fun _ _=>trivial
   ·exact fun Lk ak ww H _ _ hN=>wp_move rfl (ev (H.f.g rfl s13)) (hN _ _ H.k rfl trivial)
   ·exact fun Lk ak ww H _ _ hN=>wp_not rfl (ev (H.d 0 rfl rfl)) (hN _ _ H.k rfl trivial)
   intro L a17 w18 hL hF hK hV hX;replace hz:=hF.Z hz;replace hdf:=hF.E hdf;replace s1:=hF.G s1;replace s2:=hF.G s2;replace s3:=hF.G s3;replace s4:=hF.G s4;replace s5:=hF.G s5;replace s10:=hF.G s10;replace s12:=hF.G s12;have s39:=gS a17 39 (hV 1 _ rfl);replace b3:=b3.k0 hK;replace b4:=b4.k0 hK;replace N3:=N3.below hK.toBelow leR;replace hZ:=Nat.le_trans hZ hK.size;replace hB:=hK.below0 hB;clear hF hK hV hL hX s13;refine th_n ?_
   rcases Bool.eq_false_or_eq_true (!(sdO p (dirA bx by_) (dirB bx by_))) with q19|q19
   ·skip
    refine wp_cond_true (ev (vb s39 q19)) ?_
    refine wp_seq ?_
    have hXb:StaysX [] (fun L aa ww=>PreX ww (w.heap.size+1) 37 [.slice none 0 0] (L 1) (fun _ vs=>vs=[.slice none 0 0])):=by
     intro L aa ww w' kk vv hkk hb hX
     have x0:=hX
     exact (x0.bel hb (fun _ h=>h))
    refine wp_regK hXb (by kernel_rfl) [40,0,11] [some (.agg #[.slice none 0 0]),none,some (.bool false)] (dlR 3) [40,11] [0,1,2] [(w.heap.size+1)] (by kernel_rfl) (by rw [hz];decide) ?_ (en rfl ?_ (en rfl ?_ (en rfl ?_ .nil))) ?_
    ·exact fun _ h=>(⟨fun _=>b4.kp h (by simp),(fun h=>by cases h)⟩)
    ·intro Lk ak ww H _ _ hN
     simp [go_sem]
     exact (hN _ _ H.k rfl H.x)
    ·intro Lk ak ww H _ _ hN
     have x0:=H.x
     have HT:=x0.1 H.n
     simp [go_sem,(gS ak 40 (H.d 0 rfl rfl)),H.f.g rfl s10,HT.cell,HT.frz]
     exact hN undef _ (H.k.store (.inr (by simp)) [.slice none 0 0] 0) trivial (PreX.set HT (us:=[.slice none 0 0]) rfl rfl)
    ·exact fun Lk ak ww H _ _ hN=>wp_assign rfl rfl (hN _ _ H.k rfl H.x)
    intro L a20 w21 hL hF hK hV hX;have x0:=hX;replace hz:=hF.Z hz;replace hdf:=hF.E hdf;replace s10:=hF.G s10;have s11:=gS a20 11 (hV 2 _ rfl);clear b4
    obtain ⟨_,b4,rfl⟩:=x0.2 (hL 1 (by decide))
    replace hZ:=Nat.le_trans hZ hK.size
    replace hB:=hK.below hB hB.size (by simp<;>omega)
    clear hF hK hV hL x0 hXb s1 s2 s3 s4 s5 s12 s39 b3 N3 i3;refine th_n ?_
    refine wp_ret ?_
    refine th_r ?_
    refine bodyPost_ret (v:=.tuple #[.agg #[.slice none 0 0],.bool false]) (by simp [results,Tryz.results205,go_sem,s10,b4.cell,s11]) hdf ?_
    have h0:=grow_side (lo:=lo) (hi:=hi) hT (not_t q19)
    exact ⟨_,by rw [h0.1],by rw [h0.2];exact New.nilN _ _ _ _ _,hB⟩
   ·skip
    refine wp_cond_false (ev (vb s39 q19)) ?_
    refine wp_skip ?_;refine th_n ?_;refine wp_seq ?_;refine wp_seq ?_
    refine wp_regJ (by kernel_rfl) [41,42,43,44] [some (.pointer (some ⟨w.heap.size,0,none⟩)),some (.slice a.A p.length a.c),some (.int .i64 (p.length:Int)),some (.int .i64 0)] (dlR 4) [41,42,43,44] [0,1,2,3] [] (fun _ _ _=>True) (by kernel_rfl) (by rw [hz];decide) ?_ (en rfl ?_ (en rfl ?_ (en rfl ?_ (en rfl ?_ .nil)))) ?_
    ·exact fun _ _=>trivial
    ·intro Lk ak ww H _ _ hN
     simp [go_sem,H.f.g rfl s5]
     exact (hN _ _ H.k rfl trivial)
    ·intro Lk ak ww H _ _ hN
     simp [go_sem,(gS ak 41 (H.d 0 rfl rfl)),(b3.k0 H.k).cell]
     exact (hN _ _ H.k rfl trivial)
    ·intro Lk ak ww H _ _ hN
     simp [go_sem,(gS ak 42 (H.d 1 rfl rfl))]
     exact (hN _ _ H.k rfl trivial)
    ·exact fun Lk ak ww H _ _ hN=>wp_move rfl rfl (hN _ _ H.k rfl trivial)
    intro L a22 w23 hL hF hK hV hX;replace hz:=hF.Z hz;replace hdf:=hF.E hdf;replace s1:=hF.G s1;replace s2:=hF.G s2;replace s3:=hF.G s3;replace s4:=hF.G s4;replace s10:=hF.G s10;replace s12:=hF.G s12;have s42:=gS a22 42 (hV 1 _ rfl);have s43:=gS a22 43 (hV 2 _ rfl);have s44:=gS a22 44 (hV 3 _ rfl);replace b4:=b4.k0 hK;replace N3:=N3.below hK.toBelow leR;replace hZ:=Nat.le_trans hZ hK.size;replace hB:=hK.below0 hB;clear hF hK hV hL hX s5 s39 b3;refine th_n ?_;refine wp_block ?_
    refine wp_loop (fun al wl=>al.tmps.size=89∧al.defers=[]∧∃ (k:Nat) (A4:Option Addr) (c4:Nat),(k≤p.length)∧(movAll (growH bx by_ lo hi) (p.take k)=true)∧al.tmps[1]?.getD undef=.int .i64 bx∧al.tmps[2]?.getD undef=.int .i64 by_∧al.tmps[3]?.getD undef=.int .i64 lo∧al.tmps[4]?.getD undef=.int .i64 hi∧al.tmps[10]?.getD undef=.pointer (some ⟨(w.heap.size+1),0,none⟩)∧al.tmps[12]?.getD undef=.slice A4 ((sdL p (dirA bx by_) (dirB bx by_)++movL (growH bx by_ lo hi) (p.take k)).length) c4∧al.tmps[42]?.getD undef=.slice a.A p.length a.c∧al.tmps[43]?.getD undef=.int .i64 (p.length:Int)∧al.tmps[44]?.getD undef=.int .i64 (k:Int)∧HasT wl (w.heap.size+1) 37 [.slice none 0 0]∧New 111 3 halfC wl w11.heap.size (.slice A4 (sdL p (dirA bx by_) (dirB bx by_)++movL (growH bx by_ lo hi) (p.take k)).length c4) (sdL p (dirA bx by_) (dirB bx by_)++movL (growH bx by_ lo hi) (p.take k))∧Below w.heap.size w wl∧w16.heap.size≤wl.heap.size) (fun al _=>(p.length-(intOf (al.tmps[44]?.getD undef)).toNat)) ?_ ?_
    ·exact ⟨hz,hdf,(0),(A3),(c3),(Nat.zero_le _),(rfl),s1,s2,s3,s4,s10,s12,s42,s43,s44,b4,(N3),hB,(by omega)⟩
    clear hz hdf hB hZ s1 s2 s3 s4 s10 s12 s42 s43 s44 b4 N3
    rintro a24 w25 ⟨hz,hdf,k,A4,c4,hk,hall,s1,s2,s3,s4,s10,s12,s42,s43,s44,b4,N4,hB,hZ⟩
    have zw25:=hZ;replace hZ:=Nat.le_refl w25.heap.size;have i4:∀ p,A4=some p→p.block<w25.heap.size:=fun p hp=>(N4.blk p hp).2
    have hmu:(p.length-(intOf (a24.tmps[44]?.getD undef)).toNat)=(p.length-(intOf ((.int .i64 (k:Int)))).toNat):=by rw [s44]
    refine wp_seq ?_
    refine wp_regJ (by kernel_rfl) [45] [some (.bool (decide ((k:Int)<(p.length:Int))))] (dlR 1) [45] [0] [] (fun _ _ _=>True) (by kernel_rfl) (by rw [hz];decide) ?_ (en rfl ?_ .nil) ?_
    ·exact fun _ _=>trivial
    ·exact fun Lk ak ww H _ _ hN=>wp_bin rfl (ev (H.f.g rfl s44)) (ev (H.f.g rfl s43)) rfl rfl (hN _ _ H.k rfl trivial)
    intro L a26 w27 hL hF hK hV hX;replace hz:=hF.Z hz;replace hdf:=hF.E hdf;replace s1:=hF.G s1;replace s2:=hF.G s2;replace s3:=hF.G s3;replace s4:=hF.G s4;replace s10:=hF.G s10;replace s12:=hF.G s12;replace s42:=hF.G s42;replace s43:=hF.G s43;replace s44:=hF.G s44;have s45:=gS a26 45 (hV 0 _ rfl);replace b4:=b4.k0 hK;replace N4:=N4.below hK.toBelow leR;replace hZ:=Nat.le_trans hZ hK.size;replace hB:=hK.below0 hB;clear hF hK hV hL hX;refine th_n ?_;refine wp_seq ?_
    rcases Bool.eq_false_or_eq_true (decide ((k:Int)<(p.length:Int))) with q28|q28
    ·skip
     have hkl:k<p.length:=by have:=dec_t q28;omega
     obtain ⟨bp,op,ep,fp⟩:=ElS.open_ (hsp.below hB) (by omega)
     have hh:=getD_halfOk hkl hp
     obtain ⟨⟨k1,k2⟩,⟨k3,k4⟩,⟨k5,k6⟩,⟨k7,k8⟩⟩:=growB D hh
     obtain ⟨⟨h1,h2⟩,⟨h3,h4⟩,⟨h5,h6⟩,_⟩:=halfOk_iff.1 hh
     refine wp_cond_true (ev (vb s45 q28)) ?_
     refine wp_skip ?_;refine th_n ?_;refine wp_seq ?_;refine wp_block ?_;refine wp_seq ?_
     have hXb:StaysX [15] (fun L aa ww=>(L 2=true→BoxX w27 aa ww 15 111 [.int .i64 0,.int .i64 0,.int .i64 0] (L 3) (fun _ vs=>vs=[.int .i64 ((p.getD k half0).a),.int .i64 ((p.getD k half0).b),.int .i64 ((p.getD k half0).c)]))):=by
      intro L aa ww w' kk vv hkk hb hX
      have x0:=hX
      exact (fun h=>((x0 h).bel hb (fun _ h=>h)).put (hkk 15 (by simp)) _)
     refine wp_regK hXb (by kernel_rfl) [46,47,15,0] [some (.pointer (some ⟨bp,op+k*3,none⟩)),some (halfV (p.getD k half0)),none,none] (dlR 4) [46,47,15] [0,1,2,3] [] (by kernel_rfl) (by rw [hz];decide) ?_ (en rfl ?_ (en rfl ?_ (en rfl ?_ (en rfl ?_ .nil)))) ?_
     ·exact fun _ h=>(fun h=>by cases h)
     ·intro Lk ak ww H _ _ hN
      simp [go_sem,H.f.g rfl s42,H.f.g rfl s44,hkl,ep]
      exact (hN _ _ H.k rfl (hXb.q rfl H.x))
     ·intro Lk ak ww H _ _ hN
      have hE:=fp.kp H.k (by simp)
      simp [go_sem,(gS ak 46 (H.d 0 rfl rfl)),(hE.at_ half0 (i:=k) (by omega) 0 (p:=op+k*3) (by omega) rfl),(hE.at_ half0 (i:=k) (by omega) 1 (p:=op+k*3+1) (by omega) rfl),(hE.at_ half0 (i:=k) (by omega) 2 (p:=op+k*3+2) (by omega) rfl)]
      exact (hN _ _ H.k rfl (hXb.q rfl H.x))
     ·intro Lk ak ww H _ _ hN
      have x0:=H.x
      simp [go_sem]
      exact hN _ _ (H.k.alloc _) trivial (fun _=>by rw [show upd Lk 2 3=false from H.t 3 rfl];exact BoxX.new (s:=15) (H.f.lt (by rw [hz];decide)) H.k.size [.int .i64 0,.int .i64 0,.int .i64 0])
     ·intro Lk ak ww H _ _ hN
      have x0:=H.x
      obtain ⟨g,eg,hg,y,_⟩:=x0 (H.r 2 rfl)
      have HT:=y H.n
      simp [go_sem,(gS ak 47 (H.d 1 rfl rfl)),eg,HT.cell,HT.frz]
      exact hN undef _ (H.k.store (.inl hg) [.int .i64 ((p.getD k half0).a),.int .i64 ((p.getD k half0).b),.int .i64 ((p.getD k half0).c)] 0) trivial (fun _=>BoxX.set eg hg HT (us:=[.int .i64 ((p.getD k half0).a),.int .i64 ((p.getD k half0).b),.int .i64 ((p.getD k half0).c)]) rfl rfl)
     intro L a29 w30 hL hF hK hV hX;have x0:=hX;replace hz:=hF.Z hz;replace hdf:=hF.E hdf;replace s1:=hF.G s1;replace s2:=hF.G s2;replace s3:=hF.G s3;replace s4:=hF.G s4;replace s10:=hF.G s10;replace s12:=hF.G s12;replace s42:=hF.G s42;replace s43:=hF.G s43;replace s44:=hF.G s44;replace b4:=b4.k0 hK
     obtain ⟨g31,s15,lg31,-,b31⟩:=x0 (hL 2 (by decide))
     obtain ⟨_,b31,rfl⟩:=b31 (hL 3 (by decide))
     have ug31:=b31.lt
     replace N4:=N4.below hK.toBelow leR;have zw27:=hZ;have zw30:=hK.size;replace hZ:=Nat.le_refl w30.heap.size;replace hB:=hK.below0 hB;clear hF hK hV hL x0 hXb s45 fp;refine th_n ?_;refine wp_seq ?_
     refine wp_regJ (by kernel_rfl) [48,49,50,51,52,53,54,55,56,16] [some (.pointer (some ⟨g31,0,none⟩)),some (.int .i64 ((p.getD k half0).a)),some (.int .i64 bx),some (.int .i64 (((p.getD k half0).a)*bx)),some (.pointer (some ⟨g31,1,none⟩)),some (.int .i64 ((p.getD k half0).b)),some (.int .i64 by_),some (.int .i64 (((p.getD k half0).b)*by_)),some (.int .i64 ((((p.getD k half0).a)*bx)+(((p.getD k half0).b)*by_))),some (.int .i64 ((((p.getD k half0).a)*bx)+(((p.getD k half0).b)*by_)))] (dlR 10) [48,49,50,51,52,53,54,55,56,16] [0,1,2,3,4,5,6,7,8,9] [] (fun _ _ _=>True) (by kernel_rfl) (by rw [hz];decide) ?_ (en rfl ?_ (en rfl ?_ (en rfl ?_ (en rfl ?_ (en rfl ?_ (en rfl ?_ (en rfl ?_ (en rfl ?_ (en rfl ?_ (en rfl ?_ .nil)))))))))) ?_
     ·exact fun _ _=>trivial
     ·intro Lk ak ww H _ _ hN
      simp [go_sem,H.f.g rfl s15]
      exact (hN _ _ H.k rfl trivial)
     ·intro Lk ak ww H _ _ hN
      simp [go_sem,(gS ak 48 (H.d 0 rfl rfl)),(b31.k0 H.k).cell]
      exact (hN _ _ H.k rfl trivial)
     ·exact fun Lk ak ww H _ _ hN=>wp_move rfl (ev (H.f.g rfl s1)) (hN _ _ H.k rfl trivial)
     ·exact fun Lk ak ww H _ _ hN=>wp_mul rfl (ev (H.d 1 rfl rfl)) (ev (H.d 2 rfl rfl)) (by omega) (hN _ _ H.k rfl trivial)
     ·intro Lk ak ww H _ _ hN
      simp [go_sem,H.f.g rfl s15]
      exact (hN _ _ H.k rfl trivial)
     ·intro Lk ak ww H _ _ hN
      simp [go_sem,(gS ak 52 (H.d 4 rfl rfl)),(b31.k0 H.k).cell]
      exact (hN _ _ H.k rfl trivial)
     ·exact fun Lk ak ww H _ _ hN=>wp_move rfl (ev (H.f.g rfl s2)) (hN _ _ H.k rfl trivial)
     ·exact fun Lk ak ww H _ _ hN=>wp_mul rfl (ev (H.d 5 rfl rfl)) (ev (H.d 6 rfl rfl)) (by omega) (hN _ _ H.k rfl trivial)
     ·exact fun Lk ak ww H _ _ hN=>wp_add rfl (ev (H.d 3 rfl rfl)) (ev (H.d 7 rfl rfl)) (by omega) (hN _ _ H.k rfl trivial)
     ·exact fun Lk ak ww H _ _ hN=>wp_assign rfl (ev (H.d 8 rfl rfl)) (hN _ _ H.k rfl trivial)
     intro L a32 w33 hL hF hK hV hX;replace hz:=hF.Z hz;replace hdf:=hF.E hdf;replace s1:=hF.G s1;replace s2:=hF.G s2;replace s3:=hF.G s3;replace s4:=hF.G s4;replace s10:=hF.G s10;replace s12:=hF.G s12;replace s42:=hF.G s42;replace s43:=hF.G s43;replace s44:=hF.G s44;replace s15:=hF.G s15;have s16:=gS a32 16 (hV 9 _ rfl);replace b4:=b4.k0 hK;replace b31:=b31.k0 hK;replace N4:=N4.below hK.toBelow leR;replace hZ:=Nat.le_trans hZ hK.size;replace hB:=hK.below0 hB;clear hF hK hV hL hX;refine th_n ?_;refine wp_seq ?_
     have hXb:StaysX [17] (fun L aa ww=>(L 20=true→BoxX w33 aa ww 17 111 [.int .i64 0,.int .i64 0,.int .i64 0] (L 21) (fun _ vs=>vs=[.int .i64 (((growH bx by_ lo hi (p.getD k half0)).getD half0).a),.int .i64 (((growH bx by_ lo hi (p.getD k half0)).getD half0).b),.int .i64 (((growH bx by_ lo hi (p.getD k half0)).getD half0).c)]))):=by
      intro L aa ww w' kk vv hkk hb hX
      have x0:=hX
      exact (fun h=>((x0 h).bel hb (fun _ h=>h)).put (hkk 17 (by simp)) _)
     refine wp_regK hXb (by kernel_rfl) [58,59,60,61,62,63,64,65,66,67,68,69,70,71,72,73,74,57,75,76,17,0,18] [some (.pointer (some ⟨g31,0,none⟩)),some (.int .i64 ((p.getD k half0).a)),some (.pointer (some ⟨g31,1,none⟩)),some (.int .i64 ((p.getD k half0).b)),some (.pointer (some ⟨g31,2,none⟩)),some (.int .i64 ((p.getD k half0).c)),some (.int .i64 lo),some (.int .i64 (-lo)),some (.int .i64 ((((p.getD k half0).a)*bx)+(((p.getD k half0).b)*by_))),some (.int .i64 ((-lo)*((((p.getD k half0).a)*bx)+(((p.getD k half0).b)*by_)))),some (.int .i64 hi),some (.int .i64 (-hi)),some (.int .i64 ((((p.getD k half0).a)*bx)+(((p.getD k half0).b)*by_))),some (.int .i64 ((-hi)*((((p.getD k half0).a)*bx)+(((p.getD k half0).b)*by_)))),some (.int .i64 (max ((-lo)*((((p.getD k half0).a)*bx)+(((p.getD k half0).b)*by_))) ((-hi)*((((p.getD k half0).a)*bx)+(((p.getD k half0).b)*by_))))),some (.int .i64 (((p.getD k half0).c)+(max ((-lo)*((((p.getD k half0).a)*bx)+(((p.getD k half0).b)*by_))) ((-hi)*((((p.getD k half0).a)*bx)+(((p.getD k half0).b)*by_)))))),some (.tuple #[halfV ((growH bx by_ lo hi (p.getD k half0)).getD half0),.bool ((growH bx by_ lo hi (p.getD k half0)).isSome)]),some (.tuple #[halfV ((growH bx by_ lo hi (p.getD k half0)).getD half0),.bool ((growH bx by_ lo hi (p.getD k half0)).isSome)]),some (halfV ((growH bx by_ lo hi (p.getD k half0)).getD half0)),some (.bool ((growH bx by_ lo hi (p.getD k half0)).isSome)),none,none,some (.bool ((growH bx by_ lo hi (p.getD k half0)).isSome))] (dlR 23) [58,59,60,61,62,63,64,65,66,67,68,69,70,71,72,73,74,57,75,76,17,18] [0,1,2,3,4,5,6,7,8,9,10,11,12,13,14,15,16,17,18,19,20,21,22] [] (by kernel_rfl) (by rw [hz];decide) ?_ (en rfl ?_ (en rfl ?_ (en rfl ?_ (en rfl ?_ (en rfl ?_ (en rfl ?_ (en rfl ?_ (en rfl ?_ (en rfl ?_ (en rfl ?_ (en rfl ?_ (en rfl ?_ (en rfl ?_ (en rfl ?_ (en rfl ?_ (en rfl ?_ (en rfl ?_ (en rfl ?_ (en rfl ?_ (en rfl ?_ (en rfl ?_ (en rfl ?_ (en rfl ?_ .nil))))))))))))))))))))))) ?_
     ·exact fun _ h=>(fun h=>by cases h)
     ·intro Lk ak ww H _ _ hN
      simp [go_sem,H.f.g rfl s15]
      exact (hN _ _ H.k rfl (hXb.q rfl H.x))
     ·intro Lk ak ww H _ _ hN
      simp [go_sem,(gS ak 58 (H.d 0 rfl rfl)),(b31.k0 H.k).cell]
      exact (hN _ _ H.k rfl (hXb.q rfl H.x))
     ·intro Lk ak ww H _ _ hN
      simp [go_sem,H.f.g rfl s15]
      exact (hN _ _ H.k rfl (hXb.q rfl H.x))
     ·intro Lk ak ww H _ _ hN
      simp [go_sem,(gS ak 60 (H.d 2 rfl rfl)),(b31.k0 H.k).cell]
      exact (hN _ _ H.k rfl (hXb.q rfl H.x))
     ·intro Lk ak ww H _ _ hN
      simp [go_sem,H.f.g rfl s15]
      exact (hN _ _ H.k rfl (hXb.q rfl H.x))
     ·intro Lk ak ww H _ _ hN
      simp [go_sem,(gS ak 62 (H.d 4 rfl rfl)),(b31.k0 H.k).cell]
      exact (hN _ _ H.k rfl (hXb.q rfl H.x))
     ·exact fun Lk ak ww H _ _ hN=>wp_move rfl (ev (H.f.g rfl s3)) (hN _ _ H.k rfl (hXb.q rfl H.x))
     ·exact fun Lk ak ww H _ _ hN=>wp_neg rfl (ev (H.d 6 rfl rfl)) (by omega) (hN _ _ H.k rfl (hXb.q rfl H.x))
     ·exact fun Lk ak ww H _ _ hN=>wp_move rfl (ev (H.f.g rfl s16)) (hN _ _ H.k rfl (hXb.q rfl H.x))
     ·exact fun Lk ak ww H _ _ hN=>wp_mul rfl (ev (H.d 7 rfl rfl)) (ev (H.d 8 rfl rfl)) (by omega) (hN _ _ H.k rfl (hXb.q rfl H.x))
     ·exact fun Lk ak ww H _ _ hN=>wp_move rfl (ev (H.f.g rfl s4)) (hN _ _ H.k rfl (hXb.q rfl H.x))
     ·exact fun Lk ak ww H _ _ hN=>wp_neg rfl (ev (H.d 10 rfl rfl)) (by omega) (hN _ _ H.k rfl (hXb.q rfl H.x))
     ·exact fun Lk ak ww H _ _ hN=>wp_move rfl (ev (H.f.g rfl s16)) (hN _ _ H.k rfl (hXb.q rfl H.x))
     ·exact fun Lk ak ww H _ _ hN=>wp_mul rfl (ev (H.d 11 rfl rfl)) (ev (H.d 12 rfl rfl)) (by omega) (hN _ _ H.k rfl (hXb.q rfl H.x))
     ·intro Lk ak ww H _ _ hN
      simp [go_sem,(gS ak 67 (H.d 9 rfl rfl)),(gS ak 71 (H.d 13 rfl rfl))]
      exact (hN _ _ H.k rfl (hXb.q rfl H.x))
     ·exact fun Lk ak ww H _ _ hN=>wp_add rfl (ev (H.d 5 rfl rfl)) (ev (H.d 14 rfl rfl)) (by omega) (hN _ _ H.k rfl (hXb.q rfl H.x))
     ·intro Lk ak ww H _ _ hN
      simp [go_sem,(gS ak 59 (H.d 1 rfl rfl)),(gS ak 61 (H.d 3 rfl rfl)),(gS ak 73 (H.d 15 rfl rfl))]
      refine (show Calls Tryz.prog 134 #[.int .i64 (p.getD k half0).a,.int .i64 (p.getD k half0).b,.int .i64 ((p.getD k half0).c+max (-lo*((p.getD k half0).a*bx+(p.getD k half0).b*by_)) (-hi*((p.getD k half0).a*bx+(p.getD k half0).b*by_)))] ww (fun e w'=>e=.returned (optHalfV (growH bx by_ lo hi (p.getD k half0)))∧Below ww.heap.size ww w') from iHalfOf_c _ _ _ ww ⟨by omega,by omega⟩ ⟨by omega,by omega⟩ ⟨by omega,by omega⟩).mono ?_
      rintro x wx ⟨rfl,hb⟩
      exact (hN _ _ (H.k.call hb) (optHalf_eq _) (hXb.b rfl hb H.x))
     ·exact fun Lk ak ww H _ _ hN=>wp_move rfl (ev (H.d 16 rfl rfl)) (hN _ _ H.k rfl (hXb.q rfl H.x))
     ·exact fun Lk ak ww H _ _ hN=>wp_extract rfl (ev (H.d 17 rfl rfl)) rfl (hN _ _ H.k rfl (hXb.q rfl H.x))
     ·exact fun Lk ak ww H _ _ hN=>wp_extract rfl (ev (H.d 17 rfl rfl)) rfl (hN _ _ H.k rfl (hXb.q rfl H.x))
     ·intro Lk ak ww H _ _ hN
      have x0:=H.x
      simp [go_sem]
      exact hN _ _ (H.k.alloc _) trivial (fun _=>by rw [show upd Lk 20 21=false from H.t 21 rfl];exact BoxX.new (s:=17) (H.f.lt (by rw [hz];decide)) H.k.size [.int .i64 0,.int .i64 0,.int .i64 0])
     ·intro Lk ak ww H _ _ hN
      have x0:=H.x
      obtain ⟨g,eg,hg,y,_⟩:=x0 (H.r 20 rfl)
      have HT:=y H.n
      simp [go_sem,(gS ak 75 (H.d 18 rfl rfl)),eg,HT.cell,HT.frz]
      exact hN undef _ (H.k.store (.inl hg) [.int .i64 (((growH bx by_ lo hi (p.getD k half0)).getD half0).a),.int .i64 (((growH bx by_ lo hi (p.getD k half0)).getD half0).b),.int .i64 (((growH bx by_ lo hi (p.getD k half0)).getD half0).c)] 0) trivial (fun _=>BoxX.set eg hg HT (us:=[.int .i64 (((growH bx by_ lo hi (p.getD k half0)).getD half0).a),.int .i64 (((growH bx by_ lo hi (p.getD k half0)).getD half0).b),.int .i64 (((growH bx by_ lo hi (p.getD k half0)).getD half0).c)]) rfl rfl)
     ·exact fun Lk ak ww H _ _ hN=>wp_assign rfl (ev (H.d 19 rfl rfl)) (hN _ _ H.k rfl (hXb.q rfl H.x))
     intro L a34 w35 hL hF hK hV hX;have x0:=hX;replace hz:=hF.Z hz;replace hdf:=hF.E hdf;replace s1:=hF.G s1;replace s2:=hF.G s2;replace s3:=hF.G s3;replace s4:=hF.G s4;replace s10:=hF.G s10;replace s12:=hF.G s12;replace s42:=hF.G s42;replace s43:=hF.G s43;replace s44:=hF.G s44;have s18:=gS a34 18 (hV 22 _ rfl);replace b4:=b4.k0 hK
     obtain ⟨g36,s17,lg36,-,b36⟩:=x0 (hL 20 (by decide))
     obtain ⟨_,b36,rfl⟩:=b36 (hL 21 (by decide))
     have ug36:=b36.lt
     replace N4:=N4.below hK.toBelow leR;have zw33:=hZ;have zw35:=hK.size;replace hZ:=Nat.le_refl w35.heap.size;replace hB:=hK.below0 hB;clear hF hK hV hL x0 hXb s15 s16 b31;refine th_n ?_;refine wp_seq ?_;refine wp_seq ?_
     refine wp_regJ (by kernel_rfl) [77,78] [some (.bool ((growH bx by_ lo hi (p.getD k half0)).isSome)),some (.bool (!((growH bx by_ lo hi (p.getD k half0)).isSome)))] (dlR 2) [77,78] [0,1] [] (fun _ _ _=>True) (by kernel_rfl) (by rw [hz];decide) ?_ (en rfl ?_ (en rfl ?_ .nil)) ?_
     ·exact fun _ _=>trivial
     ·exact fun Lk ak ww H _ _ hN=>wp_move rfl (ev (H.f.g rfl s18)) (hN _ _ H.k rfl trivial)
     ·exact fun Lk ak ww H _ _ hN=>wp_not rfl (ev (H.d 0 rfl rfl)) (hN _ _ H.k rfl trivial)
     intro L a37 w38 hL hF hK hV hX;replace hz:=hF.Z hz;replace hdf:=hF.E hdf;replace s1:=hF.G s1;replace s2:=hF.G s2;replace s3:=hF.G s3;replace s4:=hF.G s4;replace s10:=hF.G s10;replace s12:=hF.G s12;replace s42:=hF.G s42;replace s43:=hF.G s43;replace s44:=hF.G s44;replace s17:=hF.G s17;have s78:=gS a37 78 (hV 1 _ rfl);replace b4:=b4.k0 hK;replace b36:=b36.k0 hK;replace N4:=N4.below hK.toBelow leR;replace hZ:=Nat.le_trans hZ hK.size;replace hB:=hK.below0 hB;clear hF hK hV hL hX s18;refine th_n ?_
     rcases Bool.eq_false_or_eq_true (!((growH bx by_ lo hi (p.getD k half0)).isSome)) with q39|q39
     ·skip
      refine wp_cond_true (ev (vb s78 q39)) ?_
      refine wp_seq ?_
      have hXb:StaysX [] (fun L aa ww=>PreX ww (w.heap.size+1) 37 [.slice none 0 0] (L 1) (fun _ vs=>vs=[.slice none 0 0])):=by
       intro L aa ww w' kk vv hkk hb hX
       have x0:=hX
       exact (x0.bel hb (fun _ h=>h))
      refine wp_regK hXb (by kernel_rfl) [79,0,11] [some (.agg #[.slice none 0 0]),none,some (.bool false)] (dlR 3) [79,11] [0,1,2] [(w.heap.size+1)] (by kernel_rfl) (by rw [hz];decide) ?_ (en rfl ?_ (en rfl ?_ (en rfl ?_ .nil))) ?_
      ·exact fun _ h=>(⟨fun _=>b4.kp h (by simp),(fun h=>by cases h)⟩)
      ·intro Lk ak ww H _ _ hN
       simp [go_sem]
       exact (hN _ _ H.k rfl H.x)
      ·intro Lk ak ww H _ _ hN
       have x0:=H.x
       have HT:=x0.1 H.n
       simp [go_sem,(gS ak 79 (H.d 0 rfl rfl)),H.f.g rfl s10,HT.cell,HT.frz]
       exact hN undef _ (H.k.store (.inr (by simp)) [.slice none 0 0] 0) trivial (PreX.set HT (us:=[.slice none 0 0]) rfl rfl)
      ·exact fun Lk ak ww H _ _ hN=>wp_assign rfl rfl (hN _ _ H.k rfl H.x)
      intro L a40 w41 hL hF hK hV hX;have x0:=hX;replace hz:=hF.Z hz;replace hdf:=hF.E hdf;replace s10:=hF.G s10;have s11:=gS a40 11 (hV 2 _ rfl);clear b4
      obtain ⟨_,b4,rfl⟩:=x0.2 (hL 1 (by decide))
      replace hZ:=Nat.le_trans hZ hK.size
      replace hB:=hK.below hB hB.size (by simp<;>omega)
      clear hF hK hV hL x0 hXb s1 s2 s3 s4 s12 s42 s43 s44 s17 s78 b36 N4 i4;refine th_n ?_
      refine wp_ret ?_
      refine th_r (ib_r (th_r (th_r (ib_r (th_r ?_)))))
      refine bodyPost_ret (v:=.tuple #[.agg #[.slice none 0 0],.bool false]) (by simp [results,Tryz.results205,go_sem,s10,b4.cell,s11]) hdf ?_
      have h0:=grow_stop (lo:=lo) (hi:=hi) hT (movAll_stop hkl (not_t q39))
      exact ⟨_,by rw [h0.1],by rw [h0.2];exact New.nilN _ _ _ _ _,hB⟩
     ·skip
      refine wp_cond_false (ev (vb s78 q39)) ?_
      refine wp_skip ?_;refine th_n ?_
      have hXb:StaysX [12,82,83] (fun L aa ww=>(L 2=true→(fun ww v=>∃ g5,v=.slice (some ⟨g5,0,none⟩) 1 1∧HasT ww g5 111 [.int .i64 (((growH bx by_ lo hi (p.getD k half0)).getD half0).a),.int .i64 (((growH bx by_ lo hi (p.getD k half0)).getD half0).b),.int .i64 (((growH bx by_ lo hi (p.getD k half0)).getD half0).c)]∧w38.heap.size≤g5) ww (aa.tmps[82]?.getD undef))∧(L 3=true→(fun ww v=>∃ A6 c6,v=.slice A6 (((sdL p (dirA bx by_) (dirB bx by_)++movL (growH bx by_ lo hi) (p.take k))++[((growH bx by_ lo hi (p.getD k half0)).getD half0)]).length) c6∧New 111 3 halfC ww w11.heap.size (.slice A6 ((sdL p (dirA bx by_) (dirB bx by_)++movL (growH bx by_ lo hi) (p.take k))++[((growH bx by_ lo hi (p.getD k half0)).getD half0)]).length c6) ((sdL p (dirA bx by_) (dirB bx by_)++movL (growH bx by_ lo hi) (p.take k))++[((growH bx by_ lo hi (p.getD k half0)).getD half0)])) ww (aa.tmps[83]?.getD undef))∧(L 4=true→(fun ww v=>∃ A6 c6,v=.slice A6 (((sdL p (dirA bx by_) (dirB bx by_)++movL (growH bx by_ lo hi) (p.take k))++[((growH bx by_ lo hi (p.getD k half0)).getD half0)]).length) c6∧New 111 3 halfC ww w11.heap.size (.slice A6 ((sdL p (dirA bx by_) (dirB bx by_)++movL (growH bx by_ lo hi) (p.take k))++[((growH bx by_ lo hi (p.getD k half0)).getD half0)]).length c6) ((sdL p (dirA bx by_) (dirB bx by_)++movL (growH bx by_ lo hi) (p.take k))++[((growH bx by_ lo hi (p.getD k half0)).getD half0)])) ww (aa.tmps[12]?.getD undef))∧(L 3=false→New 111 3 halfC ww w11.heap.size (.slice A4 (sdL p (dirA bx by_) (dirB bx by_)++movL (growH bx by_ lo hi) (p.take k)).length c4) (sdL p (dirA bx by_) (dirB bx by_)++movL (growH bx by_ lo hi) (p.take k)))∧(L 4=false→aa.tmps[12]?.getD undef=.slice A4 ((sdL p (dirA bx by_) (dirB bx by_)++movL (growH bx by_ lo hi) (p.take k)).length) c4)):=by
       intro L aa ww w' kk vv hkk hb hX
       obtain ⟨x0,x1,x2,x3,x4⟩:=hX
       exact ⟨(fun h=>by rw [put_ne' (hkk 82 (by simp))];obtain ⟨g5',e,f5'⟩:=x0 h;exact ⟨g5',e,⟨f5'.1.bel hb,f5'.2⟩⟩),(fun h=>by rw [put_ne' (hkk 83 (by simp))];obtain ⟨A6',c6',e,f6'⟩:=x1 h;exact ⟨A6',c6',e,f6'.below hb leR⟩),(fun h=>by rw [put_ne' (hkk 12 (by simp))];obtain ⟨A6',c6',e,f6'⟩:=x2 h;exact ⟨A6',c6',e,f6'.below hb leR⟩),(fun h=>(x3 h).below hb leR),(fun h=>(put_ne' (hkk 12 (by simp)) vv).trans (x4 h))⟩
      refine wp_regK hXb (by kernel_rfl) [80,81,82,83,12] [some (.slice A4 ((sdL p (dirA bx by_) (dirB bx by_)++movL (growH bx by_ lo hi) (p.take k)).length) c4),some (halfV ((growH bx by_ lo hi (p.getD k half0)).getD half0)),none,none,none] (dlR 5) [80,81,82,83,12] [0,1,2,3,4] (blkL A4) (by kernel_rfl) (by rw [hz];decide) ?_ (en rfl ?_ (en rfl ?_ (en rfl ?_ (en rfl ?_ (en rfl ?_ .nil))))) ?_
      ·exact fun _ h=>⟨(fun h=>by cases h),(fun h=>by cases h),(fun h=>by cases h),(fun _=>N4.below h.toBelow leR),(fun _=>s12)⟩
      ·intro Lk ak ww H _ _ hN
       obtain ⟨x0,x1,x2,x3,x4⟩:=H.x
       exact wp_move rfl (ev (x4 (H.t 4 rfl))) (hN _ _ H.k rfl (hXb.q rfl H.x))
      ·intro Lk ak ww H _ _ hN
       simp [go_sem,H.f.g rfl s17,(b36.kp H.k (blkL_nin (fun p hp=>by have q1:=N4.blk p hp;have q2:=i4 p hp;omega))).cell]
       exact (hN _ _ H.k rfl (hXb.q rfl H.x))
      ·intro Lk ak ww H _ _ hN
       obtain ⟨x0,x1,x2,x3,x4⟩:=H.x
       simp [go_sem,(gS ak 81 (H.d 1 rfl rfl))]
       have f5:HasT (ww.alloc (.cells #[.int .i64 (((growH bx by_ lo hi (p.getD k half0)).getD half0).a),.int .i64 (((growH bx by_ lo hi (p.getD k half0)).getD half0).b),.int .i64 (((growH bx by_ lo hi (p.getD k half0)).getD half0).c)] 111)) ww.heap.size 111 [.int .i64 (((growH bx by_ lo hi (p.getD k half0)).getD half0).a),.int .i64 (((growH bx by_ lo hi (p.getD k half0)).getD half0).b),.int .i64 (((growH bx by_ lo hi (p.getD k half0)).getD half0).c)]∧w38.heap.size≤ww.heap.size:=⟨HasT.new _ _ _,H.k.size⟩
       exact hN _ _ (H.k.alloc _) trivial ⟨(fun _=>by rw [put_get_self (H.f.lt (by rw [hz];decide))];exact ⟨_,rfl,f5⟩),(fun h=>by rw [put_ne' (by decide)];obtain ⟨A6',c6',e,f6'⟩:=x1 h;exact ⟨A6',c6',e,f6'.below (below_al bR _) leR⟩),(fun h=>by rw [put_ne' (by decide)];obtain ⟨A6',c6',e,f6'⟩:=x2 h;exact ⟨A6',c6',e,f6'.below (below_al bR _) leR⟩),(fun h=>(x3 h).below (below_al bR _) leR),(fun h=>(put_ne' (by decide) _).trans (x4 h))⟩
      ·intro Lk ak ww H _ _ hN
       obtain ⟨x0,x1,x2,x3,x4⟩:=H.x
       obtain ⟨g5,ee2,f5⟩:=x0 (H.r 2 rfl)
       refine wp_app1 halfC_len rfl w11.heap.size i0h _ 24 Tryz.underlying35 hi0h hz0h hz1h hz2h rfl (by decide) (ev (H.d 0 rfl rfl)) (x3 H.n) (ev ee2) (y:=((growH bx by_ lo hi (p.getD k half0)).getD half0)) f5.1 halfC_one (by have:=H.k.size;omega) (by rw [List.length_append,movL_len,List.length_take];simp only [sdL,List.length_cons,List.length_nil];omega) (by decide) ?_
       intro A6 c6 wx f6 hG
       exact hN _ _ (H.k.trans2 hG (fun m h=>.inl h)) trivial ⟨(fun h=>by rw [put_ne' (by decide)];obtain ⟨g',e,f'⟩:=x0 h;exact ⟨g',e,f'.1.kp hG (blkL_nin (fun p hp=>by have q1:=N4.blk p hp;have q2:=f'.2;omega)),f'.2⟩),(fun _=>by rw [put_get_self (H.f.lt (by rw [hz];decide))];exact ⟨A6,c6,rfl,f6⟩),(fun h=>absurd (H.t 4 rfl) (by rw [show Lk 4=true by simpa [upd] using h];decide)),(fun h=>by simp [upd] at h),(fun h=>(put_ne' (by decide) _).trans (x4 h))⟩
      ·intro Lk ak ww H _ _ hN
       obtain ⟨x0,x1,x2,x3,x4⟩:=H.x
       obtain ⟨A6,c6,ee3,f6⟩:=x1 (H.r 3 rfl)
       exact wp_assign rfl (ev ee3) (hN _ _ H.k trivial ⟨(fun h=>by rw [put_ne' (by decide)];obtain ⟨g5',e,f5'⟩:=x0 h;exact ⟨g5',e,⟨f5'.1.bel bR,f5'.2⟩⟩),(fun h=>by rw [put_ne' (by decide)];obtain ⟨A6',c6',e,f6'⟩:=x1 h;exact ⟨A6',c6',e,f6'.below bR leR⟩),(fun _=>by rw [put_get_self (H.f.lt (by rw [hz];decide))];exact ⟨A6,c6,rfl,f6⟩),(fun h=>(x3 h).below bR leR),(fun h=>by simp [upd] at h)⟩)
      intro L a42 w43 hL hF hK hV hX
      obtain ⟨x0,x1,x2,x3,x4⟩:=hX
      replace hz:=hF.Z hz;replace hdf:=hF.E hdf
      have hB9:=hK.below hB hB.size (fun m hm=>by obtain ⟨p,hp,rfl⟩:=blkL_in hm;have q1:=N4.blk p hp;have q2:=i4 p hp;omega)
      replace s1:=hF.G s1;replace s2:=hF.G s2;replace s3:=hF.G s3;replace s4:=hF.G s4;replace s10:=hF.G s10;replace s42:=hF.G s42;replace s43:=hF.G s43;replace s44:=hF.G s44
      replace b4:=b4.kp hK (blkL_nin (fun p hp=>by have q1:=N4.blk p hp;have q2:=i4 p hp;omega))
      obtain ⟨A6,c6,s12,N6⟩:=x2 (hL 4 (by decide))
      have i6:∀ p,A6=some p→p.block<w43.heap.size:=fun p hp=>(N6.blk p hp).2;have zw38:=hZ;have zw43:=hK.size;replace hZ:=Nat.le_refl w43.heap.size;replace hB:=hB9;clear hF hK hV hL x0 x1 x2 x3 x4 hXb s17 s78 b36 N4 i4;refine ib_n (th_n ?_)
      refine wp_regJ (by kernel_rfl) [84,44] [some (.int .i64 ((k:Int)+1)),some (.int .i64 ((k:Int)+1))] (dlR 2) [84,44] [0,1] [] (fun L aa ww=>(L 1=false→aa.tmps[44]?.getD undef=.int .i64 (k:Int))) (by kernel_rfl) (by rw [hz];decide) ?_ (en rfl ?_ (en rfl ?_ .nil)) ?_
      ·exact fun _ h=>(fun _=>s44)
      ·intro Lk ak ww H _ _ hN
       have x0:=H.x
       exact wp_add rfl (ev (x0 (H.t 1 rfl))) rfl (by omega) (hN _ _ H.k rfl (fun h=>(put_ne' (by decide) _).trans (x0 h)))
      ·intro Lk ak ww H _ _ hN
       have x0:=H.x
       exact wp_move rfl (ev (H.d 0 rfl rfl)) (hN _ _ H.k rfl (fun h=>by simp [upd] at h))
      intro L a44 w45 hL hF hK hV hX;have x0:=hX;replace hz:=hF.Z hz;replace hdf:=hF.E hdf;replace s1:=hF.G s1;replace s2:=hF.G s2;replace s3:=hF.G s3;replace s4:=hF.G s4;replace s10:=hF.G s10;replace s42:=hF.G s42;replace s43:=hF.G s43;replace s12:=hF.G s12;have s44:=gS a44 44 (hV 1 _ rfl);replace b4:=b4.k0 hK;replace N6:=N6.below hK.toBelow leR;replace hZ:=Nat.le_trans hZ hK.size;replace hB:=hK.below0 hB;clear hF hK hV hL x0;refine th_n ?_
      refine ⟨?_, ?_⟩
      ·exact ⟨hz,hdf,(k+1),(A6),(c6),(by omega),(movAll_next hkl hall (not_f q39)),s1,s2,s3,s4,s10,(by rw [app_next hkl (not_f q39)];exact s12),s42,s43,s44,b4,(by rw [app_next hkl (not_f q39)];exact N6),hB,(by omega)⟩
      ·show (p.length-(intOf (a44.tmps[44]?.getD undef)).toNat)<_
       rw [s44,hmu];simp only [intOf];omega
    ·skip
     have ek:k=p.length:=by have:=dec_f q28;omega
     have hta:p.take k=p:=by rw [ek];exact List.take_length
     have hmo:∀ g∈(sdL p (dirA bx by_) (dirB bx by_)++movL (growH bx by_ lo hi) (p.take k)),halfOk g=true:=by rw [hta];rw [hta] at hall;intro g hg;rcases List.mem_append.1 hg with h|h;exact sdL_ok (not_f q19) g h;exact movL_ok (fun _ _ _ e=>growH_ok e) hall g h
     have hlm:(sdL p (dirA bx by_) (dirB bx by_)++movL (growH bx by_ lo hi) (p.take k)).length=2+p.length:=by rw [List.length_append,movL_len,hta];rfl
     rw [hta] at hall
     obtain ⟨XX,hX0⟩:∃ z,z=sdL p (dirA bx by_) (dirB bx by_)++movL (growH bx by_ lo hi) (p.take k):=⟨_,rfl⟩
     rw [← hX0] at hmo hlm N4 s12
     have hX1:XX=grwL bx by_ lo hi p:=by rw [hX0,hta];rfl
     clear hX0
     refine wp_cond_false (ev (vb s45 q28)) ?_
     refine wp_exit ?_
     refine th_e (th_e (ib_x (th_n ?_)));refine wp_seq ?_
     have hXb:StaysX [86,87] (fun L aa ww=>(L 1=true→(fun ww v=>∃ A7 c7,v=.tuple #[.agg #[.slice A7 ((meetR (meetL XX)).length) c7],.bool (meetOk (meetL XX))]∧New 111 3 halfC ww w27.heap.size (.slice A7 (meetR (meetL XX)).length c7) (meetR (meetL XX))) ww (aa.tmps[86]?.getD undef))∧(L 2=true→(fun ww v=>∃ A7 c7,v=.agg #[.slice A7 ((meetR (meetL XX)).length) c7]∧New 111 3 halfC ww w27.heap.size (.slice A7 (meetR (meetL XX)).length c7) (meetR (meetL XX))) ww (aa.tmps[87]?.getD undef))∧PreX ww (w.heap.size+1) 37 [.slice none 0 0] (L 4) (fun ww vs=>∃ A7 c7,vs=[.slice A7 ((meetR (meetL XX)).length) c7]∧New 111 3 halfC ww w27.heap.size (.slice A7 (meetR (meetL XX)).length c7) (meetR (meetL XX)))):=by
      intro L aa ww w' kk vv hkk hb hX
      obtain ⟨x0,x1,x2⟩:=hX
      exact ⟨(fun h=>by rw [put_ne' (hkk 86 (by simp))];obtain ⟨A7',c7',e,f7'⟩:=x0 h;exact ⟨A7',c7',e,f7'.below hb leR⟩),(fun h=>by rw [put_ne' (hkk 87 (by simp))];obtain ⟨A7',c7',e,f7'⟩:=x1 h;exact ⟨A7',c7',e,f7'.below hb leR⟩),(x2.bel hb (fun _ ⟨A7',c7',e,f7'⟩=>⟨A7',c7',e,f7'.below hb leR⟩))⟩
     refine wp_regK hXb (by kernel_rfl) [85,86,87,88,0,11] [some (.slice A4 XX.length c4),none,none,some (.bool (meetOk (meetL XX))),none,some (.bool (meetOk (meetL XX)))] (dlR 6) [85,86,87,88,11] [0,1,2,3,4,5] [(w.heap.size+1)] (by kernel_rfl) (by rw [hz];decide) ?_ (en rfl ?_ (en rfl ?_ (en rfl ?_ (en rfl ?_ (en rfl ?_ (en rfl ?_ .nil)))))) ?_
     ·exact fun _ h=>⟨(fun h=>by cases h),(fun h=>by cases h),(⟨fun _=>b4.kp h (by simp),(fun h=>by cases h)⟩)⟩
     ·exact fun Lk ak ww H _ _ hN=>wp_move rfl (ev (H.f.g rfl s12)) (hN _ _ H.k rfl (hXb.q rfl H.x))
     ·intro Lk ak ww H _ _ hN
      obtain ⟨x0,x1,x2⟩:=H.x
      simp [go_sem,(gS ak 85 (H.d 0 rfl rfl))]
      refine (iMeet_c A4 XX c4 ww (by rw [hlm];omega) hmo ((N4.kp H.k i4 (by omega) (by simp<;>omega)).out halfC_len) N4.nilcap).mono ?_
      rintro x wx ⟨_,rfl,⟨A7,c7,rfl,f0⟩,hb⟩
      have f7:=New.mono (show New 111 3 halfC wx ww.heap.size (.slice A7 (meetR (meetL XX)).length c7) (meetR (meetL XX)) from ⟨_,_,rfl,f0⟩) H.k.size
      exact (hN _ _ (H.k.call hb) trivial ⟨(fun _=>by rw [put_get_self (H.f.lt (by rw [hz];decide))];exact ⟨A7,c7,rfl,f7⟩),(fun h=>by rw [put_ne' (by decide)];obtain ⟨A7',c7',e,f7'⟩:=x1 h;exact ⟨A7',c7',e,f7'.below hb leR⟩),(x2.bel hb (fun _ ⟨A7',c7',e,f7'⟩=>⟨A7',c7',e,f7'.below hb leR⟩))⟩)
     ·intro Lk ak ww H _ _ hN
      obtain ⟨x0,x1,x2⟩:=H.x
      obtain ⟨A7,c7,ee1,f7⟩:=x0 (H.r 1 rfl)
      exact wp_extract rfl (ev ee1) rfl (hN _ _ H.k trivial ⟨(fun h=>by rw [put_ne' (by decide)];obtain ⟨A7',c7',e,f7'⟩:=x0 h;exact ⟨A7',c7',e,f7'.below bR leR⟩),(fun _=>by rw [put_get_self (H.f.lt (by rw [hz];decide))];exact ⟨A7,c7,rfl,f7⟩),(x2.bel bR (fun _ ⟨A7',c7',e,f7'⟩=>⟨A7',c7',e,f7'.below bR leR⟩))⟩)
     ·intro Lk ak ww H _ _ hN
      obtain ⟨x0,x1,x2⟩:=H.x
      obtain ⟨A7,c7,ee1,f7⟩:=x0 (H.r 1 rfl)
      exact wp_extract rfl (ev ee1) rfl (hN _ _ H.k rfl (hXb.q rfl H.x))
     ·intro Lk ak ww H _ _ hN
      obtain ⟨x0,x1,x2⟩:=H.x
      obtain ⟨A7,c7,ee2,f7⟩:=x1 (H.r 2 rfl)
      have HT:=x2.1 H.n
      simp [go_sem,ee2,H.f.g rfl s10,HT.cell,HT.frz]
      have f7:=f7.otherC (f7.typ HT (by decide)) [.slice A7 ((meetR (meetL XX)).length) c7] 0
      exact hN undef _ (H.k.store (.inr (by simp)) [.slice A7 ((meetR (meetL XX)).length) c7] 0) trivial ⟨(fun h=>by obtain ⟨A7',c7',e,f7'⟩:=x0 h;exact ⟨A7',c7',e,f7'.otherC (f7'.typ HT (by decide)) [.slice A7 ((meetR (meetL XX)).length) c7] 0⟩),(fun h=>by obtain ⟨A7',c7',e,f7'⟩:=x1 h;exact ⟨A7',c7',e,f7'.otherC (f7'.typ HT (by decide)) [.slice A7 ((meetR (meetL XX)).length) c7] 0⟩),(PreX.set HT (us:=[.slice A7 ((meetR (meetL XX)).length) c7]) rfl ⟨A7,c7,rfl,f7⟩)⟩
     ·exact fun Lk ak ww H _ _ hN=>wp_assign rfl (ev (H.d 3 rfl rfl)) (hN _ _ H.k rfl (hXb.q rfl H.x))
     intro L a46 w47 hL hF hK hV hX
     obtain ⟨x0,x1,x2⟩:=hX
     replace hz:=hF.Z hz;replace hdf:=hF.E hdf;replace s10:=hF.G s10;have s11:=gS a46 11 (hV 5 _ rfl);clear b4
     obtain ⟨_,b4,A7,c7,rfl,N7⟩:=x2.2 (hL 4 (by decide))
     have i7:∀ p,A7=some p→p.block<w47.heap.size:=fun p hp=>(N7.blk p hp).2;have zw27:=hZ;have zw47:=hK.size;replace hZ:=Nat.le_refl w47.heap.size
     replace hB:=hK.below hB hB.size (by simp<;>omega)
     clear hF hK hV hL x0 x1 x2 hXb s1 s2 s3 s4 s12 s42 s43 s44 s45 N4 i4;refine th_n ?_
     refine wp_ret ?_
     refine bodyPost_ret (v:=.tuple #[.agg #[.slice A7 ((meetR (meetL XX)).length) c7],.bool (meetOk (meetL XX))]) (by simp [results,Tryz.results205,go_sem,s10,b4.cell,s11]) hdf ?_
     rw [hX1] at N7
     have h0:=grow_all hT (not_f q19) hall
     exact ⟨_,by rw [h0.1,hX1],by rw [h0.2];exact N7.mono (by omega),hB⟩
end Go.Proofs.YtdncnhcffbgjhaaGreat
