/-
 Slices of regions: compared, marked and held.
 Conditions: the slices hold at most 2^20 elements; marked are at most 40 regions of at most 40 half planes.
-/
import Derived.Deep.RegionHeld3
import Derived.Deep.DeepMust
import Derived.Deep.DeepCutAuto
import Derived.Test.YtbekjpkcicjcgabGreatLowS
set_option maxHeartbeats 3000000
set_option maxRecDepth 100000
namespace Go.Proofs.YtbekjpkcicjcgabGreat
open Go.RowKit
theorem rsum_le {rs:List (List Half)} (hl:∀ i,(rs.getD i []).length<=40):∀ k,KI rs k<=k*120
 | 0=>Nat.le_refl _
 | k+1=>by
  have:=rsum_le hl k;have:=hl k;rw [KI];omega
theorem ZM.mid {w:World} {base:Nat} {es:List Ju} {rs:List (List Half)} (h:ZM w base es rs) (K:Int):RgsMid w base es rs K 0:=⟨λ i _ hi=>h.new i hi,λ _ hi=>absurd hi (Nat.not_lt_zero _),h.apart⟩
theorem rgLs_in {es:List Ju} {i:Nat} (h:i<es.length):(⟨(es.getD i Y5).A,(es.getD i Y5).c⟩:ZC)∈rgLs es:=by
 rw [elAt Y5 h];exact List.mem_map.2 ⟨_,List.getElem_mem h,rfl⟩
theorem ZM.apartA {w:World} {base b2 n c:Nat} {A:Option Addr} {es:List Ju} {rs:List (List Half)} (h:ZM w b2 es rs) (N:XI 26 1 J5 w base (.slice A n c) es):∀ a∈rgLs es,Jf ⟨A,c⟩ a:=by
 intro a ha p q hp hq e;obtain ⟨i,hi,rfl⟩:=rgLs_mem ha;have hn:=newAp2 (h.new i (by rw [<- h.len];exact hi)).2 N (by decide) q hq;refine hn ?_;simp only at hp;rw [hp];simp only [blkL,List.mem_singleton];exact e.symm
theorem eqRegionN_t (x:List Half) (e f:Ju) (w:World) (hn:x.length<=1048576) (he:e.n=x.length) (hf:f.n=x.length) (ha:Sl 3 Xe w e.A x) (hb:Sl 3 Xe w f.A x) :
 Calls Tryz.prog 22 #[.agg #[.slice e.A e.n e.c],.agg #[.slice f.A f.n f.c]] w λ e w'=>e=.returned (.bool true)/\Below w.heap.size w w':=by
 rw [he,hf];exact eqRegion_t x ⟨e.A,e.c⟩ ⟨f.A,f.c⟩ w hn ⟨ha⟩ ⟨hb⟩
theorem markRegionS_g (A:Option Addr) (es:List Ju) (rs:List (List Half)) (c:Nat) (K:Int) (base:Nat) (w:World) (hn:rs.length<=40) (hl:∀ i,(rs.getD i []).length<=40) (F:0<=K) (hK2:K<=1000000000) (N:XI 26 1 J5 w base (.slice A rs.length c) es) (h:ZM w base es rs) :
 Calls Tryz.prog 27 #[.slice A rs.length c,.int .i64 K] w λ e w'=>e=.returned (.int .i64 (K+(KI rs rs.length:Nat)))/\RgsMk w' A es rs K/\X9 w w' (rgLs es):=by
 have hlen:=Lib.hid h.len;have hout:=N.out rgEC_len;have hap:=h.apartA N;have hm0:=h.mid K;have HL:=Lib.hid hl;clear N h hl;go_enter Tryz.func27,Tryz.ntmps27
 go_wp2
 go_loopw [1,5] (λ m i wr=>∃ k:Nat,k<=rs.length/\m=.int .i64 (K+(KI rs k:Nat))/\i=.int .i64 k/\RgsMid wr base es rs K k/\X9 w wr (rgLs es)) (λ _ i _=>rs.length-(intOf i).toNat)
 case atStart=>exact ⟨0,Nat.zero_le _,by simp [KI],rfl,hm0,X9.refl _ _⟩
 case round =>
  obtain ⟨k,hk,rfl,rfl,hM,hO⟩:=hrel;have hS:=Sl.far hout hO hap;by_cases hlt:k<rs.length
  ·obtain ⟨b,off,rfl,hblt,hc⟩:=hS.at_ (k:=k) (by rw [hlen.out];exact hlt);obtain ⟨hn0,hN0⟩:=hM.old k Xs hlt;have g0:=hc 0 _ rfl;rw [<- elAt Y5,hn0] at g0;have O:=HL.out k;have hrs:=rsum_le HL.out k;have hstep:=Lib.hid (λ w1 N1 o1=>hM.step (w':=w1) hlt N1 o1);have hin:=Lib.hid (rgLs_in (es:=es) (i:=k) (by rw [hlen.out];exact hlt));have hsum:=Lib.hid (show KI rs (k+1)=KI rs k+(rs.getD k []).length*3 from rfl);clear hc hM hn0 hS hap hm0 hout;generalize es.getD k Y5=ek at *;generalize rs.getD k []=xk at *;obtain ⟨eA,en,ec⟩:=ek;simp only [Nat.mul_one,Nat.add_zero] at g0 hN0;have c1:=λ W H=>markHalfS_g eA xk.length ec xk (K+(KI rs k:Nat)) base W rfl (by omega) (by omega) (by omega) H;go_wp2_with (fail)
   refine (c1 _ hN0).mono ?_;rintro e w1 ⟨rfl,M1,o1⟩;have hR:=hstep.out _ M1 o1;have hO2:=hO.trans (o1.mono (all1 hin.out));clear hstep hin c1 M1 o1 hO hN0;go_wp2
   go_roundw
   case rel =>
    refine ⟨k+1,by omega, ?_,by go_num,hR,hO2⟩;have:=hsum.out;congr 1;omega
   case measure=>simp [intOf];omega
  ·obtain rfl:k=rs.length:=by omega
   go_wp2
   go_ret
   exact ⟨rfl,⟨hS,hlen.out,λ i hi=>hM.mkd i hi⟩,hO⟩
theorem heldRegionS_c (A:Option Addr) (es:List Ju) (rs:List (List Half)) (c:Nat) (K:Int) (w:World) (hn:rs.length<=40) (hl:∀ i,(rs.getD i []).length<=40) (F:0<=K) (hK2:K<=1000000000) (h:RgsMk w A es rs K) :
 Calls Tryz.prog 28 #[.slice A rs.length c,.int .i64 K] w λ e w'=>e=.returned (.int .i64 (K+(KI rs rs.length:Nat)))/\w=w':=by
 obtain ⟨hout,hlen0,hmk⟩:=h;have hlen:=Lib.hid hlen0;have HL:=Lib.hid hl;have HM:=Lib.hid hmk;clear hlen0 hl hmk;go_enter Tryz.func28,Tryz.ntmps28
 go_wp2
 go_loop [1,5] (λ m i=>∃ k:Nat,k<=rs.length/\m=.int .i64 (K+(KI rs k:Nat))/\i=.int .i64 k) (λ _ i=>rs.length-(intOf i).toNat)
 case atStart=>exact ⟨0,Nat.zero_le _,by simp [KI],rfl⟩
 case round =>
  obtain ⟨k,hk,rfl,rfl⟩:=hrel;by_cases hlt:k<rs.length
  ·obtain ⟨b,off,rfl,hblt,hc⟩:=hout.at_ (k:=k) (by rw [hlen.out];exact hlt);obtain ⟨hn0,hN0⟩:=HM.out k hlt;have g0:=hc 0 _ rfl;rw [<- elAt Y5,hn0] at g0;have O:=HL.out k;have hrs:=rsum_le HL.out k;have hsum:=Lib.hid (show KI rs (k+1)=KI rs k+(rs.getD k []).length*3 from rfl);clear hc hn0 hout HM;generalize es.getD k Y5=ek at *;generalize rs.getD k []=xk at *;obtain ⟨eA,en,ec⟩:=ek;simp only [Nat.mul_one,Nat.add_zero] at g0 hN0;have c1:=λ W H=>heldHalfS_c eA xk.length ec (K+(KI rs k:Nat)) W (by omega) (by omega) (by omega) H;have hng:¬ (K+(KI rs k:Nat)+(xk.length:Int)*3<0):=by omega
   go_wp2_with (fail)
   refine (c1 _ hN0).mono ?_;rintro e w1 ⟨rfl,rfl⟩;clear c1 hN0;go_wp2
   refine ⟨⟨k+1,by omega, ?_,by go_num⟩,by simp [intOf];omega⟩;have:=hsum.out;congr 1;omega
  ·obtain rfl:k=rs.length:=by omega
   go_wp2
   go_ret
   exact ⟨rfl,rfl⟩
theorem eqRegionS_t (A B:Option Addr) (es fs:List Ju) (rs:List (List Half)) (c d:Nat) (w:World) (_:rs.length<=1048576) (hl:∀ i,i<rs.length->(rs.getD i []).length<=1048576) (ha:RgsSl w A es rs) (hb9:RgsSl w B fs rs) :
 Calls Tryz.prog 20 #[.slice A rs.length c,.slice B rs.length d] w λ x w'=>x=.returned (.bool true)/\Below w.heap.size w w':=by
 have hla:=ha.len;have hlb:=hb9.len;refine ZY Tryz.func20 rfl (n:=27) Tryz.ntmps20 (by simp) ?_;intro a0 O D ha;have s0:a0.tmps[0]?.getD undef=.slice A rs.length c:=ha 0 _ rfl;have s1:a0.tmps[1]?.getD undef=.slice B rs.length d:=ha 1 _ rfl;clear ha;have M:=Below.refl w.heap.size w;have Q:=Nat.le_refl w.heap.size;refine wp_seq ?_;refine Xf [4] [some (.bool false)] (X5 1) [4] [] (λ _ _ _=>True) ?_ (en rfl ?_ .nil) ?_
 ·exact λ _ _=>trivial
 ·exact Kw rfl rfl
 intro L a1 w2 T C F P U;replace O:=C.Z O;replace D:=C.E D;replace s0:=C.G s0;replace s1:=C.G s1;replace Q:=Nat.le_trans Q F.size;replace M:=F.below0 M;clear C F P T U;refine Xl (wp_seq (wp_seq ?_));refine Xf [6,7,8,9,10] [some (.slice A rs.length c),some (.int .i64 (rs.length:Int)),some (.slice B rs.length d),some (.int .i64 (rs.length:Int)),some (.bool false)] (X5 5) [6,7,8,9,10] [] (λ _ _ _=>True) ?_ (e4 ?_ ?_ ?_ ?_ (en rfl ?_ .nil)) ?_
 ·exact λ _ _=>trivial
 ·exact Za s0 rfl rfl rfl
 ·intro S I R H _ _ J;simp [go_sem,(gS I 6 (H.d 0 rfl rfl))];exact (J _ _ H.k rfl trivial)
 ·exact Za s1 rfl rfl rfl
 ·intro S I R H _ _ J;simp [go_sem,(gS I 8 (H.d 2 rfl rfl))];exact (J _ _ H.k rfl trivial)
 ·intro S I R H _ _ J;simp [go_sem,(gS I 7 (H.d 1 rfl rfl)),(gS I 9 (H.d 3 rfl rfl))];exact (J _ _ H.k rfl trivial)
 intro L a3 w4 T C F P U;replace O:=C.Z O;replace D:=C.E D;replace s0:=C.G s0;replace s1:=C.G s1;have s10:=gS a3 10 (P 4 _ rfl);replace Q:=Nat.le_trans Q F.size;replace M:=F.below0 M;clear C F P T U;refine Xl ?_;refine wp_cond_false (ev s10) ?_;refine wp_skip (Xl (wp_seq (wp_seq ?_)));refine Xf [5] [some (.int .i64 0)] (X5 1) [5] [] (λ _ _ _=>True) ?_ (en rfl ?_ .nil) ?_
 ·exact λ _ _=>trivial
 ·exact Kw rfl rfl
 intro L a5 w6 T C F P U;replace O:=C.Z O;replace D:=C.E D;replace s0:=C.G s0;replace s1:=C.G s1;have s5:=gS a5 5 (P 0 _ rfl);replace Q:=Nat.le_trans Q F.size;replace M:=F.below0 M;clear C F P T U s10;refine Xl (wp_block ?_);refine wp_loop (λ al wl=>al.tmps.size=27/\al.defers=[]/\∃ (k:Nat),(k<=rs.length)/\al.tmps[0]?.getD undef=.slice A rs.length c/\al.tmps[1]?.getD undef=.slice B rs.length d/\al.tmps[5]?.getD undef=.int .i64 (k:Int)/\Below w.heap.size w wl/\w.heap.size<=wl.heap.size) (λ al _=>(rs.length-(intOf (al.tmps[5]?.getD undef)).toNat)) ?_ ?_
 ·exact ⟨O,D,(0),(Nat.zero_le _),s0,s1,s5,M,(by omega)⟩
 clear O D M Q s0 s1 s5;rintro a7 w8 ⟨O,D,k,hk,s0,s1,s5,M,Q⟩;have zw8:=Q;replace Q:=Nat.le_refl w8.heap.size;have hmu:(rs.length-(intOf (a7.tmps[5]?.getD undef)).toNat)=(rs.length-(intOf ((.int .i64 (k:Int)))).toNat):=by rw [s5]
 refine wp_seq (wp_seq ?_);refine Xf [11,12,13,14] [some (.int .i64 (k:Int)),some (.slice A rs.length c),some (.int .i64 (rs.length:Int)),some (.bool (decide ((k:Int)<(rs.length:Int))))] (X5 4) [11,12,13,14] [] (λ _ _ _=>True) ?_ (e4 ?_ ?_ ?_ ?_ .nil) ?_
 ·exact λ _ _=>trivial
 ·exact Za s5 rfl rfl rfl
 ·exact Za s0 rfl rfl rfl
 ·intro S I R H _ _ J;simp [go_sem,(gS I 12 (H.d 1 rfl rfl))];exact (J _ _ H.k rfl trivial)
 ·exact λ S I R H _ _ J=>X3 rfl (ev (H.d 0 rfl rfl)) (ev (H.d 2 rfl rfl)) rfl rfl (J _ _ H.k rfl trivial)
 intro L a9 w10 T C F P U;replace O:=C.Z O;replace D:=C.E D;replace s0:=C.G s0;replace s1:=C.G s1;replace s5:=C.G s5;have s14:=gS a9 14 (P 3 _ rfl);replace Q:=Nat.le_trans Q F.size;replace M:=F.below0 M;clear C F P T U;refine Xl ?_;rcases Bool.eq_false_or_eq_true (decide ((k:Int)<(rs.length:Int))) with q11|q11
 ·have hkl:k<rs.length:=by have:=Kk q11;omega
  obtain ⟨ba,oa,ea,fa⟩:=ElS.open_ (ha.out.below M) (by omega);obtain ⟨bc,oc,ec,fc⟩:=ElS.open_ (hb9.out.below M) (by omega);refine wp_cond_true (ev (vb s14 q11)) ?_;refine wp_skip (Xl (wp_seq (wp_block (wp_seq ?_))));refine Xf [17,18,19,20,21,22,23,24,25,26] [some (.slice A rs.length c),some (.int .i64 (k:Int)),some (.pointer (some ⟨ba,oa+k,none⟩)),some (.agg #[.slice ((es.getD k Y5).A) ((es.getD k Y5).n) ((es.getD k Y5).c)]),some (.slice B rs.length d),some (.int .i64 (k:Int)),some (.pointer (some ⟨bc,oc+k,none⟩)),some (.agg #[.slice ((fs.getD k Y5).A) ((fs.getD k Y5).n) ((fs.getD k Y5).c)]),some (.bool true),some (.bool false)] ([[],[],[0,1],[0,1,2],[],[],[4,5],[4,5,6],[0,1,2,3,4,5,6,7],[0,1,2,3,4,5,6,7,8]]) [17,18,19,20,21,22,23,24,25,26] [] (λ _ _ _=>True) ?_ (e4 ?_ ?_ ?_ ?_ (e4 ?_ ?_ ?_ ?_ (e2 ?_ ?_ .nil))) ?_
  ·exact λ _ _=>trivial
  ·exact Za s0 rfl rfl rfl
  ·exact Za s5 rfl rfl rfl
  ·intro S I R H _ _ J;simp [go_sem,(gS I 17 (H.d 0 rfl rfl)),(gS I 18 (H.d 1 rfl rfl)),hkl,ea];exact (J _ _ H.k rfl trivial)
  ·intro S I R H _ _ J;have hE:=fa.kp H.k (by simp);simp [go_sem,(gS I 19 (H.d 2 rfl rfl)),(hE.at_ Y5 (i:=k) (by omega) 0 (p:=oa+k) (by omega) rfl)];exact (J _ _ H.k rfl trivial)
  ·exact Za s1 rfl rfl rfl
  ·exact Za s5 rfl rfl rfl
  ·intro S I R H _ _ J;simp [go_sem,(gS I 21 (H.d 4 rfl rfl)),(gS I 22 (H.d 5 rfl rfl)),hkl,ec];exact (J _ _ H.k rfl trivial)
  ·intro S I R H _ _ J;have hE:=fc.kp H.k (by simp);simp [go_sem,(gS I 23 (H.d 6 rfl rfl)),(hE.at_ Y5 (i:=k) (by omega) 0 (p:=oc+k) (by omega) rfl)];exact (J _ _ H.k rfl trivial)
  ·intro S I R H _ _ J;simp [go_sem,(gS I 20 (H.d 3 rfl rfl)),(gS I 24 (H.d 7 rfl rfl))];have hBi:=H.k.below0 M;refine (eqRegionN_t (rs.getD k []) (es.getD k Y5) (fs.getD k Y5) R (hl k hkl) (ha.el k hkl).1 (hb9.el k hkl).1 ((ha.el k hkl).2.below hBi) ((hb9.el k hkl).2.below hBi)).mono ?_;rintro x wx ⟨rfl,hb⟩;exact (J _ _ (H.k.call hb) rfl trivial)
  ·exact oNDT 8 rfl rfl rfl rfl
  intro L a12 w13 T C F P U;replace O:=C.Z O;replace D:=C.E D;replace s0:=C.G s0;replace s1:=C.G s1;replace s5:=C.G s5;have s26:=gS a12 26 (P 9 _ rfl);replace Q:=Nat.le_trans Q F.size;replace M:=F.below0 M;clear C F P T U s14 fa fc;refine Xl ?_;refine wp_cond_false (ev s26) ?_;refine wp_skip ?_;refine ib_n (Xl ?_);have V:Xd [5] (λ L aa R=>(L 2=false->aa.tmps[5]?.getD undef=.int .i64 (k:Int))):=λ L aa R w' kk vv hkk hb x0=>(λ h=>(Xj (hkk 5 (by simp)) vv).trans (x0 h));refine Xz V [15,16,5] [some (.int .i64 (k:Int)),some (.int .i64 ((k:Int)+1)),some (.int .i64 ((k:Int)+1))] (X5 3) [15,16,5] [] ?_ (e2 ?_ ?_ (en rfl ?_ .nil)) ?_
  ·exact λ _ h=>(λ _=>s5)
  ·intro S I R H _ _ J;have x0:=H.x;exact Xy rfl (ev (x0 (H.t 2 rfl))) (J _ _ H.k rfl (V S I R _ (some 15) _ (by simp) bR H.x))
  ·exact λ S I R H _ _ J=>Y0 rfl (ev (H.d 0 rfl rfl)) rfl (by omega) (J _ _ H.k rfl (V S I R _ (some 16) _ (by simp) bR H.x))
  ·intro S I R H _ _ J;have x0:=H.x;exact XR rfl (ev (H.d 1 rfl rfl)) (J _ _ H.k rfl (λ h=>by simp [Yb] at h))
  intro L a14 w15 T C F P U;have x0:=U;replace O:=C.Z O;replace D:=C.E D;replace s0:=C.G s0;replace s1:=C.G s1;have s5:=gS a14 5 (P 2 _ rfl);replace Q:=Nat.le_trans Q F.size;replace M:=F.below0 M;clear C F P T x0 V s26;refine Xl ?_;refine ⟨?_, ?_⟩
  ·exact ⟨O,D,(k+1),(by omega),s0,s1,s5,M,(by omega)⟩
  ·show (rs.length-(intOf (a14.tmps[5]?.getD undef)).toNat)<_;rw [s5,hmu];simp only [intOf];omega
 ·refine wp_cond_false (ev (vb s14 q11)) ?_;refine wp_exit ?_;refine JN (JN (ib_x (Xl (wp_seq ?_))));refine Xf [4] [some (.bool true)] (X5 1) [4] [] (λ _ _ _=>True) ?_ (en rfl ?_ .nil) ?_
  ·exact λ _ _=>trivial
  ·exact Kw rfl rfl
  intro L a16 w17 T C F P U;replace O:=C.Z O;replace D:=C.E D;have s4:=gS a16 4 (P 0 _ rfl);replace Q:=Nat.le_trans Q F.size;replace M:=F.below0 M;clear C F P T U s0 s1 s5 s14;refine Xl (wp_ret ?_);refine bodyPost_ret (v:=.bool true) (by simp [results,Tryz.results20,go_sem,s4]) D ?_;exact ⟨rfl,M⟩
section
variable {w w':World} {base:Nat} {rs:List (List Half)} {A:Option Addr} {c:Nat} {es:List Ju}
theorem Zg.far1 {L:List ZC} (h:Zg w base rs A c es) (ho:X9 w w' L) (hap:∀ a∈((⟨A,c⟩:ZC) :: rgLs es),∀ b∈L,Jf a b):Zg w' base rs A c es :=
 ⟨h.N.far ho (λ b hb=>hap _ List.mem_cons_self b hb),⟨h.R.len,λ i hi=>⟨(h.R.new i hi).1,(h.R.new i hi).2.far ho (λ b hb=>hap _ (List.mem_cons_of_mem _ (rgLs_in (by rw [h.R.len];exact hi))) b hb)⟩,h.R.apart⟩⟩
theorem Zg.neT {g T:Nat} {vs:List Value} (h:Zg w base rs A c es) (hg:Xv w g T vs) (h1:26≠T) (h2:85≠T):∀ a∈((⟨A,c⟩:ZC) :: rgLs es),∀ p,a.A=some p->p.block≠g:=by
 intro a ha;rcases List.mem_cons.1 ha with rfl|ha
 ·exact h.N.typ hg h1
 ·obtain ⟨i,hi,rfl⟩:=rgLs_mem ha;exact (h.R.new i (by rw [<- h.R.len];exact hi)).2.typ hg h2
end
theorem lrR_len (r:XK) (p:List Half) (l:KS):(ZA r p l).length<=40:=by
 unfold ZA;split
 ·rename_i h
  unfold Z2 at h;simp only [Bool.and_eq_true] at h;have:=(lr_parts h.1.1).2.1;rw [J7];omega
 ·exact Nat.zero_le _
theorem meetR_le40 (L:List Half):(Yk L).length<=40:=by
 unfold Yk;split
 ·rename_i h
  unfold Yw at h;simp only [decide_eq_true_eq] at h;exact h
 ·exact Nat.zero_le _
theorem lowP_len (p:List Half) (L:List Xm) (k:Nat):(KA p L k).length<=40:=by
 unfold KA;split
 ·exact Nat.zero_le _
 ·exact meetR_le40 _
theorem lrR_el (r:XK) (p:List Half) (l:KS):∀ i,((ZA r p l).getD i []).length<=40:=by
 intro i;unfold ZA;split
 ·unfold lrL;rcases Nat.lt_or_ge i ((List.range l.lows.length).map (KA p l.lows)).length with h|h
  ·rw [elAt [] h,List.getElem_map];exact lowP_len _ _ _
  ·rw [List.getD_eq_getElem?_getD,List.getElem?_eq_none h];exact Nat.zero_le _
 ·exact Nat.zero_le _
theorem sLowX_c (r:XK) (p:List Half) (l:KS) (ra:Yq) (b:ZC) (la:KW) (w:World) (hn:XA r<=1048576) (hin:ZR r) (hs:Y4 w r ra) (hnl:Zq ra) (hlp:p.length<=1048576) (hpi:∀ h∈p,h.In) (hsp:Sl 3 Xe w b.A p) (hnb:b.A=none->b.c=0) (hll:YJ l<=1048576) (hli:LawIn l) (hsl:J3 w l la) (hcl:l.lows.length<=la.lows.c) :
 Calls Tryz.prog 16 #[Ye r ra,Yr p b,lawV l la] w λ x w'=>∃ A c es,x=.returned (.tuple #[.slice A (ZA r p l).length c,.bool (Z2 r p l)])/\Zg w' w.heap.size (ZA r p l) A c es/\Below w.heap.size w w':=by
 refine (sLowRegions_c r p l ra b la w hn hin hs hnl hlp hpi hsp hnb hll hli hsl hcl).mono ?_;rintro x wx ⟨v,rfl,hr,hb⟩;obtain ⟨A,c,es,rfl,h⟩:=hr.x;exact ⟨A,c,es,rfl,h,hb⟩
theorem markRegionS_x (A:Option Addr) (es:List Ju) (rs:List (List Half)) (c:Nat) (K:Int) (base:Nat) (w:World) (hn:rs.length<=40) (hl:∀ i,(rs.getD i []).length<=40) (hK:0<=K) (hK2:K<=1000000000) (h:Zg w base rs A c es) :
 Calls Tryz.prog 27 #[.slice A rs.length c,.int .i64 K] w λ e w'=>e=.returned (.int .i64 (K+(KI rs rs.length:Nat)))/\RgsMk w' A es rs K/\X9 w w' ((⟨A,c⟩:ZC) :: rgLs es):=by
 refine (markRegionS_g A es rs c K base w hn hl hK hK2 h.N h.R).mono ?_;rintro e w' ⟨rfl,h1,h2⟩;exact ⟨rfl,h1,h2.mono (λ x hx=>List.mem_cons_of_mem _ hx)⟩
end Go.Proofs.YtbekjpkcicjcgabGreat
