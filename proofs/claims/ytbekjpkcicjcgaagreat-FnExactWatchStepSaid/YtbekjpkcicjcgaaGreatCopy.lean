/-
 Copies of slices, of regions and of rooms: of the program and of the reference.
 Conditions: the slices hold at most 2^20 elements.
-/
import Derived.Test.YtbekjpkcicjcgaaGreatGrL
import Derived.Test.YtbekjpkcicjcgaaGreatGrN
import Derived.Lib.SliceRun
set_option maxHeartbeats 2000000
set_option maxRecDepth 100000
namespace Go.Proofs.YtbekjpkcicjcgaaGreat
open Go.RowKit
theorem intC_one (x:Int):∀ u∈Zm x,u.oneCell'=true:=by
 intro u hu;simp only [Zm,List.mem_cons,List.not_mem_nil,or_false] at hu;subst hu;rfl
theorem XI.mk0 {α:Type} {T sz:Nat} {enc:α->List Value} (w:World):XI T sz enc (w.alloc (.cells #[] T)) w.heap.size (.slice (some ⟨w.heap.size,0,none⟩) 0 0) ([]:List α) :=
 ⟨_,0,rfl,Sz,.inr ⟨w.heap.size,0,#[],rfl,Sz,by have:=heap_alloc_new w (.cells #[] T);simpa using this,Nat.zero_le _,Nat.zero_le _,Sz,Sz⟩⟩
theorem XI.mk0at {α:Type} {T sz g:Nat} {enc:α->List Value} (w:World) (h:g=w.heap.size):XI T sz enc (w.alloc (.cells #[] T)) w.heap.size (.slice (some ⟨g,0,none⟩) 0 0) ([]:List α):=by subst h;exact XI.mk0 w
theorem XV.put {w:World} {g:Nat} {vs:List Value} (h:XV w g vs) (j:Nat) (hj:j<vs.length) (u:Value):XV (w.setCell ⟨g,j,none⟩ u) g (vs.set j u):=by
 refine ⟨by simpa [World.setCell] using h.1,λ i v hv=>?_⟩;by_cases e:i=j
 ·subst e;rw [List.getElem?_set_self hj] at hv;cases hv;have h2:=h.2 i _ (List.getElem?_eq_getElem hj);exact ⟨World.cell?_setCell_same' _ _ _ (by rw [h2.1];rfl),(World.frozen?_setCell _ _ _ _).trans h2.2⟩
 ·rw [List.getElem?_set_ne (Ne.symm e)] at hv;have h2:=h.2 i v hv;exact ⟨(World.cell?_setCell_other w _ _ u (λ q=>e (by injection q with _ q2 _;exact q2.symm))).trans h2.1,(World.frozen?_setCell _ _ _ _).trans h2.2⟩
theorem cloneInt_c (A:Option Addr) (xs:List Int) (cap:Nat) (w:World) (hl:xs.length<=1048576) (hs:Sl 1 Zm w A xs) :
 Calls Tryz.prog 95 #[.slice A xs.length cap] w λ e w'=>∃ v,e=.returned v/\XI 3 1 Zm w' w.heap.size v xs/\Below w.heap.size w w':=by
 obtain ⟨i0,hi0,hz0,hz1,hz2⟩:=info_parts (show (Tryz.prog.info? 3).map (λ i=>(i.zero,i.size,i.bytes))=some (some (.int .i64 0),1,8) by kernel_rfl);have hnil:=λ W n=>Lib.run_eql_slice_nil (P:=Tryz.prog) W 23 _ A n cap 0 0 Tryz.underlying23;cases A with
 | none =>
  have hx:xs=[]:=by
   apply List.eq_nil_of_length_eq_zero;apply Nat.eq_zero_of_not_pos;intro h0;obtain ⟨b,off,e,_⟩:=hs h0;cases e
  subst hx;go_enter Tryz.func95,Tryz.ntmps95
  go_wp2
  go_ret
  refine ⟨_,rfl,⟨none,0,rfl,Sz,.inl ⟨rfl,rfl⟩⟩, ?_⟩;exact Xl
 | some p =>
  have N0:XI 3 1 Zm (w.alloc (.cells #[] 3)) w.heap.size (.slice (some ⟨w.heap.size,0,none⟩) 0 0) []:=XI.mk0 w;have b0:Below w.heap.size w (w.alloc (.cells #[] 3)):=by
   exact Xl
  have hs0:=hs.below b0;have hz30:([]:List Int).length+xs.length<=1073741824:=by simp only [List.length_nil];omega
  go_enter Tryz.func95,Tryz.ntmps95
  go_wp2_with (at_builtin;refine Ku Zg _ rfl _ _ 23 rfl w.heap.size i0 _ 8 Tryz.underlying23 hi0 hz0 hz1 hz2 rfl (by decide) rfl N0 (some p) cap rfl hs0 (λ e=>by cases e) intC_one b0 (by simp) hz30 (by decide) ?_)
  intro v1 w1 N1 hb1;go_wp2
  go_ret
  exact ⟨_,rfl,N1,hb1⟩
theorem cloneHalf_c (A:Option Addr) (xs:List Half) (cap:Nat) (w:World) (hl:xs.length<=1048576) (hs:Sl 3 Xd w A xs) :
 Calls Tryz.prog 96 #[.slice A xs.length cap] w λ e w'=>∃ v,e=.returned v/\XI 136 3 Xd w' w.heap.size v xs/\Below w.heap.size w w':=by
 obtain ⟨i0,hi0,hz0,hz1,hz2⟩:=info_parts (show (Tryz.prog.info? 136).map (λ i=>(i.zero,i.size,i.bytes))=some (some (.agg #[.int .i64 0,.int .i64 0,.int .i64 0]),3,24) by kernel_rfl);have hnil:=λ W n=>Lib.run_eql_slice_nil (P:=Tryz.prog) W 24 _ A n cap 0 0 Tryz.underlying24;cases A with
 | none =>
  have hx:xs=[]:=by
   apply List.eq_nil_of_length_eq_zero;apply Nat.eq_zero_of_not_pos;intro h0;obtain ⟨b,off,e,_⟩:=hs h0;cases e
  subst hx;go_enter Tryz.func96,Tryz.ntmps96
  go_wp2
  go_ret
  refine ⟨_,rfl,⟨none,0,rfl,Sz,.inl ⟨rfl,rfl⟩⟩, ?_⟩;exact Xl
 | some p =>
  have N0:XI 136 3 Xd (w.alloc (.cells #[] 136)) w.heap.size (.slice (some ⟨w.heap.size,0,none⟩) 0 0) []:=XI.mk0 w;have b0:Below w.heap.size w (w.alloc (.cells #[] 136)):=by
   exact Xl
  have hs0:=hs.below b0;have hz30:([]:List Half).length+xs.length<=1073741824:=by simp only [List.length_nil];omega
  go_enter Tryz.func96,Tryz.ntmps96
  go_wp2_with (at_builtin;refine Ku Xx _ rfl _ _ 24 rfl w.heap.size i0 _ 24 Tryz.underlying24 hi0 hz0 hz1 hz2 rfl (by decide) rfl N0 (some p) cap rfl hs0 (λ e=>by cases e) YE b0 (by simp) hz30 (by decide) ?_)
  intro v1 w1 N1 hb1;go_wp2
  go_ret
  exact ⟨_,rfl,N1,hb1⟩
theorem KX (p:List Half) (a:Zi) (w:World) (hl:p.length<=1048576) (hs:Sl 3 Xd w a.A p) :
 Calls Tryz.prog 41 #[Yi p a] w λ e w'=>∃ b,e=.returned (Yi p b)/\XK w' w.heap.size p b/\Below w.heap.size w w':=by
 have c1:=λ W h=>cloneHalf_c a.A p a.c W hl h;have hs0:=(hs.alloc (.cells #[.slice a.A p.length a.c] 26)).alloc (.cells #[.slice none 0 0] 26);have H0:XV ((w.alloc (.cells #[.slice a.A p.length a.c] 26)).alloc (.cells #[.slice none 0 0] 26)) (w.heap.size+1) [.slice none 0 0]:=by
  exact Ys
 have b0:Below w.heap.size w ((w.alloc (.cells #[.slice a.A p.length a.c] 26)).alloc (.cells #[.slice none 0 0] 26)):=by
  exact Xl
 go_enter Tryz.func41,Tryz.ntmps41
 go_wp2_with (fail)
 refine (c1 _ hs0).mono ?_;rintro e w1 ⟨v1,rfl,N1,hb1⟩;have H1:=H0.below hb1;have l1:=H1.1;have b1:=Xe b0 hb1;obtain ⟨A1,k1,rfl,ho⟩:=N1;have N1:XI 136 3 Xd w1 _ (.slice A1 p.length k1) p:=⟨A1,k1,rfl,ho⟩;simp only [World.size_alloc] at N1;clear ho hb1 H0 b0 hs0;obtain ⟨cH1_0,fH1_0⟩:=H1.2 0 _ rfl;go_wp2
 refine bodyPost_ret (v:=.agg #[.slice A1 p.length k1]) (by simp [results,Tryz.results41,go_sem,cH1_0]) rfl ⟨⟨A1,k1⟩,rfl,⟨?_⟩, ?_⟩
 ·exact (N1.set_ (by simp only;omega) _).mono Oz
 ·exact b1.setCell (by simp only;omega) _
theorem sCopyRegion_c (p:List Half) (a:Zi) (w:World) (hl:p.length<=1048576) (hs:Sl 3 Xd w a.A p) (hnil:a.A=none->a.c=0) :
 Calls Tryz.prog 119 #[Yi p a] w λ e w'=>∃ b,e=.returned (Yi p b)/\XK w' w.heap.size p b/\Below w.heap.size w w':=by
 obtain ⟨i0,hi0,hz0,hz1,hz2⟩:=info_parts (show (Tryz.prog.info? 136).map (λ i=>(i.zero,i.size,i.bytes))=some (some (.agg #[.int .i64 0,.int .i64 0,.int .i64 0]),3,24) by kernel_rfl);obtain ⟨W,hW⟩:∃ W,W=(w.alloc (.cells #[.slice a.A p.length a.c] 26)).alloc (.cells #[.slice none 0 0] 26):=⟨_,rfl⟩;have hs0:Sl 3 Xd W a.A p:=hW ▸ (hs.alloc (.cells #[.slice a.A p.length a.c] 26)).alloc (.cells #[.slice none 0 0] 26);have H0:XV W (w.heap.size+1) [.slice none 0 0]:=by
  rw [hW];exact Ys
 have HB:XV W w.heap.size [.slice a.A p.length a.c]:=by
  rw [hW];exact Ys
 have b0:Below w.heap.size w W:=by
  rw [hW];exact Xl
 have X5:W.heap.size=w.heap.size+1+1:=by rw [hW];simp
 have hW':=Lib.hid hW;clear hW;have N0:XI 136 3 Xd (W.alloc (.cells #[] 136)) W.heap.size (.slice (some ⟨w.heap.size+1+1,0,none⟩) 0 0) []:=XI.mk0at W X5.symm;have b1:Below W.heap.size W (W.alloc (.cells #[] 136)):=Xc bR _;have hs1:=hs0.below b1;have hz30:([]:List Half).length+p.length<=1073741824:=by simp only [List.length_nil];omega
 have hle:W.heap.size<=(W.alloc (.cells #[] 136)).heap.size:=Sz
 have hlt:w.heap.size+1<W.heap.size:=Oz
 have hlt2:w.heap.size<W.heap.size:=Oz
 have hszH:=Lib.hid X5;clear X5;go_enter Tryz.func119,Tryz.ntmps119
 go_upto_region 1 with fail
 rw [<- hW'.out];obtain ⟨cHB_0,fHB_0⟩:=HB.2 0 _ rfl;go_wp2_with (at_builtin;refine Ku Xx _ rfl _ _ 24 rfl W.heap.size i0 _ 24 Tryz.underlying24 hi0 hz0 hz1 hz2 rfl (by decide) (by first|rfl|(rw [hszH.out];rfl)) N0 a.A a.c rfl hs1 hnil YE b1 hle hz30 (by decide) ?_)
 intro v1 w1 N1 hb1;have H1:=H0.below hb1;have l1:=H1.1;have b2:=Xe b0 hb1;obtain ⟨A1,k1,rfl,ho⟩:=N1;have N1:XI 136 3 Xd w1 _ (.slice A1 p.length k1) p:=⟨A1,k1,rfl,ho⟩;clear ho hb1 H0 hs0 N0 hs1 b1 HB;obtain ⟨cH1_0,fH1_0⟩:=H1.2 0 _ rfl;go_wp2
 refine bodyPost_ret (v:=.agg #[.slice A1 p.length k1]) (by simp [results,Tryz.results119,go_sem,cH1_0]) rfl ⟨⟨A1,k1⟩,rfl,⟨?_⟩, ?_⟩
 ·exact (N1.set_ (by simp only;omega) _).mono Oz
 ·exact b2.setCell (by simp only;omega) _
theorem Sl.keepL {α:Type} {sz B:Nat} {enc:α->List Value} {w w':World} {A:Option Addr} {xs:List α} (h:Sl sz enc w A xs) (hb:Below B w w') (hA:∀ b off,A=some ⟨b,off,none⟩->0<xs.length->b<B):Sl sz enc w' A xs:=by
 intro h0;exact h.keepB hb (λ b off e=>hA b off e h0) h0
theorem XI.lowC {α:Type} {T sz base:Nat} {enc:α->List Value} {v:Value} {xs:List α} {w:World} (h:XI T sz enc w base v xs) {q:Addr} (hq:q.block<base) (us:List Value):XI T sz enc (w.setCells q.block q.off us) base v xs:=by
 induction us generalizing w q with
 | nil=>exact h
 | cons u r ih=>exact ih (q:=⟨q.block,q.off+1,none⟩) (h.set_ (p:=⟨q.block,q.off,none⟩) hq u) hq
theorem XK.lowC {w:World} {base:Nat} {x:List Half} {a:Zi} (h:XK w base x a) {q:Addr} (hq:q.block<base) (us:List Value):XK (w.setCells q.block q.off us) base x a:=⟨h.halves.lowC hq us⟩
theorem below_cells {B:Nat} {a w:World} (h:Below B a w) {g o:Nat} (hg:B<=g) (us:List Value):Below B a (w.setCells g o us):=Zy hg us o w h
theorem iCopyRoom_c (x:XU) (a:Yn) (w:World) (hn:Xy x<=1048576) (hs:Ym w x a) :
 Calls Tryz.prog 40 #[Ya x a] w λ e w'=>∃ b,e=.returned (Ya x b)/\Yr w' w.heap.size x b/\Below w.heap.size w w':=by
 obtain ⟨map,div,bx,by_,low,high,noise,limits⟩:=x;obtain ⟨mA,nA,lA⟩:=a;simp only [Xy] at hn;obtain ⟨hsm,⟨hsn⟩,⟨hsl⟩⟩:=hs;simp only at hsm hsn hsl hn;have c1:=λ W h=>cloneInt_c mA.A map mA.c W Oz h;have c2:=λ W h=>KX noise nA W Oz h;have c3:=λ W h=>KX limits lA W Oz h;have hnb:∀ b off,nA.A=some ⟨b,off,none⟩->0<noise.length->b<w.heap.size:=λ b off e h0=>hsn.blt h0 b off e;have hlb:∀ b off,lA.A=some ⟨b,off,none⟩->0<limits.length->b<w.heap.size:=λ b off e h0=>hsl.blt h0 b off e;obtain ⟨W,hW⟩:∃ W,W=(w.alloc (.cells #[.slice mA.A (List.length map) mA.c,.int .i64 div,.int .i64 bx,.int .i64 by_,.int .i64 low,.int .i64 high,.slice nA.A (List.length noise) nA.c,.slice lA.A (List.length limits) lA.c] 28)).alloc (.cells #[.slice none 0 0,.int .i64 0,.int .i64 0,.int .i64 0,.int .i64 0,.int .i64 0,.slice none 0 0,.slice none 0 0] 28):=⟨_,rfl⟩;have HB:XV W w.heap.size [.slice mA.A (List.length map) mA.c,.int .i64 div,.int .i64 bx,.int .i64 by_,.int .i64 low,.int .i64 high,.slice nA.A (List.length noise) nA.c,.slice lA.A (List.length limits) lA.c]:=by
  rw [hW];exact Ys
 have HR:XV W (w.heap.size+1) [.slice none 0 0,.int .i64 0,.int .i64 0,.int .i64 0,.int .i64 0,.int .i64 0,.slice none 0 0,.slice none 0 0]:=by
  rw [hW];exact Ys
 have b0:Below w.heap.size w W:=by
  rw [hW];exact Xl
 have X5:W.heap.size=w.heap.size+1+1:=by rw [hW];simp
 have hlt:w.heap.size+1<W.heap.size:=Oz
 have hlt2:w.heap.size<W.heap.size:=Oz
 have hW':=Lib.hid hW;have hszH:=Lib.hid X5;clear hW X5;have hm0:=hsm.below b0;have hn0:=hsn.below b0;have hl0:=hsl.below b0;clear hsm hsn hsl;go_enter Tryz.func40,Tryz.ntmps40
 go_upto_region 1 with fail
 rw [<- hW'.out];obtain ⟨cHB_0,fHB_0⟩:=HB.2 0 _ rfl;obtain ⟨cHB_1,fHB_1⟩:=HB.2 1 _ rfl;obtain ⟨cHB_2,fHB_2⟩:=HB.2 2 _ rfl;obtain ⟨cHB_3,fHB_3⟩:=HB.2 3 _ rfl;obtain ⟨cHB_4,fHB_4⟩:=HB.2 4 _ rfl;obtain ⟨cHB_5,fHB_5⟩:=HB.2 5 _ rfl;obtain ⟨cHB_6,fHB_6⟩:=HB.2 6 _ rfl;obtain ⟨cHB_7,fHB_7⟩:=HB.2 7 _ rfl;go_wp2_with (fail)
 refine (c1 _ hm0).mono ?_;rintro e w1 ⟨v1,rfl,N1,hb1⟩;have H1:=HB.below hb1;have z1:=hb1.size;have R1:=HR.below hb1;have b2:=Xe b0 hb1;have JW:=hn0.below hb1;have hl1:=hl0.below hb1;obtain ⟨A1,k1,rfl,ho⟩:=N1;have N1:XI 3 1 Zm w1 W.heap.size (.slice A1 map.length k1) map:=⟨A1,k1,rfl,ho⟩;have l1:w.heap.size<w1.heap.size:=H1.1;have B1:=N1.blk;have K1:=H1.put 0 Sz (.slice A1 map.length k1);have R1':=R1.set_ (p:=⟨w.heap.size,0,none⟩) Sz (.slice A1 map.length k1);have N1':=N1.set_ (p:=⟨w.heap.size,0,none⟩) (by simp only;omega) (.slice A1 map.length k1);have b3:=b2.setCell (p:=⟨w.heap.size,0,none⟩) XE (.slice A1 map.length k1);have e1:Below w.heap.size w1 (w1.setCell ⟨w.heap.size,0,none⟩ (.slice A1 map.length k1)):=bR.setCell (p:=⟨w.heap.size,0,none⟩) XE _;have hn2:=JW.keepL e1 hnb;have hl2:=hl1.keepL e1 hlb;have s1:(w1.setCell ⟨w.heap.size,0,none⟩ (.slice A1 map.length k1)).heap.size=w1.heap.size:=Sz
 clear ho hb1 cHB_0 cHB_1 cHB_2 cHB_3 cHB_4 cHB_5 cHB_6 cHB_7 fHB_0 fHB_1 fHB_2 fHB_3 fHB_4 fHB_5 fHB_6 fHB_7 HB HR R1 N1 b2 e1 JW hl1 hm0 hn0 hl0;obtain ⟨cH1_0,fH1_0⟩:=H1.2 0 _ rfl;obtain ⟨cH1_1,fH1_1⟩:=H1.2 1 _ rfl;obtain ⟨cH1_2,fH1_2⟩:=H1.2 2 _ rfl;obtain ⟨cH1_3,fH1_3⟩:=H1.2 3 _ rfl;obtain ⟨cH1_4,fH1_4⟩:=H1.2 4 _ rfl;obtain ⟨cH1_5,fH1_5⟩:=H1.2 5 _ rfl;obtain ⟨cH1_6,fH1_6⟩:=H1.2 6 _ rfl;obtain ⟨cH1_7,fH1_7⟩:=H1.2 7 _ rfl;go_upto_region 2 with fail
 generalize w1.setCell ⟨w.heap.size,0,none⟩ (.slice A1 map.length k1)=w2 at *;clear cH1_0 cH1_1 cH1_2 cH1_3 cH1_4 cH1_5 cH1_6 cH1_7 fH1_0 fH1_1 fH1_2 fH1_3 fH1_4 fH1_5 fH1_6 fH1_7 H1;simp only [List.set_cons_zero] at K1;have lK1:=K1.1;obtain ⟨cK1_0,fK1_0⟩:=K1.2 0 _ rfl;obtain ⟨cK1_1,fK1_1⟩:=K1.2 1 _ rfl;obtain ⟨cK1_2,fK1_2⟩:=K1.2 2 _ rfl;obtain ⟨cK1_3,fK1_3⟩:=K1.2 3 _ rfl;obtain ⟨cK1_4,fK1_4⟩:=K1.2 4 _ rfl;obtain ⟨cK1_5,fK1_5⟩:=K1.2 5 _ rfl;obtain ⟨cK1_6,fK1_6⟩:=K1.2 6 _ rfl;obtain ⟨cK1_7,fK1_7⟩:=K1.2 7 _ rfl;go_wp2_with (fail)
 refine (c2 _ hn2).mono ?_;rintro e w3 ⟨b,rfl,M3,hb3⟩;have H3:=K1.below hb3;have R3:=R1'.below hb3;have N3:=N1'.below hb3 XE;have b4:=Xe b3 hb3;have hl3:=hl2.below hb3;have B3:=M3.blk;have z3:=hb3.size;have K3:=H3.put 6 Sz (.slice b.A noise.length b.c);have R3':=R3.set_ (p:=⟨w.heap.size,6,none⟩) Sz (.slice b.A noise.length b.c);have N3':=N3.set_ (p:=⟨w.heap.size,6,none⟩) (by simp only;omega) (.slice b.A noise.length b.c);have M3':=M3.low (p:=⟨w.heap.size,6,none⟩) (by simp only;omega) (.slice b.A noise.length b.c);have b5:=b4.setCell (p:=⟨w.heap.size,6,none⟩) XE (.slice b.A noise.length b.c);have e3:Below w.heap.size w3 (w3.setCell ⟨w.heap.size,6,none⟩ (.slice b.A noise.length b.c)):=bR.setCell (p:=⟨w.heap.size,6,none⟩) XE _;have hl4:=hl3.keepL e3 hlb;have s3:(w3.setCell ⟨w.heap.size,6,none⟩ (.slice b.A noise.length b.c)).heap.size=w3.heap.size:=Sz
 have lH3:=H3.1;clear cK1_0 cK1_1 cK1_2 cK1_3 cK1_4 cK1_5 cK1_6 cK1_7 fK1_0 fK1_1 fK1_2 fK1_3 fK1_4 fK1_5 fK1_6 fK1_7 K1 R1' N1' hb3 hn2 hl2 b3 R3 N3 M3 b4 hl3 e3;obtain ⟨cH3_0,fH3_0⟩:=H3.2 0 _ rfl;obtain ⟨cH3_1,fH3_1⟩:=H3.2 1 _ rfl;obtain ⟨cH3_2,fH3_2⟩:=H3.2 2 _ rfl;obtain ⟨cH3_3,fH3_3⟩:=H3.2 3 _ rfl;obtain ⟨cH3_4,fH3_4⟩:=H3.2 4 _ rfl;obtain ⟨cH3_5,fH3_5⟩:=H3.2 5 _ rfl;obtain ⟨cH3_6,fH3_6⟩:=H3.2 6 _ rfl;obtain ⟨cH3_7,fH3_7⟩:=H3.2 7 _ rfl;go_upto_region 3 with fail
 generalize w3.setCell ⟨w.heap.size,6,none⟩ (.slice b.A noise.length b.c)=w4 at *;clear cH3_0 cH3_1 cH3_2 cH3_3 cH3_4 cH3_5 cH3_6 cH3_7 fH3_0 fH3_1 fH3_2 fH3_3 fH3_4 fH3_5 fH3_6 fH3_7 H3;simp only [List.set_cons_succ,List.set_cons_zero] at K3;have lK3:=K3.1;obtain ⟨cK3_0,fK3_0⟩:=K3.2 0 _ rfl;obtain ⟨cK3_1,fK3_1⟩:=K3.2 1 _ rfl;obtain ⟨cK3_2,fK3_2⟩:=K3.2 2 _ rfl;obtain ⟨cK3_3,fK3_3⟩:=K3.2 3 _ rfl;obtain ⟨cK3_4,fK3_4⟩:=K3.2 4 _ rfl;obtain ⟨cK3_5,fK3_5⟩:=K3.2 5 _ rfl;obtain ⟨cK3_6,fK3_6⟩:=K3.2 6 _ rfl;obtain ⟨cK3_7,fK3_7⟩:=K3.2 7 _ rfl;go_wp2_with (fail)
 refine (c3 _ hl4).mono ?_;rintro e w5 ⟨d,rfl,M5,hb5⟩;have H5:=K3.below hb5;have R5:=R3'.below hb5;have N5:=N3'.below hb5 XE;have L5:=M3'.below hb5 XE;have b6:=Xe b5 hb5;have B5:=M5.blk;have z5:=hb5.size;have lH5:=H5.1;have lR5:=R5.1;have K5:=H5.put 7 Sz (.slice d.A limits.length d.c);have R5':=R5.set_ (p:=⟨w.heap.size,7,none⟩) Sz (.slice d.A limits.length d.c);have N5':=N5.set_ (p:=⟨w.heap.size,7,none⟩) (by simp only;omega) (.slice d.A limits.length d.c);have L5':=L5.low (p:=⟨w.heap.size,7,none⟩) (by simp only;omega) (.slice d.A limits.length d.c);have M5':=M5.low (p:=⟨w.heap.size,7,none⟩) (by simp only;omega) (.slice d.A limits.length d.c);have b7:=b6.setCell (p:=⟨w.heap.size,7,none⟩) XE (.slice d.A limits.length d.c);have s5:(w5.setCell ⟨w.heap.size,7,none⟩ (.slice d.A limits.length d.c)).heap.size=w5.heap.size:=Sz
 have lK5:=K5.1;have lR5':=R5'.1;clear cK3_0 cK3_1 cK3_2 cK3_3 cK3_4 cK3_5 cK3_6 cK3_7 fK3_0 fK3_1 fK3_2 fK3_3 fK3_4 fK3_5 fK3_6 fK3_7 K3 R3' N3' M3' hb5 hl4 b5 N5 L5 M5 b6 R5;obtain ⟨cH5_0,fH5_0⟩:=H5.2 0 _ rfl;obtain ⟨cH5_1,fH5_1⟩:=H5.2 1 _ rfl;obtain ⟨cH5_2,fH5_2⟩:=H5.2 2 _ rfl;obtain ⟨cH5_3,fH5_3⟩:=H5.2 3 _ rfl;obtain ⟨cH5_4,fH5_4⟩:=H5.2 4 _ rfl;obtain ⟨cH5_5,fH5_5⟩:=H5.2 5 _ rfl;obtain ⟨cH5_6,fH5_6⟩:=H5.2 6 _ rfl;obtain ⟨cH5_7,fH5_7⟩:=H5.2 7 _ rfl;go_upto_region 4 with fail
 generalize w5.setCell ⟨w.heap.size,7,none⟩ (.slice d.A limits.length d.c)=w6 at *;clear cH5_0 cH5_1 cH5_2 cH5_3 cH5_4 cH5_5 cH5_6 cH5_7 fH5_0 fH5_1 fH5_2 fH5_3 fH5_4 fH5_5 fH5_6 fH5_7 H5;simp only [List.set_cons_succ,List.set_cons_zero] at K5;obtain ⟨cK5_0,fK5_0⟩:=K5.2 0 _ rfl;obtain ⟨cK5_1,fK5_1⟩:=K5.2 1 _ rfl;obtain ⟨cK5_2,fK5_2⟩:=K5.2 2 _ rfl;obtain ⟨cK5_3,fK5_3⟩:=K5.2 3 _ rfl;obtain ⟨cK5_4,fK5_4⟩:=K5.2 4 _ rfl;obtain ⟨cK5_5,fK5_5⟩:=K5.2 5 _ rfl;obtain ⟨cK5_6,fK5_6⟩:=K5.2 6 _ rfl;obtain ⟨cK5_7,fK5_7⟩:=K5.2 7 _ rfl;obtain ⟨cR5'_0,fR5'_0⟩:=R5'.2 0 _ rfl;obtain ⟨cR5'_1,fR5'_1⟩:=R5'.2 1 _ rfl;obtain ⟨cR5'_2,fR5'_2⟩:=R5'.2 2 _ rfl;obtain ⟨cR5'_3,fR5'_3⟩:=R5'.2 3 _ rfl;obtain ⟨cR5'_4,fR5'_4⟩:=R5'.2 4 _ rfl;obtain ⟨cR5'_5,fR5'_5⟩:=R5'.2 5 _ rfl;obtain ⟨cR5'_6,fR5'_6⟩:=R5'.2 6 _ rfl;obtain ⟨cR5'_7,fR5'_7⟩:=R5'.2 7 _ rfl;go_wp2
 refine bodyPost_ret (v:=.agg #[.slice A1 map.length k1,.int .i64 div,.int .i64 bx,.int .i64 by_,.int .i64 low,.int .i64 high,.slice b.A noise.length b.c,.slice d.A limits.length d.c]) (by simp [results,Tryz.results40,go_sem,cR5'_0,cR5'_1,cR5'_2,cR5'_3,cR5'_4,cR5'_5,cR5'_6,cR5'_7]) rfl ⟨⟨⟨A1,k1⟩,b,d⟩,rfl,⟨?_, ?_, ?_, ?_⟩, ?_⟩
 ·exact (N5'.lowC (q:=⟨w.heap.size+1,0,none⟩) (by simp only;omega) [_,_,_,_,_,_,_,_]).mono Oz
 ·exact (L5'.lowC (q:=⟨w.heap.size+1,0,none⟩) (by simp only;omega) [_,_,_,_,_,_,_,_]).mono Oz
 ·exact (M5'.lowC (q:=⟨w.heap.size+1,0,none⟩) (by simp only;omega) [_,_,_,_,_,_,_,_]).mono Oz
 ·have a12:Kd ⟨A1,k1⟩ b:=B1.apart B3 Oz;have a13:Kd ⟨A1,k1⟩ d:=B1.apart B5 Oz;have a23:Kd b d:=B3.apart B5 Oz;simp only [List.pairwise_cons,List.mem_cons,List.not_mem_nil,or_false,forall_eq_or_imp,forall_eq,false_implies,implies_true,List.Pairwise.nil,and_true];exact ⟨⟨a12,a13⟩,a23⟩
 ·exact below_cells b7 Oz (o:=0) [_,_,_,_,_,_,_,_]
theorem sCopyRoom_c (x:XU) (a:Yn) (w:World) (hn:Xy x<=1048576) (hs:Ym w x a) (nn:a.noise.A=none->a.noise.c=0) (nl:a.limits.A=none->a.limits.c=0) (hmn:a.map.A=none->a.map.c=0) :
 Calls Tryz.prog 118 #[Ya x a] w λ e w'=>∃ b,e=.returned (Ya x b)/\Yr w' w.heap.size x b/\Below w.heap.size w w':=by
 obtain ⟨map,div,bx,by_,low,high,noise,limits⟩:=x;obtain ⟨mA,nA,lA⟩:=a;simp only [Xy] at hn;obtain ⟨hsm,⟨hsn⟩,⟨hsl⟩⟩:=hs;simp only at hsm hsn hsl hn nn nl hmn;obtain ⟨i0,hi0,hz0,hz1,hz2⟩:=info_parts (show (Tryz.prog.info? 3).map (λ i=>(i.zero,i.size,i.bytes))=some (some (.int .i64 0),1,8) by kernel_rfl);have c2:=λ W h=>sCopyRegion_c noise nA W Oz h nn;have c3:=λ W h=>sCopyRegion_c limits lA W Oz h nl;have hnb:∀ b off,nA.A=some ⟨b,off,none⟩->0<noise.length->b<w.heap.size:=λ b off e h0=>hsn.blt h0 b off e;have hlb:∀ b off,lA.A=some ⟨b,off,none⟩->0<limits.length->b<w.heap.size:=λ b off e h0=>hsl.blt h0 b off e;obtain ⟨W,hW⟩:∃ W,W=(w.alloc (.cells #[.slice mA.A (List.length map) mA.c,.int .i64 div,.int .i64 bx,.int .i64 by_,.int .i64 low,.int .i64 high,.slice nA.A (List.length noise) nA.c,.slice lA.A (List.length limits) lA.c] 28)).alloc (.cells #[.slice none 0 0,.int .i64 0,.int .i64 0,.int .i64 0,.int .i64 0,.int .i64 0,.slice none 0 0,.slice none 0 0] 28):=⟨_,rfl⟩;have HB:XV W w.heap.size [.slice mA.A (List.length map) mA.c,.int .i64 div,.int .i64 bx,.int .i64 by_,.int .i64 low,.int .i64 high,.slice nA.A (List.length noise) nA.c,.slice lA.A (List.length limits) lA.c]:=by
  rw [hW];exact Ys
 have HR:XV W (w.heap.size+1) [.slice none 0 0,.int .i64 0,.int .i64 0,.int .i64 0,.int .i64 0,.int .i64 0,.slice none 0 0,.slice none 0 0]:=by
  rw [hW];exact Ys
 have b0:Below w.heap.size w W:=by
  rw [hW];exact Xl
 have X5:W.heap.size=w.heap.size+1+1:=by rw [hW];simp
 have hlt:w.heap.size+1<W.heap.size:=Oz
 have hlt2:w.heap.size<W.heap.size:=Oz
 have hW':=Lib.hid hW;have hszH:=Lib.hid X5;clear hW X5;have hm0:=hsm.below b0;have hn0:=hsn.below b0;have hl0:=hsl.below b0;clear hsm hsn hsl;have N0:XI 3 1 Zm (W.alloc (.cells #[] 3)) W.heap.size (.slice (some ⟨w.heap.size+1+1,0,none⟩) 0 0) []:=XI.mk0at W hszH.out.symm;have b1:Below W.heap.size W (W.alloc (.cells #[] 3)):=Xc bR _;have hs1:=hm0.below b1;have hz30:([]:List Int).length+map.length<=1073741824:=by simp only [List.length_nil];omega
 have hle:W.heap.size<=(W.alloc (.cells #[] 3)).heap.size:=Sz
 go_enter Tryz.func118,Tryz.ntmps118
 go_upto_region 1 with fail
 rw [<- hW'.out];obtain ⟨cHB_0,fHB_0⟩:=HB.2 0 _ rfl;obtain ⟨cHB_1,fHB_1⟩:=HB.2 1 _ rfl;obtain ⟨cHB_2,fHB_2⟩:=HB.2 2 _ rfl;obtain ⟨cHB_3,fHB_3⟩:=HB.2 3 _ rfl;obtain ⟨cHB_4,fHB_4⟩:=HB.2 4 _ rfl;obtain ⟨cHB_5,fHB_5⟩:=HB.2 5 _ rfl;obtain ⟨cHB_6,fHB_6⟩:=HB.2 6 _ rfl;obtain ⟨cHB_7,fHB_7⟩:=HB.2 7 _ rfl;go_wp2_with (at_builtin;refine Ku Zg _ rfl _ _ 23 rfl W.heap.size i0 _ 8 Tryz.underlying23 hi0 hz0 hz1 hz2 rfl (by decide) (by first|rfl|(rw [hszH.out];rfl)) N0 mA.A mA.c rfl hs1 hmn intC_one b1 hle hz30 (by decide) ?_)
 intro v1 w1 N1 hb1;clear N0 b1 hs1 hz30 hle;have H1:=HB.below hb1;have z1:=hb1.size;have R1:=HR.below hb1;have b2:=Xe b0 hb1;have JW:=hn0.below hb1;have hl1:=hl0.below hb1;obtain ⟨A1,k1,rfl,ho⟩:=N1;have N1:XI 3 1 Zm w1 W.heap.size (.slice A1 map.length k1) map:=⟨A1,k1,rfl,ho⟩;have l1:w.heap.size<w1.heap.size:=H1.1;have B1:=N1.blk;have K1:=H1.put 0 Sz (.slice A1 map.length k1);have R1':=R1.set_ (p:=⟨w.heap.size,0,none⟩) Sz (.slice A1 map.length k1);have N1':=N1.set_ (p:=⟨w.heap.size,0,none⟩) (by simp only;omega) (.slice A1 map.length k1);have b3:=b2.setCell (p:=⟨w.heap.size,0,none⟩) XE (.slice A1 map.length k1);have e1:Below w.heap.size w1 (w1.setCell ⟨w.heap.size,0,none⟩ (.slice A1 map.length k1)):=bR.setCell (p:=⟨w.heap.size,0,none⟩) XE _;have hn2:=JW.keepL e1 hnb;have hl2:=hl1.keepL e1 hlb;have s1:(w1.setCell ⟨w.heap.size,0,none⟩ (.slice A1 map.length k1)).heap.size=w1.heap.size:=Sz
 clear ho hb1 cHB_0 cHB_1 cHB_2 cHB_3 cHB_4 cHB_5 cHB_6 cHB_7 fHB_0 fHB_1 fHB_2 fHB_3 fHB_4 fHB_5 fHB_6 fHB_7 HB HR R1 N1 b2 e1 JW hl1 hm0 hn0 hl0;obtain ⟨cH1_0,fH1_0⟩:=H1.2 0 _ rfl;obtain ⟨cH1_1,fH1_1⟩:=H1.2 1 _ rfl;obtain ⟨cH1_2,fH1_2⟩:=H1.2 2 _ rfl;obtain ⟨cH1_3,fH1_3⟩:=H1.2 3 _ rfl;obtain ⟨cH1_4,fH1_4⟩:=H1.2 4 _ rfl;obtain ⟨cH1_5,fH1_5⟩:=H1.2 5 _ rfl;obtain ⟨cH1_6,fH1_6⟩:=H1.2 6 _ rfl;obtain ⟨cH1_7,fH1_7⟩:=H1.2 7 _ rfl;go_upto_region 2 with fail
 generalize w1.setCell ⟨w.heap.size,0,none⟩ (.slice A1 map.length k1)=w2 at *;clear cH1_0 cH1_1 cH1_2 cH1_3 cH1_4 cH1_5 cH1_6 cH1_7 fH1_0 fH1_1 fH1_2 fH1_3 fH1_4 fH1_5 fH1_6 fH1_7 H1;simp only [List.set_cons_zero] at K1;have lK1:=K1.1;obtain ⟨cK1_0,fK1_0⟩:=K1.2 0 _ rfl;obtain ⟨cK1_1,fK1_1⟩:=K1.2 1 _ rfl;obtain ⟨cK1_2,fK1_2⟩:=K1.2 2 _ rfl;obtain ⟨cK1_3,fK1_3⟩:=K1.2 3 _ rfl;obtain ⟨cK1_4,fK1_4⟩:=K1.2 4 _ rfl;obtain ⟨cK1_5,fK1_5⟩:=K1.2 5 _ rfl;obtain ⟨cK1_6,fK1_6⟩:=K1.2 6 _ rfl;obtain ⟨cK1_7,fK1_7⟩:=K1.2 7 _ rfl;go_wp2_with (fail)
 refine (c2 _ hn2).mono ?_;rintro e w3 ⟨b,rfl,M3,hb3⟩;have H3:=K1.below hb3;have R3:=R1'.below hb3;have N3:=N1'.below hb3 XE;have b4:=Xe b3 hb3;have hl3:=hl2.below hb3;have B3:=M3.blk;have z3:=hb3.size;have K3:=H3.put 6 Sz (.slice b.A noise.length b.c);have R3':=R3.set_ (p:=⟨w.heap.size,6,none⟩) Sz (.slice b.A noise.length b.c);have N3':=N3.set_ (p:=⟨w.heap.size,6,none⟩) (by simp only;omega) (.slice b.A noise.length b.c);have M3':=M3.low (p:=⟨w.heap.size,6,none⟩) (by simp only;omega) (.slice b.A noise.length b.c);have b5:=b4.setCell (p:=⟨w.heap.size,6,none⟩) XE (.slice b.A noise.length b.c);have e3:Below w.heap.size w3 (w3.setCell ⟨w.heap.size,6,none⟩ (.slice b.A noise.length b.c)):=bR.setCell (p:=⟨w.heap.size,6,none⟩) XE _;have hl4:=hl3.keepL e3 hlb;have s3:(w3.setCell ⟨w.heap.size,6,none⟩ (.slice b.A noise.length b.c)).heap.size=w3.heap.size:=Sz
 have lH3:=H3.1;clear cK1_0 cK1_1 cK1_2 cK1_3 cK1_4 cK1_5 cK1_6 cK1_7 fK1_0 fK1_1 fK1_2 fK1_3 fK1_4 fK1_5 fK1_6 fK1_7 K1 R1' N1' hb3 hn2 hl2 b3 R3 N3 M3 b4 hl3 e3;obtain ⟨cH3_0,fH3_0⟩:=H3.2 0 _ rfl;obtain ⟨cH3_1,fH3_1⟩:=H3.2 1 _ rfl;obtain ⟨cH3_2,fH3_2⟩:=H3.2 2 _ rfl;obtain ⟨cH3_3,fH3_3⟩:=H3.2 3 _ rfl;obtain ⟨cH3_4,fH3_4⟩:=H3.2 4 _ rfl;obtain ⟨cH3_5,fH3_5⟩:=H3.2 5 _ rfl;obtain ⟨cH3_6,fH3_6⟩:=H3.2 6 _ rfl;obtain ⟨cH3_7,fH3_7⟩:=H3.2 7 _ rfl;go_upto_region 3 with fail
 generalize w3.setCell ⟨w.heap.size,6,none⟩ (.slice b.A noise.length b.c)=w4 at *;clear cH3_0 cH3_1 cH3_2 cH3_3 cH3_4 cH3_5 cH3_6 cH3_7 fH3_0 fH3_1 fH3_2 fH3_3 fH3_4 fH3_5 fH3_6 fH3_7 H3;simp only [List.set_cons_succ,List.set_cons_zero] at K3;have lK3:=K3.1;obtain ⟨cK3_0,fK3_0⟩:=K3.2 0 _ rfl;obtain ⟨cK3_1,fK3_1⟩:=K3.2 1 _ rfl;obtain ⟨cK3_2,fK3_2⟩:=K3.2 2 _ rfl;obtain ⟨cK3_3,fK3_3⟩:=K3.2 3 _ rfl;obtain ⟨cK3_4,fK3_4⟩:=K3.2 4 _ rfl;obtain ⟨cK3_5,fK3_5⟩:=K3.2 5 _ rfl;obtain ⟨cK3_6,fK3_6⟩:=K3.2 6 _ rfl;obtain ⟨cK3_7,fK3_7⟩:=K3.2 7 _ rfl;go_wp2_with (fail)
 refine (c3 _ hl4).mono ?_;rintro e w5 ⟨d,rfl,M5,hb5⟩;have H5:=K3.below hb5;have R5:=R3'.below hb5;have N5:=N3'.below hb5 XE;have L5:=M3'.below hb5 XE;have b6:=Xe b5 hb5;have B5:=M5.blk;have z5:=hb5.size;have lH5:=H5.1;have lR5:=R5.1;have K5:=H5.put 7 Sz (.slice d.A limits.length d.c);have R5':=R5.set_ (p:=⟨w.heap.size,7,none⟩) Sz (.slice d.A limits.length d.c);have N5':=N5.set_ (p:=⟨w.heap.size,7,none⟩) (by simp only;omega) (.slice d.A limits.length d.c);have L5':=L5.low (p:=⟨w.heap.size,7,none⟩) (by simp only;omega) (.slice d.A limits.length d.c);have M5':=M5.low (p:=⟨w.heap.size,7,none⟩) (by simp only;omega) (.slice d.A limits.length d.c);have b7:=b6.setCell (p:=⟨w.heap.size,7,none⟩) XE (.slice d.A limits.length d.c);have s5:(w5.setCell ⟨w.heap.size,7,none⟩ (.slice d.A limits.length d.c)).heap.size=w5.heap.size:=Sz
 have lK5:=K5.1;have lR5':=R5'.1;clear cK3_0 cK3_1 cK3_2 cK3_3 cK3_4 cK3_5 cK3_6 cK3_7 fK3_0 fK3_1 fK3_2 fK3_3 fK3_4 fK3_5 fK3_6 fK3_7 K3 R3' N3' M3' hb5 hl4 b5 N5 L5 M5 b6 R5;obtain ⟨cH5_0,fH5_0⟩:=H5.2 0 _ rfl;obtain ⟨cH5_1,fH5_1⟩:=H5.2 1 _ rfl;obtain ⟨cH5_2,fH5_2⟩:=H5.2 2 _ rfl;obtain ⟨cH5_3,fH5_3⟩:=H5.2 3 _ rfl;obtain ⟨cH5_4,fH5_4⟩:=H5.2 4 _ rfl;obtain ⟨cH5_5,fH5_5⟩:=H5.2 5 _ rfl;obtain ⟨cH5_6,fH5_6⟩:=H5.2 6 _ rfl;obtain ⟨cH5_7,fH5_7⟩:=H5.2 7 _ rfl;go_upto_region 4 with fail
 generalize w5.setCell ⟨w.heap.size,7,none⟩ (.slice d.A limits.length d.c)=w6 at *;clear cH5_0 cH5_1 cH5_2 cH5_3 cH5_4 cH5_5 cH5_6 cH5_7 fH5_0 fH5_1 fH5_2 fH5_3 fH5_4 fH5_5 fH5_6 fH5_7 H5;simp only [List.set_cons_succ,List.set_cons_zero] at K5;obtain ⟨cK5_0,fK5_0⟩:=K5.2 0 _ rfl;obtain ⟨cK5_1,fK5_1⟩:=K5.2 1 _ rfl;obtain ⟨cK5_2,fK5_2⟩:=K5.2 2 _ rfl;obtain ⟨cK5_3,fK5_3⟩:=K5.2 3 _ rfl;obtain ⟨cK5_4,fK5_4⟩:=K5.2 4 _ rfl;obtain ⟨cK5_5,fK5_5⟩:=K5.2 5 _ rfl;obtain ⟨cK5_6,fK5_6⟩:=K5.2 6 _ rfl;obtain ⟨cK5_7,fK5_7⟩:=K5.2 7 _ rfl;obtain ⟨cR5'_0,fR5'_0⟩:=R5'.2 0 _ rfl;obtain ⟨cR5'_1,fR5'_1⟩:=R5'.2 1 _ rfl;obtain ⟨cR5'_2,fR5'_2⟩:=R5'.2 2 _ rfl;obtain ⟨cR5'_3,fR5'_3⟩:=R5'.2 3 _ rfl;obtain ⟨cR5'_4,fR5'_4⟩:=R5'.2 4 _ rfl;obtain ⟨cR5'_5,fR5'_5⟩:=R5'.2 5 _ rfl;obtain ⟨cR5'_6,fR5'_6⟩:=R5'.2 6 _ rfl;obtain ⟨cR5'_7,fR5'_7⟩:=R5'.2 7 _ rfl;go_wp2
 refine bodyPost_ret (v:=.agg #[.slice A1 map.length k1,.int .i64 div,.int .i64 bx,.int .i64 by_,.int .i64 low,.int .i64 high,.slice b.A noise.length b.c,.slice d.A limits.length d.c]) (by simp [results,Tryz.results118,go_sem,cR5'_0,cR5'_1,cR5'_2,cR5'_3,cR5'_4,cR5'_5,cR5'_6,cR5'_7]) rfl ⟨⟨⟨A1,k1⟩,b,d⟩,rfl,⟨?_, ?_, ?_, ?_⟩, ?_⟩
 ·exact (N5'.lowC (q:=⟨w.heap.size+1,0,none⟩) (by simp only;omega) [_,_,_,_,_,_,_,_]).mono Oz
 ·exact (L5'.lowC (q:=⟨w.heap.size+1,0,none⟩) (by simp only;omega) [_,_,_,_,_,_,_,_]).mono Oz
 ·exact (M5'.lowC (q:=⟨w.heap.size+1,0,none⟩) (by simp only;omega) [_,_,_,_,_,_,_,_]).mono Oz
 ·have a12:Kd ⟨A1,k1⟩ b:=B1.apart B3 Oz;have a13:Kd ⟨A1,k1⟩ d:=B1.apart B5 Oz;have a23:Kd b d:=B3.apart B5 Oz;simp only [List.pairwise_cons,List.mem_cons,List.not_mem_nil,or_false,forall_eq_or_imp,forall_eq,false_implies,implies_true,List.Pairwise.nil,and_true];exact ⟨⟨a12,a13⟩,a23⟩
 ·exact below_cells b7 Oz (o:=0) [_,_,_,_,_,_,_,_]
end Go.Proofs.YtbekjpkcicjcgaaGreat
