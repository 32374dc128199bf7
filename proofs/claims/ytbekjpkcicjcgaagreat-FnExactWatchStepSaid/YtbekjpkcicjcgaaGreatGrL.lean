/-
 The region of half planes, of the program.
 Conditions: valid half planes; the slice holds at most 2^20 elements less a few.
-/
import Derived.Test.YtbekjpkcicjcgaaGreatGrK
import Derived.Test.YtbekjpkcicjcgaaGreatEdgS
import Derived.Test.YtbekjpkcicjcgaaGreatGrM
set_option maxHeartbeats 8000000
set_option maxRecDepth 100000
namespace Go.Proofs.YtbekjpkcicjcgaaGreat
open Go.RowKit
def YA (l:List Half):Bool:=decide ((X0 l).length<=40)
def XZ (l:List Half):List Half:=if YA l=true then X0 l else []
def Xs (hs:List Half):List Half:=Y8 (ZZ++hs)
theorem gframe_ok:∀ h∈ZZ,Xt h=true:=Dz
theorem ZN {hs:List Half} (hok:∀ h∈hs,Xt h=true):∀ h∈ZZ++hs,Xt h=true:=by
 intro h hh;rcases List.mem_append.1 hh with h1|h1
 ·exact gframe_ok h h1
 ·exact hok h h1
theorem J7 {hs:List Half} (hok:∀ h∈hs,Xt h=true):ZQ (Xs hs) :=
 good_tight (λ h hh=>(KS (ZN hok h hh)).n) (λ _ hh=>List.mem_append_left _ hh)
theorem meetL_ok {hs:List Half} (hok:∀ h∈hs,Xt h=true):∀ h∈Xs hs,Xt h=true:=gtight_ok (ZN hok)
theorem meetL_len (hs:List Half):(Xs hs).length<=hs.length+4:=by
 have:=tight_len (ZZ++hs);simp only [List.length_append] at this;have e:ZZ.length=4:=rfl;unfold Xs;omega
theorem meetI_void {l:List Half} {k:Nat} (hk:k<l.length) (h:Jk l k=true):X0 l=[]:=by
 unfold X0;rw [if_pos];unfold voidB;rw [List.any_eq_true];exact ⟨k,List.mem_range.2 hk,h⟩
theorem meetI_full {l:List Half} (h:∀ k,k<l.length->Jk l k=false):X0 l=l.filter (KG l):=by
 unfold X0;rw [if_neg];unfold voidB;rw [Bool.not_eq_true,List.any_eq_false];intro k hk;rw [h k (List.mem_range.1 hk)];decide
theorem filter_step {l:List Half} {p:Half->Bool} {k:Nat} (hk:k<l.length):(l.take (k+1)).filter p=(l.take k).filter p++(if p (l.getD k Xa)=true then [l.getD k Xa] else []):=by
 rw [Zj l k hk,List.filter_append,ZA hk];by_cases h:p l[k]=true
 ·rw [if_pos h];simp [h]
 ·rw [if_neg h];simp [h]
theorem XV.keepB {B g:Nat} {w w':World} {vs:List Value} (h:XV w g vs) (hb:Below B w w') (hg:g<B):XV w' g vs :=
 ⟨Nat.lt_of_lt_of_le h.1 hb.size,λ j v hj=>⟨((bcell hb).1 g j hg).trans (h.2 j v hj).1,((bcell hb).2 g j hg).trans (h.2 j v hj).2⟩⟩
theorem Sl.keepB {α:Type} {sz B:Nat} {enc:α->List Value} {w w':World} {A:Option Addr} {xs:List α} (h:Sl sz enc w A xs) (hb:Below B w w') (hA:∀ b off,A=some ⟨b,off,none⟩->b<B):Sl sz enc w' A xs :=
 h.keep hb.size hA (λ _ hp=>hb.cell hp)
theorem Sl.blt {α:Type} {sz:Nat} {enc:α->List Value} {w:World} {A:Option Addr} {xs:List α} (h:Sl sz enc w A xs) (h0:0<xs.length):∀ b off,A=some ⟨b,off,none⟩->b<w.heap.size:=by
 intro b off e;obtain ⟨b',off',e',hl,_⟩:=h h0;rw [e] at e';cases e';exact hl
theorem XI.set_ {α:Type} {T sz base:Nat} {enc:α->List Value} {w:World} {v:Value} {xs:List α} (h:XI T sz enc w base v xs) {p:Addr} (hp:p.block<base) (u:Value):XI T sz enc (w.setCell p u) base v xs:=by
 obtain ⟨A,cap,rfl,h1,h2⟩:=h;refine ⟨A,cap,rfl,h1, ?_⟩;rcases h2 with h2|⟨g,cap',cur,hv,hg,hh,r⟩
 ·exact .inl h2
 ·exact .inr ⟨g,cap',cur,hv,hg,(heap_setCell_other w p g u Oz).trans hh,r⟩
theorem iFrame_c (w:World):Calls Tryz.prog 167 #[] w λ e w'=>e=.returned (.slice (some ⟨w.heap.size,0,none⟩) 4 4)/\w'=w.alloc (.cells #[.int .i64 1,.int .i64 0,.int .i64 1000,.int .i64 0,.int .i64 1,.int .i64 1000,.int .i64 (-1),.int .i64 0,.int .i64 1000,.int .i64 0,.int .i64 (-1),.int .i64 1000] 136):=by
 go_enter Tryz.func167,Tryz.ntmps167
 go_wp2
 go_ret
 exact ⟨rfl,rfl⟩
theorem sFrame_c (w:World):Calls Tryz.prog 160 #[] w λ e w'=>e=.returned (.slice (some ⟨w.heap.size,0,none⟩) 4 4)/\w'=w.alloc (.cells #[.int .i64 1,.int .i64 0,.int .i64 1000,.int .i64 0,.int .i64 1,.int .i64 1000,.int .i64 (-1),.int .i64 0,.int .i64 1000,.int .i64 0,.int .i64 (-1),.int .i64 1000] 136):=by
 go_enter Tryz.func160,Tryz.ntmps160
 go_wp2
 go_ret
 exact ⟨rfl,rfl⟩
theorem frame_sl (w:World):Sl 3 Xd (w.alloc (.cells #[.int .i64 1,.int .i64 0,.int .i64 1000,.int .i64 0,.int .i64 1,.int .i64 1000,.int .i64 (-1),.int .i64 0,.int .i64 1000,.int .i64 0,.int .i64 (-1),.int .i64 1000] 136)) (some ⟨w.heap.size,0,none⟩) ZZ:=sl_new Xx w ZZ _ rfl
theorem iMeet_c (A:Option Addr) (hs:List Half) (cap:Nat) (w:World) (hl:hs.length<=1000000) (hok:∀ h∈hs,Xt h=true) (hsl:Sl 3 Xd w A hs) (hnil:A=none->cap=0) :
 Calls Tryz.prog 138 #[.slice A hs.length cap] w λ e w'=>∃ v,e=.returned (.tuple #[.agg #[v],.bool (YA (Xs hs))])/\XI 136 3 Xd w' w.heap.size v (XZ (Xs hs))/\Below w.heap.size w w':=by
 obtain ⟨i0,hi0,hz0,hz1,hz2⟩:=info_parts (show (Tryz.prog.info? 136).map (λ i=>(i.zero,i.size,i.bytes))=some (some (.agg #[.int .i64 0,.int .i64 0,.int .i64 0]),3,24) by kernel_rfl);have hall:=ZN hok;have hLok:=meetL_ok hok;have hLlen:=meetL_len hs;have hfl:(ZZ++hs).length=4+hs.length:=by simp [ZZ];omega
 obtain ⟨FH,hFH⟩:∃ FH,FH=ZZ++hs:=⟨_,rfl⟩;have hgt:Y8 FH=Xs hs:=by rw [hFH];rfl
 rw [<- hFH] at hall hfl;have hfl2:FH.length<=1048576:=Oz
 clear hfl;have hvoid:=Lib.hid (λ k=>@meetI_void (Xs hs) k);have hfull:=Lib.hid (@meetI_full (Xs hs));have hfs:=Lib.hid (λ k=>@filter_step (Xs hs) (KG (Xs hs)) k);have hdef:=Lib.hid (show YA (Xs hs)=decide ((X0 (Xs hs)).length<=40)/\XZ (Xs hs)=if YA (Xs hs)=true then X0 (Xs hs) else [] from ⟨rfl,rfl⟩);have c1:=λ W B c h=>iTightest_c B FH c W Oz hall h;rw [hgt] at c1;have HE:=Lib.hid (λ h hh=>KS (hLok h hh));clear hall hLok hgt;generalize Xs hs=L at *;have H0:XV (w.alloc (.cells #[.slice none 0 0] 26)) w.heap.size [.slice none 0 0]:=by
  exact Ys
 go_enter Tryz.func138,Tryz.ntmps138
 go_wp2_with (fail)
 refine (iFrame_c _).mono ?_;rintro e w1 ⟨rfl,hw1⟩;have hF:=frame_sl (w.alloc (.cells #[.slice none 0 0] 26));rw [World.size_alloc] at hF;have b1:Below w.heap.size w ((w.alloc (.cells #[.slice none 0 0] 26)).alloc (.cells #[.int .i64 1,.int .i64 0,.int .i64 1000,.int .i64 0,.int .i64 1,.int .i64 1000,.int .i64 (-1),.int .i64 0,.int .i64 1000,.int .i64 0,.int .i64 (-1),.int .i64 1000] 136)):=by
  exact Xl
 rw [<- hw1] at hF b1;have H1:=H0.alloc (.cells #[.int .i64 1,.int .i64 0,.int .i64 1000,.int .i64 0,.int .i64 1,.int .i64 1000,.int .i64 (-1),.int .i64 0,.int .i64 1000,.int .i64 0,.int .i64 (-1),.int .i64 1000] 136);rw [<- hw1] at H1;clear hw1 H0;have HV:=XV.new w1 #[.slice (some ⟨w.heap.size+1,0,none⟩) 4 4,.slice A hs.length cap] 24;have H2:=H1.alloc (.cells #[.slice (some ⟨w.heap.size+1,0,none⟩) 4 4,.slice A hs.length cap] 24);have hF2:=hF.alloc (.cells #[.slice (some ⟨w.heap.size+1,0,none⟩) 4 4,.slice A hs.length cap] 24);have hS2:=(hsl.below b1).alloc (.cells #[.slice (some ⟨w.heap.size+1,0,none⟩) 4 4,.slice A hs.length cap] 24);have b2:=Xc b1 (.cells #[.slice (some ⟨w.heap.size+1,0,none⟩) 4 4,.slice A hs.length cap] 24);have cc:=concat_c (some ⟨w.heap.size+1,0,none⟩) A ZZ hs 4 cap w1.heap.size _ (by decide) (by decide) (by omega) hF2 hS2 hnil HV;rw [<- hFH] at cc;clear hFH;simp only [World.size_alloc];go_wp2_with (fail)
 refine cc.mono ?_;rintro e w2 ⟨v2,rfl,N2,hb2⟩;have H3:=H2.below hb2;have b3:=Xe b2 hb2;obtain ⟨A2,k2,rfl,hA2⟩:=N2.sl Xx;clear cc HV hF2 hS2 H2 b2 H1 b1 hF N2;go_wp2_with (fail)
 refine (c1 _ _ _ hA2).mono ?_;rintro e w3 ⟨v3,rfl,N3,hb3⟩;have H4:=H3.below hb3;have b4:=Xe b3 hb3;obtain ⟨A3,k3,rfl,hA3⟩:=N3.sl Xx;clear c1 H3 b3 N3 hA2 hb2 hb3;have hS5:=hA3.alloc (.cells #[.slice none 0 0] 26);have hBl:=Lib.hid (λ(h0:0<L.length)=>hA3.blt h0);have H5:=H4.alloc (.cells #[.slice none 0 0] 26);have HP:=XV.new w3 #[.slice none 0 0] 26;have b5:=Xc b4 (.cells #[.slice none 0 0] 26);have hlt0:w.heap.size<w3.heap.size:=H4.1;have hgw:w.heap.size<=w3.heap.size:=b4.size;go_upto_region 3 with fail
 generalize hW:w3.alloc (.cells #[.slice none 0 0] 26)=wb at *;have hgb:w3.heap.size<wb.heap.size:=by rw [<- hW];simp
 clear hW H4 b4 hA3;generalize w3.heap.size=gp at *;go_wp2
 go_loopw [3,6,7,8,9,17] (λ v3 _ _ _ _ i wr=>∃ (k:Nat) (vp:Value),k<=L.length/\v3=.bool false/\i=.int .i64 k/\XV wr gp [vp]/\XI 136 3 Xd wr (gp+1) vp ((L.take k).filter (KG L))/\Hid (∀ q,q<k->Jk L q=false)/\Below gp wb wr) (λ _ _ _ _ _ i _=>L.length-(intOf i).toNat)
 case atStart=>exact ⟨0,.slice none 0 0,Nat.zero_le _,rfl,rfl,HP,⟨none,0,rfl,Sz,.inl ⟨rfl,rfl⟩⟩,by simp [Hid],Below.refl _ _⟩
 case round =>
  obtain ⟨k,vp,hk,rfl,rfl,HPr,N,hvd,hbr⟩:=hrel;have H0:=H5.keepB hbr hlt0;have bw:Below w.heap.size w wr:=b5.trans (hbr.mono hgw);have hgr:gp<wr.heap.size:=HPr.1;by_cases hlt:k<L.length
  ·have hSr:Sl 3 Xd wr A3 L:=hS5.keepB hbr (hBl.out Oz);obtain ⟨b,off,hA,hblt,hc⟩:=hSr.at_ hlt;have g0:=hc 0 _ rfl;have g1:=hc 1 _ rfl;have g2:=hc 2 _ rfl;simp only [Nat.add_zero] at g0;have hgk:=ZA hlt;rw [<- hgk] at g0 g1 g2;have c2:=λ W h=>iEdge_c A3 L k3 k W hlt Oz HE.out h;have hv1:=Lib.hid (λ e=>hvoid.out k hlt e);have hf1:=hfs.out k hlt;have i1:(k:Int)<(L.length:Int):=Oz
   have hvk:=Lib.hid (λ(e:Jk L k=false)=>show ∀ q,q<k+1->Jk L q=false from by
    intro q hq;rcases Nat.lt_or_ge q k with h2|h2
    ·exact hvd.out q h2
    ·obtain rfl:q=k:=Oz
     exact e)
   have hfl2:((L.take k).filter (KG L)).length<=1073741823:=by
    have h1:=List.length_filter_le (KG L) (L.take k);rw [List.length_take] at h1;omega
   clear hc hgk hvd;subst hA;generalize L.getD k Xa=h at *;have HX:=XV.new wr #[.int .i64 h.a,.int .i64 h.b,.int .i64 h.c] 136;have hSx:=hSr.alloc (.cells #[.int .i64 h.a,.int .i64 h.b,.int .i64 h.c] 136);have HPx:=HPr.alloc (.cells #[.int .i64 h.a,.int .i64 h.b,.int .i64 h.c] 136);have H0x:=H0.alloc (.cells #[.int .i64 h.a,.int .i64 h.b,.int .i64 h.c] 136);have Nx:=N.alloc (.cells #[.int .i64 h.a,.int .i64 h.b,.int .i64 h.c] 136);have hbx:=hbr.alloc (show gp<=wr.heap.size by omega) (.cells #[.int .i64 h.a,.int .i64 h.b,.int .i64 h.c] 136);have bwx:=Xc bw (.cells #[.int .i64 h.a,.int .i64 h.b,.int .i64 h.c] 136);go_upto_region 6 with fail
   generalize hW:wr.alloc (.cells #[.int .i64 h.a,.int .i64 h.b,.int .i64 h.c] 136)=wa at *;have hga:gp<wa.heap.size:=HPx.1;clear hW g0 g1 g2 hblt H0 HPr N hbr bw hSr;generalize hgx:wr.heap.size=gx at *;clear hgx;cases hv:Jk L k
   ·rw [hv] at c2;have hvk2:=Lib.hid (hvk.out hv);cases he:KG L h
    ·rw [he] at c2 hf1;go_wp2_with (fail)
     refine (c2 _ hSx).mono ?_;rintro e w4 ⟨rfl,hb4⟩;go_wp2
     go_roundw
     case rel=>exact ⟨k+1,vp,by omega,rfl,by go_num,HPx.below hb4,by rw [hf1];simpa using Nx.below hb4 XE,hvk2,hbx.trans (hb4.mono (by omega))⟩
     case measure=>simp [intOf];omega
    ·rw [he] at c2 hf1;go_wp2_with (fail)
     refine (c2 _ hSx).mono ?_;rintro e w4 ⟨rfl,hb4⟩;have hf2:=Lib.hid (show (L.take (k+1)).filter (KG L)=(L.take k).filter (KG L)++[h] by rw [hf1];rfl);have N4:=Nx.below hb4 XE;have HP4:=HPx.below hb4;have HX4:=HX.below hb4;have hbx4:Below gp wb w4:=hbx.trans (hb4.mono (by omega));have lP4:=HP4.1;have lX4:=HX4.1;obtain ⟨Ap,cp,rfl,hrp⟩:=N4;have N4:XI 136 3 Xd w4 (gp+1) (.slice Ap ((L.take k).filter (KG L)).length cp) ((L.take k).filter (KG L)):=⟨Ap,cp,rfl,hrp⟩;clear hrp hf1 Nx HPx HX hbx bwx H0x hSx hb4 c2;obtain ⟨cHP4_0,fHP4_0⟩:=HP4.2 0 _ rfl;obtain ⟨cHX4_0,fHX4_0⟩:=HX4.2 0 _ rfl;obtain ⟨cHX4_1,fHX4_1⟩:=HX4.2 1 _ rfl;obtain ⟨cHX4_2,fHX4_2⟩:=HX4.2 2 _ rfl;generalize (L.take k).filter (KG L)=E at *;go_wp2_with (at_builtin;refine Z5 Xx _ rfl _ _ 24 rfl (gp+1) i0 _ 24 Tryz.underlying24 hi0 hz0 hz1 hz2 rfl (by decide) rfl (N4.alloc _) _ 1 rfl h ?c1 (YE h) bR (by simp;omega) hfl2 (by decide) ?_)
     case c1 =>
      intro q u hu;rw [Addr.add_lit,Nat.zero_add];exact ((XV.new_at Sz #[.int .i64 h.a,.int .i64 h.b,.int .i64 h.c] _ rfl).2 q u hu).1
     ·intro v5 w5 hn5 hb5;have HP5:=(HP4.alloc (.cells #[.int .i64 h.a,.int .i64 h.b,.int .i64 h.c] 136)).keepB hb5 (Nat.lt_succ_self gp);have lP5:=HP5.1;have hbx5:Below gp wb w5:=(hbx4.alloc Oz (.cells #[.int .i64 h.a,.int .i64 h.b,.int .i64 h.c] 136)).trans (hb5.mono (Nat.le_succ gp));clear cHP4_0 fHP4_0 cHX4_0 cHX4_1 cHX4_2 fHX4_0 fHX4_1 fHX4_2 hb5;obtain ⟨A5,c5,rfl,hr5⟩:=hn5;have hl5:(E++[h]).length=E.length+1:=Sz
      have hn5:XI 136 3 Xd w5 (gp+1) (.slice A5 (E.length+1) c5) (E++[h]):=⟨A5,c5,by rw [hl5],by rw [<- hl5];exact hr5⟩;rw [hl5];clear hr5 hl5;obtain ⟨cHP5_0,fHP5_0⟩:=HP5.2 0 _ rfl;go_wp2
      go_roundw
      case rel=>exact ⟨k+1,_,by omega,rfl,by go_num,XV.stored HP5 [_] rfl,by rw [hf2.out];exact hn5.set_ (Nat.lt_succ_self gp) _,hvk2,hbx5.setCell (p:=⟨gp,0,none⟩) XE _⟩
      case measure=>simp [intOf];omega
   ·rw [hv] at c2;have hmi:=Lib.hid (hv1.out hv);have hd1:=Lib.hid (show YA L=true by rw [hdef.out.1,hmi.out];rfl);have hd2:=Lib.hid (show XZ L=[] by rw [hdef.out.2,hmi.out];split<;>rfl);go_wp2_with (fail)
    refine (c2 _ hSx).mono ?_;rintro e w4 ⟨rfl,hb4⟩;have H4:=H0x.below hb4;have b4:=Xe bwx hb4;have l4:=H4.1;clear hb4 H0x bwx HPx Nx HX hbx hSx c2;obtain ⟨cH4_0,fH4_0⟩:=H4.2 0 _ rfl;go_wp2
    refine bodyPost_ret (v:=.tuple #[.agg #[.slice none 0 0],.bool true]) (by simp [results,Tryz.results138,go_sem,cH4_0]) rfl ⟨_,by rw [hd1.out], ?_, ?_⟩
    ·rw [hd2.out];exact ⟨none,0,rfl,Sz,.inl ⟨rfl,rfl⟩⟩
    ·exact b4.setCell XE _
  ·obtain rfl:k=L.length:=Oz
   rw [List.take_length] at N;have hmi:=hfull.out hvd.out;have hd0:=hdef.out.1;have hd3:=hdef.out.2;rw [hmi] at hd0 hd3;obtain ⟨Ap,cp,rfl,hrp⟩:=N;have N:XI 136 3 Xd wr (gp+1) (.slice Ap (L.filter (KG L)).length cp) (L.filter (KG L)):=⟨Ap,cp,rfl,hrp⟩;clear hrp hvd hmi hfs hfull hvoid HE hBl;have l0:=H0.1;obtain ⟨cH0_0,fH0_0⟩:=H0.2 0 _ rfl;obtain ⟨cHPr_0,fHPr_0⟩:=HPr.2 0 _ rfl;generalize L.filter (KG L)=E at *;by_cases hle:E.length<=40
   ·have hd1:=Lib.hid (show YA L=true by rw [hd0];exact decide_eq_true hle);have hd2:=Lib.hid (show XZ L=E by rw [hd3,hd1.out];rfl);have hle2:(E.length:Int)<=40:=Oz
    clear hd0 hd3 hdef;go_wp2
    refine bodyPost_ret (v:=.tuple #[.agg #[.slice Ap E.length cp],.bool true]) (by simp [results,Tryz.results138,go_sem,cH0_0]) rfl ⟨_,by rw [hd1.out], ?_, ?_⟩
    ·rw [hd2.out];exact (N.set_ (by simp only;omega) _).mono Oz
    ·exact bw.setCell XE _
   ·have hd1:=Lib.hid (show YA L=false by rw [hd0];exact decide_eq_false hle);have hd2:=Lib.hid (show XZ L=[] by rw [hd3,hd1.out];rfl);have hle2:(40:Int)<(E.length:Int):=Oz
    clear hd0 hd3 hdef;go_wp2
    refine bodyPost_ret (v:=.tuple #[.agg #[.slice none 0 0],.bool false]) (by simp [results,Tryz.results138,go_sem,cH0_0]) rfl ⟨_,by rw [hd1.out], ?_, ?_⟩
    ·rw [hd2.out];exact ⟨none,0,rfl,Sz,.inl ⟨rfl,rfl⟩⟩
    ·exact bw.setCell XE _
theorem half_eq {g h:Half} (hg:Xt g=true) (hh:Xt h=true) (s:Yo g h=true) (hc:g.c*X5 h=h.c*X5 g):g=h:=by
 obtain ⟨h1,h2⟩:=J2 (KS hg).n (KS hh).n s;have pg:=YW (KS hg).n;have ph:=YW (KS hh).n;have e1:=(Y0.1 hg).2.2.2.2;have e2:=(Y0.1 hh).2.2.2.2;rw [gcd3] at e1 e2;have n1:=congrArg Int.natAbs h1;have n2:=congrArg Int.natAbs h2;have n3:=congrArg Int.natAbs hc;rw [Int.natAbs_mul,Int.natAbs_mul] at n1 n2 n3;have g1:Nat.gcd (Nat.gcd (g.a.natAbs*(X5 h).natAbs) (g.b.natAbs*(X5 h).natAbs)) (g.c.natAbs*(X5 h).natAbs)=(X5 h).natAbs:=by
  rw [Nat.gcd_mul_right,Nat.gcd_mul_right,e1,Nat.one_mul]
 have g2:Nat.gcd (Nat.gcd (h.a.natAbs*(X5 g).natAbs) (h.b.natAbs*(X5 g).natAbs)) (h.c.natAbs*(X5 g).natAbs)=(X5 g).natAbs:=by
  rw [Nat.gcd_mul_right,Nat.gcd_mul_right,e2,Nat.one_mul]
 rw [n1,n2,n3,g2] at g1;have e:X5 g=X5 h:=Oz
 rw [e] at h1 h2 hc;have a1:=Int.eq_of_mul_eq_mul_right Oz h1;have a2:=Int.eq_of_mul_eq_mul_right Oz h2;have a3:=Int.eq_of_mul_eq_mul_right Oz hc;cases g;cases h;simp only at a1 a2 a3;subst a1 a2 a3;rfl
theorem gtight_sub {hs hs':List Half} (hm:∀ x,x∈hs ↔ x∈hs') (hok:∀ h∈hs,Xt h=true):∀ x∈Y8 hs,x∈Y8 hs':=by
 intro x hx;have nz:∀ h∈hs,KH h:=λ h hh=>(KS (hok h hh)).n;have nz':∀ h∈hs',KH h:=λ h hh=>nz h ((hm h).2 hh);have c:=Zk nz;have c':=Zk nz';have x1:=c.mem x hx;obtain ⟨y,hy,cy⟩:=c'.cov x ((hm x).1 x1);have y1:=(hm y).2 (c'.mem y hy);obtain ⟨z,hz,cz⟩:=c.cov y y1;have z1:=c.mem z hz;have s:Yo z x=true:=same_trans (nz z z1) (nz y y1) cz.1 cy.1;have e:=c.sorted.same (λ h hh=>nz h (c.mem h hh)) hz hx s;subst e;have:=half_eq (hok y y1) (hok z z1) cy.1 (by have:=cy.2;have:=cz.2;omega);subst this;exact hy
theorem gtight_same {hs hs':List Half} (hm:∀ x,x∈hs ↔ x∈hs') (hok:∀ h∈hs,Xt h=true):Y8 hs=Y8 hs':=by
 have nz:∀ h∈hs,KH h:=λ h hh=>(KS (hok h hh)).n;exact gsorted_ext (Zk nz).sorted (Zk (λ h hh=>nz h ((hm h).2 hh))).sorted (λ x=>⟨gtight_sub hm hok x,gtight_sub (λ y=>(hm y).symm) (λ h hh=>hok h ((hm h).2 hh)) x⟩)
theorem meetL_swap {hs:List Half} (hok:∀ h∈hs,Xt h=true):Y8 (hs++ZZ)=Xs hs :=
 gtight_same (λ x=>by simp only [List.mem_append];exact Or.comm) (λ h hh=>ZN hok h (by simp only [List.mem_append] at hh ⊢;exact hh.symm))
theorem sMake_c (A:Option Addr) (hs:List Half) (cap:Nat) (w:World) (hl:hs.length<=1000000) (hok:∀ h∈hs,Xt h=true) (hsl:Sl 3 Xd w A hs) (hnil:A=none->cap=0) :
 Calls Tryz.prog 130 #[.slice A hs.length cap] w λ e w'=>∃ v,e=.returned (.agg #[v])/\XI 136 3 Xd w' w.heap.size v (X0 (Xs hs))/\Below w.heap.size w w':=by
 obtain ⟨i0,hi0,hz0,hz1,hz2⟩:=info_parts (show (Tryz.prog.info? 136).map (λ i=>(i.zero,i.size,i.bytes))=some (some (.agg #[.int .i64 0,.int .i64 0,.int .i64 0]),3,24) by kernel_rfl);have hLok:=meetL_ok hok;have hLlen:=meetL_len hs;have hG:=meet_same (J7 hok) hLok;rw [<- hG];obtain ⟨FH,hFH⟩:∃ FH,FH=hs++ZZ:=⟨_,rfl⟩;have hgt:Y8 FH=Xs hs:=by rw [hFH];exact meetL_swap hok
 have hall:∀ h∈FH,Xt h=true:=by
  intro h hh;rw [hFH] at hh;exact ZN hok h (by simp only [List.mem_append] at hh ⊢;exact hh.symm)
 have hfl2:FH.length<=1048576:=by rw [hFH];simp [ZZ];omega
 have hfs:=Lib.hid (λ k=>@filter_step (Xs hs) (ges (Xs hs)) k);have hdef:=Lib.hid (show meetS (Xs hs)=if ((Xs hs).filter (ges (Xs hs))).length<3 then [] else (Xs hs).filter (ges (Xs hs)) from rfl);have c1:=λ W B c h=>sSorted_c B FH c W hfl2 hall h;rw [hgt] at c1;have HE:=Lib.hid (λ h hh=>KS (hLok h hh));clear hall hLok hgt hG;generalize Xs hs=L at *;have H0:XV ((w.alloc (.cells #[.slice none 0 0] 26)).alloc (.cells #[] 136)) w.heap.size [.slice none 0 0]:=by
  exact Ys
 have b0:Below w.heap.size w ((w.alloc (.cells #[.slice none 0 0] 26)).alloc (.cells #[] 136)):=by
  exact Xl
 have N0:XI 136 3 Xd ((w.alloc (.cells #[.slice none 0 0] 26)).alloc (.cells #[] 136)) (w.heap.size+1) (.slice (some ⟨w.heap.size+1,0,none⟩) 0 0) [] :=
  ⟨_,0,rfl,Sz,.inr ⟨w.heap.size+1,0,#[],rfl,Sz,by have:=heap_alloc_new (w.alloc (.cells #[.slice none 0 0] 26)) (.cells #[] 136);simpa using this,Nat.zero_le _,Nat.zero_le _,rfl,rfl⟩⟩
 have hS0:=hsl.below b0;have hz30:([]:List Half).length+hs.length<=1073741824:=by simp only [List.length_nil];omega
 go_enter Tryz.func130,Tryz.ntmps130
 go_wp2_with (at_builtin;refine Ku Xx _ rfl _ _ 24 rfl (w.heap.size+1) i0 _ 24 Tryz.underlying24 hi0 hz0 hz1 hz2 rfl (by decide) rfl N0 A cap rfl hS0 hnil YE bR (by simp) hz30 (by decide) ?_)
 intro v1 w1 N1 hb1;have H1:=H0.keepB hb1 (Nat.lt_succ_self _);have b1:Below w.heap.size w w1:=b0.trans (hb1.mono (Nat.le_succ _));obtain ⟨A1,k1,rfl,hr1⟩:=N1;have N1:XI 136 3 Xd w1 (w.heap.size+1) (.slice A1 hs.length k1) hs:=⟨A1,k1,rfl,hr1⟩;have hsz1:w.heap.size+1<=w1.heap.size:=by have:=hb1.size;simp at this;omega
 clear hr1 N0 H0 b0 hb1 hS0;go_wp2_with (fail)
 refine (sFrame_c _).mono ?_;rintro e w2 ⟨rfl,hw2⟩;have hF:=frame_sl w1;have N2:=N1.alloc (.cells #[.int .i64 1,.int .i64 0,.int .i64 1000,.int .i64 0,.int .i64 1,.int .i64 1000,.int .i64 (-1),.int .i64 0,.int .i64 1000,.int .i64 0,.int .i64 (-1),.int .i64 1000] 136);have H2:=H1.alloc (.cells #[.int .i64 1,.int .i64 0,.int .i64 1000,.int .i64 0,.int .i64 1,.int .i64 1000,.int .i64 (-1),.int .i64 0,.int .i64 1000,.int .i64 0,.int .i64 (-1),.int .i64 1000] 136);have b2:=Xc b1 (.cells #[.int .i64 1,.int .i64 0,.int .i64 1000,.int .i64 0,.int .i64 1,.int .i64 1000,.int .i64 (-1),.int .i64 0,.int .i64 1000,.int .i64 0,.int .i64 (-1),.int .i64 1000] 136);have hsz2:w.heap.size+1<=(w1.alloc (.cells #[.int .i64 1,.int .i64 0,.int .i64 1000,.int .i64 0,.int .i64 1,.int .i64 1000,.int .i64 (-1),.int .i64 0,.int .i64 1000,.int .i64 0,.int .i64 (-1),.int .i64 1000] 136)).heap.size:=by simp only [World.size_alloc];omega
 rw [<- hw2] at hF N2 H2 b2 hsz2;clear hw2 N1 H1 b1 hsz1;generalize w1.heap.size=g1 at *;have hl4:hs.length+ZZ.length<=1073741824:=by simp [ZZ];omega
 go_wp2_with (at_builtin;refine Ku Xx _ rfl _ _ 24 rfl (w.heap.size+1) i0 _ 24 Tryz.underlying24 hi0 hz0 hz1 hz2 rfl (by decide) rfl N2 (some ⟨g1,0,none⟩) 4 rfl hF (λ e=>by cases e) YE bR hsz2 hl4 (by decide) ?_)
 intro v3 w3 N3 hb3;have H3:=H2.keepB hb3 (Nat.lt_succ_self _);have b3:Below w.heap.size w w3:=b2.trans (hb3.mono (Nat.le_succ _));rw [<- hFH] at N3;obtain ⟨A3,k3,rfl,hA3⟩:=N3.sl Xx;clear N3 N2 H2 b2 hsz2 hF hb3 hl4 hFH;go_wp2_with (fail)
 refine (c1 _ _ _ hA3).mono ?_;rintro e w4 ⟨v4,rfl,N4,hb4⟩;have H4:=H3.below hb4;have b4:=Xe b3 hb4;obtain ⟨A4,k4,rfl,hA4⟩:=N4.sl Xx;clear c1 N4 H3 b3 hA3 hb4;have hBl:=Lib.hid (λ(h0:0<L.length)=>hA4.blt h0);have hS5:=hA4.alloc (.cells #[] 136);have hlt0:w.heap.size<w4.heap.size:=H4.1;have H5:=H4.alloc (.cells #[] 136);have b5:=Xc b4 (.cells #[] 136);have N5:XI 136 3 Xd (w4.alloc (.cells #[] 136)) w4.heap.size (.slice (some ⟨w4.heap.size,0,none⟩) 0 0) [] :=
  ⟨_,0,rfl,Sz,.inr ⟨w4.heap.size,0,#[],rfl,Nat.le_refl _,heap_alloc_new w4 _,Nat.zero_le _,Nat.zero_le _,rfl,rfl⟩⟩
 have hgw:w.heap.size<=w4.heap.size:=b4.size;have hgb:w4.heap.size<=(w4.alloc (.cells #[] 136)).heap.size:=Sz
 go_upto_region 3 with fail
 generalize hW:w4.alloc (.cells #[] 136)=wb at *;clear hW H4 b4 hA4;generalize w4.heap.size=gp at *;go_wp2
 go_loopw [4,5,6,16] (λ v4 _ _ i wr=>∃ (k:Nat),k<=L.length/\i=.int .i64 k/\XI 136 3 Xd wr gp v4 ((L.take k).filter (ges L))/\Below gp wb wr) (λ _ _ _ i _=>L.length-(intOf i).toNat)
 case atStart=>exact ⟨0,Nat.zero_le _,rfl,N5,Below.refl _ _⟩
 case round =>
  clear N5;obtain ⟨k,hk,rfl,N,hbr⟩:=hrel;have H0:=H5.keepB hbr hlt0;have bw:Below w.heap.size w wr:=b5.trans (hbr.mono hgw);have hgr:gp<=wr.heap.size:=Nat.le_trans hgb hbr.size;obtain ⟨Ap,cp,rfl,hrp⟩:=N;have N:XI 136 3 Xd wr gp (.slice Ap ((L.take k).filter (ges L)).length cp) ((L.take k).filter (ges L)):=⟨Ap,cp,rfl,hrp⟩;clear hrp;by_cases hlt:k<L.length
  ·have hSr:Sl 3 Xd wr A4 L:=hS5.keepB hbr (hBl.out Oz);obtain ⟨b,off,hA,hblt,hc⟩:=hSr.at_ hlt;have g0:=hc 0 _ rfl;have g1':=hc 1 _ rfl;have g2:=hc 2 _ rfl;simp only [Nat.add_zero] at g0;have hgk:=ZA hlt;rw [<- hgk] at g0 g1' g2;have c2:=λ W h=>sEdge_c A4 L k4 k W hlt Oz HE.out h;have hf1:=hfs.out k hlt;have i1:(k:Int)<(L.length:Int):=Oz
   have hfl3:((L.take k).filter (ges L)).length<=1073741823:=by
    have h1:=List.length_filter_le (ges L) (L.take k);rw [List.length_take] at h1;omega
   clear hc hgk;subst hA;generalize L.getD k Xa=h at *;have HX:=XV.new wr #[.int .i64 h.a,.int .i64 h.b,.int .i64 h.c] 136;have hSx:=hSr.alloc (.cells #[.int .i64 h.a,.int .i64 h.b,.int .i64 h.c] 136);have Nx:=N.alloc (.cells #[.int .i64 h.a,.int .i64 h.b,.int .i64 h.c] 136);have hbx:=hbr.alloc hgr (.cells #[.int .i64 h.a,.int .i64 h.b,.int .i64 h.c] 136);go_upto_region 6 with fail
   generalize hW:wr.alloc (.cells #[.int .i64 h.a,.int .i64 h.b,.int .i64 h.c] 136)=wa at *;have hga:gp<=wa.heap.size:=by rw [<- hW];simp only [World.size_alloc];omega
   clear hW g0 g1' g2 hblt H0 N hbr bw hSr;generalize hgx:wr.heap.size=gx at *;clear hgx;generalize hE:(L.take k).filter (ges L)=E at *;clear hE;cases he:ges L h
   ·rw [he] at c2 hf1;have hf2:=Lib.hid (show (L.take (k+1)).filter (ges L)=E by rw [hf1];simp);clear hf1;go_wp2_with (fail)
    refine (c2 _ hSx).mono ?_;rintro e w5 ⟨rfl,hb5⟩;go_wp2
    go_roundw
    case rel=>exact ⟨k+1,by omega,by go_num,by rw [hf2.out];exact Nx.below hb5 XE,hbx.trans (hb5.mono hga)⟩
    case measure=>simp [intOf];omega
   ·rw [he] at c2 hf1;have hf2:=Lib.hid (show (L.take (k+1)).filter (ges L)=E++[h] by rw [hf1];rfl);clear hf1;go_wp2_with (fail)
    refine (c2 _ hSx).mono ?_;rintro e w5 ⟨rfl,hb5⟩;have N5:=Nx.below hb5 XE;have HX5:=HX.below hb5;have hbx5:Below gp wb w5:=hbx.trans (hb5.mono hga);have lX5:=HX5.1;have hg5:gp<=w5.heap.size:=Nat.le_trans hga hb5.size;clear Nx HX hbx hSx hb5 c2;obtain ⟨cHX5_0,fHX5_0⟩:=HX5.2 0 _ rfl;obtain ⟨cHX5_1,fHX5_1⟩:=HX5.2 1 _ rfl;obtain ⟨cHX5_2,fHX5_2⟩:=HX5.2 2 _ rfl;go_wp2_with (at_builtin;refine Z5 Xx _ rfl _ _ 24 rfl gp i0 _ 24 Tryz.underlying24 hi0 hz0 hz1 hz2 rfl (by decide) rfl (N5.alloc _) _ 1 rfl h ?c1 (YE h) (hbx5.alloc hg5 _) (by simp;omega) hfl3 (by decide) ?_)
    case c1 =>
     intro q u hu;rw [Addr.add_lit,Nat.zero_add];exact ((XV.new_at Sz #[.int .i64 h.a,.int .i64 h.b,.int .i64 h.c] _ rfl).2 q u hu).1
    ·intro v6 w6 hn6 hb6;go_wp2
     go_roundw
     case rel=>exact ⟨k+1,by omega,by go_num,by rw [hf2.out];exact hn6,hb6⟩
     case measure=>simp [intOf];omega
  ·obtain rfl:k=L.length:=Oz
   rw [List.take_length] at N ⊢;have hd0:=hdef.out;have l0:=H0.1;clear hfs HE hBl;obtain ⟨cH0_0,fH0_0⟩:=H0.2 0 _ rfl;generalize L.filter (ges L)=E at *;by_cases hle:E.length<3
   ·have hd1:=Lib.hid (show meetS L=[] by rw [hd0,if_pos hle]);have hle2:(E.length:Int)<3:=Oz
    clear hd0 hdef;go_wp2
    refine bodyPost_ret (v:=.agg #[.slice none 0 0]) (by simp [results,Tryz.results130,go_sem,cH0_0]) rfl ⟨_,rfl, ?_, ?_⟩
    ·rw [hd1.out];exact ⟨none,0,rfl,Sz,.inl ⟨rfl,rfl⟩⟩
    ·exact bw.setCell XE _
   ·have hd1:=Lib.hid (show meetS L=E by rw [hd0,if_neg hle]);have hle2:(3:Int)<=(E.length:Int):=Oz
    clear hd0 hdef;go_wp2
    refine bodyPost_ret (v:=.agg #[.slice Ap E.length cp]) (by simp [results,Tryz.results130,go_sem,cH0_0]) rfl ⟨_,rfl, ?_, ?_⟩
    ·rw [hd1.out];exact (N.set_ hlt0 _).mono hgw
    ·exact bw.setCell XE _
theorem XI.nilcap {α:Type} {T sz base n c:Nat} {enc:α->List Value} {w:World} {A:Option Addr} {xs:List α} (h:XI T sz enc w base (.slice A n c) xs):A=none->c=0:=by
 intro e;obtain ⟨A',cap',e2,h1,h2⟩:=h;injection e2 with e3 _ e4
 subst e3 e4;rcases h2 with ⟨hv,_⟩|⟨g,cap',cur,hv,_⟩
 ·injection hv
 ·injection hv with hA;rw [e] at hA;cases hA
def JU (xs:List Half):Bool:=decide (xs.length<=40)&&xs.all Xt&&YA (Xs xs)
def rfR (xs:List Half):List Half:=if JU xs=true then X0 (Xs xs) else []
def Xb (xs:List Half):Bool:=decide (xs.length=0)||(JU xs&&eqB xs (rfR xs))
theorem all_no {xs:List Half} {k:Nat} (h:k<xs.length) (hb:Xt xs[k]=false):xs.all Xt=false:=by
 rw [List.all_eq_false];exact ⟨_,List.getElem_mem h,by rw [hb];decide⟩
theorem all_yes {xs:List Half} (h:∀ x∈xs.take xs.length,Xt x=true):xs.all Xt=true:=by
 rw [List.take_length] at h;rw [List.all_eq_true];exact h
theorem take_all {xs:List Half} {k:Nat} (h:k<xs.length) (h1:∀ x∈xs.take k,Xt x=true) (h2:Xt xs[k]=true):∀ x∈xs.take (k+1),Xt x=true:=by
 intro x hx;rw [Zj xs k h] at hx;simp only [List.mem_append,List.mem_singleton] at hx;rcases hx with hx|rfl
 ·exact h1 x hx
 ·exact h2
theorem rfR_le (xs:List Half):(rfR xs).length<=40:=by
 simp only [rfR];split
 ·rename_i h
  simp only [JU,YA,Bool.and_eq_true,decide_eq_true_eq] at h;exact h.2
 ·exact Nat.zero_le _
theorem iAreHalves_c (A:Option Addr) (xs:List Half) (cap:Nat) (w:World) (hl:xs.length<=1048576) (hin:∀ h∈xs,h.In) (hs:Sl 3 Xd w A xs) :
 Calls Tryz.prog 137 #[.slice A xs.length cap] w λ e w'=>e=.returned (.bool (xs.all Xt))/\Below w.heap.size w w':=by
 have HI:=Lib.hid hin;clear hin;go_enter Tryz.func137,Tryz.ntmps137
 go_wp2
 go_loopw [2,4,7] (λ v2 _ i wr=>∃ k:Nat,v2=.bool false/\k<=xs.length/\i=.int .i64 k/\Hid (∀ x∈xs.take k,Xt x=true)/\Below w.heap.size w wr) (λ _ _ i _=>xs.length-(intOf i).toNat)
 case atStart=>exact ⟨0,rfl,Nat.zero_le _,rfl,by simp [Hid],Below.refl _ _⟩
 case round =>
  obtain ⟨k,rfl,hk,rfl,htk,hbr⟩:=hrel;by_cases hlt:k<xs.length
  ·obtain ⟨b,off,rfl,hblt,hc⟩:=(hs.below hbr).at_ hlt;have g0:=hc 0 _ rfl;have g1:=hc 1 _ rfl;have g2:=hc 2 _ rfl;simp only [Nat.add_zero] at g0;have c1:=λ W=>JD xs[k] W (HI.out _ (List.getElem_mem hlt));have hbad:=Lib.hid (λ h=>@all_no xs k hlt h);have hgood:=Lib.hid (λ h=>@take_all xs k hlt htk.out h);have i1:(k:Int)<(xs.length:Int):=Oz
   clear hc htk;generalize xs[k]=h at *;cases hv:Xt h
   ·rw [hv] at c1;have h1:=Lib.hid (hbad.out hv);clear hbad hgood;go_wp2_with (fail)
    refine (c1 _).mono ?_;rintro e w1 ⟨rfl,hb1⟩;go_wp2
    go_ret
    refine ⟨Xi h1.out.symm, ?_⟩;exact Xl
   ·rw [hv] at c1;have h1:=Lib.hid (hgood.out hv);clear hbad hgood;go_wp2_with (fail)
    refine (c1 _).mono ?_;rintro e w1 ⟨rfl,hb1⟩;go_wp2
    go_roundw
    case rel=>exact ⟨k+1,rfl,by omega,by go_num,h1,by exact Xl⟩
    case measure=>simp [intOf];omega
  ·obtain rfl:k=xs.length:=Oz
   have h1:=Lib.hid (all_yes htk.out);clear htk;go_wp2
   go_ret
   exact ⟨Xi h1.out.symm,hbr⟩
theorem iRegionFrom_c (A:Option Addr) (xs:List Half) (cap:Nat) (w:World) (hl:xs.length<=1048576) (hin:∀ h∈xs,h.In) (hs:Sl 3 Xd w A xs) (hnil:A=none->cap=0) :
 Calls Tryz.prog 94 #[.slice A xs.length cap] w λ e w'=>∃ v,e=.returned (.tuple #[.agg #[v],.bool (JU xs)])/\XI 136 3 Xd w' w.heap.size v (rfR xs)/\Below w.heap.size w w':=by
 have hdef:=Lib.hid (show JU xs=(decide (xs.length<=40)&&xs.all Xt&&YA (Xs xs))/\rfR xs=if JU xs=true then X0 (Xs xs) else [] from ⟨rfl,rfl⟩);have c1:=λ W h=>iAreHalves_c A xs cap W hl hin h;have H0:XV (w.alloc (.cells #[.slice none 0 0] 26)) w.heap.size [.slice none 0 0]:=by
  exact Ys
 have b0:Below w.heap.size w (w.alloc (.cells #[.slice none 0 0] 26)):=by
  exact Xl
 have hs0:=hs.below b0;by_cases h40:xs.length<=40
 ·cases ha:xs.all Xt
  ·rw [ha] at c1;have h1:=Lib.hid (show JU xs=false by rw [hdef.out.1,ha];simp);have h2:=Lib.hid (show rfR xs=[] by rw [hdef.out.2,h1.out];rfl);have h41:(xs.length:Int)<=40:=Oz
   go_enter Tryz.func94,Tryz.ntmps94
   go_wp2_with (fail)
   refine (c1 _ hs0).mono ?_;rintro e w1 ⟨rfl,hb1⟩;have H1:=H0.below hb1;have b1:=Xe b0 hb1;have l1:=H1.1;obtain ⟨cH1_0,fH1_0⟩:=H1.2 0 _ rfl;go_wp2
   refine bodyPost_ret (v:=.tuple #[.agg #[.slice none 0 0],.bool false]) (by simp [results,Tryz.results94,go_sem,cH1_0]) rfl ⟨_,by rw [h1.out], ?_, ?_⟩
   ·rw [h2.out];exact ⟨none,0,rfl,Sz,.inl ⟨rfl,rfl⟩⟩
   ·exact b1.setCell XE _
  ·rw [ha] at c1;have hok:∀ h∈xs,Xt h=true:=List.all_eq_true.1 ha;have h1:=Lib.hid (show JU xs=YA (Xs xs) by rw [hdef.out.1,ha,decide_eq_true h40];rfl);have h2:=Lib.hid (show rfR xs=XZ (Xs xs) by rw [hdef.out.2,h1.out];rfl);have h41:(xs.length:Int)<=40:=Oz
   have cM:=λ W h=>iMeet_c A xs cap W (by omega) hok h hnil;clear hok hdef ha;go_enter Tryz.func94,Tryz.ntmps94
   go_wp2_with (fail)
   refine (c1 _ hs0).mono ?_;rintro e w1 ⟨rfl,hb1⟩;have H1:=H0.below hb1;have b1:=Xe b0 hb1;have hs1:=hs0.below hb1;clear H0 b0 hs0 hb1;go_wp2_with (fail)
   refine (cM _ hs1).mono ?_;rintro e w2 ⟨v2,rfl,N2,hb2⟩;have H2:=H1.below hb2;have b2:=Xe b1 hb2;have l2:=H2.1;have lw:=H1.1;obtain ⟨A2,k2,rfl,hr2⟩:=N2;have N2:XI 136 3 Xd w2 w1.heap.size (.slice A2 (XZ (Xs xs)).length k2) (XZ (Xs xs)):=⟨A2,k2,rfl,hr2⟩;clear hr2 hb2 H1;generalize XZ (Xs xs)=Z at *;generalize YA (Xs xs)=ok at *;obtain ⟨cH2_0,fH2_0⟩:=H2.2 0 _ rfl;go_wp2
   refine bodyPost_ret (v:=.tuple #[.agg #[.slice A2 Z.length k2],.bool ok]) (by simp [results,Tryz.results94,go_sem,cH2_0]) rfl ⟨_,by rw [h1.out], ?_, ?_⟩
   ·rw [h2.out];exact (N2.set_ (by simp only;omega) _).mono Oz
   ·exact b2.setCell XE _
 ·have h1:=Lib.hid (show JU xs=false by rw [hdef.out.1,decide_eq_false h40];rfl);have h2:=Lib.hid (show rfR xs=[] by rw [hdef.out.2,h1.out];rfl);have h41:(40:Int)<(xs.length:Int):=Oz
  go_enter Tryz.func94,Tryz.ntmps94
  go_wp2
  refine bodyPost_ret (v:=.tuple #[.agg #[.slice none 0 0],.bool false]) (by simp [results,Tryz.results94,go_sem]) rfl ⟨_,by rw [h1.out], ?_, ?_⟩
  ·rw [h2.out];exact ⟨none,0,rfl,Sz,.inl ⟨rfl,rfl⟩⟩
  ·exact Xl
theorem sFitL_c (A:Option Addr) (xs:List Half) (cap:Nat) (w:World) (hl:xs.length<=1000000) (hok:∀ h∈xs,Xt h=true) (hs:Sl 3 Xd w A xs) (hnil:A=none->cap=0) :
 Calls Tryz.prog 186 #[.slice A xs.length cap] w λ e w'=>∃ v,e=.returned (.tuple #[.agg #[v],.bool (YA (Xs xs))])/\XI 136 3 Xd w' w.heap.size v (XZ (Xs xs))/\Below w.heap.size w w':=by
 have hdef:=Lib.hid (show YA (Xs xs)=decide ((X0 (Xs xs)).length<=40)/\XZ (Xs xs)=if YA (Xs xs)=true then X0 (Xs xs) else [] from ⟨rfl,rfl⟩);have c1:=λ W h=>sMake_c A xs cap W hl hok h hnil;have H0:XV (w.alloc (.cells #[.slice none 0 0] 26)) w.heap.size [.slice none 0 0]:=by
  exact Ys
 have b0:Below w.heap.size w (w.alloc (.cells #[.slice none 0 0] 26)):=by
  exact Xl
 have hs0:=hs.below b0;clear hok;go_enter Tryz.func186,Tryz.ntmps186
 go_wp2_with (fail)
 refine (c1 _ hs0).mono ?_;rintro e w1 ⟨v1,rfl,N1,hb1⟩;have H1:=H0.below hb1;have b1:=Xe b0 hb1;have l1:=H1.1;obtain ⟨A2,k2,rfl,hr2⟩:=N1;have N1:XI 136 3 Xd w1 (w.alloc (.cells #[.slice none 0 0] 26)).heap.size (.slice A2 (X0 (Xs xs)).length k2) (X0 (Xs xs)):=⟨A2,k2,rfl,hr2⟩;rw [World.size_alloc] at N1;have hd0:=hdef.out.1;have hd3:=hdef.out.2;clear hr2 hb1 H0 b0 c1 hdef;generalize X0 (Xs xs)=Z at *;have H2:=H1.alloc (.cells #[.slice A2 Z.length k2] 26);have N2:=N1.alloc (.cells #[.slice A2 Z.length k2] 26);have b2:=Xc b1 (.cells #[.slice A2 Z.length k2] 26);have HX:=XV.new w1 #[.slice A2 Z.length k2] 26;have l2:=H2.1;have lX:=HX.1;go_upto_region 2 with fail
 generalize hW:w1.alloc (.cells #[.slice A2 Z.length k2] 26)=wa at *;clear hW H1 N1 b1;generalize w1.heap.size=gx at *;obtain ⟨cH2_0,fH2_0⟩:=H2.2 0 _ rfl;obtain ⟨cHX_0,fHX_0⟩:=HX.2 0 _ rfl;by_cases hle:Z.length<=40
 ·have h1:=Lib.hid (show YA (Xs xs)=true by rw [hd0];exact decide_eq_true hle);have h2:=Lib.hid (show XZ (Xs xs)=Z by rw [hd3,h1.out];rfl);have hle2:(Z.length:Int)<=40:=Oz
  clear hd0 hd3;go_wp2
  refine bodyPost_ret (v:=.tuple #[.agg #[.slice A2 Z.length k2],.bool true]) (by simp [results,Tryz.results186,go_sem,cH2_0]) rfl ⟨_,by rw [h1.out], ?_, ?_⟩
  ·rw [h2.out];exact (N2.set_ (by simp only;omega) _).mono Oz
  ·exact b2.setCell XE _
 ·have h1:=Lib.hid (show YA (Xs xs)=false by rw [hd0];exact decide_eq_false hle);have h2:=Lib.hid (show XZ (Xs xs)=[] by rw [hd3,h1.out];rfl);have hle2:(40:Int)<(Z.length:Int):=Oz
  clear hd0 hd3;go_wp2
  refine bodyPost_ret (v:=.tuple #[.agg #[.slice none 0 0],.bool false]) (by simp [results,Tryz.results186,go_sem,cH2_0]) rfl ⟨_,by rw [h1.out], ?_, ?_⟩
  ·rw [h2.out];exact ⟨none,0,rfl,Sz,.inl ⟨rfl,rfl⟩⟩
  ·exact b2.setCell XE _
theorem sRegionFrom_c (A:Option Addr) (xs:List Half) (cap:Nat) (w:World) (hl:xs.length<=1048576) (hin:∀ h∈xs,h.In) (hs:Sl 3 Xd w A xs) (hnil:A=none->cap=0) :
 Calls Tryz.prog 163 #[.slice A xs.length cap] w λ e w'=>∃ v,e=.returned (.tuple #[.agg #[v],.bool (JU xs)])/\XI 136 3 Xd w' w.heap.size v (rfR xs)/\Below w.heap.size w w':=by
 have hdef:=Lib.hid (show JU xs=(decide (xs.length<=40)&&xs.all Xt&&YA (Xs xs))/\rfR xs=if JU xs=true then X0 (Xs xs) else [] from ⟨rfl,rfl⟩);have H0:XV (w.alloc (.cells #[.slice none 0 0] 26)) w.heap.size [.slice none 0 0]:=by
  exact Ys
 have b0:Below w.heap.size w (w.alloc (.cells #[.slice none 0 0] 26)):=by
  exact Xl
 have hs0:=hs.below b0;by_cases h40:xs.length<=40
 ·have h41:(xs.length:Int)<=40:=Oz
  have HI:=Lib.hid hin;clear hin;go_enter Tryz.func163,Tryz.ntmps163
  go_wp2
  go_loopw [3,5,12] (λ v2 _ i wr=>∃ k:Nat,v2=.bool false/\k<=xs.length/\i=.int .i64 k/\Hid (∀ x∈xs.take k,Xt x=true)/\Below (w.alloc (.cells #[.slice none 0 0] 26)).heap.size (w.alloc (.cells #[.slice none 0 0] 26)) wr) (λ _ _ i _=>xs.length-(intOf i).toNat)
  case atStart=>exact ⟨0,rfl,Nat.zero_le _,rfl,by simp [Hid],Below.refl _ _⟩
  case round =>
   obtain ⟨k,rfl,hk,rfl,htk,hbr⟩:=hrel;have H1:=H0.below hbr;have b1:=Xe b0 hbr;have hs1:=hs0.below hbr;have l1:=H1.1;by_cases hlt:k<xs.length
   ·obtain ⟨b,off,rfl,hblt,hc⟩:=hs1.at_ hlt;have g0:=hc 0 _ rfl;have g1:=hc 1 _ rfl;have g2:=hc 2 _ rfl;simp only [Nat.add_zero] at g0;have c1:=λ W=>JY xs[k] W (HI.out _ (List.getElem_mem hlt));have hbad:=Lib.hid (λ h=>@all_no xs k hlt h);have hgood:=Lib.hid (λ h=>@take_all xs k hlt htk.out h);have i1:(k:Int)<(xs.length:Int):=Oz
    clear hc htk;generalize xs[k]=h at *;cases hv:Xt h
    ·rw [hv] at c1;have h1:=Lib.hid (show JU xs=false by rw [hdef.out.1,hbad.out hv];simp);have h2:=Lib.hid (show rfR xs=[] by rw [hdef.out.2,h1.out];rfl);clear hbad hgood;go_wp2_with (fail)
     refine (c1 _).mono ?_;rintro e w1 ⟨rfl,hb1⟩;have b3:Below wr.heap.size wr w1:=by exact Xl
     have H2:=H1.below b3;have b2:=Xe b1 b3;have l2:=H2.1;obtain ⟨cH2_0,fH2_0⟩:=H2.2 0 _ rfl;go_wp2
     refine bodyPost_ret (v:=.tuple #[.agg #[.slice none 0 0],.bool false]) (by simp [results,Tryz.results163,go_sem,cH2_0]) rfl ⟨_,by rw [h1.out], ?_, ?_⟩
     ·rw [h2.out];exact ⟨none,0,rfl,Sz,.inl ⟨rfl,rfl⟩⟩
     ·exact b2.setCell XE _
    ·rw [hv] at c1;have h1:=Lib.hid (hgood.out hv);clear hbad hgood;go_wp2_with (fail)
     refine (c1 _).mono ?_;rintro e w1 ⟨rfl,hb1⟩;go_wp2
     go_roundw
     case rel=>exact ⟨k+1,rfl,by omega,by go_num,h1,by exact Xl⟩
     case measure=>simp [intOf];omega
   ·obtain rfl:k=xs.length:=Oz
    have ha:xs.all Xt=true:=all_yes htk.out;have hok:∀ h∈xs,Xt h=true:=List.all_eq_true.1 ha;have h1:=Lib.hid (show JU xs=YA (Xs xs) by rw [hdef.out.1,ha,decide_eq_true h40];rfl);have h2:=Lib.hid (show rfR xs=XZ (Xs xs) by rw [hdef.out.2,h1.out];rfl);have cM:=λ W h=>sFitL_c A xs cap W (by omega) hok h hnil;clear htk ha hok hdef;go_wp2_with (fail)
    refine (cM _ hs1).mono ?_;rintro e w2 ⟨v2,rfl,N2,hb2⟩;have H2:=H1.below hb2;have b2:=Xe b1 hb2;have l2:=H2.1;have lw:=H1.1;obtain ⟨A2,k2,rfl,hr2⟩:=N2;have N2:XI 136 3 Xd w2 wr.heap.size (.slice A2 (XZ (Xs xs)).length k2) (XZ (Xs xs)):=⟨A2,k2,rfl,hr2⟩;clear hr2 hb2 H1;generalize XZ (Xs xs)=Z at *;generalize YA (Xs xs)=ok at *;obtain ⟨cH2_0,fH2_0⟩:=H2.2 0 _ rfl;go_wp2
    refine bodyPost_ret (v:=.tuple #[.agg #[.slice A2 Z.length k2],.bool ok]) (by simp [results,Tryz.results163,go_sem,cH2_0]) rfl ⟨_,by rw [h1.out], ?_, ?_⟩
    ·rw [h2.out];exact (N2.set_ (by simp only;omega) _).mono Oz
    ·exact b2.setCell XE _
 ·have h1:=Lib.hid (show JU xs=false by rw [hdef.out.1,decide_eq_false h40];rfl);have h2:=Lib.hid (show rfR xs=[] by rw [hdef.out.2,h1.out];rfl);have h41:(40:Int)<(xs.length:Int):=Oz
  go_enter Tryz.func163,Tryz.ntmps163
  go_wp2
  refine bodyPost_ret (v:=.tuple #[.agg #[.slice none 0 0],.bool false]) (by simp [results,Tryz.results163,go_sem]) rfl ⟨_,by rw [h1.out], ?_, ?_⟩
  ·rw [h2.out];exact ⟨none,0,rfl,Sz,.inl ⟨rfl,rfl⟩⟩
  ·exact Xl
theorem KJ (p:List Half) (a:Zi) (w:World) :
 Calls Tryz.prog 8 #[Yi p a] w λ e w'=>e=.returned (.bool (decide (p.length=0)))/\Below w.heap.size w w':=by
 go_enter Tryz.func8,Tryz.ntmps8
 go_wp2
 go_ret
 refine ⟨Xi (by rw [Bool.eq_iff_iff];simp), ?_⟩;exact Xl
theorem Yh (p:List Half) (a:Zi) (w:World) :
 Calls Tryz.prog 134 #[Yi p a] w λ e w'=>e=.returned (.bool (decide (p.length=0)))/\Below w.heap.size w w':=by
 go_enter Tryz.func134,Tryz.ntmps134
 go_wp2
 go_ret
 refine ⟨Xi (by rw [Bool.eq_iff_iff];simp), ?_⟩;exact Xl
theorem iRegionOk_c (p:List Half) (a:Zi) (w:World) (hl:p.length<=1048576) (hin:∀ h∈p,h.In) (hs:Sl 3 Xd w a.A p) (hnil:a.A=none->a.c=0) :
 Calls Tryz.prog 39 #[Yi p a] w λ e w'=>e=.returned (.bool (Xb p))/\Below w.heap.size w w':=by
 have hdef:=Lib.hid (show Xb p=(decide (p.length=0)||(JU p&&eqB p (rfR p))) from rfl);by_cases h0:p.length=0
 ·have h1:=Lib.hid (show Xb p=true by rw [hdef.out,decide_eq_true h0];rfl);have h0':((p.length:Int) == 0)=true:=by simp [h0]
  clear h0;go_enter Tryz.func39,Tryz.ntmps39
  go_wp2
  go_ret
  refine ⟨Xi h1.out.symm, ?_⟩;exact Xl
 ·have h1:=Lib.hid (show Xb p=(JU p&&eqB p (rfR p)) by rw [hdef.out,decide_eq_false h0];rfl);have h0':((p.length:Int) == 0)=false:=by simpa using h0
  have c1:=λ W h=>iRegionFrom_c a.A p a.c W hl hin h hnil;clear h0 hdef hin;go_enter Tryz.func39,Tryz.ntmps39
  go_wp2_with (fail)
  refine (c1 _ (Sl.below hs (by exact Xl))).mono ?_;rintro e w1 ⟨v1,rfl,N1,hb1⟩;have r1:=Xh hb1;have l1:w.heap.size<w1.heap.size:=blt hb1 Sz;have b1:Below w.heap.size w w1:=by exact Xl
  obtain ⟨A2,k2,rfl,S1⟩:=N1.sl (λ _=>rfl);have hS:=Lib.hid S1;have hle:=Lib.hid (rfR_le p);clear S1 c1 N1;cases hv:JU p
  ·have h2:=Lib.hid (show Xb p=false by rw [h1.out,hv];rfl);clear h1;go_wp2
   go_ret
   refine ⟨Xi h2.out.symm, ?_⟩;exact Xl
  ·have h2:=Lib.hid (show Xb p=eqB p (rfR p) by rw [h1.out,hv];rfl);clear h1;have c2:=λ W h h'=>iSameRegion_c p (rfR p) a ⟨A2,k2⟩ W hl (Nat.le_trans hle.out (by omega)) h h';go_wp2_with (fail)
   refine (c2 _ (Sl.below hs (by exact Xl)) (Sl.below hS.out (by exact Xl))).mono ?_;rintro e w2 ⟨rfl,hb2⟩;go_wp2
   go_ret
   refine ⟨Xi h2.out.symm, ?_⟩;exact Xl
theorem XY (p:List Half) (a:Zi) (w:World) (hl:p.length<=1048576) (hin:∀ h∈p,h.In) (hs:Sl 3 Xd w a.A p) (hnil:a.A=none->a.c=0) :
 Calls Tryz.prog 133 #[Yi p a] w λ e w'=>e=.returned (.bool (Xb p))/\Below w.heap.size w w':=by
 have hdef:=Lib.hid (show Xb p=(decide (p.length=0)||(JU p&&eqB p (rfR p))) from rfl);have c1:=λ W h=>sRegionFrom_c a.A p a.c W hl hin h hnil;clear hin hnil;go_enter Tryz.func133,Tryz.ntmps133
 go_wp2_with (fail)
 refine (c1 _ (Sl.below hs (by exact Xl))).mono ?_;rintro e w1 ⟨v1,rfl,N1,hb1⟩;have r1:=Xh hb1;have l1:w.heap.size<w1.heap.size:=blt hb1 Sz;have b1:Below w.heap.size w w1:=by exact Xl
 obtain ⟨A2,k2,rfl,S1⟩:=N1.sl (λ _=>rfl);have hS:=Lib.hid S1;have hle:=Lib.hid (rfR_le p);clear S1 c1 N1;by_cases h0:p.length=0
 ·have h1:=Lib.hid (show Xb p=true by rw [hdef.out,decide_eq_true h0];rfl);have h0':((p.length:Int) == 0)=true:=by simp [h0]
  clear h0;go_wp2
  go_ret
  refine ⟨Xi h1.out.symm, ?_⟩;exact Xl
 ·have h1:=Lib.hid (show Xb p=(JU p&&eqB p (rfR p)) by rw [hdef.out,decide_eq_false h0];rfl);have h0':((p.length:Int) == 0)=false:=by simpa using h0
  clear h0;cases hv:JU p
  ·have h2:=Lib.hid (show Xb p=false by rw [h1.out,hv];rfl);clear h1;go_wp2
   go_ret
   refine ⟨Xi h2.out.symm, ?_⟩;exact Xl
  ·have h2:=Lib.hid (show Xb p=eqB p (rfR p) by rw [h1.out,hv];rfl);clear h1;have c2:=λ W h h'=>sSameRegion_c p (rfR p) a ⟨A2,k2⟩ W hl (Nat.le_trans hle.out (by omega)) h h';go_wp2_with (fail)
   refine (c2 _ (Sl.below hs (by exact Xl)) (Sl.below hS.out (by exact Xl))).mono ?_;rintro e w2 ⟨rfl,hb2⟩;go_wp2
   go_ret
   refine ⟨Xi h2.out.symm, ?_⟩;exact Xl
end Go.Proofs.YtbekjpkcicjcgaaGreat
