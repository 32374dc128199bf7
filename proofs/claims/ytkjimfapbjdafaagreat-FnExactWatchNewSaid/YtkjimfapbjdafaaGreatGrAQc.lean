/-
 Words on memory that the contracts of this claim use: a slice that reads as a list of structs, a slice of the call's own.
 Conditions: none.
-/
import Derived.Test.YtkjimfapbjdafaaGreatRows
import Derived.WalkKit
import Derived.WalkSpells
import Derived.WalkLawsBesides
import Derived.Deep.Draws
import Derived.Lib.Hide
import Derived.Deep.Slices
import Derived.Deep.Fields
import Derived.ChangeSame
import Derived.ArgAppend
import Derived.Test.YtkjimfapbjdafaaGreatGeo9Qj
import Derived.Test.YtkjimfapbjdafaaGreatGrXaQr
set_option maxHeartbeats 4000000
set_option maxRecDepth 100000
namespace Go.Proofs.YtkjimfapbjdafaaGreat
open Go.RowKit
section
variable {α:Type} {sz:Nat} {enc:α->List Value} {w w':World} {A:Option Addr} {xs:List α}
end
section
variable {α:Type} {T sz:Nat} {enc:α->List Value} {w w':World} {v:Value} {xs:List α} {base:Nat}
end
section
variable {α:Type} {T sz:Nat} {enc:α->List Value} {w w':World} {g N k:Nat} {xs:List α}
end
section
variable {w w':World} {g:Nat} {vs:List Value}
end
abbrev watchV (x:Jf) (a:Jn):Value:=.agg #[.slice a.room.map.A (List.length x.room.map) a.room.map.c,.int .i64 x.room.div,.int .i64 x.room.bx,.int .i64 x.room.by_,.int .i64 x.room.low,.int .i64 x.room.high,.slice a.room.noise.A (List.length x.room.noise) a.room.noise.c,.slice a.room.limits.A (List.length x.room.limits) a.room.limits.c,.slice a.reg.A (List.length x.reg) a.reg.c,.slice a.log.A (List.length x.log) a.log.c]
def Zx (x:Jf):Nat:=List.length x.room.map+List.length x.room.noise+List.length x.room.limits+List.length x.reg+List.length x.log
section
variable {α:Type} {X:α->α->Int} {D:α->α->α->Int} {L:List α}
end
section
variable {l:List Half}
end
theorem corners_ok {p:List Half} (hr:Xf p=true):∀ s∈Yk p,Xu s=true:=by
 intro s hs;obtain ⟨i,hi,rfl⟩:=List.mem_map.1 hs;exact (reg_corner hr (List.mem_range.1 hi)).ok
def ZC (p q:List Half):Bool:=(Yk p).all (Ze q)
theorem within_no {C:List Ya} {q:List Half} {k:Nat} (h:k<C.length) (hb:Ze q C[k]=false):C.all (Ze q)=false:=by
 rw [List.all_eq_false];exact ⟨_,List.getElem_mem h,by rw [hb];decide⟩
theorem iWithin_c (p q:List Half) (a b:ZY) (w:World) (hp:Xf p=true) (hq:Xf q=true) (hsp:Sl 3 Xk w a.A p) (hsq:Sl 3 Xk w b.A q) :
 Calls Tryz.prog 174 #[Zb p a,Zb q b] w λ e w'=>e=.returned (.bool (ZC p q))/\Below w.heap.size w w':=by
 have hdef:=Lib.hid (show ZC p q=(Yk p).all (Ze q) from rfl);have hlp:=YX hp;have hlq:=YX hq;have hcl:(Yk p).length<=40:=by rw [Kz];exact hlp
 have hco:=Lib.hid (corners_ok hp);obtain ⟨W,hW⟩:∃ W,W=(w.alloc (.cells #[.slice a.A p.length a.c] 37)).alloc (.cells #[.slice b.A q.length b.c] 37):=⟨_,rfl⟩;have HA:YI W w.heap.size [.slice a.A p.length a.c]:=by rw [hW];exact Zp
 have HB:YI W (w.heap.size+1) [.slice b.A q.length b.c]:=by rw [hW];exact Zp
 have b0:Below w.heap.size w W:=by rw [hW];exact XA
 have sp:=hsp.below b0;have sq:=hsq.below b0;have hW':=Lib.hid hW;have kc:=iCorners_c p a W hp sp;clear hW hsp hsq;obtain ⟨cHA_0,fHA_0⟩:=HA.2 0 _ rfl;have lA:=HA.1;generalize Yk p=C at *;go_enter Tryz.func174,Tryz.ntmps174
 go_upto_region 1 with fail
 rw [<- hW'.out];clear hW';go_wp2_with (fail)
 refine kc.mono ?_;rintro e w1 ⟨v,rfl,N,hb1⟩;obtain ⟨Ac,cc,rfl,SC⟩:=N.sl Zt;have HB1:=HB.below hb1;have SQ:=sq.below hb1;have b1:=Xn b0 hb1;clear N HA HB sp sq hb1 cHA_0 fHA_0 lA kc b0;go_wp2
 go_loopw [6,10] (λ _ i wr=>∃ k:Nat,k<=C.length/\i=.int .i64 k/\(C.take k).all (Ze q)=true/\Below w1.heap.size w1 wr) (λ _ i _=>C.length-(intOf i).toNat)
 case atStart=>exact ⟨0,Nat.zero_le _,rfl,rfl,Below.refl _ _⟩
 case round =>
  obtain ⟨k,hk,rfl,hall,hbw⟩:=hrel;have bw:=b1.trans (hbw.mono b1.size);by_cases hlt:k<C.length
  ·obtain ⟨bb,off,rfl,hblt,hc⟩:=(SC.below hbw).at_ hlt;have g0:=hc 0 _ rfl;have g1:=hc 1 _ rfl;have g2:=hc 2 _ rfl;simp only [Nat.add_zero] at g0;have c1:=λ W h=>iHolds_c q b C[k] W (by omega) (Kj hq) (hco.out _ (List.getElem_mem hlt)) h;have hn:=Lib.hid (λ h=>@within_no C q k hlt h);have hy:=Lib.hid (λ h=>@within_step C q k hlt hall h);clear hc hall;generalize Ze q C[k]=hv at *;generalize C[k]=s at *;have H1x:=(HB1.below hbw).alloc (.cells #[.int .i64 s.x,.int .i64 s.y,.int .i64 s.d] 44);have SQx:=(SQ.below hbw).alloc (.cells #[.int .i64 s.x,.int .i64 s.y,.int .i64 s.d] 44);have bx:=hbw.alloc hbw.size (.cells #[.int .i64 s.x,.int .i64 s.y,.int .i64 s.d] 44);have TX:=YI.new wr #[.int .i64 s.x,.int .i64 s.y,.int .i64 s.d] 44;go_upto_region 4 with fail
   clear g0 g1 g2 hblt;generalize wr.alloc (.cells #[.int .i64 s.x,.int .i64 s.y,.int .i64 s.d] 44)=wx at *;generalize wr.heap.size=gx at *;obtain ⟨cH1x_0,fH1x_0⟩:=H1x.2 0 _ rfl;obtain ⟨cTX_0,fTX_0⟩:=TX.2 0 _ rfl;obtain ⟨cTX_1,fTX_1⟩:=TX.2 1 _ rfl;obtain ⟨cTX_2,fTX_2⟩:=TX.2 2 _ rfl;have l1:=H1x.1;have lx:=TX.1;cases hv
   ·have hv:=Lib.hid (hn.out rfl);go_wp2_with (fail)
    refine (c1 _ SQx).mono ?_;rintro e w3 ⟨rfl,hb3⟩;go_wp2
    go_ret
    exact ⟨by rw [hdef.out,hv.out];rfl,b1.trans ((Xn bx hb3).mono b1.size)⟩
   ·have hv:=Lib.hid (hy.out rfl);go_wp2_with (fail)
    refine (c1 _ SQx).mono ?_;rintro e w3 ⟨rfl,hb3⟩;go_wp2
    go_roundw
    case rel=>exact ⟨k+1,by omega,by go_num,hv.out,Xn bx hb3⟩
    case measure=>simp [intOf];omega
  ·obtain rfl:k=C.length:=by omega
   rw [List.take_length] at hall;have hv:=Lib.hid hall;clear hall;go_wp2
   go_ret
   exact ⟨by rw [hdef.out,hv.out];rfl,bw⟩
theorem within_stop {C:List Ya} {q:List Half} {k:Nat} (h:k<C.length) (hb:Ze q (C.getD k XU)=false):C.all (Ze q)=false:=by
 rw [getD_el h] at hb;exact within_no h hb
theorem within_void {p q:List Half} (h:p.length=0):ZC p q=true:=by
 unfold ZC;have:Yk p=[]:=List.length_eq_zero_iff.1 (by rw [Kz];exact h);rw [this];rfl
theorem sWithinL_c (p q:List Half) (a b:ZY) (w:World) (hp:Xf p=true) (hq:Xf q=true) (hsp:Sl 3 Xk w a.A p) (hsq:Sl 3 Xk w b.A q) :
 Calls Tryz.prog 227 #[.agg #[.slice a.A p.length a.c],.agg #[.slice b.A q.length b.c]] w λ x w'=>x=.returned (.bool (ZC p q))/\Below w.heap.size w w':=by
 refine YF Tryz.func227 rfl (n:=21) Tryz.ntmps227 (by simp) ?_;intro a0 J D ha;have s0:a0.tmps[0]?.getD undef=.agg #[.slice a.A p.length a.c]:=ha 0 _ rfl;have s1:a0.tmps[1]?.getD undef=.agg #[.slice b.A q.length b.c]:=ha 1 _ rfl;clear ha;have M:=Below.refl w.heap.size w;have R:=Nat.le_refl w.heap.size;refine wp_seq ?_;refine Ys [2,3,4] [.pointer (some ⟨w.heap.size,0,none⟩),.pointer (some ⟨(w.heap.size+1),0,none⟩),.bool false] [some (.cells [.slice a.A p.length a.c].toArray 37),some (.cells [.slice b.A q.length b.c].toArray 37),none] [0,1,2] [2,3,4] [0,1,2] (by kernel_rfl) (by rw [J];decide) (ec ?_ (ec ?_ (ec ?_ .nil))) ?_
 ·intro a w' B hs N Q F;simp [go_sem,B.g rfl s0];rw [hs];exact F
 ·intro a w' B hs N Q F;simp [go_sem,B.g rfl s1];rw [hs];exact F
 ·intro a w' B hs N Q F;simp [go_sem];exact F
 intro a1 w2 B O hb hO;replace J:=B.size.trans J;replace D:=B.defers.trans D;have s2:a1.tmps[2]?.getD undef=.pointer (some ⟨w.heap.size,0,none⟩):=O 0 (by decide);have s3:a1.tmps[3]?.getD undef=.pointer (some ⟨(w.heap.size+1),0,none⟩):=O 1 (by decide);have b3:Xy w2 w.heap.size 37 [.slice a.A p.length a.c]:=hO 0 _ rfl;have b4:Xy w2 (w.heap.size+1) 37 [.slice b.A q.length b.c]:=hO 1 _ rfl;have hG:=b4.lt;replace M:=Xn M hb;have zw2:=Nat.le_trans R hb.size;replace R:=Nat.le_refl w2.heap.size;clear B O hb hO s0 s1;refine Xg (wp_seq (wp_seq ?_));refine Xe (by kernel_rfl) [7,8] [some (.agg #[.slice a.A p.length a.c]),some (.bool (decide (p.length=0)))] (XR 2) [7,8] [0,1] [] (λ _ _ _=>True) (by kernel_rfl) (by rw [J];decide) ?_ (en rfl ?_ (en rfl ?_ .nil)) ?_
 ·exact λ _ _=>trivial
 ·intro S P K H _ _ F;simp [go_sem,H.f.g rfl s2,(b3.k0 H.k).cell];exact (F _ _ H.k rfl trivial)
 ·intro S P K H _ _ F;simp [go_sem,(gS P 7 (H.d 0 rfl rfl))];refine (Y7 p a K).mono ?_;rintro x wx ⟨rfl,hb⟩;exact (F _ _ (H.k.call hb) rfl trivial)
 intro L a5 w6 U B I O T;replace J:=B.Z J;replace D:=B.E D;replace s2:=B.G s2;replace s3:=B.G s3;have s8:=gS a5 8 (O 1 _ rfl);replace b3:=b3.k0 I;replace b4:=b4.k0 I;replace R:=Nat.le_trans R I.size;replace M:=I.below0 M;clear B I O U T;refine Xg ?_;rcases Bool.eq_false_or_eq_true (decide (p.length=0)) with q7|q7
 ·refine wp_cond_true (ev (vb s8 q7)) ?_;refine wp_seq ?_;refine Xe (by kernel_rfl) [4] [some (.bool true)] (XR 1) [4] [0] [] (λ _ _ _=>True) (by kernel_rfl) (by rw [J];decide) ?_ (en rfl ?_ .nil) ?_
  ·exact λ _ _=>trivial
  ·exact Kh rfl rfl
  intro L a8 w9 U B I O T;replace J:=B.Z J;replace D:=B.E D;have s4:=gS a8 4 (O 0 _ rfl);replace R:=Nat.le_trans R I.size;replace M:=I.below0 M;clear B I O U T s2 s3 s8 b3 b4;refine Xg (wp_ret (Yz ?_));refine bodyPost_ret (v:=.bool true) (by simp [results,Tryz.results227,go_sem,s4]) D ?_;exact ⟨by rw [within_void (Z1 q7)],M⟩
 ·refine wp_cond_false (ev (vb s8 q7)) ?_;refine wp_skip (Xg (wp_seq (wp_seq ?_)));have V:Xq [10] (λ L aa K=>(L 1=true->(λ K v=>∃ A1 c1,v=.slice A1 ((Yk p).length) c1/\XI 44 3 Zm K w6.heap.size (.slice A1 (Yk p).length c1) (Yk p)) K (aa.tmps[10]?.getD undef))):=by
   intro L aa K w' kk vv hkk hb T;have x0:=T;exact (λ h=>by rw [Xa (hkk 10 (by simp))];obtain ⟨A1',c1',e,f1'⟩:=x0 h;exact ⟨A1',c1',e,f1'.below hb Xh⟩)
  refine Xl V (by kernel_rfl) [9,10,11,12] [some (.agg #[.slice a.A p.length a.c]),none,some (.int .i64 (((Yk p).length:Nat):Int)),some (.int .i64 0)] (XR 4) [9,10,11,12] [0,1,2,3] [] (by kernel_rfl) (by rw [J];decide) ?_ (en rfl ?_ (en rfl ?_ (en rfl ?_ (en rfl ?_ .nil)))) ?_
  ·exact λ _ h=>(λ h=>by cases h)
  ·intro S P K H _ _ F;simp [go_sem,H.f.g rfl s2,(b3.k0 H.k).cell];exact (F _ _ H.k rfl (V.q rfl H.x))
  ·intro S P K H _ _ F;have x0:=H.x;simp [go_sem,(gS P 9 (H.d 0 rfl rfl))];have hBi:=H.k.below0 M;refine (sCorners_c p a K hp (hsp.below hBi)).mono ?_;rintro x wx ⟨_,rfl,⟨A1,c1,rfl,f0⟩,hb⟩;have f1:=XI.mono (show XI 44 3 Zm wx K.heap.size (.slice A1 (Yk p).length c1) (Yk p) from ⟨_,_,rfl,f0⟩) H.k.size;exact (F _ _ (H.k.call hb) trivial (λ _=>by rw [Xb (H.f.lt (by rw [J];decide))];exact ⟨A1,c1,rfl,f1⟩))
  ·intro S P K H _ _ F;have x0:=H.x;obtain ⟨A1,c1,ee1,f1⟩:=x0 (H.r 1 rfl);simp [go_sem,ee1];exact (F _ _ H.k rfl (V.q rfl H.x))
  ·exact oMCX rfl rfl λ _ _ _ _=>V.q rfl
  intro L a10 w11 U B I O T;have x0:=T;replace J:=B.Z J;replace D:=B.E D;replace s3:=B.G s3;have s11:=gS a10 11 (O 2 _ rfl);have s12:=gS a10 12 (O 3 _ rfl);replace b4:=b4.k0 I;obtain ⟨A1,c1,s10,N1⟩:=x0 (U 1 (by decide));have i1:∀ p,A1=some p->p.block<w11.heap.size:=λ p hp=>(N1.blk p hp).2;have zw6:=R;have zw11:=I.size;replace R:=Nat.le_refl w11.heap.size;replace M:=I.below0 M;clear B I O U x0 V s2 s8 b3;refine Xg (wp_block ?_);refine wp_loop (λ al wl=>al.tmps.size=21/\al.defers=[]/\∃ (k:Nat),(k<=(Yk p).length)/\(((Yk p).take k).all (Ze q)=true)/\al.tmps[3]?.getD undef=.pointer (some ⟨(w.heap.size+1),0,none⟩)/\al.tmps[11]?.getD undef=.int .i64 (((Yk p).length:Nat):Int)/\al.tmps[12]?.getD undef=.int .i64 (k:Int)/\al.tmps[10]?.getD undef=.slice A1 ((Yk p).length) c1/\Xy wl (w.heap.size+1) 37 [.slice b.A q.length b.c]/\XI 44 3 Zm wl w6.heap.size (.slice A1 (Yk p).length c1) (Yk p)/\Below w.heap.size w wl/\w11.heap.size<=wl.heap.size) (λ al _=>((Yk p).length-(intOf (al.tmps[12]?.getD undef)).toNat)) ?_ ?_
  ·exact ⟨J,D,(0),(Nat.zero_le _),(rfl),s3,s11,s12,s10,b4,N1,M,(by omega)⟩
  clear J D M R s3 s11 s12 s10 b4 N1;rintro a12 w13 ⟨J,D,k,hk,hall,s3,s11,s12,s10,b4,N1,M,R⟩;have zw13:=R;replace R:=Nat.le_refl w13.heap.size;have hmu:((Yk p).length-(intOf (a12.tmps[12]?.getD undef)).toNat)=((Yk p).length-(intOf ((.int .i64 (k:Int)))).toNat):=by rw [s12]
  refine wp_seq ?_;refine Xe (by kernel_rfl) [13] [some (.bool (decide ((k:Int)<(((Yk p).length:Nat):Int))))] (XR 1) [13] [0] [] (λ _ _ _=>True) (by kernel_rfl) (by rw [J];decide) ?_ (en rfl ?_ .nil) ?_
  ·exact λ _ _=>trivial
  ·exact λ S P K H _ _ F=>Ye rfl (ev (H.f.g rfl s12)) (ev (H.f.g rfl s11)) rfl rfl (F _ _ H.k rfl trivial)
  intro L a14 w15 U B I O T;replace J:=B.Z J;replace D:=B.E D;replace s3:=B.G s3;replace s11:=B.G s11;replace s12:=B.G s12;replace s10:=B.G s10;have s13:=gS a14 13 (O 0 _ rfl);replace b4:=b4.k0 I;replace N1:=N1.below I.toBelow Xh;replace R:=Nat.le_trans R I.size;replace M:=I.below0 M;clear B I O U T;refine Xg (wp_seq ?_);rcases Bool.eq_false_or_eq_true (decide ((k:Int)<(((Yk p).length:Nat):Int))) with q16|q16
  ·have hkl:k<(Yk p).length:=by have:=Z1 q16;omega
   have hcl:(Yk p).length<=40:=by rw [Kz];exact YX hp
   obtain ⟨bc,oc,ec_,fc⟩:=ElS.open_ (N1.out Zt) (by omega);refine wp_cond_true (ev (vb s13 q16)) ?_;refine wp_skip (Xg (wp_seq (wp_block (wp_seq ?_))));have V:Xq [6] (λ L aa K=>(L 2=true->XS w15 aa K 6 44 [.int .i64 0,.int .i64 0,.int .i64 0] (L 3) (λ _ vs=>vs=[.int .i64 (((Yk p).getD k XU).x),.int .i64 (((Yk p).getD k XU).y),.int .i64 (((Yk p).getD k XU).d)]))):=by
    intro L aa K w' kk vv hkk hb T;have x0:=T;exact (λ h=>((x0 h).bel hb (λ _ h=>h)).put (hkk 6 (by simp)) _)
   refine Xl V (by kernel_rfl) [14,15,6,0] [some (.pointer (some ⟨bc,oc+k*3,none⟩)),some (Yj ((Yk p).getD k XU)),none,none] (XR 4) [14,15,6] [0,1,2,3] [] (by kernel_rfl) (by rw [J];decide) ?_ (en rfl ?_ (en rfl ?_ (en rfl ?_ (en rfl ?_ .nil)))) ?_
   ·exact λ _ h=>(λ h=>by cases h)
   ·intro S P K H _ _ F;simp [go_sem,H.f.g rfl s10,H.f.g rfl s12,hkl,ec_];exact (F _ _ H.k rfl (V.q rfl H.x))
   ·intro S P K H _ _ F;have hE:=fc.kp H.k (by simp);simp [go_sem,(gS P 14 (H.d 0 rfl rfl)),(hE.at_ XU (i:=k) (by omega) 0 (p:=oc+k*3) (by omega) rfl),(hE.at_ XU (i:=k) (by omega) 1 (p:=oc+k*3+1) (by omega) rfl),(hE.at_ XU (i:=k) (by omega) 2 (p:=oc+k*3+2) (by omega) rfl)];exact (F _ _ H.k rfl (V.q rfl H.x))
   ·intro S P K H _ _ F;have x0:=H.x;simp [go_sem];exact F _ _ (H.k.alloc _) trivial (λ _=>by rw [show Y5 S 2 3=false from H.t 3 rfl];exact XS.new (s:=6) (H.f.lt (by rw [J];decide)) H.k.size [.int .i64 0,.int .i64 0,.int .i64 0])
   ·intro S P K H _ _ F;have x0:=H.x;obtain ⟨g,eg,hg,y,_⟩:=x0 (H.r 2 rfl);have X:=y H.n;simp [go_sem,(gS P 15 (H.d 1 rfl rfl)),eg,X.cell,X.frz];exact F undef _ (H.k.store (.inl hg) [.int .i64 (((Yk p).getD k XU).x),.int .i64 (((Yk p).getD k XU).y),.int .i64 (((Yk p).getD k XU).d)] 0) trivial (λ _=>XS.set eg hg X (us:=[.int .i64 (((Yk p).getD k XU).x),.int .i64 (((Yk p).getD k XU).y),.int .i64 (((Yk p).getD k XU).d)]) rfl rfl)
   intro L a17 w18 U B I O T;have x0:=T;replace J:=B.Z J;replace D:=B.E D;replace s3:=B.G s3;replace s11:=B.G s11;replace s12:=B.G s12;replace s10:=B.G s10;replace b4:=b4.k0 I;obtain ⟨g19,s6,lg19,-,b19⟩:=x0 (U 2 (by decide));obtain ⟨_,b19,rfl⟩:=b19 (U 3 (by decide));have ug19:=b19.lt;replace N1:=N1.below I.toBelow Xh;have zw15:=R;have zw18:=I.size;replace R:=Nat.le_refl w18.heap.size;replace M:=I.below0 M;clear B I O U x0 V s13 fc;refine Xg (wp_seq ?_);refine Xe (by kernel_rfl) [16,17,18,19] [some (.agg #[.slice b.A q.length b.c]),some (Yj ((Yk p).getD k XU)),some (.bool (Ze q ((Yk p).getD k XU))),some (.bool (!(Ze q ((Yk p).getD k XU))))] (XR 4) [16,17,18,19] [0,1,2,3] [] (λ _ _ _=>True) (by kernel_rfl) (by rw [J];decide) ?_ (en rfl ?_ (en rfl ?_ (en rfl ?_ (en rfl ?_ .nil)))) ?_
   ·exact λ _ _=>trivial
   ·intro S P K H _ _ F;simp [go_sem,H.f.g rfl s3,(b4.k0 H.k).cell];exact (F _ _ H.k rfl trivial)
   ·intro S P K H _ _ F;simp [go_sem,H.f.g rfl s6,(b19.k0 H.k).cell];exact (F _ _ H.k rfl trivial)
   ·intro S P K H _ _ F;simp [go_sem,(gS P 16 (H.d 0 rfl rfl)),(gS P 17 (H.d 1 rfl rfl))];have hBi:=H.k.below0 M;refine (sHas_c q b ((Yk p).getD k XU) K (by have:=YX hq;omega) (Kj hq) (corners_ok hp _ (JI hkl XU)) (hsq.below hBi)).mono ?_;rintro x wx ⟨rfl,hb⟩;exact (F _ _ (H.k.call hb) rfl trivial)
   ·exact Z4 2 rfl rfl rfl rfl
   intro L a20 w21 U B I O T;replace J:=B.Z J;replace D:=B.E D;replace s3:=B.G s3;replace s11:=B.G s11;replace s12:=B.G s12;replace s10:=B.G s10;have s19:=gS a20 19 (O 3 _ rfl);replace b4:=b4.k0 I;replace N1:=N1.below I.toBelow Xh;replace R:=Nat.le_trans R I.size;replace M:=I.below0 M;clear B I O U T s6 b19;refine Xg ?_;rcases Bool.eq_false_or_eq_true (!(Ze q ((Yk p).getD k XU))) with q22|q22
   ·refine wp_cond_true (ev (vb s19 q22)) ?_;refine wp_seq ?_;refine Xe (by kernel_rfl) [4] [some (.bool false)] (XR 1) [4] [0] [] (λ _ _ _=>True) (by kernel_rfl) (by rw [J];decide) ?_ (en rfl ?_ .nil) ?_
    ·exact λ _ _=>trivial
    ·exact Kh rfl rfl
    intro L a23 w24 U B I O T;replace J:=B.Z J;replace D:=B.E D;have s4:=gS a23 4 (O 0 _ rfl);replace R:=Nat.le_trans R I.size;replace M:=I.below0 M;clear B I O U T s3 s11 s12 s10 s19 b4 N1 i1;refine Xg (wp_ret ?_);refine KQ (Yz (Yz (KQ (Yz ?_))));refine bodyPost_ret (v:=.bool false) (by simp [results,Tryz.results227,go_sem,s4]) D ?_;exact ⟨by unfold ZC;rw [within_stop hkl (Kv q22)],M⟩
   ·refine wp_cond_false (ev (vb s19 q22)) ?_;refine wp_skip ?_;refine ib_n (Xg ?_);refine Xe (by kernel_rfl) [20,12] [some (.int .i64 ((k:Int)+1)),some (.int .i64 ((k:Int)+1))] (XR 2) [20,12] [0,1] [] (λ L aa K=>(L 1=false->aa.tmps[12]?.getD undef=.int .i64 (k:Int))) (by kernel_rfl) (by rw [J];decide) ?_ (en rfl ?_ (en rfl ?_ .nil)) ?_
    ·exact λ _ h=>(λ _=>s12)
    ·intro S P K H _ _ F;have x0:=H.x;exact Zh rfl (ev (x0 (H.t 1 rfl))) rfl (by omega) (F _ _ H.k rfl (λ h=>(Xa (by decide) _).trans (x0 h)))
    ·intro S P K H _ _ F;have x0:=H.x;exact Xv rfl (ev (H.d 0 rfl rfl)) (F _ _ H.k rfl (λ h=>by simp [Y5] at h))
    intro L a25 w26 U B I O T;have x0:=T;replace J:=B.Z J;replace D:=B.E D;replace s3:=B.G s3;replace s11:=B.G s11;replace s10:=B.G s10;have s12:=gS a25 12 (O 1 _ rfl);replace b4:=b4.k0 I;replace N1:=N1.below I.toBelow Xh;replace R:=Nat.le_trans R I.size;replace M:=I.below0 M;clear B I O U x0 s19;refine Xg ?_;refine ⟨?_, ?_⟩
    ·exact ⟨J,D,(k+1),(by omega),(within_next hkl hall (Yn q22)),s3,s11,s12,s10,b4,N1,M,(by omega)⟩
    ·show ((Yk p).length-(intOf (a25.tmps[12]?.getD undef)).toNat)<_;rw [s12,hmu];simp only [intOf];omega
  ·have ek:k=(Yk p).length:=by have:=Xo q16;omega
   rw [ek,List.take_length] at hall;refine wp_cond_false (ev (vb s13 q16)) ?_;refine wp_exit ?_;refine JL (JL (ib_x (Xg (wp_seq ?_))));refine Xe (by kernel_rfl) [4] [some (.bool true)] (XR 1) [4] [0] [] (λ _ _ _=>True) (by kernel_rfl) (by rw [J];decide) ?_ (en rfl ?_ .nil) ?_
   ·exact λ _ _=>trivial
   ·exact Kh rfl rfl
   intro L a27 w28 U B I O T;replace J:=B.Z J;replace D:=B.E D;have s4:=gS a27 4 (O 0 _ rfl);replace R:=Nat.le_trans R I.size;replace M:=I.below0 M;clear B I O U T s3 s11 s12 s10 s13 b4 N1 i1;refine Xg (wp_ret ?_);refine bodyPost_ret (v:=.bool true) (by simp [results,Tryz.results227,go_sem,s4]) D ?_;exact ⟨by unfold ZC;rw [hall],M⟩
theorem sIsWithin_c (p q:List Half) (a b:ZY) (w:World) (hlp:p.length<=1048576) (hip:∀ h∈p,h.In) (hlq:q.length<=1048576) (hiq:∀ h∈q,h.In) (hsp:Sl 3 Xk w a.A p) (hsq:Sl 3 Xk w b.A q) (hna:a.A=none->a.c=0) (hnb:b.A=none->b.c=0) :
 Calls Tryz.prog 172 #[.agg #[.slice a.A p.length a.c],.agg #[.slice b.A q.length b.c]] w λ x w'=>x=.returned (.bool (Xf p&&Xf q&&ZC p q))/\Below w.heap.size w w':=by
 refine YF Tryz.func172 rfl (n:=16) Tryz.ntmps172 (by simp) ?_;intro a0 J D ha;have s0:a0.tmps[0]?.getD undef=.agg #[.slice a.A p.length a.c]:=ha 0 _ rfl;have s1:a0.tmps[1]?.getD undef=.agg #[.slice b.A q.length b.c]:=ha 1 _ rfl;clear ha;have M:=Below.refl w.heap.size w;have R:=Nat.le_refl w.heap.size;refine wp_seq ?_;refine Ys [2,3,4] [.pointer (some ⟨w.heap.size,0,none⟩),.pointer (some ⟨(w.heap.size+1),0,none⟩),.bool false] [some (.cells [.slice a.A p.length a.c].toArray 37),some (.cells [.slice b.A q.length b.c].toArray 37),none] [0,1,2] [2,3,4] [0,1,2] (by kernel_rfl) (by rw [J];decide) (ec ?_ (ec ?_ (ec ?_ .nil))) ?_
 ·intro a w' B hs N Q F;simp [go_sem,B.g rfl s0];rw [hs];exact F
 ·intro a w' B hs N Q F;simp [go_sem,B.g rfl s1];rw [hs];exact F
 ·intro a w' B hs N Q F;simp [go_sem];exact F
 intro a1 w2 B O hb hO;replace J:=B.size.trans J;replace D:=B.defers.trans D;have s2:a1.tmps[2]?.getD undef=.pointer (some ⟨w.heap.size,0,none⟩):=O 0 (by decide);have s3:a1.tmps[3]?.getD undef=.pointer (some ⟨(w.heap.size+1),0,none⟩):=O 1 (by decide);have b3:Xy w2 w.heap.size 37 [.slice a.A p.length a.c]:=hO 0 _ rfl;have b4:Xy w2 (w.heap.size+1) 37 [.slice b.A q.length b.c]:=hO 1 _ rfl;have hG:=b4.lt;replace M:=Xn M hb;have zw2:=Nat.le_trans R hb.size;replace R:=Nat.le_refl w2.heap.size;clear B O hb hO s0 s1;refine Xg (wp_seq ?_);refine Xe (by kernel_rfl) [5,6,7,8,9,10,11,12,13,14,15,4] [some (.agg #[.slice a.A p.length a.c]),some (.bool (Xf p)),some (.bool (Xf p)),some ((bif Xf p then (.agg #[.slice b.A q.length b.c]:Value) else undef)),some ((bif Xf p then (.bool (Xf q):Value) else undef)),some (.bool (Xf p&&Xf q)),some (.bool (Xf p&&Xf q)),some ((bif (Xf p&&Xf q) then (.agg #[.slice a.A p.length a.c]:Value) else undef)),some ((bif (Xf p&&Xf q) then (.agg #[.slice b.A q.length b.c]:Value) else undef)),some ((bif (Xf p&&Xf q) then (.bool (ZC p q):Value) else undef)),some (.bool ((Xf p&&Xf q)&&ZC p q)),some (.bool ((Xf p&&Xf q)&&ZC p q))] (XR 12) [5,6,7,8,9,10,11,12,13,14,15,4] [0,1,2,3,4,5,6,7,8,9,10,11] [] (λ _ _ _=>True) (by kernel_rfl) (by rw [J];decide) ?_ (en rfl ?_ (en rfl ?_ (en rfl ?_ (eg ?_ (eg ?_ (en rfl ?_ (en rfl ?_ (eg ?_ (eg ?_ (eg ?_ (en rfl ?_ (en rfl ?_ .nil)))))))))))) ?_
 ·exact λ _ _=>trivial
 ·intro S P K H _ _ F;simp [go_sem,H.f.g rfl s2,(b3.k0 H.k).cell];exact (F _ _ H.k rfl trivial)
 ·intro S P K H _ _ F;simp [go_sem,(gS P 5 (H.d 0 rfl rfl))];have hBi:=H.k.below0 M;refine (YC p a K hlp hip (hsp.below hBi) hna).mono ?_;rintro x wx ⟨rfl,hb⟩;exact (F _ _ (H.k.call hb) rfl trivial)
 ·exact Zy 1 rfl rfl rfl rfl
 ·intro S P K H _ _ F;refine wgt rfl rfl rfl (H.d 2 rfl rfl) (λ qg=>F _ _ H.k (Xp qg).symm trivial) λ qg=>?_;simp [go_sem,H.f.g rfl s3,(b4.k0 H.k).cell];exact (F _ _ H.k (Xt qg).symm trivial)
 ·intro S P K H _ _ F;refine wgt rfl rfl rfl (H.d 2 rfl rfl) (λ qg=>F _ _ H.k (Xp qg).symm trivial) λ qg=>?_;simp [go_sem,(show P.tmps[8]?.getD undef=_ from (H.d 3 rfl rfl).trans (Xt qg))];have hBi:=H.k.below0 M;refine (YC q b K hlq hiq (hsq.below hBi) hnb).mono ?_;rintro x wx ⟨rfl,hb⟩;exact (F _ _ (H.k.call hb) (Xt qg).symm trivial)
 ·exact λ S P K H _ _ F=>YY rfl (ev (H.d 2 rfl rfl)) (λ h=>(ev ((H.d 4 rfl rfl).trans (Xt h))).trans (JJ h)) (λ h=>JK h) (F _ _ H.k rfl trivial)
 ·exact Zy 5 rfl rfl rfl rfl
 ·intro S P K H _ _ F;refine wgt rfl rfl rfl (H.d 6 rfl rfl) (λ qg=>F _ _ H.k (Xp qg).symm trivial) λ qg=>?_;simp [go_sem,H.f.g rfl s2,(b3.k0 H.k).cell];exact (F _ _ H.k (Xt qg).symm trivial)
 ·intro S P K H _ _ F;refine wgt rfl rfl rfl (H.d 6 rfl rfl) (λ qg=>F _ _ H.k (Xp qg).symm trivial) λ qg=>?_;simp [go_sem,H.f.g rfl s3,(b4.k0 H.k).cell];exact (F _ _ H.k (Xt qg).symm trivial)
 ·intro S P K H _ _ F;refine wgt rfl rfl rfl (H.d 6 rfl rfl) (λ qg=>F _ _ H.k (Xp qg).symm trivial) λ qg=>?_;simp [go_sem,(show P.tmps[12]?.getD undef=_ from (H.d 7 rfl rfl).trans (Xt qg)),(show P.tmps[13]?.getD undef=_ from (H.d 8 rfl rfl).trans (Xt qg))];have hBi:=H.k.below0 M;refine (sWithinL_c p q a b K (and_t1 qg) (and_t2 qg) (hsp.below hBi) (hsq.below hBi)).mono ?_;rintro x wx ⟨rfl,hb⟩;exact (F _ _ (H.k.call hb) (Xt qg).symm trivial)
 ·exact λ S P K H _ _ F=>YY rfl (ev (H.d 6 rfl rfl)) (λ h=>(ev ((H.d 9 rfl rfl).trans (Xt h))).trans (JJ h)) (λ h=>JK h) (F _ _ H.k rfl trivial)
 ·exact Kb 10 rfl rfl rfl rfl
 intro L a5 w6 U B I O T;replace J:=B.Z J;replace D:=B.E D;have s4:=gS a5 4 (O 11 _ rfl);replace R:=Nat.le_trans R I.size;replace M:=I.below0 M;clear B I O U T s2 s3 b3 b4;refine Xg (wp_ret ?_);refine bodyPost_ret (v:=.bool ((Xf p&&Xf q)&&ZC p q)) (by simp [results,Tryz.results172,go_sem,s4]) D ?_;exact ⟨rfl,M⟩
end Go.Proofs.YtkjimfapbjdafaaGreat
