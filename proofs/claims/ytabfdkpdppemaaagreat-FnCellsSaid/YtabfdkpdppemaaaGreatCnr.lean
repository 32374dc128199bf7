/-
 Crossings and corners of valid regions: of the program and of the reference.
 Conditions: valid regions.
-/
import Derived.Deep.RegionHeld3
import Derived.Deep.DeepMust
import Derived.Deep.DeepCutAuto
import Derived.Lib.SliceRun
import Derived.Test.YtabfdkpdppemaaaGreatGrW
import Derived.Test.YtabfdkpdppemaaaGreatGrU
import Derived.Laws.StructEq
import Derived.ProofKit
import Derived.OpenShut
import Derived.ChangeOld
import Derived.Below
import Derived.Test.YtabfdkpdppemaaaGreatRoom
import Derived.Deep.DrawnRows
import Derived.RegionTactic
import Derived.ChangeAlike
set_option maxHeartbeats 4000000
set_option maxRecDepth 100000
namespace Go.Proofs.YtabfdkpdppemaaaGreat
open Go.RowKit
theorem spotC_one' (t:XQ):∀ u∈J7 t,u.oneCell'=true:=by
 intro u hu;simp [J7] at hu;rcases hu with rfl|rfl|rfl<;>rfl
theorem HOk.in_ {h:Half} (o:HOk h):h.In:=⟨⟨by have:=o.a;omega,by have:=o.a;omega⟩,⟨by have:=o.b;omega,by have:=o.b;omega⟩,⟨by have:=o.c;omega,by have:=o.c;omega⟩⟩
theorem below_cells3 {B:Nat} {a w:World} (h:Below B a w) {g:Nat} (hg:B<=g) {x y z:Value}:Below B a (((w.setCell ⟨g,0,none⟩ x).setCell ⟨g,1,none⟩ y).setCell ⟨g,2,none⟩ z) :=
 ((h.setCell (p:=⟨g,0,none⟩) hg x).setCell (p:=⟨g,1,none⟩) hg y).setCell (p:=⟨g,2,none⟩) hg z
theorem iCrossingOf_c (g h:Half) (s:XQ) (w:World) (hg:XG g=true) (hh:XG h=true) (hx:0<XI g h) (hs:Zw (crX g h) (crY g h) (Jg g h)=some s) :
 Calls Tryz.prog 200 #[YN g,YN h] w λ e w'=>e=.returned (.tuple #[YQ s,.bool true])/\Below w.heap.size w w':=by
 have o1:=hOk hg;have o2:=hOk hh;have B:=crsB o1 o2;have c1:=λ W=>iHalfOk_c g W o1.in_;have c2:=λ W=>iHalfOk_c h W o2.in_;have c3:=λ W=>iCrossing_c g h W o1 o2;have c4:=λ W=>iSpotOf_c (crX g h) (crY g h) (Jg g h) W ⟨by have:=B.x;omega,by have:=B.x;omega⟩ ⟨by have:=B.y;omega,by have:=B.y;omega⟩ ⟨by have:=B.d;omega,by have:=B.d;omega⟩;rw [hg] at c1;rw [hh] at c2;rw [hs] at c4;rw [show (!(XI g h == 0))=true by simp;omega] at c3;simp only [optSpotV] at c4;clear hs hx B o1 o2 hg hh;generalize crX g h=X at *;generalize crY g h=Y at *;generalize Jg g h=D at *;go_enter Tryz.func200,Tryz.ntmps200
 go_wp2_with (fail)
 refine (c1 _).mono ?_;rintro e w1 ⟨rfl,hb_w1⟩;have r_w1:=XD hb_w1;have l_w1_0:w.heap.size<w1.heap.size:=XL hb_w1;have l_w1_1:w.heap.size+1<w1.heap.size:=XL hb_w1;have l_w1_2:w.heap.size+1+1<w1.heap.size:=XL hb_w1;go_wp2_with (fail)
 refine (c2 _).mono ?_;rintro e w2 ⟨rfl,hb_w2⟩;have r_w2:=XD hb_w2;have l_w2_0:w.heap.size<w2.heap.size:=XL hb_w2;have l_w2_1:w.heap.size+1<w2.heap.size:=XL hb_w2;have l_w2_2:w.heap.size+1+1<w2.heap.size:=XL hb_w2;go_wp2_with (fail)
 refine (c3 _).mono ?_;rintro e w3 ⟨rfl,hb_w3⟩;have r_w3:=XD hb_w3;have l_w3_0:w.heap.size<w3.heap.size:=XL hb_w3;have l_w3_1:w.heap.size+1<w3.heap.size:=XL hb_w3;have l_w3_2:w.heap.size+1+1<w3.heap.size:=XL hb_w3;go_wp2_with (fail)
 refine (c4 _).mono ?_;rintro e w4 ⟨rfl,hb_w4⟩;have r_w4:=XD hb_w4;have l_w4_0:w.heap.size<w4.heap.size:=XL hb_w4;have l_w4_1:w.heap.size+1<w4.heap.size:=XL hb_w4;have l_w4_2:w.heap.size+1+1<w4.heap.size:=XL hb_w4;have H0:Yk (((w.alloc (.cells #[.int .i64 g.a,.int .i64 g.b,.int .i64 g.c] 174)).alloc (.cells #[.int .i64 h.a,.int .i64 h.b,.int .i64 h.c] 174)).alloc (.cells #[.int .i64 0,.int .i64 0,.int .i64 0] 30)) (w.heap.size+1+1) [.int .i64 0,.int .i64 0,.int .i64 0]:=by
  exact ZK
 have H4:=(((H0.below hb_w1).below hb_w2).below hb_w3).below hb_w4;have B4:Below w.heap.size w w4:=by exact Xp
 clear H0 hb_w1 hb_w2 hb_w3 hb_w4 r_w1 r_w2 r_w3 r_w4;obtain ⟨cH4_0,fH4_0⟩:=H4.2 0 _ rfl;obtain ⟨cH4_1,fH4_1⟩:=H4.2 1 _ rfl;obtain ⟨cH4_2,fH4_2⟩:=H4.2 2 _ rfl;go_wp2
 refine bodyPost_ret (v:=.tuple #[.agg #[.int .i64 s.x,.int .i64 s.y,.int .i64 s.d],.bool true]) (by simp [results,Tryz.results200,go_sem,cH4_0,cH4_1,cH4_2]) rfl ⟨rfl, ?_⟩;exact below_cells3 B4 (by omega)
theorem iCorners_c (p:List Half) (a:KL) (w:World) (hr:Xi p=true) (hs:Sl 3 Xh w a.A p) :
 Calls Tryz.prog 120 #[ZN p a] w λ e w'=>∃ v,e=.returned v/\XU 30 3 J7 w' w.heap.size v (XA p)/\Below w.heap.size w w':=by
 obtain ⟨i0,hi0,hz0,hz1,hz2⟩:=info_parts (show (Tryz.prog.info? 30).map (λ i=>(i.zero,i.size,i.bytes))=some (some (.agg #[.int .i64 0,.int .i64 0,.int .i64 0]),3,24) by kernel_rfl);obtain ⟨A,cap⟩:=a;simp only at hs;have hok:=Lib.hid (ZH hr);have hlen:=Za hr;have hcn:=Lib.hid (λ i h=>@reg_corner p hr i h);have hct:=Lib.hid (λ k (h:k<p.length)=>show (XA p).take (k+1)=(XA p).take k++[crossS (p.getD k Xd) (nxt p k)] by
  rw [ZC _ k (by rw [Zv];exact h),corners_at p k h])
 have hcl:=Zv p;clear hr;generalize XA p=C at *;obtain ⟨W,hW⟩:∃ W,W=w.alloc (.cells #[.slice A p.length cap] 26):=⟨_,rfl⟩;have HB:Yk W w.heap.size [.slice A p.length cap]:=hW ▸ Yk.new w #[.slice A p.length cap] 26;have b0:Below w.heap.size w W:=hW ▸ Xc (Below.refl w.heap.size w) _;have hlw:w.heap.size<W.heap.size:=HB.1;have hW':=Lib.hid hW;have hs0:=hs.below b0;clear hW hs;go_enter Tryz.func120,Tryz.ntmps120
 go_upto_region 1 with fail
 rw [<- hW'.out];clear hW';obtain ⟨cHB_0,fHB_0⟩:=HB.2 0 _ rfl;go_wp2
 go_loopw [3,4,5,6,7,11] (λ v _ _ _ _ i wr=>∃ k:Nat,k<=p.length/\i=.int .i64 k/\XU 30 3 J7 wr W.heap.size v (C.take k)/\Below W.heap.size W wr) (λ _ _ _ _ _ i _=>p.length-(intOf i).toNat)
 case atStart=>exact ⟨0,Nat.zero_le _,rfl,⟨none,0,rfl,World.ownsRow_nil _ _ _ _⟩,Below.refl _ _⟩
 case round =>
  obtain ⟨k,hk,rfl,N,hbr⟩:=hrel;by_cases hlt:k<p.length
  ·have H1:=HB.below hbr;have hS:=hs0.below hbr;have hm:(k+1) % p.length<p.length:=Nat.mod_lt _ (by omega);obtain ⟨b,off,hA,hblt,hc⟩:=hS.at_ hlt;obtain ⟨b',off',hA',_,hc'⟩:=hS.at_ hm;rw [hA] at hA';cases hA';subst hA;have g0:=hc 0 _ rfl;have g1:=hc 1 _ rfl;have g2:=hc 2 _ rfl;have d0:=hc' 0 _ rfl;have d1:=hc' 1 _ rfl;have d2:=hc' 2 _ rfl;simp only [Nat.add_zero] at g0 d0;have hgk:=KI hlt;have hgn:nxt p k=p[(k+1) % p.length]:=KI hm;rw [<- hgk] at g0 g1 g2;rw [<- hgn] at d0 d1 d2;have cn:=hcn.out k hlt;have c1:=λ W=>iCrossingOf_c _ _ _ W (hok.out _ (Z9 hlt)) (hok.out _ (nxt_mem hlt)) cn.turn cn.sp;have ht:=Lib.hid (hct.out k hlt);clear hc hc' hgk hgn cn;generalize p.getD k Xd=h at *;generalize nxt p k=h' at *;generalize crossS h h'=s at *;have i1:(k:Int)<(p.length:Int):=by omega
   have i2:(0:Int)<=(k:Int):=by omega
   have ie:(((k:Int)+1).tmod (p.length:Int))=(((k+1) % p.length:Nat):Int):=by
    rw [Int.tmod_eq_emod_of_nonneg (by omega)];rfl
   have i3:(0:Int)<=(((k+1) % p.length:Nat):Int):=by omega
   have i4:(((k+1) % p.length:Nat):Int)<(p.length:Int):=by omega
   have ne:¬ ((p.length:Int)=0):=by omega
   have ne2:¬ (p.length=0):=by omega
   have ne3:¬ (p=[]):=λ e=>ne2 (by rw [e];rfl);have wk:IntKind.i64.wrap ((k:Int)+1)=(k:Int)+1:=IntWalk.i64_in _ (by omega);have wm:IntKind.i64.wrap (((k+1) % p.length:Nat):Int)=(((k+1) % p.length:Nat):Int):=IntWalk.i64_in _ (by omega);generalize (k+1) % p.length=m at *;obtain ⟨cH1_0,fH1_0⟩:=H1.2 0 _ rfl;have l1:=H1.1;go_upto_region 5 with fail
   have HX:=Yk.new wr #[.int .i64 h.a,.int .i64 h.b,.int .i64 h.c] 174;have H1x:=H1.alloc (.cells #[.int .i64 h.a,.int .i64 h.b,.int .i64 h.c] 174);have Nx:=N.alloc (.cells #[.int .i64 h.a,.int .i64 h.b,.int .i64 h.c] 174);have bwa:=Xc (Below.refl wr.heap.size wr) (.cells #[.int .i64 h.a,.int .i64 h.b,.int .i64 h.c] 174);have hbx:=hbr.trans (bwa.mono hbr.size);have d0':=(XD bwa b _ hblt).trans d0;have d1':=(XD bwa b _ hblt).trans d1;have d2':=(XD bwa b _ hblt).trans d2;have hb3:=blt bwa hblt;clear cH1_0 fH1_0 l1;generalize wr.alloc (.cells #[.int .i64 h.a,.int .i64 h.b,.int .i64 h.c] 174)=wa at *;clear d0 d1 d2 bwa g0 g1 g2 hblt H1 hS N hbr;generalize wr.heap.size=gx at *;obtain ⟨cHX_0,fHX_0⟩:=HX.2 0 _ rfl;obtain ⟨cHX_1,fHX_1⟩:=HX.2 1 _ rfl;obtain ⟨cHX_2,fHX_2⟩:=HX.2 2 _ rfl;obtain ⟨cH1x_0,fH1x_0⟩:=H1x.2 0 _ rfl;have lX:=HX.1;have l1:=H1x.1;go_cut [4,6] (λ x4 x6 wx=>∃ W' g,W'=wx/\x4=.int .i64 k/\x6=.pointer (some ⟨g,0,none⟩)/\wa.heap.size<=g/\Yk wx g [.int .i64 s.x,.int .i64 s.y,.int .i64 s.d]/\Below wa.heap.size wa wx)
   case first =>
    go_region_held3 (λ w'=>(∀ b o,b<wa.heap.size->w'.cell? ⟨b,o,none⟩=wa.cell? ⟨b,o,none⟩)/\wa.heap.size<=w'.heap.size) (first|exact ⟨λ _ _ _=>rfl,by simp⟩|exact Y7 (by assumption) (by assumption)|(repeat (first|(with_reducible assumption)|(with_reducible refine ZX _ ?_)|(with_reducible refine ZY ?_)|(with_reducible refine Zn ?_ _)|(with_reducible refine KN ?_ ?_ _)|(focus (simp;done))|(focus (simp;omega))|(focus omega))))
     (first|(go_at_call 200;go_must (refine (c1 _).mono ?_;rintro e w5 ⟨rfl,hb5⟩;have r5:=XD hb5;have f5:=(bcell hb5).2;have Q5:=Y7 (by assumption) hb5;have q5:=Q5.2;have z5:=hb5.size;(try simp only [World.size_drew] at z5);(try simp only [World.size_alloc] at z5);(try have y5:=Nat.lt_of_succ_le z5))))
    all_goals
     go_wp2_with fail
     go_meet
     refine ⟨_,_,rfl,rfl,rfl, ?_, ?_, ?_⟩
     ·first|omega|(simp;omega)
     ·repeat (first|((with_reducible exact Yk.new _ _ _))|(refine Yk.stored (vs:=[.int .i64 0,.int .i64 0,.int .i64 0]) ?_ [_,_,_] rfl)|(with_reducible refine Yk.drew ?_)|((with_reducible refine Yk.new_at ?_ _ _ rfl);(first|rfl|(focus (simp;done))))|(with_reducible refine Yk.set_ ?_ ?_ _)|(with_reducible refine Yk.alloc ?_ _)|(with_reducible refine Yk.below ?_ (by assumption))|(focus (simp;done))|(focus (simp;omega))|(focus omega))
     ·exact Xp
   case rest =>
    obtain ⟨wx,g,rfl,rfl,rfl,hg,HS,hb6⟩:=hcut;have N6:=Nx.below hb6 Xg;have hby:Below W.heap.size W wx:=hbx.trans (hb6.mono hbx.size);have lS:=HS.1;have hle:W.heap.size<=wx.heap.size:=hby.size;have hcm:(C.take k).length<=1073741823:=by rw [List.length_take];omega
    clear Nx hb6 H1x HX hbx cHX_0 cHX_1 cHX_2 fHX_0 fHX_1 fHX_2 cH1x_0 fH1x_0 d0' d1' d2' c1;obtain ⟨cHS_0,fHS_0⟩:=HS.2 0 _ rfl;obtain ⟨cHS_1,fHS_1⟩:=HS.2 1 _ rfl;obtain ⟨cHS_2,fHS_2⟩:=HS.2 2 _ rfl;go_wp2_with (at_builtin;refine JN J2 _ rfl _ _ 73 rfl W.heap.size i0 _ 24 Tryz.underlying73 hi0 hz0 hz1 hz2 rfl (by decide) rfl (N6.alloc _) _ 1 rfl s ?c1 (spotC_one' s) bR (by simp;omega) hcm (by decide) ?_)
    case c1 =>
     intro q u hu;rw [Addr.add_lit,Nat.zero_add];exact ((Yk.new_at (by simp) #[.int .i64 s.x,.int .i64 s.y,.int .i64 s.d] _ rfl).2 q u hu).1
    ·intro v7 w7 hn7 hb7;have hb8:Below W.heap.size W w7:=(hby.alloc hle (.cells #[.int .i64 s.x,.int .i64 s.y,.int .i64 s.d] 30)).trans hb7;clear hb7 hby N6 HS cHS_0 cHS_1 cHS_2 fHS_0 fHS_1 fHS_2;go_wp2
     go_roundw
     case rel=>exact ⟨k+1,by omega,by go_num,by rw [ht.out];exact hn7,hb8⟩
     case measure=>simp [intOf];omega
  ·obtain rfl:k=p.length:=by omega
   rw [List.take_of_length_le (by omega)] at N;have hB:Below w.heap.size w wr:=b0.trans (hbr.mono b0.size);have hle:w.heap.size<=W.heap.size:=b0.size;clear hbr HB b0;go_wp2
   go_ret
   exact ⟨_,rfl,N.mono hle,hB⟩
theorem Yg.otherT {w:World} {base g T:Nat} {x:List Half} {a:KL} {vs:List Value} (h:Yg w base x a) (hg:Xx w g T vs) (h0:174≠T) (us:List Value) (o:Nat):Yg (w.setCells g o us) base x a:=⟨h.halves.otherC (h.halves.typ hg h0) us o⟩
theorem Zt.otherT {w:World} {base g T:Nat} {x:XK} {a:Y9} {vs:List Value} (h:Zt w base x a) (hg:Xx w g T vs) (h0:3≠T) (h1:174≠T) (us:List Value) (o:Nat):Zt (w.setCells g o us) base x a:=⟨h.map.otherC (h.map.typ hg h0) us o,h.noise.otherT hg h1 us o,h.limits.otherT hg h1 us o,h.apart⟩
theorem Ya.otherT {w:World} {base g T:Nat} {x:KX} {a:JJ} {vs:List Value} (h:Ya w base x a) (hg:Xx w g T vs) (h0:3≠T) (h1:174≠T) (us:List Value) (o:Nat):Ya (w.setCells g o us) base x a:=⟨h.room.otherT hg h0 h1 us o,h.reg.otherT hg h1 us o,h.log.otherC (h.log.typ hg h0) us o,h.apart⟩
theorem Ku.otherT {w:World} {base g T:Nat} {x:Track} {a:TrackA} {vs:List Value} (h:Ku w base x a) (hg:Xx w g T vs) (h0:30≠T) (h1:36≠T) (us:List Value) (o:Nat):Ku (w.setCells g o us) base x a:=⟨h.spots.otherC (h.spots.typ hg h0) us o,h.inputs.otherC (h.inputs.typ hg h1) us o,h.apart⟩
theorem Yx.otherT {w:World} {base g T:Nat} {x:Law} {a:LawA} {vs:List Value} (h:Yx w base x a) (hg:Xx w g T vs) (h0:109≠T) (us:List Value) (o:Nat):Yx (w.setCells g o us) base x a:=⟨h.lows.otherC (h.lows.typ hg h0) us o,h.highs.otherC (h.highs.typ hg h0) us o,h.apart⟩
theorem XU.mk0 {α:Type} {T sz:Nat} {enc:α->List Value} (w:World):XU T sz enc (w.alloc (.cells #[] T)) w.heap.size (.slice (some ⟨w.heap.size,0,none⟩) 0 0) ([]:List α) :=
 ⟨_,0,rfl,by simp,.inr ⟨w.heap.size,0,#[],rfl,by simp,by have:=heap_alloc_new w (.cells #[] T);simpa using this,Nat.zero_le _,Nat.zero_le _,by simp,by simp⟩⟩
theorem Yk.put {w:World} {g:Nat} {vs:List Value} (h:Yk w g vs) (j:Nat) (hj:j<vs.length) (u:Value):Yk (w.setCell ⟨g,j,none⟩ u) g (vs.set j u):=by
 refine ⟨by simpa [World.setCell] using h.1,λ i v hv=>?_⟩;by_cases e:i=j
 ·subst e;rw [List.getElem?_set_self hj] at hv;cases hv;have h2:=h.2 i _ (List.getElem?_eq_getElem hj);exact ⟨World.cell?_setCell_same' _ _ _ (by rw [h2.1];rfl),(World.frozen?_setCell _ _ _ _).trans h2.2⟩
 ·rw [List.getElem?_set_ne (Ne.symm e)] at hv;have h2:=h.2 i v hv;exact ⟨(World.cell?_setCell_other w _ _ u (λ q=>e (by injection q with _ q2 _;exact q2.symm))).trans h2.1,(World.frozen?_setCell _ _ _ _).trans h2.2⟩
theorem XU.lowC {α:Type} {T sz base:Nat} {enc:α->List Value} {v:Value} {xs:List α} {w:World} (h:XU T sz enc w base v xs) {q:Addr} (hq:q.block<base) (us:List Value):XU T sz enc (w.setCells q.block q.off us) base v xs:=by
 induction us generalizing w q with
 | nil=>exact h
 | cons u r ih=>exact ih (q:=⟨q.block,q.off+1,none⟩) (h.set_ (p:=⟨q.block,q.off,none⟩) hq u) hq
theorem Yg.lowC {w:World} {base:Nat} {x:List Half} {a:KL} (h:Yg w base x a) {q:Addr} (hq:q.block<base) (us:List Value):Yg (w.setCells q.block q.off us) base x a:=⟨h.halves.lowC hq us⟩
theorem below_cells {B:Nat} {a w:World} (h:Below B a w) {g o:Nat} (hg:B<=g) (us:List Value):Below B a (w.setCells g o us):=KJ hg us o w h
theorem regionOk_meetR {hs:List Half} (hok:∀ h∈hs,XG h=true):Xi (Ym (Xz hs))=true:=by
 unfold Ym;split
 ·rename_i h
  exact regionOk_meet hok (by simpa [YO] using h)
 ·rfl
section
variable {a:Act} {w:World} {N:Act->World->Prop} {Q:Exit->Act->World->Prop} {o:Oper} {x y:Operand} {T':TypeId}
end
end Go.Proofs.YtabfdkpdppemaaaGreat
namespace Go.Proofs.YtabfdkpdppemaaaGreat
open Go.RowKit Go.ChangeShapes Go.WideShapes Go.ChangeAt Go.Deep
theorem own_:ownKnob Tryz.prog.godebug=none:=by kernel_rfl
theorem laidOut_:laidOutB Tryz.prog=true:=by kernel_rfl
section
variable {H:Type} {enc:TypeId × Value->H} {P:Program} {w:World} {base:Nat} {spare:Nat->Bool} {held:Bool}
end
end Go.Proofs.YtabfdkpdppemaaaGreat
namespace Go.Proofs.YtabfdkpdppemaaaGreat
open Go.RowKit
attribute [local go_sem ↓] Go.wp_at_zero Go.wp_at_succ
attribute [local go_sem ↓] Go.wp_at_zero Go.wp_at_succ
attribute [local go_sem ↓] Go.wp_at_zero Go.wp_at_succ
attribute [local go_sem ↓] Go.wp_at_zero Go.wp_at_succ
attribute [local go_sem ↓] Go.wp_at_zero Go.wp_at_succ
attribute [local go_sem ↓] Go.wp_at_zero Go.wp_at_succ
attribute [local go_sem ↓] Go.wp_at_zero Go.wp_at_succ
theorem roomOk_map {x:XK} (h:X0 x=true):x.map.length=4:=by
 simp only [X0,turnOk,Bool.and_eq_true] at h;obtain ⟨m0,m1,m2,m3,e,_⟩:=map_four (by first|exact h.1.1.1.1.1.1.1.1|exact h.1.1.1.1.1.1.1|exact h.1.1.1.1.1.1|exact h.1.1.1.1.1|exact h.1.1.1.1|exact h.1.1.1|exact h.1.1);rw [e];rfl
theorem Zt.drew {w:World} {base:Nat} {x:XK} {a:Y9} (h:Zt w base x a):Zt w.drew base x a:=⟨h.map,⟨h.noise.halves⟩,⟨h.limits.halves⟩,h.apart⟩
end Go.Proofs.YtabfdkpdppemaaaGreat
