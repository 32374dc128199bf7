/-
 Crossings and corners of valid regions: of the program and of the reference.
 Conditions: valid regions.
-/
import Derived.Test.YtbekjpkcicjcgaaGreatEroM
import Derived.Deep.RegionHeld3
import Derived.Deep.DeepMust
import Derived.Deep.DeepCutAuto
import Derived.Test.YtbekjpkcicjcgaaGreatRoom
import Derived.Deep.DrawnRows
import Derived.JoinedOf
import Derived.Test.YtbekjpkcicjcgaaGreatCopy
import Derived.RegionTactic
import Derived.ChangeAlike
set_option maxHeartbeats 4000000
set_option maxRecDepth 100000
namespace Go.Proofs.YtbekjpkcicjcgaaGreat
open Go.RowKit
theorem spotC_one' (t:XH):∀ u∈Kz t,u.oneCell'=true:=by
 intro u hu;simp [Kz] at hu;rcases hu with rfl|rfl|rfl<;>rfl
theorem HOk.in_ {h:Half} (o:HOk h):h.In:=⟨⟨by have:=o.a;omega,by have:=o.a;omega⟩,⟨by have:=o.b;omega,by have:=o.b;omega⟩,⟨by have:=o.c;omega,by have:=o.c;omega⟩⟩
theorem below_cells3 {B:Nat} {a w:World} (h:Below B a w) {g:Nat} (hg:B<=g) {x y z:Value}:Below B a (((w.setCell ⟨g,0,none⟩ x).setCell ⟨g,1,none⟩ y).setCell ⟨g,2,none⟩ z) :=
 ((h.setCell (p:=⟨g,0,none⟩) hg x).setCell (p:=⟨g,1,none⟩) hg y).setCell (p:=⟨g,2,none⟩) hg z
theorem iCrossingOf_c (g h:Half) (s:XH) (w:World) (hg:Xs g=true) (hh:Xs h=true) (hx:0<Xt g h) (hs:Y9 (crX g h) (crY g h) (Kx g h)=some s) :
 Calls Tryz.prog 100 #[YI g,YI h] w λ e w'=>e=.returned (.tuple #[Yu s,.bool true])/\Below w.heap.size w w':=by
 have o1:=Ju hg;have o2:=Ju hh;have B:=crsB o1 o2;have c1:=λ W=>iHalfOk_c g W o1.in_;have c2:=λ W=>iHalfOk_c h W o2.in_;have c3:=λ W=>iCrossing_c g h W o1 o2;have c4:=λ W=>iSpotOf_c (crX g h) (crY g h) (Kx g h) W ⟨by have:=B.x;omega,by have:=B.x;omega⟩ ⟨by have:=B.y;omega,by have:=B.y;omega⟩ ⟨by have:=B.d;omega,by have:=B.d;omega⟩;rw [hg] at c1;rw [hh] at c2;rw [hs] at c4;rw [show (!(Xt g h == 0))=true by simp;omega] at c3;simp only [optSpotV] at c4;clear hs hx B o1 o2 hg hh;generalize crX g h=X at *;generalize crY g h=Y at *;generalize Kx g h=D at *;go_enter Tryz.func100,Tryz.ntmps100
 go_wp2_with (fail)
 refine (c1 _).mono ?_;rintro e w1 ⟨rfl,hb_w1⟩;have r_w1:=XA hb_w1;have l_w1_0:w.heap.size<w1.heap.size:=XM hb_w1;have l_w1_1:w.heap.size+1<w1.heap.size:=XM hb_w1;have l_w1_2:w.heap.size+1+1<w1.heap.size:=XM hb_w1;go_wp2_with (fail)
 refine (c2 _).mono ?_;rintro e w2 ⟨rfl,hb_w2⟩;have r_w2:=XA hb_w2;have l_w2_0:w.heap.size<w2.heap.size:=XM hb_w2;have l_w2_1:w.heap.size+1<w2.heap.size:=XM hb_w2;have l_w2_2:w.heap.size+1+1<w2.heap.size:=XM hb_w2;go_wp2_with (fail)
 refine (c3 _).mono ?_;rintro e w3 ⟨rfl,hb_w3⟩;have r_w3:=XA hb_w3;have l_w3_0:w.heap.size<w3.heap.size:=XM hb_w3;have l_w3_1:w.heap.size+1<w3.heap.size:=XM hb_w3;have l_w3_2:w.heap.size+1+1<w3.heap.size:=XM hb_w3;go_wp2_with (fail)
 refine (c4 _).mono ?_;rintro e w4 ⟨rfl,hb_w4⟩;have r_w4:=XA hb_w4;have l_w4_0:w.heap.size<w4.heap.size:=XM hb_w4;have l_w4_1:w.heap.size+1<w4.heap.size:=XM hb_w4;have l_w4_2:w.heap.size+1+1<w4.heap.size:=XM hb_w4;have H0:Yd (((w.alloc (.cells #[.int .i64 g.a,.int .i64 g.b,.int .i64 g.c] 136)).alloc (.cells #[.int .i64 h.a,.int .i64 h.b,.int .i64 h.c] 136)).alloc (.cells #[.int .i64 0,.int .i64 0,.int .i64 0] 30)) (w.heap.size+1+1) [.int .i64 0,.int .i64 0,.int .i64 0]:=by
  exact ZK
 have H4:=(((H0.below hb_w1).below hb_w2).below hb_w3).below hb_w4;have B4:Below w.heap.size w w4:=by exact Xw
 clear H0 hb_w1 hb_w2 hb_w3 hb_w4 r_w1 r_w2 r_w3 r_w4;obtain ⟨cH4_0,fH4_0⟩:=H4.2 0 _ rfl;obtain ⟨cH4_1,fH4_1⟩:=H4.2 1 _ rfl;obtain ⟨cH4_2,fH4_2⟩:=H4.2 2 _ rfl;go_wp2
 refine bodyPost_ret (v:=.tuple #[.agg #[.int .i64 s.x,.int .i64 s.y,.int .i64 s.d],.bool true]) (by simp [results,Tryz.results100,go_sem,cH4_0,cH4_1,cH4_2]) rfl ⟨rfl, ?_⟩;exact below_cells3 B4 Oz
theorem iCorners_c (p:List Half) (a:Kt) (w:World) (hr:Xc p=true) (hs:Sl 3 Xe w a.A p) :
 Calls Tryz.prog 44 #[Zl p a] w λ e w'=>∃ v,e=.returned v/\XG 30 3 Kz w' w.heap.size v (Xj p)/\Below w.heap.size w w':=by
 obtain ⟨i0,hi0,hz0,hz1,hz2⟩:=info_parts (show (Tryz.prog.info? 30).map (λ i=>(i.zero,i.size,i.bytes))=some (some (.agg #[.int .i64 0,.int .i64 0,.int .i64 0]),3,24) by kernel_rfl);obtain ⟨A,cap⟩:=a;simp only at hs;have hok:=Lib.hid (Zp hr);have hlen:=Y0 hr;have hcn:=Lib.hid (λ i h=>@reg_corner p hr i h);have hct:=Lib.hid (λ k (h:k<p.length)=>show (Xj p).take (k+1)=(Xj p).take k++[crossS (p.getD k Xa) (nxt p k)] by
  rw [Zx _ k (by rw [Y6];exact h),corners_at p k h])
 have hcl:=Y6 p;clear hr;generalize Xj p=C at *;obtain ⟨W,hW⟩:∃ W,W=w.alloc (.cells #[.slice A p.length cap] 26):=⟨_,rfl⟩;have HB:Yd W w.heap.size [.slice A p.length cap]:=hW ▸ Yd.new w #[.slice A p.length cap] 26;have b0:Below w.heap.size w W:=hW ▸ Xb (Below.refl w.heap.size w) _;have hlw:w.heap.size<W.heap.size:=HB.1;have hW':=Lib.hid hW;have hs0:=hs.below b0;clear hW hs;go_enter Tryz.func44,Tryz.ntmps44
 go_upto_region 1 with fail
 rw [<- hW'.out];clear hW';obtain ⟨cHB_0,fHB_0⟩:=HB.2 0 _ rfl;go_wp2
 go_loopw [3,4,5,6,7,11] (λ v _ _ _ _ i wr=>∃ k:Nat,k<=p.length/\i=.int .i64 k/\XG 30 3 Kz wr W.heap.size v (C.take k)/\Below W.heap.size W wr) (λ _ _ _ _ _ i _=>p.length-(intOf i).toNat)
 case atStart=>exact ⟨0,Nat.zero_le _,rfl,⟨none,0,rfl,World.ownsRow_nil _ _ _ _⟩,Below.refl _ _⟩
 case round =>
  obtain ⟨k,hk,rfl,N,hbr⟩:=hrel;by_cases hlt:k<p.length
  ·have H1:=HB.below hbr;have hS:=hs0.below hbr;have hm:(k+1) % p.length<p.length:=Nat.mod_lt _ Oz;obtain ⟨b,off,hA,hblt,hc⟩:=hS.at_ hlt;obtain ⟨b',off',hA',_,hc'⟩:=hS.at_ hm;rw [hA] at hA';cases hA';subst hA;have g0:=hc 0 _ rfl;have g1:=hc 1 _ rfl;have g2:=hc 2 _ rfl;have d0:=hc' 0 _ rfl;have d1:=hc' 1 _ rfl;have d2:=hc' 2 _ rfl;simp only [Nat.add_zero] at g0 d0;have hgk:=Z9 hlt;have hgn:nxt p k=p[(k+1) % p.length]:=Z9 hm;rw [<- hgk] at g0 g1 g2;rw [<- hgn] at d0 d1 d2;have cn:=hcn.out k hlt;have c1:=λ W=>iCrossingOf_c _ _ _ W (hok.out _ (ZA hlt)) (hok.out _ (nxt_mem hlt)) cn.turn cn.sp;have ht:=Lib.hid (hct.out k hlt);clear hc hc' hgk hgn cn;generalize p.getD k Xa=h at *;generalize nxt p k=h' at *;generalize crossS h h'=s at *;have i1:(k:Int)<(p.length:Int):=Oz
   have i2:(0:Int)<=(k:Int):=Oz
   have ie:(((k:Int)+1).tmod (p.length:Int))=(((k+1) % p.length:Nat):Int):=by
    rw [Int.tmod_eq_emod_of_nonneg Oz];rfl
   have i3:(0:Int)<=(((k+1) % p.length:Nat):Int):=Oz
   have i4:(((k+1) % p.length:Nat):Int)<(p.length:Int):=Oz
   have ne:¬ ((p.length:Int)=0):=Oz
   have ne2:¬ (p.length=0):=Oz
   have ne3:¬ (p=[]):=λ e=>ne2 (by rw [e];rfl);have wk:IntKind.i64.wrap ((k:Int)+1)=(k:Int)+1:=IntWalk.i64_in _ (by omega);have wm:IntKind.i64.wrap (((k+1) % p.length:Nat):Int)=(((k+1) % p.length:Nat):Int):=IntWalk.i64_in _ (by omega);generalize (k+1) % p.length=m at *;obtain ⟨cH1_0,fH1_0⟩:=H1.2 0 _ rfl;have l1:=H1.1;go_upto_region 5 with fail
   have HX:=Yd.new wr #[.int .i64 h.a,.int .i64 h.b,.int .i64 h.c] 136;have H1x:=H1.alloc (.cells #[.int .i64 h.a,.int .i64 h.b,.int .i64 h.c] 136);have Nx:=N.alloc (.cells #[.int .i64 h.a,.int .i64 h.b,.int .i64 h.c] 136);have bwa:=Xb (Below.refl wr.heap.size wr) (.cells #[.int .i64 h.a,.int .i64 h.b,.int .i64 h.c] 136);have hbx:=hbr.trans (bwa.mono hbr.size);have d0':=(XA bwa b _ hblt).trans d0;have d1':=(XA bwa b _ hblt).trans d1;have d2':=(XA bwa b _ hblt).trans d2;have hb3:=blt bwa hblt;clear cH1_0 fH1_0 l1;generalize wr.alloc (.cells #[.int .i64 h.a,.int .i64 h.b,.int .i64 h.c] 136)=wa at *;clear d0 d1 d2 bwa g0 g1 g2 hblt H1 hS N hbr;generalize wr.heap.size=gx at *;obtain ⟨cHX_0,fHX_0⟩:=HX.2 0 _ rfl;obtain ⟨cHX_1,fHX_1⟩:=HX.2 1 _ rfl;obtain ⟨cHX_2,fHX_2⟩:=HX.2 2 _ rfl;obtain ⟨cH1x_0,fH1x_0⟩:=H1x.2 0 _ rfl;have lX:=HX.1;have l1:=H1x.1;go_cut [4,6] (λ x4 x6 wx=>∃ W' g,W'=wx/\x4=.int .i64 k/\x6=.pointer (some ⟨g,0,none⟩)/\wa.heap.size<=g/\Yd wx g [.int .i64 s.x,.int .i64 s.y,.int .i64 s.d]/\Below wa.heap.size wa wx)
   case first =>
    go_region_held3 (λ w'=>(∀ b o,b<wa.heap.size->w'.cell? ⟨b,o,none⟩=wa.cell? ⟨b,o,none⟩)/\wa.heap.size<=w'.heap.size) (first|exact ⟨λ _ _ _=>rfl,by simp⟩|exact YD (by assumption) (by assumption)|(repeat (first|(with_reducible assumption)|(with_reducible refine Zu _ ?_)|(with_reducible refine Zv ?_)|(with_reducible refine YW ?_ _)|(with_reducible refine Kf ?_ ?_ _)|(focus (simp;done))|(focus (simp;omega))|(focus omega))))
     (first|(go_at_call 100;go_must (refine (c1 _).mono ?_;rintro e w5 ⟨rfl,hb5⟩;have r5:=XA hb5;have f5:=(bcell hb5).2;have Q5:=YD (by assumption) hb5;have q5:=Q5.2;have z5:=hb5.size;(try simp only [World.size_drew] at z5);(try simp only [World.size_alloc] at z5);(try have y5:=Nat.lt_of_succ_le z5))))
    all_goals
     go_wp2_with fail
     go_meet
     refine ⟨_,_,rfl,rfl,rfl, ?_, ?_, ?_⟩
     ·first|omega|(simp;omega)
     ·repeat (first|((with_reducible exact Yd.new _ _ _))|(refine Yd.stored (vs:=[.int .i64 0,.int .i64 0,.int .i64 0]) ?_ [_,_,_] rfl)|(with_reducible refine Yd.drew ?_)|((with_reducible refine Yd.new_at ?_ _ _ rfl);(first|rfl|(focus (simp;done))))|(with_reducible refine Yd.set_ ?_ ?_ _)|(with_reducible refine Yd.alloc ?_ _)|(with_reducible refine Yd.below ?_ (by assumption))|(focus (simp;done))|(focus (simp;omega))|(focus omega))
     ·exact Xw
   case rest =>
    obtain ⟨wx,g,rfl,rfl,rfl,hg,HS,hb6⟩:=hcut;have N6:=Nx.below hb6 Xy;have hby:Below W.heap.size W wx:=hbx.trans (hb6.mono hbx.size);have lS:=HS.1;have hle:W.heap.size<=wx.heap.size:=hby.size;have hcm:(C.take k).length<=1073741823:=by rw [List.length_take];omega
    clear Nx hb6 H1x HX hbx cHX_0 cHX_1 cHX_2 fHX_0 fHX_1 fHX_2 cH1x_0 fH1x_0 d0' d1' d2' c1;obtain ⟨cHS_0,fHS_0⟩:=HS.2 0 _ rfl;obtain ⟨cHS_1,fHS_1⟩:=HS.2 1 _ rfl;obtain ⟨cHS_2,fHS_2⟩:=HS.2 2 _ rfl;go_wp2_with (at_builtin;refine KV Jg _ rfl _ _ 42 rfl W.heap.size i0 _ 24 Tryz.underlying42 hi0 hz0 hz1 hz2 rfl (by decide) rfl (N6.alloc _) _ 1 rfl s ?c1 (spotC_one' s) bR (by simp;omega) hcm (by decide) ?_)
    case c1 =>
     intro q u hu;rw [Addr.add_lit,Nat.zero_add];exact ((Yd.new_at Sz #[.int .i64 s.x,.int .i64 s.y,.int .i64 s.d] _ rfl).2 q u hu).1
    ·intro v7 w7 hn7 hb7;have hb8:Below W.heap.size W w7:=(hby.alloc hle (.cells #[.int .i64 s.x,.int .i64 s.y,.int .i64 s.d] 30)).trans hb7;clear hb7 hby N6 HS cHS_0 cHS_1 cHS_2 fHS_0 fHS_1 fHS_2;go_wp2
     go_roundw
     case rel=>exact ⟨k+1,by omega,by go_num,by rw [ht.out];exact hn7,hb8⟩
     case measure=>simp [intOf];omega
  ·obtain rfl:k=p.length:=Oz
   rw [List.take_of_length_le (by omega)] at N;have hB:Below w.heap.size w wr:=b0.trans (hbr.mono b0.size);have hle:w.heap.size<=W.heap.size:=b0.size;clear hbr HB b0;go_wp2
   go_ret
   exact ⟨_,rfl,N.mono hle,hB⟩
attribute [local go_sem ↓] Go.wp_at_zero Go.wp_at_succ
attribute [local go_sem ↓] Go.wp_at_zero Go.wp_at_succ
attribute [local go_sem ↓] Go.wp_at_zero Go.wp_at_succ
attribute [local go_sem ↓] Go.wp_at_zero Go.wp_at_succ
attribute [local go_sem ↓] Go.wp_at_zero Go.wp_at_succ
attribute [local go_sem ↓] Go.wp_at_zero Go.wp_at_succ
attribute [local go_sem ↓] Go.wp_at_zero Go.wp_at_succ
theorem j3_FnTop:(Rows.fnTopRow.recurses == Tryz.prog.recurses 3)=true:=by kernel_rfl
theorem j4_FnTop:(Rows.fnTopRow.named == Tryz.prog.varsNamed 3)=true:=by kernel_rfl
theorem roomOk_map {x:XD} (h:XJ x=true):x.map.length=4:=by
 simp only [XJ,turnOk,Bool.and_eq_true] at h;obtain ⟨m0,m1,m2,m3,e,_⟩:=map_four (by first|exact h.1.1.1.1.1.1.1.1|exact h.1.1.1.1.1.1.1|exact h.1.1.1.1.1.1|exact h.1.1.1.1.1|exact h.1.1.1.1|exact h.1.1.1|exact h.1.1);rw [e];rfl
theorem Zb.drew {w:World} {base:Nat} {x:XD} {a:Y7} (h:Zb w base x a):Zb w.drew base x a:=⟨h.map,⟨h.noise.halves⟩,⟨h.limits.halves⟩,h.apart⟩
theorem nodup_len {α:Type} [DecidableEq α]:∀ {l m:List α},l.Nodup->(∀ x∈l,x∈m)->l.length<=m.length
 | [],_,_,_=>Nat.zero_le _
 | x :: l,m,n,h=>by
  have hx:=h x (List.mem_cons_self ..);have n':=List.nodup_cons.1 n;have:=nodup_len (l:=l) (m:=m.erase x) n'.2 (λ y hy=>(List.mem_erase_of_ne (λ e=>n'.1 (by rw [<- e];exact hy))).2 (h y (List.mem_cons_of_mem _ hy)));rw [List.length_erase_of_mem hx] at this;have:=List.length_pos_of_mem hx;simp only [List.length_cons];omega
theorem frame_edge {l L:List Half} (gd:ZB l) (ok:∀ f∈l,Xs f=true) (hne:XK l≠[]) (g2:ZB L) (ok2:∀ f∈L,Xs f=true) (hn2:¬ GVoid L) (hcov:∀ f∈l,∃ y∈L,GCov y f) {h:Half} (hh:h∈L) (he:YK Xt YH L h) (hfr:∃ y∈l,GCov y h):h∈XK l:=by
 obtain ⟨g0,hg,k0,hk,_,_,p,q,r,v1,v2⟩:=edge_corners g2 hn2 hh he;have up:∀ f∈l,∀ a b,0<Xt a b->(∀ k∈L,0<=YH a b k)->0<=YH a b f:=by
  intro f hf a b hab hin;obtain ⟨y,hy,cy⟩:=hcov f hf;exact (det_holds hab).2 (holds_cov (g2.nz y hy) (gd.nz f hf) cy (Int.le_of_lt (KI Oz)) ((det_holds hab).1 (hin y hy)))
 obtain ⟨y,hy,cy⟩:=hfr;have hyh:y.c*X5 h=h.c*X5 y:=by
  have t:=up y hy h k0 q v1;have n1:=gd.nz y hy;have n2:=g2.nz h hh;obtain ⟨e1,e2⟩:=same_scale n1 n2 cy.1;have id:X5 h*YH h k0 y=X5 y*YH h k0 h+Xt h k0*(y.c*X5 h-h.c*X5 y):=by
   simp only [YH,Xt];grind
  rw [gom.d0 h k0,Int.mul_zero,Int.zero_add] at id;have t2:=Int.mul_nonneg (Int.le_of_lt (YP n2)) t;rw [id] at t2;have:=gmn t2 q;have:=cy.2;omega
 have:=half_eq (ok y hy) (ok2 h hh) cy.1 hyh;subst this;exact mem_meetI gd hne hy (edge_of_vertices gom p q r (λ f hf=>up f hf y k0 q v1) (λ f hf=>up f hf g0 y p v2))
theorem frame_cov {l:List Half} (gd:ZB l) {h:Half} (hh:h∈Yx):∃ y∈l,GCov y h:=by
 simp only [Yx,List.mem_cons,List.not_mem_nil,or_false] at hh;rcases hh with rfl|rfl|rfl|rfl
 ·exact gd.e
 ·exact gd.n
 ·exact gd.w
 ·exact gd.s
theorem reg_meetI {p:List Half} (h:Xc p=true) (hne:p≠[]):XK (Xk p)=p:=by
 rcases reg_iff h with rfl|h
 ·exact absurd rfl hne
 ·exact h.2.2
theorem app_ok {p q:List Half} (hp:∀ h∈p,Xs h=true) (hq:∀ h∈q,Xs h=true):∀ h∈p++q,Xs h=true:=by
 intro h hh;rcases List.mem_append.1 hh with h1|h1
 ·exact hp h h1
 ·exact hq h h1
theorem meet_sub {p q:List Half} (hp:Xc p=true) (hne:p≠[]) (hq:∀ h∈q,Xs h=true):∀ h∈XK (Xk (p++q)),h∈p++q:=by
 intro h hh;have pok:=Zp hp;have aok:=app_ok pok hq;have g1:=ZU pok;have g2:=ZU aok;have c1:=Zc (hs:=Yx++p) (λ f hf=>(Ju (ZM pok f hf)).n);have c2:=Zc (hs:=Yx++(p++q)) (λ f hf=>(Ju (ZM aok f hf)).n);obtain ⟨hl,he⟩:=Z8 g2 hh;have hn2:=meetI_nv g2 (List.ne_nil_of_mem hh);rcases List.mem_append.1 (c2.mem h hl) with hfr|hfr
 ·have hm:=frame_edge g1 (meetL_ok pok) (by rw [reg_meetI hp hne];exact hne) g2 (meetL_ok aok) hn2 (λ f hf=>by
   refine c2.cov f ?_;rcases List.mem_append.1 (c1.mem f hf) with h1|h1
   ·exact List.mem_append_left _ h1
   ·exact List.mem_append_right _ (List.mem_append_left _ h1)) hl he (frame_cov g1 hfr)
  rw [reg_meetI hp hne] at hm;exact List.mem_append_left _ hm
 ·exact hfr
theorem meet_len {p q:List Half} (hp:Xc p=true) (hne:p≠[]) (hq:∀ h∈q,Xs h=true):(XK (Xk (p++q))).length<=p.length+q.length:=by
 have:=nodup_len (meetI_sorted (ZU (app_ok (Zp hp) hq))).nodup (meet_sub hp hne hq);rw [List.length_append] at this;exact this
theorem meet_app_ok {p q:List Half} (hp:Xc p=true) (hne:p≠[]) (hq:∀ h∈q,Xs h=true) (hl:p.length+q.length<=40):Yt (Xk (p++q))=true:=by
 have:=meet_len hp hne hq;unfold Yt;rw [decide_eq_true_iff];omega
theorem regionOk_meetR {hs:List Half} (hok:∀ h∈hs,Xs h=true):Xc (X3 (Xk hs))=true:=by
 unfold X3;split
 ·rename_i h
  exact regionOk_meet hok (by simpa [Yt] using h)
 ·rfl
end Go.Proofs.YtbekjpkcicjcgaaGreat
