/-
 The greatest value of a direction over a valid region, of the program: a range over a function.
 Conditions: a valid region that is not void; whole numbers of at most 50000.
-/
import Derived.Test.YtbekjpkcicjcgaaGreatGrP
import Derived.RangeFuncNested
import Derived.RangeFuncBound
import Derived.RangeFuncCalls
import Derived.RangeFuncLeaves
import Derived.Shelf.Abstract
import Derived.Shelf.RegionOpen
import Derived.WalkKit
import Derived.OwnWalkIn
import Derived.TacticsInMore
import Derived.LoopNIn
import Derived.LoopIn
import Derived.Test.YtbekjpkcicjcgaaGreatFar
set_option maxHeartbeats 4000000
set_option maxRecDepth 100000
namespace Go.Proofs.YtbekjpkcicjcgaaGreat
open Go.RowKit Go.Shelf
attribute [local go_sem] Oper.semAt_some
structure FV where
 n:Int
 d:Int
 hn : -500000000000000000<=n/\n<=500000000000000000
 hd:1<=d/\d<=5000000000
def fvOf (n d:Int):FV:=if h:(-500000000000000000<=n/\n<=500000000000000000)/\(1<=d/\d<=5000000000) then ⟨n,d,h.1,h.2⟩ else ⟨0,1,Dz,Dz⟩
theorem fvOf_eq {n d:Int} (h1 : -500000000000000000<=n/\n<=500000000000000000) (h2:1<=d/\d<=5000000000):fvOf n d=⟨n,d,h1,h2⟩:=by
 unfold fvOf;rw [dif_pos ⟨h1,h2⟩]
def stepV (s:Int × Int) (x:FV):Int × Int:=if s.2=0∨0<ZR x.n x.d s.1 s.2 then (x.n,x.d) else s
def Jy (xs:List FV):Int × Int:=xs.foldl stepV (0,0)
theorem foldV_snoc (pre:List FV) (x:FV):Jy (pre++[x])=stepV (Jy pre) x:=by simp [Jy]
theorem stepV_yes {s:Int × Int} {x:FV} (h:s.2=0∨0<ZR x.n x.d s.1 s.2):stepV s x=(x.n,x.d):=if_pos h
theorem stepV_no {s:Int × Int} {x:FV} (h:¬(s.2=0∨0<ZR x.n x.d s.1 s.2)):stepV s x=s:=if_neg h
theorem foldV_bd (pre:List FV):(-500000000000000000<=(Jy pre).1/\(Jy pre).1<=500000000000000000)/\(0<=(Jy pre).2/\(Jy pre).2<=5000000000):=by
 have key:∀ (xs:List FV) (s:Int × Int),((-500000000000000000<=s.1/\s.1<=500000000000000000)/\(0<=s.2/\s.2<=5000000000))->((-500000000000000000<=(xs.foldl stepV s).1/\(xs.foldl stepV s).1<=500000000000000000)/\(0<=(xs.foldl stepV s).2/\(xs.foldl stepV s).2<=5000000000)):=by
  intro xs;induction xs with
  | nil=>intro s h;exact h
  | cons x r ih =>
   intro s h;refine ih _ ?_;have h1:=x.hn;have h2:=x.hd;unfold stepV;split
   ·exact ⟨h1,by simp only;omega,h2.2⟩
   ·exact h
 exact key pre (0,0) Dz
def valsU (C:List X9) (a b:Int) (k:Nat):List FV:=(List.range k).map λ j=>fvOf (JP C a b j) (farDen C j)
theorem valsU_len (C:List X9) (a b:Int) (k:Nat):(valsU C a b k).length=k:=by simp [valsU]
theorem valsU_succ (C:List X9) (a b:Int) (k:Nat):valsU C a b (k+1)=valsU C a b k++[fvOf (JP C a b k) (farDen C k)]:=by simp [valsU,List.range_succ]
theorem foldV_far {C:List X9} {a b:Int} (ha : -50000<=a/\a<=50000) (hb : -50000<=b/\b<=50000) (hok:∀ j,j<C.length->X7 (C.getD j sp0)=true):∀ k:Nat,k<=C.length->Jy (valsU C a b k)=(ZD C a b k).2
 | 0,_=>rfl
 | k+1,hk=>by
  have ih:=foldV_far ha hb hok k Oz;obtain ⟨p1,p2,p3⟩:=far5B (hok k Oz) ha hb;obtain ⟨_,_,h3,_⟩:=far5_bd ha hb hok k Oz;rw [valsU_succ,foldV_snoc,ih,fvOf_eq (n:=JP C a b k) (d:=farDen C k) (by simp only [JP];omega) p3,ZD];simp only [stepV];have:((ZD C a b k).2.2=0) ↔ (ZD C a b k).1<0:=by
   rcases h3 with ⟨rfl,h3⟩|⟨_,h3,h4⟩
   ·rw [h3];decide
   ·omega
  simp only [this];split<;>rfl
structure KpX (D:List Nat) (W W':World):Prop where
 size:W.heap.size<=W'.heap.size
 same:∀ (b:Nat) (o:Obj),b ∉ D->W.heap[b]? = some o->o.isCells=true->W'.heap[b]? = some o
theorem KpX.refl (D:List Nat) (W:World):KpX D W W:=⟨Nat.le_refl _,λ _ _ _ h _=>h⟩
theorem KpX.tr {D:List Nat} {A B C:World} (h:KpX D A B) (k:KpX D B C):KpX D A C:=⟨Nat.le_trans h.size k.size,λ b o hb h1 h2=>k.same b o hb (h.same b o hb h1 h2) h2⟩
theorem KpX.put {D:List Nat} (W:World) (l:Nat) (o o':Obj) (h:W.heap[l]? = some o) (ho:o.isCells=false):KpX D W (W.putObj l o'):=by
 have hg:=grownBy_putObj' W l o';refine ⟨hg.size,λ b u hb h1 h2=>?_⟩;have hne:b≠l:=by rintro rfl;rw [h] at h1;cases h1;rw [ho] at h2;cases h2
 exact (hg.block b (Array.getElem?_eq_some_iff.1 h1).1 (λ e=>hne (Option.some.inj e))).trans h1
theorem KpX.below {D:List Nat} {W W':World} (h:Below W.heap.size W W'):KpX D W W':=⟨h.size,λ b _ _ h1 _=>(h.block b (Array.getElem?_eq_some_iff.1 h1).1).trans h1⟩
theorem KpX.set_ {D:List Nat} (W:World) {b:Nat} (hb:b∈D) (o:Nat) (v:Value):KpX D W (W.setCell ⟨b,o,none⟩ v) :=
 ⟨(KeepsOthers.setCell W _ v).size,λ k u hk h1 _=>(Below.heap_setCell _ _ _ k (λ e=>hk (by first|exact e ▸ hb|exact e.symm ▸ hb))).trans h1⟩
theorem KpX.cell {D:List Nat} {W W':World} (h:KpX D W W') {b o:Nat} (hb:b ∉ D) {u:Value} (hc:W.cell? ⟨b,o,none⟩=some u):W'.cell? ⟨b,o,none⟩=some u:=by
 obtain ⟨x,hx,hxc⟩:=cells_of_cell hc;exact (World.cell?_of_block (w:=W) (w':=W') (a:=⟨b,o,none⟩) ((h.same b x hb hx hxc).trans hx.symm)).trans hc
theorem grownBy_below {W W':World} (h:Below W.heap.size W W'):W.grownBy W' none:=⟨h.os,h.tape,h.output,h.size,λ k hk _=>h.block k hk⟩
theorem JX {W:World} {b o:Nat} {u:Value} (h:W.cell? ⟨b,o,none⟩=some u):b<W.heap.size:=by
 obtain ⟨x,hx,_⟩:=cells_of_cell h;exact (Array.getElem?_eq_some_iff.1 hx).1
theorem XV.kept {W W':World} {row:Option Nat} {g:Nat} {vs:List Value} (h:XV W g vs) (hg:W.grownBy W' row) (hr:∀ r,row=some r->∃ o:Obj,W.heap[r]? = some o/\o.isCells=false):XV W' g vs :=
 ⟨Nat.lt_of_lt_of_le h.1 hg.size,λ j u hu=>⟨cell_kept (h.2 j u hu).1 hg hr,(frozen_kept (h.2 j u hu).1 hg hr).trans (h.2 j u hu).2⟩⟩
theorem iValuesAt_c (p:List Half) (a':Zi) (a b:Int) (w:World) :
 Calls Tryz.prog 169 #[Yi p a',.int .i64 a,.int .i64 b] w λ e w'=>e=.returned (.func (.func 194) #[] #[.pointer (some ⟨w.heap.size,0,none⟩),.pointer (some ⟨w.heap.size+1,0,none⟩),.pointer (some ⟨w.heap.size+1+1,0,none⟩)])/\w'=((w.alloc (.cells #[.slice a'.A p.length a'.c] 26)).alloc (.cells #[.int .i64 a] 3)).alloc (.cells #[.int .i64 b] 3):=by
 obtain ⟨A,cap⟩:=a';go_enter Tryz.func169,Tryz.ntmps169
 go_wp2
 go_ret
 exact ⟨rfl,rfl⟩
theorem iVals1_stops (n:Nat) (hn:1<=n) (D:List Nat) (Bp Ba Bb:Nat) (hDp:Bp ∉ D) (hDa:Ba ∉ D) (hDb:Bb ∉ D) (p:List Half) (a':Zi) (a b:Int) (w:World) (hr:Xb p=true) (ha : -50000<=a/\a<=50000) (hb : -50000<=b/\b<=50000)
 (hD:∀ x∈D,x<w.heap.size) (cp:w.cell? ⟨Bp,0,none⟩=some (.slice a'.A p.length a'.c)) (ca:w.cell? ⟨Ba,0,none⟩=some (.int .i64 a)) (cb:w.cell? ⟨Bb,0,none⟩=some (.int .i64 b)) (hs:Sl 3 Xd w a'.A p) :
 SeqStopsK Fence.wide n Tryz.prog 194 #[.pointer (some ⟨Bp,0,none⟩),.pointer (some ⟨Ba,0,none⟩),.pointer (some ⟨Bb,0,none⟩)] (λ x:FV=>#[.int .i64 x.n,.int .i64 x.d]) (KpX D) (λ xs=>xs=valsU (XN p) a b (XN p).length) (λ pre=>∃ k,k<=(XN p).length/\pre=valsU (XN p) a b k) (XN p).length w:=λ l J Jx W hW hJ _ hY h0=>by
 have cc:=λ W h=>iCorners_c p a' W hr h;have hlen:(XN p).length<=40:=by rw [Zo];exact Zt hr
 have hok:=Lib.hid (cor_ok hr);have cp':=(hW.cell (p:=⟨Bp,0,none⟩) (JX cp)).trans cp;have ca':=(hW.cell (p:=⟨Ba,0,none⟩) (JX ca)).trans ca;have cb':=(hW.cell (p:=⟨Bb,0,none⟩) (JX cb)).trans cb;have hs':=hs.below hW;have hD':∀ x∈D,x<W.heap.size:=λ x hx=>Nat.lt_of_lt_of_le (hD x hx) hW.size;clear cp ca cb hs hD hW hr;generalize XN p=C at *;obtain ⟨A,cap⟩:=a';simp only at cp' hs';refine callsIn_of_wp Tryz.func194 rfl trivial ?_ rfl;simp only [Tryz.ntmps194,List.size_toArray,List.length_cons,List.length_nil,Nat.reduceAdd,Nat.reduceSub,Array.replicate_succ,Array.replicate_zero,List.push_toArray,List.append_toArray,List.nil_append,List.cons_append];gi_wp2_with (refine ⟨trivial, ?_⟩;gi_at_call 44;refine (callsIn_wide.2 (cc _ hs')).mono ?_;rintro e w1 ⟨v,rfl,N,hb1⟩;obtain ⟨A2,c2,rfl,hsl⟩:=N.sl Jg)
 have hg:∀ (b off:Nat),A2=some ⟨b,off,none⟩->b ∉ D:=λ b off e hm=>by
  have h1:=N.lo _ e;have h2:=hD' b hm;simp only at h1;omega
 have J1:=hJ [] W w1 none h0 (grownBy_below hb1) (λ _ e=>by cases e);have cp1:=(hb1.cell (p:=⟨Bp,0,none⟩) (JX cp')).trans cp';have ca1:=(hb1.cell (p:=⟨Ba,0,none⟩) (JX ca')).trans ca';have cb1:=(hb1.cell (p:=⟨Bb,0,none⟩) (JX cb')).trans cb';have hWs:=hb1.size;clear cp' ca' cb' hs' N cc h0 hb1 hD';gi_loopw [6,10] (λ _ i wr=>∃ k:Nat,k<=C.length/\i=.int .i64 k/\J (valsU C a b k) wr/\KpX D w1 wr) (λ _ i _=>C.length-(intOf i).toNat)
 case atStart=>exact ⟨0,Nat.zero_le _,rfl,J1,KpX.refl _ _⟩
 case round =>
  obtain ⟨k,hk,rfl,hJs,hkp⟩:=hrel;by_cases hlt:k<C.length
  ·obtain ⟨g,off,hA,hblt,hc⟩:=hsl.at_ hlt;have hgD:=hg g off hA;subst hA;have g0:=hkp.cell hgD (hc 0 _ rfl);have g1:=hkp.cell hgD (hc 1 _ rfl);have g2:=hkp.cell hgD (hc 2 _ rfl);have cpr:=hkp.cell hDp cp1;have car:=hkp.cell hDa ca1;have cbr:=hkp.cell hDb cb1;have lp:=JX cpr;have la:=JX car;have lb:=JX cbr;have lg:=Nat.lt_of_lt_of_le hblt hkp.size;have hq:=hok.out k hlt;rw [far_get hlt] at hq;obtain ⟨⟨p1,p2⟩,⟨p3,p4⟩,⟨p5,p6⟩⟩:=far5B hq ha hb;have bn : -500000000000000000<=a*C[k].x+b*C[k].y/\a*C[k].x+b*C[k].y<=500000000000000000:=⟨Oz,Oz⟩;have bd:1<=C[k].d/\C[k].d<=5000000000:=⟨p5,p6⟩;have hst:=Lib.hid (show valsU C a b (k+1)=valsU C a b k++[⟨a*C[k].x+b*C[k].y,C[k].d,bn,bd⟩] by
    rw [valsU_succ,<- fvOf_eq bn bd];simp only [JP,farDen,far_get hlt])
   have i1:(k:Int)<(C.length:Int):=Oz
   have hJa:=hJ _ wr (wr.alloc (.cells #[.int .i64 C[k].x,.int .i64 C[k].y,.int .i64 C[k].d] 30)) none hJs (World.grownBy_alloc _ _ none) (λ _ e=>by cases e);obtain ⟨fn,tmps,assign,body,hy,hR⟩:=hY _ ⟨a*C[k].x+b*C[k].y,C[k].d,bn,bd⟩ _ hJa (by rw [valsU_len];exact hlt);dsimp only at hy
   simp only [Nat.add_zero] at g0;have ka:KpX D wr (wr.alloc (.cells #[.int .i64 C[k].x,.int .i64 C[k].y,.int .i64 C[k].d] 30)):=KpX.below (Xc bR _);clear hc hJa hJs hg hsl hblt hgD hY hok;generalize C[k]=q at *;gi_wp2
   refine hR.mono ?_;rintro e W3 (⟨rfl,hJ3,hk3⟩|⟨rfl,hJx3⟩)
   ·gi_wp2
    go_roundw
    case rel=>exact ⟨k+1,by omega,by go_num,by rw [hst.out];exact hJ3,hkp.tr (ka.tr hk3)⟩
    case measure=>simp [intOf];omega
   ·gi_wp2
    refine bodyPost_ret (results_none rfl _ _ _) rfl ?_;exact ⟨⟨_,rfl⟩,.inr ⟨_,⟨k+1,Oz,hst.out.symm⟩,hJx3⟩⟩
  ·obtain rfl:k=C.length:=Oz
   gi_wp2
   go_end0
   exact ⟨⟨_,rfl⟩,.inl ⟨_,rfl,hJs⟩⟩
theorem iSupport_c (p:List Half) (a':Zi) (a b:Int) (w:World) (hr:Xb p=true) (hne:p≠[]) (ha : -50000<=a/\a<=50000) (hb : -50000<=b/\b<=50000) (hs:Sl 3 Xd w a'.A p) :
 Calls Tryz.prog 141 #[Yi p a',.int .i64 a,.int .i64 b] w λ e w'=>e=.returned (Xv (ZO p a b))/\Below w.heap.size w w':=by
 obtain ⟨A,cap⟩:=a';simp only at hs;have hB:=supB hr hne ha hb;have hfar:=Lib.hid (foldV_far ha hb (cor_ok hr) (XN p).length XE);have cR:=λ W=>iRatioOf_c (Jz p a b).2.1 (Jz p a b).2.2 W ⟨by have:=hB.n;omega,by have:=hB.n;omega⟩ ⟨by have:=hB.d;omega,by have:=hB.d;omega⟩;change ∀ W,Calls _ _ _ W λ e w'=>e=.returned (Xv (ZO p a b))/\_ at cR
 obtain ⟨W0,hW0⟩:∃ W0,W0=(((w.alloc (.cells #[.slice A p.length cap] 26)).alloc (.cells #[.int .i64 0,.int .i64 0] 46)).alloc (.cells #[.int .i64 0] 3)).alloc (.cells #[.int .i64 0] 3):=⟨_,rfl⟩;have HP:XV W0 w.heap.size [.slice A p.length cap]:=by rw [hW0];exact Ys
 have HR:XV W0 (w.heap.size+1) [.int .i64 0,.int .i64 0]:=by rw [hW0];exact Ys
 have H7:XV W0 (w.heap.size+1+1) [.int .i64 0]:=by rw [hW0];exact Ys
 have H8:XV W0 (w.heap.size+1+1+1) [.int .i64 0]:=by rw [hW0];exact Ys
 have b0:Below w.heap.size w W0:=by rw [hW0];exact Xl
 have z0:W0.heap.size=w.heap.size+1+1+1+1:=by rw [hW0];simp
 have hs0:=hs.below b0;have hW':=Lib.hid hW0;clear hW0 hs hB;refine (callsIn_wide (n:=5)).1 ?_;refine callsIn_of_wp_marks Tryz.func141 rfl trivial ?_ rfl;simp only [Tryz.ntmps141,List.size_toArray,List.length_cons,List.length_nil,Nat.reduceAdd,Nat.reduceSub,Array.replicate_succ,Array.replicate_zero,List.push_toArray,List.append_toArray,List.nil_append,List.cons_append];gi_wp2_with (refine ⟨trivial, ?_⟩;gi_at_call 169;refine (callsIn_wide.2 (iValuesAt_c p ⟨A,cap⟩ a b _)).mono ?_;rintro e w' ⟨rfl,rfl⟩)
 rw [<- hW'.out];clear hW';have GA:XV (((W0.alloc (.cells #[.slice A p.length cap] 26)).alloc (.cells #[.int .i64 a] 3)).alloc (.cells #[.int .i64 b] 3)) W0.heap.size [.slice A p.length cap]:=by exact Ys
 have GB:XV (((W0.alloc (.cells #[.slice A p.length cap] 26)).alloc (.cells #[.int .i64 a] 3)).alloc (.cells #[.int .i64 b] 3)) (W0.heap.size+1) [.int .i64 a]:=by exact Ys
 have GC:XV (((W0.alloc (.cells #[.slice A p.length cap] 26)).alloc (.cells #[.int .i64 a] 3)).alloc (.cells #[.int .i64 b] 3)) (W0.heap.size+1+1) [.int .i64 b]:=by exact Ys
 have bL:Below W0.heap.size W0 (((W0.alloc (.cells #[.slice A p.length cap] 26)).alloc (.cells #[.int .i64 a] 3)).alloc (.cells #[.int .i64 b] 3)):=by exact Xl
 have H7L:=H7.below bL;have H8L:=H8.below bL;have HRL:=HR.below bL;have hsL:=hs0.below bL;have bwL:=b0.trans (bL.mono b0.size);have zL:=bL.size;clear HP HR H7 H8 hs0 bL b0;generalize (((W0.alloc (.cells #[.slice A p.length cap] 26)).alloc (.cells #[.int .i64 a] 3)).alloc (.cells #[.int .i64 b] 3))=L at *;rw [z0] at *;clear z0 W0;have ca:=(GA.2 0 _ rfl).1;have cb:=(GB.2 0 _ rfl).1;have cd:=(GC.2 0 _ rfl).1;clear GA GB GC;refine wpIn_rangeFunc_ownF rfl Dz (gf:=194) (lb:=#[.pointer (some ⟨w.heap.size+1+1+1+1,0,none⟩),.pointer (some ⟨w.heap.size+1+1+1+1+1,0,none⟩),.pointer (some ⟨w.heap.size+1+1+1+1+1+1,0,none⟩)]) rfl trivial (enters_of Tryz.func194 (by kernel_rfl) rfl)
  (iVals1_stops (5-1) Dz [w.heap.size+1+1,w.heap.size+1+1+1] _ _ _ (by simp;omega) (by simp;omega) (by simp;omega) p ⟨A,cap⟩ a b L hr ha hb (by simp;omega) ca cb cd hsL) KpX.tr (λ W l o o' _ h1 h2 _=>KpX.put W l o o' h1 h2) bR (λ _=>rfl)
  (λ pre W=>(XV W (w.heap.size+1+1) [.int .i64 (Jy pre).1]/\XV W (w.heap.size+1+1+1) [.int .i64 (Jy pre).2]/\XV W (w.heap.size+1) [.int .i64 0,.int .i64 0])/\Below w.heap.size w W)
  (λ _ _ _=>False)
  (OwnFrom.and (Own.from (λ s A B row hs hg hr=>⟨hs.1.kept hg hr,hs.2.1.kept hg hr,hs.2.2.kept hg hr⟩) _) (ownFrom_below XE Oz))
  (λ _ _ _ _ _ hs _ _=>hs)
  ⟨⟨H7L,H8L,HRL⟩,bwL⟩
  (λ x=>{ tmps:=#[Yi p ⟨A,cap⟩,.int .i64 a,.int .i64 b,.pointer (some ⟨w.heap.size,0,none⟩),undef,undef,.pointer (some ⟨w.heap.size+1,0,none⟩),.pointer (some ⟨w.heap.size+1+1,0,none⟩),.pointer (some ⟨w.heap.size+1+1+1,0,none⟩),.int .i64 x.n,.int .i64 x.d,Yi p ⟨A,cap⟩,.int .i64 a,.int .i64 b,.func (.func 194) #[] #[.pointer (some ⟨w.heap.size+1+1+1+1,0,none⟩),.pointer (some ⟨w.heap.size+1+1+1+1+1,0,none⟩),.pointer (some ⟨w.heap.size+1+1+1+1+1+1,0,none⟩)],.int .i64 x.n,.int .i64 x.d,undef,undef,undef,undef,undef,undef,undef,undef,undef,undef,undef,undef,undef,undef,undef],defers:=[] }) ?assign ?body ?done ?stop
 case assign =>
  intro l x W K hK;gi_wp2
  exact hK
 case body =>
  rintro l pre x W ⟨⟨h7,h8,h6⟩,hB⟩ _;obtain ⟨⟨u1,u2⟩,⟨u3,u4⟩⟩:=foldV_bd pre;obtain ⟨xn,xd,⟨x1,x2⟩,⟨x3,x4⟩⟩:=x;have hsn:=Lib.hid (foldV_snoc pre ⟨xn,xd,⟨x1,x2⟩,⟨x3,x4⟩⟩);have hy:=Lib.hid (λ h=>@stepV_yes (Jy pre) ⟨xn,xd,⟨x1,x2⟩,⟨x3,x4⟩⟩ h);have hn:=Lib.hid (λ h=>@stepV_no (Jy pre) ⟨xn,xd,⟨x1,x2⟩,⟨x3,x4⟩⟩ h);clear ca cb cd hsL H7L H8L HRL bwL zL hfar cR hr;have cC:=λ(h:0<(Jy pre).2) W=>KB xn xd (Jy pre).1 (Jy pre).2 W ⟨Oz,Oz⟩ ⟨Oz,Oz⟩ ⟨Oz,Oz⟩ ⟨Oz,Oz⟩ Oz h;have cmb:=cmpF_bd xn xd (Jy pre).1 (Jy pre).2;simp only [Hid] at hy hn;generalize Jy pre=st at *;generalize ZR xn xd st.1 st.2=cm at *;obtain ⟨cm1,cm2⟩:=cmb;replace hy:=Lib.hid hy;replace hn:=Lib.hid hn;obtain ⟨c7,f7⟩:=h7.2 0 _ rfl;obtain ⟨c8,f8⟩:=h8.2 0 _ rfl;have l7:=h7.1;have l8:=h8.1;by_cases h0:st.2=0
  ·have e:=Lib.hid (hsn.out.trans (hy.out (.inl h0)));rw [h0] at c8;gi_wp2_with (refine ⟨trivial, ?_⟩)
   refine ⟨(KeepsOthers.setCell _ _ _).trans (KeepsOthers.setCell _ _ _),(KpX.set_ _ Sz 0 _).tr (KpX.set_ _ Sz 0 _),⟨?_, ?_, ?_⟩,(hB.setCell (by simp only;omega) _).setCell (by simp only;omega) _⟩
   ·rw [e.out];exact (XV.stored h7 [.int .i64 xn] rfl).set_ (p:=⟨w.heap.size+1+1+1,0,none⟩) Sz _
   ·rw [e.out];exact XV.stored (h8.set_ (p:=⟨w.heap.size+1+1,0,none⟩) Sz _) [.int .i64 xd] rfl
   ·exact (h6.set_ (p:=⟨w.heap.size+1+1,0,none⟩) (by simp only;omega) _).set_ (p:=⟨w.heap.size+1+1+1,0,none⟩) (by simp only;omega) _
  ·have c9:=cC Oz;have h0':(st.2 == 0)=false:=by simp [h0]
   clear cC;by_cases hp:0<cm
   ·have e:=Lib.hid (hsn.out.trans (hy.out (.inr hp)));gi_wp2_with (refine ⟨trivial, ?_⟩;gi_at_call 107;refine (CallsIn.inRound l (callsIn_wide.2 (c9 _))).mono ?_;rintro e w' ⟨rfl,rfl⟩)
    all_goals first|(exfalso;omega)|skip
    refine ⟨(KeepsOthers.setCell _ _ _).trans (KeepsOthers.setCell _ _ _),(KpX.set_ _ Sz 0 _).tr (KpX.set_ _ Sz 0 _),⟨?_, ?_, ?_⟩,(hB.setCell (by simp only;omega) _).setCell (by simp only;omega) _⟩
    ·rw [e.out];exact (XV.stored h7 [.int .i64 xn] rfl).set_ (p:=⟨w.heap.size+1+1+1,0,none⟩) Sz _
    ·rw [e.out];exact XV.stored (h8.set_ (p:=⟨w.heap.size+1+1,0,none⟩) Sz _) [.int .i64 xd] rfl
    ·exact (h6.set_ (p:=⟨w.heap.size+1+1,0,none⟩) (by simp only;omega) _).set_ (p:=⟨w.heap.size+1+1+1,0,none⟩) (by simp only;omega) _
   ·have e:=Lib.hid (hsn.out.trans (hn.out Oz));gi_wp2_with (refine ⟨trivial, ?_⟩;gi_at_call 107;refine (CallsIn.inRound l (callsIn_wide.2 (c9 _))).mono ?_;rintro e w' ⟨rfl,rfl⟩)
    all_goals first|(exfalso;omega)|skip
    exact ⟨KeepsOthers.refl _,KpX.refl _ _,⟨by rw [e.out];exact h7,by rw [e.out];exact h8,h6⟩,hB⟩
 case done =>
  rintro D ys W hD rfl ⟨⟨h7,h8,h6⟩,hB⟩ hK;rw [hfar.out] at h7 h8;change XV W _ [.int .i64 (Jz p a b).2.1] at h7
  change XV W _ [.int .i64 (Jz p a b).2.2] at h8
  obtain ⟨c7,f7⟩:=h7.2 0 _ rfl;obtain ⟨c8,f8⟩:=h8.2 0 _ rfl;have l7:=h7.1;have l8:=h8.1;have lD:=(Array.getElem?_eq_some_iff.1 hK).1;clear ca cb cd hsL H7L H8L HRL bwL hfar hr;generalize hrr:ZO p a b=r at *;generalize (Jz p a b).2.1=sn at *;generalize (Jz p a b).2.2=sd at *;gi_wp2_with (refine ⟨trivial, ?_⟩;gi_at_call 21;refine (callsIn_wide.2 (cR _)).mono ?_;rintro e w4 ⟨rfl,hb4⟩;have HR4:=h6.below hb4;obtain ⟨c60,f60⟩:=HR4.2 0 _ rfl;obtain ⟨c61,f61⟩:=HR4.2 1 _ rfl;have l6:=HR4.1;have hK4:=(hb4.block D lD).trans hK;have hB4:=hB.trans (hb4.mono hB.size);have lD4:=Nat.lt_of_lt_of_le lD hb4.size)
  have HR5:XV ((w4.setCell ⟨w.heap.size+1,0,none⟩ (.int .i64 r.n)).setCell ⟨w.heap.size+1,1,none⟩ (.int .i64 r.d)) (w.heap.size+1) [.int .i64 r.n,.int .i64 r.d]:=XV.stored HR4 [.int .i64 r.n,.int .i64 r.d] rfl;have hK5:=(KeepsOthers.setCell _ ⟨w.heap.size+1,1,none⟩ (.int .i64 r.d)).same D _ ((KeepsOthers.setCell w4 ⟨w.heap.size+1,0,none⟩ (.int .i64 r.n)).same D _ hK4 rfl) rfl;have B5:=(hB4.setCell (p:=⟨w.heap.size+1,0,none⟩) (by simp only;omega) (.int .i64 r.n)).setCell (p:=⟨w.heap.size+1,1,none⟩) (by simp only;omega) (.int .i64 r.d);have HR6:=HR5.kept (grownBy_putObj' _ D (.deferred none)) (λ r e=>by cases e;exact ⟨_,hK5,rfl⟩);obtain ⟨k0,_⟩:=HR6.2 0 _ rfl;obtain ⟨k1,_⟩:=HR6.2 1 _ rfl;have l6':=HR6.1;refine ⟨Sz,.inl ⟨_,_,rfl,run_takeDeferred hK5, ?_⟩⟩;refine ⟨.agg #[.int .i64 r.n,.int .i64 r.d], ?_,congrArg (λ q=>Ending.returned (Xv q)) hrr.symm,B5.trans (belowK_b (w:=w) XE _ D _ _ Oz hK5 rfl rfl)⟩;simp [results,Tryz.f141,go_sem,k0,k1]
 case stop =>
  rintro D c pre W _ _ h _;exact h.elim
end Go.Proofs.YtbekjpkcicjcgaaGreat
namespace Go.Proofs.YtbekjpkcicjcgaaGreat
open Go.RowKit
theorem Xz.alloc {w:World} {g T:Nat} {vs:List Value} (h:Xz w g T vs) (o:Obj):Xz (w.alloc o) g T vs:=h.below (Xc bR o)
end Go.Proofs.YtbekjpkcicjcgaaGreat
