/-
 What stays where the cursor alone changes: slices, boxes, rooms.
 Conditions: none.
-/
import Derived.Test.YtbekjpkcicjcgabGreatMak
import Derived.JoinedOf
import Derived.Deep.DeepCutAuto
import Derived.Test.YtbekjpkcicjcgabGreatLowL
import Derived.Deep.RegionHeld3
import Derived.Deep.DeepMust
set_option maxHeartbeats 4000000
namespace Go.Proofs.YtbekjpkcicjcgabGreat
open Go.RowKit
section
variable {W w w':World} {a:Act} {s T T' g g':Nat} {z vs':List Value} {b:Bool} {C:World->List Value->Prop}
end
theorem YG.at {w:World} {g:Nat} {B:Option Addr} {c:Nat} {bs:List Int} {sq:Nat->Int} {i j:Nat} (h:YG w g B c bs sq i) (e:i=j):YG w g B c bs sq j:=e ▸ h
structure YU (w:World) (base:Nat) (x:XK) (a:Yq):Prop where
 map:XI 3 1 KX w base (.slice a.map.A (List.length x.map) a.map.c) x.map
 noise:XI 85 3 Xe w base (.slice a.noise.A (List.length x.noise) a.noise.c) x.noise
 limits:XI 85 3 Xe w base (.slice a.limits.A (List.length x.limits) a.limits.c) x.limits
section
variable {w w':World} {base:Nat} {x:XK} {a:Yq}
theorem YU.sl (h:YU w base x a):Y4 w x a:=⟨h.map.out Zc,⟨h.noise.out Xu⟩,⟨h.limits.out Xu⟩⟩
theorem YU.nil (h:YU w base x a):Zq a:=⟨h.noise.nilcap,h.limits.nilcap⟩
theorem YU.below {B:Nat} (h:YU w base x a) (hb:Below B w w') (hB:w.heap.size<=B):YU w' base x a:=⟨h.map.below hb hB,h.noise.below hb hB,h.limits.below hb hB⟩
theorem YU.mono {base':Nat} (h:YU w base x a) (hb:base'<=base):YU w base' x a:=⟨h.map.mono hb,h.noise.mono hb,h.limits.mono hb⟩
theorem YU.otherT {g T':Nat} {vs:List Value} (h:YU w base x a) (hc:Xv w g T' vs) (h1:3≠T') (h2:85≠T') (us:List Value) (o:Nat):YU (w.setCells g o us) base x a :=
 ⟨h.map.otherC (h.map.typ hc h1) us o,h.noise.otherC (h.noise.typ hc h2) us o,h.limits.otherC (h.limits.typ hc h2) us o⟩
end
theorem j3_FnPieces:(Rows.fnPiecesRow.recurses == Tryz.prog.recurses 3)=true:=by kernel_rfl
theorem j4_FnPieces:(Rows.fnPiecesRow.named == Tryz.prog.varsNamed 3)=true:=by kernel_rfl
section
variable {a b:Bool}
end
structure RoomHi (a:Yq) (n:Nat):Prop where
 map:∀ p,a.map.A=some p->p.block<n
 noise:∀ p,a.noise.A=some p->p.block<n
 limits:∀ p,a.limits.A=some p->p.block<n
theorem YU.hi {w:World} {base:Nat} {x:XK} {a:Yq} (h:YU w base x a):RoomHi a w.heap.size:=⟨λ p hp=>(h.map.blk p hp).2,λ p hp=>(h.noise.blk p hp).2,λ p hp=>(h.limits.blk p hp).2⟩
theorem slopes {r:XK} {E:List Half} (hb:0<r.bx) (hE:Xc E=true) (hne:E≠[]):(∃ h∈E,0<XH r h)/\∃ h∈E,XH r h<0:=by
 obtain ⟨s,hs⟩:=corners_ne hne;obtain ⟨hi,ho⟩:=corner_in hE hs;have sd:=spot_pos ho;have fr:=λ(x y d:Int) (hd:0<=d) (h:InP E x y d)=>reg_frame hE hne hd h;have f0:=fr _ _ _ (by omega) hi;have fx:∀ x y d:Int,InP Yj x y d->-1000*d<=x/\x<=1000*d:=by
  intro x y d h;unfold InP at h;simp only [Yj,List.mem_cons,List.not_mem_nil,or_false,forall_eq_or_imp,forall_eq,Yp] at h;omega
 have b0:=fx _ _ _ f0;have md:s.d<=r.bx*s.d:=by
  have:=Int.mul_le_mul_of_nonneg_right (show 1<=r.bx by omega) (show 0<=s.d by omega);omega
 constructor
 ·by_cases hc:∃ h∈E,0<XH r h
  ·exact hc
  ·exfalso;have hp:InP E (s.x+2001*(r.bx*s.d)) (s.y+2001*(r.by_*s.d)) s.d:=by
    intro h hh;have h1:=hi h hh;have h2:XH r h<=0:=by
     by_cases h3:0<XH r h
     ·exact absurd ⟨h,hh,h3⟩ hc
     ·omega
    unfold Yp at h1 ⊢;have e:h.a*(s.x+2001*(r.bx*s.d))+h.b*(s.y+2001*(r.by_*s.d))=h.a*s.x+h.b*s.y+2001*(XH r h*s.d):=by unfold XH;grind
    have m:XH r h*s.d<=0:=Int.mul_nonpos_of_nonpos_of_nonneg h2 (by omega);rw [e];omega
   have b1:=fx _ _ _ (fr _ _ _ (by omega) hp);omega
 ·by_cases hc:∃ h∈E,XH r h<0
  ·exact hc
  ·exfalso;have hp:InP E (s.x-2001*(r.bx*s.d)) (s.y-2001*(r.by_*s.d)) s.d:=by
    intro h hh;have h1:=hi h hh;have h2:0<=XH r h:=by
     by_cases h3:XH r h<0
     ·exact absurd ⟨h,hh,h3⟩ hc
     ·omega
    unfold Yp at h1 ⊢;have e:h.a*(s.x-2001*(r.bx*s.d))+h.b*(s.y-2001*(r.by_*s.d))=h.a*s.x+h.b*s.y-2001*(XH r h*s.d):=by unfold XH;grind
    have m:0<=XH r h*s.d:=Int.mul_nonneg h2 (by omega);rw [e];omega
   have b1:=fx _ _ _ (fr _ _ _ (by omega) hp);omega
end Go.Proofs.YtbekjpkcicjcgabGreat
namespace Go.Proofs.YtbekjpkcicjcgabGreat
open Go.RowKit Go.ChangeShapes Go.WideShapes Go.ChangeAt Go.Deep
theorem Zg.at_ {w:World} {base:Nat} {rs:List (List Half)} {A:Option Addr} {c:Nat} {es:List Ju} (h:Zg w base rs A c es) {k:Nat} {X:List Half} (hk:k<rs.length) (e:rs.getD k []=X):(es.getD k Y5).n=X.length/\XI 85 3 Xe w base (.slice (es.getD k Y5).A X.length (es.getD k Y5).c) X:=by
 have:=h.R.new k hk;rw [e] at this;exact this
end Go.Proofs.YtbekjpkcicjcgabGreat
namespace Go.Proofs.YtbekjpkcicjcgabGreat
open Go.RowKit
section
variable {w w':World} {g:Nat} {B:Option Addr} {c:Nat} {bs:List Int} {sq:Nat->Int} {k:Nat}
end
set_option maxRecDepth 100000 in
theorem curByteQ_c (bs:List Int) (B:Option Addr) (c g:Nat) (sq:Nat->Int) (k:Nat) (w:World) (hn:bs.length<=1048576) (hin:∀ y∈bs,InB y) (hs:Sl 1 byteC w B bs) (hc:YG w g B c bs sq k) (hap:∀ b off,B=some ⟨b,off,none⟩->0<bs.length->b≠g) :
 Calls Tryz.prog 75 #[.pointer (some ⟨g,0,none⟩)] w λ e w'=>e=.returned (.int .i64 (sq k))/\YG w' g B c bs sq (k+1)/\KR w w' g:=by
 obtain ⟨i,h,i0,i1,hq,HT⟩:=hc;have hv:sq k=(cNext bs (i,h)).1:=hq 0;have hr:∀ j,sq (k+1+j)=cSeq bs (cNext bs (i,h)).2 j:=λ j=>by
  have:=hq (j+1);rw [show k+1+j=k+(j+1) by omega];exact this
 clear hq;have HH:=HT.has;obtain ⟨cHH_0,fHH_0⟩:=HH.2 0 _ rfl;obtain ⟨cHH_1,fHH_1⟩:=HH.2 1 _ rfl;obtain ⟨cHH_2,fHH_2⟩:=HH.2 2 _ rfl;have lg:=HH.1;unfold cNext at hv hr;simp only at hv hr;go_enter Tryz.func75,Tryz.ntmps75
 go_upto_region 2 with fail
 generalize wrap64 (wrap64 (h*6364136223846793005)+1442695040888963407)=h2 at hv hr ⊢;have T1:Xv (w.setCell ⟨g,2,none⟩ (.int .i64 h2)) g 112 [.slice B bs.length c,.int .i64 i,.int .i64 h2]:=HT.set_ 2 _;have O1:KR w (w.setCell ⟨g,2,none⟩ (.int .i64 h2)) g:=KR.set_ 2 _;have S1:=hs.farG O1 hap;clear HH cHH_0 cHH_1 cHH_2 fHH_0 fHH_1 fHH_2 lg HT hs;generalize w.setCell ⟨g,2,none⟩ (.int .i64 h2)=w1 at *;have H1:=T1.has;obtain ⟨cH1_0,fH1_0⟩:=H1.2 0 _ rfl;obtain ⟨cH1_1,fH1_1⟩:=H1.2 1 _ rfl;obtain ⟨cH1_2,fH1_2⟩:=H1.2 2 _ rfl;have lg:=H1.1;by_cases hlt:i<(bs.length:Int)
 ·obtain ⟨m,rfl⟩:=Int.eq_ofNat_of_zero_le i0;have hk:m<bs.length:=by omega
  rw [if_pos hlt] at hv hr;simp only at hr hv;have hgd:bs.getD (m:Int).toNat 0=bs[m]:=by
   rw [show (m:Int).toNat=m from rfl];simp [List.getD_eq_getElem?_getD,hk]
  have hgd2:bs.getD (Int.ofNat m).toNat 0=bs[m]:=hgd;have hv2:=Lib.hid hv;have hr2:=Lib.hid hr;clear hv hr;obtain ⟨b,off,hB,hblt,hcell⟩:=S1.at_ hk;have g0:=hcell 0 _ rfl;have ib:=hin _ (List.getElem_mem hk);have hne:=hap b off hB (by omega);subst hB;simp only [Nat.mul_one,Nat.add_zero] at g0;clear hcell;have hgd3:=Lib.hid hgd;have hgd4:=Lib.hid hgd2;clear hgd hgd2;generalize bs[m]=y at *;obtain ⟨y0,y1⟩:=ib;go_big_quiet (fail)
  go_upto_region 3 with fail
  rw [i64_and255];obtain ⟨z0,z1⟩:=@quiet_and (bits BinOp.xor IntKind.i64 (h2 / 8589934592) (h2 / 35184372088832));generalize (bits BinOp.xor IntKind.i64 (h2 / 8589934592) (h2 / 35184372088832)) % 256=z at *;clear z0 z1;go_big_quiet (fail)
  go_upto_region 4 with fail
  go_big_quiet (fail)
  go_upto_region 5 with fail
  rw [i64_and255];obtain ⟨z0,z1⟩:=@quiet_and (wrap64 (z+y));have hv3:=hv2.out;first|rw [hgd3.out] at hv3|rw [hgd4.out] at hv3
  have hv4:=Lib.hid hv3;clear hv2 hv3 hgd3 hgd4;generalize wrap64 (z+y) % 256=x at *;go_wp2
  go_ret
  refine ⟨by rw [hv4.out];rfl,⟨(m:Int)+1,h2,by omega,by omega,hr2.out,Xv.set_ (vs:=[.slice (some ⟨b,off,none⟩) bs.length c,.int .i64 (m:Int),.int .i64 h2]) ?_ 1 _⟩,O1.trans ?_⟩
  ·exact T1
  ·exact (KR.drewN (g:=g) (X9.refl w1 _) _).trans (KR.set_ 1 _)
 ·rw [if_neg hlt] at hv hr;simp only at hr hv;have hv2:=Lib.hid hv;have hr2:=Lib.hid hr;clear hv hr;go_big_quiet (fail)
  go_upto_region 3 with fail
  rw [i64_and255];obtain ⟨z0,z1⟩:=@quiet_and (bits BinOp.xor IntKind.i64 (h2 / 8589934592) (h2 / 35184372088832));generalize (bits BinOp.xor IntKind.i64 (h2 / 8589934592) (h2 / 35184372088832)) % 256=z at *;go_big_quiet (fail)
  go_wp2
  go_ret
  refine ⟨by rw [hv2.out];rfl,⟨i,h2,i0,i1,hr2.out,T1⟩,O1.trans ?_⟩;exact KR.drewN (g:=g) (X9.refl w1 _) _
theorem YX (bs:List Int) (B:Option Addr) (c g:Nat) (m:Int) (sq:Nat->Int) (k:Nat) (w:World) (h1:1<=m) (h2:m<=256) (hn:bs.length<=1048576) (hin:∀ y∈bs,InB y) (hs:Sl 1 byteC w B bs) (hc:YG w g B c bs sq k) (hap:∀ b off,B=some ⟨b,off,none⟩->0<bs.length->b≠g) :
 Calls Tryz.prog 31 #[.pointer (some ⟨g,0,none⟩),.int .i64 m] w λ e w'=>e=.returned (.int .i64 (sq k % m))/\YG w' g B c bs sq (k+1)/\KR w w' g:=by
 have k1:=curByteQ_c bs B c g sq k w hn hin hs hc hap;obtain ⟨x0,x1⟩:=hc.bd 0;rw [Nat.add_zero] at x0 x1;have d0:((m:Int) == 0)=false:=by simp;omega
 have d1:((m:Int) != 0)=true:=by simp;omega
 have d2:((m:Int) == -1)=false:=by simp;omega
 clear hin hs hc hap;go_enter Tryz.func31,Tryz.ntmps31
 go_wp2_with (fail)
 refine k1.mono ?_;rintro e w1 ⟨rfl,C1,O1⟩;go_wp2
 go_ret
 exact ⟨rfl,C1,O1⟩
theorem curOnceQ_c (bs:List Int) (B:Option Addr) (c g:Nat) (m:Int) (sq:Nat->Int) (k:Nat) (w:World) (h1:1<=m) (h2:m<=256) (hn:bs.length<=1048576) (hin:∀ y∈bs,InB y) (hs:Sl 1 byteC w B bs) (hc:YG w g B c bs sq k) (hap:∀ b off,B=some ⟨b,off,none⟩->0<bs.length->b≠g) :
 Calls Tryz.prog 72 #[.pointer (some ⟨g,0,none⟩),.int .i64 m] w λ e w'=>e=.returned (.bool (sq k % m == 0))/\YG w' g B c bs sq (k+1)/\KR w w' g:=by
 have k1:=YX bs B c g m sq k w h1 h2 hn hin hs hc hap;clear hin hs hc hap;generalize sq k % m=x at *;go_enter Tryz.func72,Tryz.ntmps72
 go_wp2_with (fail)
 refine k1.mono ?_;rintro e w1 ⟨rfl,C1,O1⟩;go_wp2
 go_ret
 exact ⟨rfl,C1,O1⟩
theorem curPickQ_c (bs:List Int) (B:Option Addr) (c g:Nat) (l:List Int) (A:Option Addr) (d:Nat) (sq:Nat->Int) (k:Nat) (w:World) (h1:1<=l.length) (h2:l.length<=256) (hn:bs.length<=1048576) (hin:∀ y∈bs,InB y) (hs:Sl 1 byteC w B bs) (hc:YG w g B c bs sq k) (hap:∀ b off,B=some ⟨b,off,none⟩->0<bs.length->b≠g) (hl:Sl 1 KX w A l) (hap2:∀ b off,A=some ⟨b,off,none⟩->0<l.length->b≠g) :
 Calls Tryz.prog 70 #[.pointer (some ⟨g,0,none⟩),.slice A l.length d] w λ e w'=>e=.returned (.int .i64 (l.getD (sq k % (l.length:Int)).toNat 0))/\YG w' g B c bs sq (k+1)/\KR w w' g:=by
 have k1:=YX bs B c g (l.length:Int) sq k w (by omega) (by omega) hn hin hs hc hap;obtain ⟨m,hm⟩:=Int.eq_ofNat_of_zero_le (Int.emod_nonneg (sq k) (show (l.length:Int)≠0 by omega));have hlt:m<l.length:=by
  have:=Int.emod_lt_of_pos (sq k) (show (0:Int)<(l.length:Int) by omega);omega
 rw [hm] at k1;have hm2:=Lib.hid hm;clear hm hin hs hc hap;go_enter Tryz.func70,Tryz.ntmps70
 go_wp2_with (fail)
 refine k1.mono ?_;rintro e w1 ⟨rfl,C1,O1⟩;obtain ⟨b,off,hA,hblt,hcell⟩:=(hl.farG O1 hap2).at_ hlt;have g0:=hcell 0 _ rfl;subst hA;simp only [Nat.mul_one,Nat.add_zero] at g0;clear hcell k1;go_wp2
 go_ret
 refine ⟨?_,C1,O1⟩;rw [hm2.out];simp [List.getD_eq_getElem?_getD,hlt]
end Go.Proofs.YtbekjpkcicjcgabGreat
