/-
 A whole spot of a region, of the program.
 Conditions: the slices hold at most 2^20 elements.
-/
import Derived.Test.YtabfdkpdppemaaaGreatV4
import Derived.Test.YtabfdkpdppemaaaGreatPto
set_option maxHeartbeats 3000000
set_option maxRecDepth 100000
namespace Go.Proofs.YtabfdkpdppemaaaGreat
open Go.RowKit
def cdiv (n d:Int):Int:=-(-n / d)
def colS (x:Int) (z:Int × Int) (h:Half):Int × Int:=if h.b > 0 then (z.1,min z.2 ((h.c-h.a*x) / h.b)) else if h.b<0 then (max z.1 (cdiv (-(h.c-h.a*x)) (-h.b)),z.2) else z
def colF (x:Int):List Half->Int × Int->Int × Int
 | [],z=>z
 | h :: t,z=>if h.b=0/\h.c-h.a*x<0 then (0,-1) else colF x t (colS x z h)
def col (p:List Half) (x:Int):Int × Int:=colF x p (-1000,1000)
section
variable {p:List Half} {x lo hi:Int} {k:Nat} {z:Int × Int}
theorem colF_at (h:k<p.length):colF x (p.drop k) z=if (p.getD k Xe).b=0/\(p.getD k Xe).c-(p.getD k Xe).a*x<0 then (0,-1) else colF x (p.drop (k+1)) (colS x z (p.getD k Xe)):=by
 rw [List.drop_eq_getElem_cons h,colF,List.getD_eq_getElem?_getD,List.getElem?_eq_getElem h,Option.getD_some]
theorem col_up (h:k<p.length) (hb:(p.getD k Xe).b > 0):colF x (p.drop k) (lo,hi)=colF x (p.drop (k+1)) (lo,min hi (((p.getD k Xe).c-(p.getD k Xe).a*x) / (p.getD k Xe).b)):=by
 rw [colF_at h,if_neg (by omega),colS,if_pos hb]
theorem col_dn (h:k<p.length) (hb:(p.getD k Xe).b<0):colF x (p.drop k) (lo,hi)=colF x (p.drop (k+1)) (max lo (cdiv (-((p.getD k Xe).c-(p.getD k Xe).a*x)) (-(p.getD k Xe).b)),hi):=by
 rw [colF_at h,if_neg (by omega),colS,if_neg (by omega),if_pos hb]
theorem col_flat (h:k<p.length) (h1:¬ (p.getD k Xe).b > 0) (h2:¬ (p.getD k Xe).b<0) (ht:¬ (p.getD k Xe).c-(p.getD k Xe).a*x<0):colF x (p.drop k) (lo,hi)=colF x (p.drop (k+1)) (lo,hi):=by
 rw [colF_at h,if_neg (by omega),colS,if_neg (by omega),if_neg h2]
theorem col_stop (h:k<p.length) (h1:¬ (p.getD k Xe).b > 0) (h2:¬ (p.getD k Xe).b<0) (ht:(p.getD k Xe).c-(p.getD k Xe).a*x<0):colF x (p.drop k) (lo,hi)=(0,-1):=by
 rw [colF_at h,if_pos ⟨by omega,ht⟩]
theorem ax_bd {a x:Int} (ha : -50000<=a/\a<=50000) (hx : -1000<=x/\x<=1000) : -50000000<=a*x/\a*x<=50000000:=by
 have h1:(a*x).natAbs=a.natAbs*x.natAbs:=Int.natAbs_mul a x;have h2:a.natAbs*x.natAbs<=50000*1000:=Nat.mul_le_mul (by omega) (by omega);omega
end
theorem colF_in {x:Int}:∀ (p:List Half) (z:Int × Int),(colF x p z).1<=(colF x p z).2->(z.1<=(colF x p z).1/\(colF x p z).2<=z.2)/\∀ h∈p,∀ y,(colF x p z).1<=y->y<=(colF x p z).2->h.a*x+h.b*y<=h.c
 | [],z,_=>⟨⟨Int.le_refl _,Int.le_refl _⟩,λ h hh=>by cases hh⟩
 | g :: t,z,hle=>by
  rw [colF] at hle ⊢;by_cases hs:g.b=0/\g.c-g.a*x<0
  ·rw [if_pos hs] at hle;exact absurd hle (by decide)
  ·rw [if_neg hs] at hle ⊢;obtain ⟨⟨b1,b2⟩,b3⟩:=colF_in t (colS x z g) hle;have R:z.1<=(colS x z g).1/\(colS x z g).2<=z.2/\∀ y,(colS x z g).1<=y->y<=(colS x z g).2->g.a*x+g.b*y<=g.c:=by
    unfold colS;by_cases h1:g.b > 0
    ·rw [if_pos h1];refine ⟨Int.le_refl _,Int.min_le_left _ _,λ y _ hy=>?_⟩;have h2:y<=(g.c-g.a*x) / g.b:=Int.le_trans hy (Int.min_le_right _ _);have h3:=(Int.le_ediv_iff_mul_le h1).1 h2;rw [Int.mul_comm] at h3;omega
    ·rw [if_neg h1];by_cases h2:g.b<0
     ·rw [if_pos h2];refine ⟨Int.le_max_left _ _,Int.le_refl _,λ y hy _=>?_⟩;have h3 : -(-(-(g.c-g.a*x)) / (-g.b))<=y:=Int.le_trans (Int.le_max_right _ (cdiv (-(g.c-g.a*x)) (-g.b))) hy;have h4 : -y<=(-(-(g.c-g.a*x))) / (-g.b):=by omega
      have h5:=(Int.le_ediv_iff_mul_le (show 0 < -g.b by omega)).1 h4;rw [Int.neg_mul_neg,Int.mul_comm] at h5;omega
     ·rw [if_neg h2];refine ⟨Int.le_refl _,Int.le_refl _,λ y _ _=>?_⟩;have h3:g.b=0:=by omega
      rw [h3,Int.zero_mul];have:¬ g.c-g.a*x<0:=λ h=>hs ⟨h3,h⟩;omega
   refine ⟨⟨Int.le_trans R.1 b1,Int.le_trans b2 R.2.1⟩,λ h hh y h1 h2=>?_⟩;rcases List.mem_cons.1 hh with rfl|hh
   ·exact R.2.2 y (Int.le_trans b1 h1) (Int.le_trans h2 b2)
   ·exact b3 h hh y h1 h2
theorem col_in {p:List Half} {x:Int} (h:(col p x).1<=(col p x).2):(-1000<=(col p x).1/\(col p x).1<=1000)/\InP p x (col p x).1 1:=by
 obtain ⟨⟨b1,b2⟩,b3⟩:=colF_in p (-1000,1000) h;refine ⟨⟨b1,Int.le_trans h b2⟩,λ g hg=>?_⟩;have:=b3 g hg _ (Int.le_refl _) h;unfold YO;rw [Int.mul_one];exact this
def innF (p:List Half):Nat->Int->Option Xz
 | 0,_=>none
 | n+1,x=>if (col p x).1<=(col p x).2 then some ⟨x,(col p x).1,1⟩ else innF p n (x+1)
def Jf (p:List Half):Option Xz:=if (decide (p.length=0) || !(Xl p))=true then none else innF p 2001 (-1000)
theorem innF_in {p:List Half}:∀ (n:Nat) (x:Int),-1000<=x->x+n<=1001->∀ s,innF p n x=some s->s.d=1/\InP p s.x s.y 1/\(-1000<=s.x/\s.x<=1000)/\-1000<=s.y/\s.y<=1000
 | 0,_,_,_,s,e=>by cases e
 | n+1,x,h1,h2,s,e=>by
  rw [innF] at e;split at e
  ·rename_i hc
   injection e with e
   obtain ⟨b1,b2⟩:=col_in hc;rw [<- e];exact ⟨rfl,b2,⟨h1,by simp only;omega⟩,b1⟩
  ·exact innF_in n (x+1) (by omega) (by omega) s e
theorem inn_in {p:List Half} {s:Xz} (e:Jf p=some s):Xl p=true/\p≠[]/\s.d=1/\InP p s.x s.y 1/\(-1000<=s.x/\s.x<=1000)/\-1000<=s.y/\s.y<=1000:=by
 unfold Jf at e;split at e
 ·cases e
 ·rename_i h
  have h1:(decide (p.length=0) || !(Xl p))=false:=by simpa using h
  refine ⟨KQ (or_f2 h1),λ h2=>?_,innF_in 2001 (-1000) (by omega) (by omega) s e⟩;have h3:=of_decide_eq_false (or_f1 h1);rw [h2] at h3;exact h3 rfl
theorem iCol_c (p:List Half) (xx:Int) (a:Kd) (w:World) (hp:Xl p=true) (hx : -1000<=xx/\xx<=1000) (hlp:p.length<=1048576) (hsl:Sl 3 Xh w a.A p) :
 Calls Tryz.prog 136 #[.agg #[.slice a.A p.length a.c],.int .i64 xx] w λ x w'=>x=.returned (.tuple #[.int .i64 (col p xx).1,.int .i64 (col p xx).2])/\Below w.heap.size w w':=by
 refine Ks Tryz.func136 rfl (n:=53) Tryz.ntmps136 (by simp) ?_;intro a0 R C ha;have s0:a0.tmps[0]?.getD undef=.agg #[.slice a.A p.length a.c]:=ha 0 _ rfl;have s1:a0.tmps[1]?.getD undef=.int .i64 xx:=ha 1 _ rfl;clear ha;have P:=Below.refl w.heap.size w;have S:=Nat.le_refl w.heap.size;refine wp_seq ?_;refine Ku [2,4,5] [.pointer (some ⟨w.heap.size,0,none⟩),.int .i64 0,.int .i64 0] [some (.cells [.slice a.A p.length a.c].toArray 26),none,none] [0,1,1] [2,4,5] [0,1,2] (by kernel_rfl) (by rw [R];decide) (ec ?_ (ec ?_ (ec ?_ .nil))) ?_
 ·intro a w' B hs N Q D;simp [go_sem,B.g rfl s0];rw [hs];exact D
 ·intro a w' B hs N Q D;simp [go_sem];exact D
 ·intro a w' B hs N Q D;simp [go_sem];exact D
 intro a1 w2 B K hb hO;replace R:=B.size.trans R;replace C:=B.defers.trans C;replace s1:=B.g rfl s1;have s2:a1.tmps[2]?.getD undef=.pointer (some ⟨w.heap.size,0,none⟩):=K 0 (by decide);have b3:Xr w2 w.heap.size 26 [.slice a.A p.length a.c]:=hO 0 _ rfl;have hG:=b3.lt;replace P:=Xf P hb;have zw2:=Nat.le_trans S hb.size;replace S:=Nat.le_refl w2.heap.size;clear B K hb hO s0;refine Xv (wp_seq ?_);refine Xs [6,7] [some (.int .i64 (-1000)),some (.int .i64 1000)] (YG 2) [6,7] [] (λ _ _ _=>True) ?_ (e2 ?_ ?_ .nil) ?_
 ·exact λ _ _=>trivial
 ·exact oACT rfl rfl
 ·exact oACT rfl rfl
 intro L a4 w5 U B F K T;replace R:=B.Z R;replace C:=B.E C;replace s1:=B.G s1;replace s2:=B.G s2;have s6:=gS a4 6 (K 0 _ rfl);have s7:=gS a4 7 (K 1 _ rfl);replace b3:=b3.k0 F;replace S:=Nat.le_trans S F.size;replace P:=F.below0 P;clear B F K U T;refine Xv (wp_seq (wp_seq ?_));refine Xs [11,12,13,14] [some (.pointer (some ⟨w.heap.size,0,none⟩)),some (.slice a.A p.length a.c),some (.int .i64 (p.length:Int)),some (.int .i64 0)] (YG 4) [11,12,13,14] [] (λ _ _ _=>True) ?_ (e4 ?_ ?_ ?_ ?_ .nil) ?_
 ·exact λ _ _=>trivial
 ·intro M J I H _ _ D;simp [go_sem,H.f.g rfl s2];exact (D _ _ H.k rfl trivial)
 ·intro M J I H _ _ D;simp [go_sem,(gS J 11 (H.d 0 rfl rfl)),(b3.k0 H.k).cell];exact (D _ _ H.k rfl trivial)
 ·intro M J I H _ _ D;simp [go_sem,(gS J 12 (H.d 1 rfl rfl))];exact (D _ _ H.k rfl trivial)
 ·exact oMCT rfl rfl
 intro L a6 w7 U B F K T;replace R:=B.Z R;replace C:=B.E C;replace s1:=B.G s1;replace s6:=B.G s6;replace s7:=B.G s7;have s12:=gS a6 12 (K 1 _ rfl);have s13:=gS a6 13 (K 2 _ rfl);have s14:=gS a6 14 (K 3 _ rfl);replace S:=Nat.le_trans S F.size;replace P:=F.below0 P;clear B F K U T s2 b3;refine Xv (wp_block ?_);refine wp_loop (λ al wl=>al.tmps.size=53/\al.defers=[]/\∃ (k:Nat) (lo:Int) (hi:Int),(k<=p.length)/\(colF xx (p.drop k) (lo,hi)=col p xx)/\al.tmps[1]?.getD undef=.int .i64 xx/\al.tmps[6]?.getD undef=.int .i64 lo/\al.tmps[7]?.getD undef=.int .i64 hi/\al.tmps[12]?.getD undef=.slice a.A p.length a.c/\al.tmps[13]?.getD undef=.int .i64 (p.length:Int)/\al.tmps[14]?.getD undef=.int .i64 (k:Int)/\Below w.heap.size w wl/\w2.heap.size<=wl.heap.size) (λ al _=>(p.length-(intOf (al.tmps[14]?.getD undef)).toNat)) ?_ ?_
 ·exact ⟨R,C,(0),(-1000),(1000),(Nat.zero_le _),(rfl),s1,s6,s7,s12,s13,s14,P,(by omega)⟩
 clear R C P S s1 s6 s7 s12 s13 s14;rintro a8 w9 ⟨R,C,k,lo,hi,hk,hcol,s1,s6,s7,s12,s13,s14,P,S⟩;have zw9:=S;replace S:=Nat.le_refl w9.heap.size;have hmu:(p.length-(intOf (a8.tmps[14]?.getD undef)).toNat)=(p.length-(intOf ((.int .i64 (k:Int)))).toNat):=by rw [s14]
 refine wp_seq ?_;refine Xs [15] [some (.bool (decide ((k:Int)<(p.length:Int))))] (YG 1) [15] [] (λ _ _ _=>True) ?_ (en rfl ?_ .nil) ?_
 ·exact λ _ _=>trivial
 ·exact λ M J I H _ _ D=>YU rfl (ev (H.f.g rfl s14)) (ev (H.f.g rfl s13)) rfl rfl (D _ _ H.k rfl trivial)
 intro L a10 w11 U B F K T;replace R:=B.Z R;replace C:=B.E C;replace s1:=B.G s1;replace s6:=B.G s6;replace s7:=B.G s7;replace s12:=B.G s12;replace s13:=B.G s13;replace s14:=B.G s14;have s15:=gS a10 15 (K 0 _ rfl);replace S:=Nat.le_trans S F.size;replace P:=F.below0 P;clear B F K U T;refine Xv (wp_seq ?_);rcases Bool.eq_false_or_eq_true (decide ((k:Int)<(p.length:Int))) with q12|q12
 ·have hkl:k<p.length:=by have:=KY q12;omega
  have hO:=KE (Km hp _ (getD_mem hkl Xe));obtain ⟨hha,hhb,hhc,_⟩:=Ze.1 (Km hp _ (getD_mem hkl Xe));have hax:=ax_bd hha hx;obtain ⟨bp,op,ep,fp⟩:=ElS.open_ (hsl.below P) (by omega);refine wp_cond_true (ev (vb s15 q12)) ?_;refine wp_skip (Xv (wp_seq (wp_block (wp_seq ?_))));have O:XJ [9] (λ L aa I=>(L 2=true->X8 w11 aa I 9 174 [.int .i64 0,.int .i64 0,.int .i64 0] (L 3) (λ _ vs=>vs=[.int .i64 ((p.getD k Xe).a),.int .i64 ((p.getD k Xe).b),.int .i64 ((p.getD k Xe).c)]))):=by
   intro L aa I w' kk vv hkk hb T;have x0:=T;exact (λ h=>((x0 h).bel hb (λ _ h=>h)).put (hkk 9 (by simp)) _)
  refine XD O [16,17,9,0] [some (.pointer (some ⟨bp,op+k*3,none⟩)),some (Zb (p.getD k Xe)),none,none] (YG 4) [16,17,9] [] ?_ (e4 ?_ ?_ ?_ ?_ .nil) ?_
  ·exact λ _ h=>(λ h=>by cases h)
  ·intro M J I H _ _ D;simp [go_sem,H.f.g rfl s12,H.f.g rfl s14,hkl,ep];exact (D _ _ H.k rfl (O.q rfl H.x))
  ·intro M J I H _ _ D;have hE:=fp.kp H.k (by simp);simp [go_sem,(gS J 16 (H.d 0 rfl rfl)),(hE.at_ Xe (i:=k) (by omega) 0 (p:=op+k*3) (by omega) rfl),(hE.at_ Xe (i:=k) (by omega) 1 (p:=op+k*3+1) (by omega) rfl),(hE.at_ Xe (i:=k) (by omega) 2 (p:=op+k*3+2) (by omega) rfl)];exact (D _ _ H.k rfl (O.q rfl H.x))
  ·intro M J I H _ _ D;have x0:=H.x;simp [go_sem];exact D _ _ (H.k.alloc _) trivial (λ _=>by rw [show Yv M 2 3=false from H.t 3 rfl];exact X8.new (s:=9) (H.f.lt (by rw [R];decide)) H.k.size [.int .i64 0,.int .i64 0,.int .i64 0])
  ·intro M J I H _ _ D;have x0:=H.x;obtain ⟨g,eg,hg,y,_⟩:=x0 (H.r 2 rfl);have V:=y H.n;simp [go_sem,(gS J 17 (H.d 1 rfl rfl)),eg,V.cell,V.frz];exact D undef _ (H.k.store (.inl hg) [.int .i64 ((p.getD k Xe).a),.int .i64 ((p.getD k Xe).b),.int .i64 ((p.getD k Xe).c)] 0) trivial (λ _=>X8.set eg hg V (us:=[.int .i64 ((p.getD k Xe).a),.int .i64 ((p.getD k Xe).b),.int .i64 ((p.getD k Xe).c)]) rfl rfl)
  intro L a13 w14 U B F K T;have x0:=T;replace R:=B.Z R;replace C:=B.E C;replace s1:=B.G s1;replace s6:=B.G s6;replace s7:=B.G s7;replace s12:=B.G s12;replace s13:=B.G s13;replace s14:=B.G s14;obtain ⟨g15,s9,lg15,-,b15⟩:=x0 (U 2 (by decide));obtain ⟨_,b15,rfl⟩:=b15 (U 3 (by decide));have ug15:=b15.lt;have zw11:=S;have zw14:=F.size;replace S:=Nat.le_refl w14.heap.size;replace P:=F.below0 P;clear B F K U x0 O s15 fp;refine Xv (wp_seq ?_);refine Xs [18,19,20,21,22,23,24,10] [some (.pointer (some ⟨g15,2,none⟩)),some (.int .i64 ((p.getD k Xe).c)),some (.pointer (some ⟨g15,0,none⟩)),some (.int .i64 ((p.getD k Xe).a)),some (.int .i64 xx),some (.int .i64 (((p.getD k Xe).a)*xx)),some (.int .i64 (((p.getD k Xe).c)-(((p.getD k Xe).a)*xx))),some (.int .i64 (((p.getD k Xe).c)-(((p.getD k Xe).a)*xx)))] (YG 8) [18,19,20,21,22,23,24,10] [] (λ _ _ _=>True) ?_ (e4 ?_ ?_ ?_ ?_ (e4 ?_ ?_ ?_ ?_ .nil)) ?_
  ·exact λ _ _=>trivial
  ·intro M J I H _ _ D;simp [go_sem,H.f.g rfl s9];exact (D _ _ H.k rfl trivial)
  ·intro M J I H _ _ D;simp [go_sem,(gS J 18 (H.d 0 rfl rfl)),(b15.k0 H.k).cell];exact (D _ _ H.k rfl trivial)
  ·intro M J I H _ _ D;simp [go_sem,H.f.g rfl s9];exact (D _ _ H.k rfl trivial)
  ·intro M J I H _ _ D;simp [go_sem,(gS J 20 (H.d 2 rfl rfl)),(b15.k0 H.k).cell];exact (D _ _ H.k rfl trivial)
  ·exact ZN s1 rfl rfl rfl
  ·exact λ M J I H _ _ D=>wp_mul rfl (ev (H.d 3 rfl rfl)) (ev (H.d 4 rfl rfl)) (by omega) (D _ _ H.k rfl trivial)
  ·exact λ M J I H _ _ D=>J3 rfl (ev (H.d 1 rfl rfl)) (ev (H.d 5 rfl rfl)) (by omega) (D _ _ H.k rfl trivial)
  ·exact Jr 6 rfl rfl rfl rfl
  intro L a16 w17 U B F K T;replace R:=B.Z R;replace C:=B.E C;replace s1:=B.G s1;replace s6:=B.G s6;replace s7:=B.G s7;replace s12:=B.G s12;replace s13:=B.G s13;replace s14:=B.G s14;replace s9:=B.G s9;have s10:=gS a16 10 (K 7 _ rfl);replace b15:=b15.k0 F;replace S:=Nat.le_trans S F.size;replace P:=F.below0 P;clear B F K U T;obtain ⟨tp,etp⟩:∃ z:Int,z=((p.getD k Xe).c)-(((p.getD k Xe).a)*xx):=⟨_,rfl⟩;rw [<- etp] at s10;refine Xv (wp_block (wp_seq ?_));refine Xs [26,27,28,25] [some (.pointer (some ⟨g15,1,none⟩)),some (.int .i64 ((p.getD k Xe).b)),some (.bool (decide ((p.getD k Xe).b > 0))),some (.bool (decide ((p.getD k Xe).b > 0)))] (YG 4) [26,27,28,25] [] (λ _ _ _=>True) ?_ (e4 ?_ ?_ ?_ ?_ .nil) ?_
  ·exact λ _ _=>trivial
  ·intro M J I H _ _ D;simp [go_sem,H.f.g rfl s9];exact (D _ _ H.k rfl trivial)
  ·intro M J I H _ _ D;simp [go_sem,(gS J 26 (H.d 0 rfl rfl)),(b15.k0 H.k).cell];exact (D _ _ H.k rfl trivial)
  ·exact λ M J I H _ _ D=>YU rfl (ev (H.d 1 rfl rfl)) rfl rfl rfl (D _ _ H.k rfl trivial)
  ·exact Jr 2 rfl rfl rfl rfl
  intro L a18 w19 U B F K T;replace R:=B.Z R;replace C:=B.E C;replace s1:=B.G s1;replace s6:=B.G s6;replace s7:=B.G s7;replace s12:=B.G s12;replace s13:=B.G s13;replace s14:=B.G s14;replace s9:=B.G s9;replace s10:=B.G s10;have s25:=gS a18 25 (K 3 _ rfl);replace b15:=b15.k0 F;replace S:=Nat.le_trans S F.size;replace P:=F.below0 P;clear B F K U T;refine Xv ?_;rcases Bool.eq_false_or_eq_true (decide ((p.getD k Xe).b > 0)) with q20|q20
  ·have hbq:=KY q20;have hbp:0<(p.getD k Xe).b:=hbq;refine wp_cond_true (ev (vb s25 q20)) ?_;have O:XJ [7] (λ L aa I=>(L 6=false->aa.tmps[7]?.getD undef=.int .i64 hi)):=by
    intro L aa I w' kk vv hkk hb T;have x0:=T;exact (λ h=>(Xb (hkk 7 (by simp)) vv).trans (x0 h))
   refine XD O [29,30,31,32,33,34,7] [some (.int .i64 hi),some (.int .i64 tp),some (.pointer (some ⟨g15,1,none⟩)),some (.int .i64 ((p.getD k Xe).b)),some (.int .i64 (tp / ((p.getD k Xe).b))),some (.int .i64 (min hi (tp / ((p.getD k Xe).b)))),some (.int .i64 (min hi (tp / ((p.getD k Xe).b))))] (YG 7) [29,30,31,32,33,34,7] [] ?_ (e4 ?_ ?_ ?_ ?_ (e2 ?_ ?_ (en rfl ?_ .nil))) ?_
   ·exact λ _ h=>(λ _=>s7)
   ·intro M J I H _ _ D;have x0:=H.x;exact XN rfl (ev (x0 (H.t 6 rfl))) (D _ _ H.k rfl (O M J I _ (some 29) _ (by simp) bR H.x))
   ·exact λ M J I H _ _ D=>XN rfl (ev (H.f.g rfl s10)) (D _ _ H.k rfl (O M J I _ (some 30) _ (by simp) bR H.x))
   ·intro M J I H _ _ D;simp [go_sem,H.f.g rfl s9];exact (D _ _ H.k rfl (O M J I _ (some 31) _ (by simp) bR H.x))
   ·intro M J I H _ _ D;simp [go_sem,(gS J 31 (H.d 2 rfl rfl)),(b15.k0 H.k).cell];exact (D _ _ H.k rfl (O M J I _ (some 32) _ (by simp) bR H.x))
   ·intro M J I H _ _ D;simp [go_sem,(gS J 30 (H.d 1 rfl rfl)),(gS J 32 (H.d 3 rfl rfl))];refine (floorDiv_c tp ((p.getD k Xe).b) I (by omega) (by omega) hbp (by omega)).mono ?_;rintro x wx ⟨rfl,n,rfl⟩;have hb:Below I.heap.size I (I.drewN n):=Yz bR n;exact (D _ _ (H.k.call hb) rfl (O M J I _ (some 33) _ (by simp) hb H.x))
   ·intro M J I H _ _ D;simp [go_sem,(gS J 29 (H.d 0 rfl rfl)),(gS J 33 (H.d 4 rfl rfl))];exact (D _ _ H.k rfl (O M J I _ (some 34) _ (by simp) bR H.x))
   ·intro M J I H _ _ D;have x0:=H.x;exact YA rfl (ev (H.d 5 rfl rfl)) (D _ _ H.k rfl (λ h=>by simp [Yv] at h))
   intro L a21 w22 U B F K T;have x0:=T;replace R:=B.Z R;replace C:=B.E C;replace s1:=B.G s1;replace s6:=B.G s6;replace s12:=B.G s12;replace s13:=B.G s13;replace s14:=B.G s14;have s7:=gS a21 7 (K 6 _ rfl);replace S:=Nat.le_trans S F.size;replace P:=F.below0 P;clear B F K U x0 O s9 s10 s25 b15;refine ib_n (ib_n (Xv ?_));refine Xs [50,14] [some (.int .i64 ((k:Int)+1)),some (.int .i64 ((k:Int)+1))] (YG 2) [50,14] [] (λ L aa I=>(L 1=false->aa.tmps[14]?.getD undef=.int .i64 (k:Int))) ?_ (e2 ?_ ?_ .nil) ?_
   ·exact λ _ h=>(λ _=>s14)
   ·intro M J I H _ _ D;have x0:=H.x;exact Z7 rfl (ev (x0 (H.t 1 rfl))) rfl (by omega) (D _ _ H.k rfl (λ h=>(Xb (by decide) _).trans (x0 h)))
   ·intro M J I H _ _ D;have x0:=H.x;exact XN rfl (ev (H.d 0 rfl rfl)) (D _ _ H.k rfl (λ h=>by simp [Yv] at h))
   intro L a23 w24 U B F K T;have x0:=T;replace R:=B.Z R;replace C:=B.E C;replace s1:=B.G s1;replace s6:=B.G s6;replace s12:=B.G s12;replace s13:=B.G s13;replace s7:=B.G s7;have s14:=gS a23 14 (K 1 _ rfl);replace S:=Nat.le_trans S F.size;replace P:=F.below0 P;clear B F K U x0;refine Xv ?_;refine ⟨?_, ?_⟩
   ·exact ⟨R,C,(k+1),(lo),(min hi (tp / ((p.getD k Xe).b))),(by omega),(by rw [<- hcol,etp];exact (col_up hkl hbq).symm),s1,s6,s7,s12,s13,s14,P,(by omega)⟩
   ·show (p.length-(intOf (a23.tmps[14]?.getD undef)).toNat)<_;rw [s14,hmu];simp only [intOf];omega
  ·have hb1:=Jv q20;refine wp_cond_false (ev (vb s25 q20)) ?_;refine wp_seq ?_;refine Xs [36,37,38,35] [some (.pointer (some ⟨g15,1,none⟩)),some (.int .i64 ((p.getD k Xe).b)),some (.bool (decide ((p.getD k Xe).b<0))),some (.bool (decide ((p.getD k Xe).b<0)))] (YG 4) [36,37,38,35] [] (λ _ _ _=>True) ?_ (e4 ?_ ?_ ?_ ?_ .nil) ?_
   ·exact λ _ _=>trivial
   ·intro M J I H _ _ D;simp [go_sem,H.f.g rfl s9];exact (D _ _ H.k rfl trivial)
   ·intro M J I H _ _ D;simp [go_sem,(gS J 36 (H.d 0 rfl rfl)),(b15.k0 H.k).cell];exact (D _ _ H.k rfl trivial)
   ·exact λ M J I H _ _ D=>YU rfl (ev (H.d 1 rfl rfl)) rfl rfl rfl (D _ _ H.k rfl trivial)
   ·exact Jr 2 rfl rfl rfl rfl
   intro L a25 w26 U B F K T;replace R:=B.Z R;replace C:=B.E C;replace s1:=B.G s1;replace s6:=B.G s6;replace s7:=B.G s7;replace s12:=B.G s12;replace s13:=B.G s13;replace s14:=B.G s14;replace s9:=B.G s9;replace s10:=B.G s10;have s35:=gS a25 35 (K 3 _ rfl);replace b15:=b15.k0 F;replace S:=Nat.le_trans S F.size;replace P:=F.below0 P;clear B F K U T s25;refine Xv ?_;rcases Bool.eq_false_or_eq_true (decide ((p.getD k Xe).b<0)) with q27|q27
   ·have hbq:=KY q27;have hbn:0 < -(p.getD k Xe).b:=by omega
    refine wp_cond_true (ev (vb s35 q27)) ?_;have O:XJ [6] (λ L aa I=>(L 8=false->aa.tmps[6]?.getD undef=.int .i64 lo)):=by
     intro L aa I w' kk vv hkk hb T;have x0:=T;exact (λ h=>(Xb (hkk 6 (by simp)) vv).trans (x0 h))
    refine XD O [39,40,41,42,43,44,45,46,6] [some (.int .i64 lo),some (.int .i64 tp),some (.int .i64 (-tp)),some (.pointer (some ⟨g15,1,none⟩)),some (.int .i64 ((p.getD k Xe).b)),some (.int .i64 (-((p.getD k Xe).b))),some (.int .i64 (cdiv (-tp) (-((p.getD k Xe).b)))),some (.int .i64 (max lo (cdiv (-tp) (-((p.getD k Xe).b))))),some (.int .i64 (max lo (cdiv (-tp) (-((p.getD k Xe).b)))))] (YG 9) [39,40,41,42,43,44,45,46,6] [] ?_ (e4 ?_ ?_ ?_ ?_ (e4 ?_ ?_ ?_ ?_ (en rfl ?_ .nil))) ?_
    ·exact λ _ h=>(λ _=>s6)
    ·intro M J I H _ _ D;have x0:=H.x;exact XN rfl (ev (x0 (H.t 8 rfl))) (D _ _ H.k rfl (O M J I _ (some 39) _ (by simp) bR H.x))
    ·exact λ M J I H _ _ D=>XN rfl (ev (H.f.g rfl s10)) (D _ _ H.k rfl (O M J I _ (some 40) _ (by simp) bR H.x))
    ·exact λ M J I H _ _ D=>K4 rfl (ev (H.d 1 rfl rfl)) (by omega) (D _ _ H.k rfl (O M J I _ (some 41) _ (by simp) bR H.x))
    ·intro M J I H _ _ D;simp [go_sem,H.f.g rfl s9];exact (D _ _ H.k rfl (O M J I _ (some 42) _ (by simp) bR H.x))
    ·intro M J I H _ _ D;simp [go_sem,(gS J 42 (H.d 3 rfl rfl)),(b15.k0 H.k).cell];exact (D _ _ H.k rfl (O M J I _ (some 43) _ (by simp) bR H.x))
    ·exact λ M J I H _ _ D=>K4 rfl (ev (H.d 4 rfl rfl)) (by omega) (D _ _ H.k rfl (O M J I _ (some 44) _ (by simp) bR H.x))
    ·intro M J I H _ _ D;simp [go_sem,(gS J 41 (H.d 2 rfl rfl)),(gS J 44 (H.d 5 rfl rfl))];refine (ceilDiv_c (-tp) (-((p.getD k Xe).b)) I (by omega) (by omega) hbn (by omega)).mono ?_;rintro x wx ⟨rfl,hb⟩;exact (D _ _ (H.k.call hb) rfl (O M J I _ (some 45) _ (by simp) hb H.x))
    ·intro M J I H _ _ D;simp [go_sem,(gS J 39 (H.d 0 rfl rfl)),(gS J 45 (H.d 6 rfl rfl))];exact (D _ _ H.k rfl (O M J I _ (some 46) _ (by simp) bR H.x))
    ·intro M J I H _ _ D;have x0:=H.x;exact YA rfl (ev (H.d 7 rfl rfl)) (D _ _ H.k rfl (λ h=>by simp [Yv] at h))
    intro L a28 w29 U B F K T;have x0:=T;replace R:=B.Z R;replace C:=B.E C;replace s1:=B.G s1;replace s7:=B.G s7;replace s12:=B.G s12;replace s13:=B.G s13;replace s14:=B.G s14;have s6:=gS a28 6 (K 8 _ rfl);replace S:=Nat.le_trans S F.size;replace P:=F.below0 P;clear B F K U x0 O s9 s10 s35 b15;refine ib_n (ib_n (Xv ?_));refine Xs [50,14] [some (.int .i64 ((k:Int)+1)),some (.int .i64 ((k:Int)+1))] (YG 2) [50,14] [] (λ L aa I=>(L 1=false->aa.tmps[14]?.getD undef=.int .i64 (k:Int))) ?_ (e2 ?_ ?_ .nil) ?_
    ·exact λ _ h=>(λ _=>s14)
    ·intro M J I H _ _ D;have x0:=H.x;exact Z7 rfl (ev (x0 (H.t 1 rfl))) rfl (by omega) (D _ _ H.k rfl (λ h=>(Xb (by decide) _).trans (x0 h)))
    ·intro M J I H _ _ D;have x0:=H.x;exact XN rfl (ev (H.d 0 rfl rfl)) (D _ _ H.k rfl (λ h=>by simp [Yv] at h))
    intro L a30 w31 U B F K T;have x0:=T;replace R:=B.Z R;replace C:=B.E C;replace s1:=B.G s1;replace s7:=B.G s7;replace s12:=B.G s12;replace s13:=B.G s13;replace s6:=B.G s6;have s14:=gS a30 14 (K 1 _ rfl);replace S:=Nat.le_trans S F.size;replace P:=F.below0 P;clear B F K U x0;refine Xv ?_;refine ⟨?_, ?_⟩
    ·exact ⟨R,C,(k+1),(max lo (cdiv (-tp) (-((p.getD k Xe).b)))),(hi),(by omega),(by rw [<- hcol,etp];exact (col_dn hkl hbq).symm),s1,s6,s7,s12,s13,s14,P,(by omega)⟩
    ·show (p.length-(intOf (a30.tmps[14]?.getD undef)).toNat)<_;rw [s14,hmu];simp only [intOf];omega
   ·have hb2:=Jv q27;refine wp_cond_false (ev (vb s35 q27)) ?_;refine wp_seq ?_;refine Xs [48,49,47] [some (.int .i64 tp),some (.bool (decide (tp<0))),some (.bool (decide (tp<0)))] (YG 3) [48,49,47] [] (λ _ _ _=>True) ?_ (e2 ?_ ?_ (en rfl ?_ .nil)) ?_
    ·exact λ _ _=>trivial
    ·exact ZN s10 rfl rfl rfl
    ·exact λ M J I H _ _ D=>YU rfl (ev (H.d 0 rfl rfl)) rfl rfl rfl (D _ _ H.k rfl trivial)
    ·exact Jr 1 rfl rfl rfl rfl
    intro L a32 w33 U B F K T;replace R:=B.Z R;replace C:=B.E C;replace s1:=B.G s1;replace s6:=B.G s6;replace s7:=B.G s7;replace s12:=B.G s12;replace s13:=B.G s13;replace s14:=B.G s14;have s47:=gS a32 47 (K 2 _ rfl);replace S:=Nat.le_trans S F.size;replace P:=F.below0 P;clear B F K U T s9 s10 s35 b15;refine Xv ?_;rcases Bool.eq_false_or_eq_true (decide (tp<0)) with q34|q34
    ·have hb4:=KY q34;rw [etp] at hb4;refine wp_cond_true (ev (vb s47 q34)) ?_;refine wp_seq ?_;refine Xs [4,5] [some (.int .i64 0),some (.int .i64 (-1))] (YG 2) [4,5] [] (λ _ _ _=>True) ?_ (e2 ?_ ?_ .nil) ?_
     ·exact λ _ _=>trivial
     ·exact oACT rfl rfl
     ·exact oACT rfl rfl
     intro L a35 w36 U B F K T;replace R:=B.Z R;replace C:=B.E C;have s4:=gS a35 4 (K 0 _ rfl);have s5:=gS a35 5 (K 1 _ rfl);replace S:=Nat.le_trans S F.size;replace P:=F.below0 P;clear B F K U T s1 s6 s7 s12 s13 s14 s47;refine Xv (wp_ret ?_);refine ib_r (ib_r (JG (JG (ib_r (JG ?_)))));refine bodyPost_ret (v:=.tuple #[.int .i64 0,.int .i64 (-1)]) (by simp [results,Tryz.results136,go_sem,s4,s5]) C ?_;have h0:col p xx=(0,-1):=by rw [<- hcol];exact col_stop hkl hb1 hb2 hb4
     exact ⟨by rw [h0],P⟩
    ·have hb3:=Jv q34;rw [etp] at hb3;refine wp_cond_false (ev (vb s47 q34)) ?_;refine wp_skip ?_;refine ib_n (ib_n (Xv ?_));refine Xs [50,14] [some (.int .i64 ((k:Int)+1)),some (.int .i64 ((k:Int)+1))] (YG 2) [50,14] [] (λ L aa I=>(L 1=false->aa.tmps[14]?.getD undef=.int .i64 (k:Int))) ?_ (e2 ?_ ?_ .nil) ?_
     ·exact λ _ h=>(λ _=>s14)
     ·intro M J I H _ _ D;have x0:=H.x;exact Z7 rfl (ev (x0 (H.t 1 rfl))) rfl (by omega) (D _ _ H.k rfl (λ h=>(Xb (by decide) _).trans (x0 h)))
     ·intro M J I H _ _ D;have x0:=H.x;exact XN rfl (ev (H.d 0 rfl rfl)) (D _ _ H.k rfl (λ h=>by simp [Yv] at h))
     intro L a37 w38 U B F K T;have x0:=T;replace R:=B.Z R;replace C:=B.E C;replace s1:=B.G s1;replace s6:=B.G s6;replace s7:=B.G s7;replace s12:=B.G s12;replace s13:=B.G s13;have s14:=gS a37 14 (K 1 _ rfl);replace S:=Nat.le_trans S F.size;replace P:=F.below0 P;clear B F K U x0 s47;refine Xv ?_;refine ⟨?_, ?_⟩
     ·exact ⟨R,C,(k+1),(lo),(hi),(by omega),(by rw [<- hcol];exact (col_flat hkl hb1 hb2 hb3).symm),s1,s6,s7,s12,s13,s14,P,(by omega)⟩
     ·show (p.length-(intOf (a37.tmps[14]?.getD undef)).toNat)<_;rw [s14,hmu];simp only [intOf];omega
 ·have ek:k=p.length:=by have:=Jv q12;omega
  rw [ek,List.drop_length] at hcol;refine wp_cond_false (ev (vb s15 q12)) ?_;refine wp_exit ?_;refine th_e (th_e (ib_x (Xv (wp_seq ?_))));refine Xs [51,52,4,5] [some (.int .i64 lo),some (.int .i64 hi),some (.int .i64 lo),some (.int .i64 hi)] (YG 4) [51,52,4,5] [] (λ _ _ _=>True) ?_ (e4 ?_ ?_ ?_ ?_ .nil) ?_
  ·exact λ _ _=>trivial
  ·exact ZN s6 rfl rfl rfl
  ·exact ZN s7 rfl rfl rfl
  ·exact Jr 0 rfl rfl rfl rfl
  ·exact Jr 1 rfl rfl rfl rfl
  intro L a39 w40 U B F K T;replace R:=B.Z R;replace C:=B.E C;have s4:=gS a39 4 (K 2 _ rfl);have s5:=gS a39 5 (K 3 _ rfl);replace S:=Nat.le_trans S F.size;replace P:=F.below0 P;clear B F K U T s1 s6 s7 s12 s13 s14 s15;refine Xv (wp_ret ?_);refine bodyPost_ret (v:=.tuple #[.int .i64 lo,.int .i64 hi]) (by simp [results,Tryz.results136,go_sem,s4,s5]) C ?_;have h0:col p xx=(lo,hi):=hcol.symm;exact ⟨by rw [h0],P⟩
theorem iInner_c (p:List Half) (a:Kd) (w:World) (hlp:p.length<=1048576) (hip:∀ h∈p,h.In) (hsl:Sl 3 Xh w a.A p) (hna:a.A=none->a.c=0) :
 Calls Tryz.prog 49 #[.agg #[.slice a.A p.length a.c]] w λ x w'=>x=.returned (.tuple #[Y4 ((Jf p).getD JH),.bool (Jf p).isSome])/\Below w.heap.size w w':=by
 refine Ks Tryz.func49 rfl (n:=32) Tryz.ntmps49 (by simp) ?_;intro a0 R C ha;have s0:a0.tmps[0]?.getD undef=.agg #[.slice a.A p.length a.c]:=ha 0 _ rfl;clear ha;have P:=Below.refl w.heap.size w;have S:=Nat.le_refl w.heap.size;refine wp_seq ?_;refine Ku [1,2,3] [.pointer (some ⟨w.heap.size,0,none⟩),.pointer (some ⟨(w.heap.size+1),0,none⟩),.bool false] [some (.cells [.slice a.A p.length a.c].toArray 26),some (.cells [.int .i64 0,.int .i64 0,.int .i64 0].toArray 30),none] [0,1,2] [1,2,3] [0,1,2] (by kernel_rfl) (by rw [R];decide) (ec ?_ (ec ?_ (ec ?_ .nil))) ?_
 ·intro a w' B hs N Q D;simp [go_sem,B.g rfl s0];rw [hs];exact D
 ·intro a w' B hs N Q D;simp [go_sem];rw [hs];exact D
 ·intro a w' B hs N Q D;simp [go_sem];exact D
 intro a1 w2 B K hb hO;replace R:=B.size.trans R;replace C:=B.defers.trans C;have s1:a1.tmps[1]?.getD undef=.pointer (some ⟨w.heap.size,0,none⟩):=K 0 (by decide);have s2:a1.tmps[2]?.getD undef=.pointer (some ⟨(w.heap.size+1),0,none⟩):=K 1 (by decide);have b3:Xr w2 w.heap.size 26 [.slice a.A p.length a.c]:=hO 0 _ rfl;have b4:Xr w2 (w.heap.size+1) 30 [.int .i64 0,.int .i64 0,.int .i64 0]:=hO 1 _ rfl;have hG:=b4.lt;replace P:=Xf P hb;have zw2:=Nat.le_trans S hb.size;replace S:=Nat.le_refl w2.heap.size;clear B K hb hO s0;refine Xv (wp_seq (wp_seq ?_));refine Xs [7,8,9,10,11,12,13] [some (.agg #[.slice a.A p.length a.c]),some (.bool (decide (p.length=0))),some (.bool (decide (p.length=0))),some ((bif decide (p.length=0) then undef else (.agg #[.slice a.A p.length a.c]:Value))),some ((bif decide (p.length=0) then undef else (.bool (Xl p):Value))),some ((bif decide (p.length=0) then undef else (.bool (!(Xl p)):Value))),some (.bool (decide (p.length=0) || !(Xl p)))] (YG 7) [7,8,9,10,11,12,13] [] (λ _ _ _=>True) ?_ (e2 ?_ ?_ (en rfl ?_ (eg ?_ (eg ?_ (eg ?_ (en rfl ?_ .nil)))))) ?_
 ·exact λ _ _=>trivial
 ·intro M J I H _ _ D;simp [go_sem,H.f.g rfl s1,(b3.k0 H.k).cell];exact (D _ _ H.k rfl trivial)
 ·intro M J I H _ _ D;simp [go_sem,(gS J 7 (H.d 0 rfl rfl))];refine (KD p a I).mono ?_;rintro x wx ⟨rfl,hb⟩;exact (D _ _ (H.k.call hb) rfl trivial)
 ·exact oMDT 1 rfl rfl rfl rfl
 ·intro M J I H _ _ D;refine wgf rfl rfl rfl (H.d 2 rfl rfl) (λ qg=>D _ _ H.k (Z6 qg).symm trivial) λ qg=>?_;simp [go_sem,H.f.g rfl s1,(b3.k0 H.k).cell];exact (D _ _ H.k (KC qg).symm trivial)
 ·intro M J I H _ _ D;refine wgf rfl rfl rfl (H.d 2 rfl rfl) (λ qg=>D _ _ H.k (Z6 qg).symm trivial) λ qg=>?_;simp [go_sem,(show J.tmps[10]?.getD undef=_ from (H.d 3 rfl rfl).trans (KC qg))];have hBi:=H.k.below0 P;refine (Kx p a I hlp hip (hsl.below hBi) hna).mono ?_;rintro x wx ⟨rfl,hb⟩;exact (D _ _ (H.k.call hb) (KC qg).symm trivial)
 ·intro M J I H _ _ D;refine wgf rfl rfl rfl (H.d 2 rfl rfl) (λ qg=>D _ _ H.k (Z6 qg).symm trivial) λ qg=>?_;exact J4 rfl (ev ((H.d 4 rfl rfl).trans (KC qg))) (D _ _ H.k (KC qg).symm trivial)
 ·exact oPOT 2 5 rfl rfl rfl rfl rfl rfl
 intro L a5 w6 U B F K T;replace R:=B.Z R;replace C:=B.E C;replace s1:=B.G s1;replace s2:=B.G s2;have s13:=gS a5 13 (K 6 _ rfl);replace b3:=b3.k0 F;replace b4:=b4.k0 F;replace S:=Nat.le_trans S F.size;replace P:=F.below0 P;clear B F K U T;refine Xv ?_;rcases Bool.eq_false_or_eq_true (decide (p.length=0) || !(Xl p)) with q7|q7
 ·refine wp_cond_true (ev (vb s13 q7)) ?_;refine wp_seq ?_;have O:XJ [] (λ L aa I=>Zl I (w.heap.size+1) 30 [.int .i64 0,.int .i64 0,.int .i64 0] (L 1) (λ _ vs=>vs=[.int .i64 0,.int .i64 0,.int .i64 0])):=by
   intro L aa I w' kk vv hkk hb T;have x0:=T;exact (x0.bel hb (λ _ h=>h))
  refine XD O [14,0,3] [some (.agg #[.int .i64 0,.int .i64 0,.int .i64 0]),none,some (.bool false)] (YG 3) [14,3] [(w.heap.size+1)] ?_ (e2 ?_ ?_ (en rfl ?_ .nil)) ?_
  ·exact λ _ h=>(⟨λ _=>b4.kp h (by simp),(λ h=>by cases h)⟩)
  ·intro M J I H _ _ D;simp [go_sem];exact (D _ _ H.k rfl H.x)
  ·intro M J I H _ _ D;have x0:=H.x;have V:=x0.1 H.n;simp [go_sem,(gS J 14 (H.d 0 rfl rfl)),H.f.g rfl s2,V.cell,V.frz];exact D undef _ (H.k.store (.inr (by simp)) [.int .i64 0,.int .i64 0,.int .i64 0] 0) trivial (Zl.set V (us:=[.int .i64 0,.int .i64 0,.int .i64 0]) rfl rfl)
  ·exact oACX rfl rfl λ _ _ _ _ h=>h
  intro L a8 w9 U B F K T;have x0:=T;replace R:=B.Z R;replace C:=B.E C;replace s2:=B.G s2;have s3:=gS a8 3 (K 2 _ rfl);clear b4;obtain ⟨_,b4,rfl⟩:=x0.2 (U 1 (by decide));replace S:=Nat.le_trans S F.size;replace P:=F.below P P.size (by simp<;>omega);clear B F K U x0 O s1 s13 b3;refine Xv (wp_ret (JG ?_));refine bodyPost_ret (v:=.tuple #[.agg #[.int .i64 0,.int .i64 0,.int .i64 0],.bool false]) (by simp [results,Tryz.results49,go_sem,s2,b4.cell,s3]) C ?_;have h0:Jf p=none:=if_pos q7;exact ⟨by rw [h0];rfl,P⟩
 ·have hrp:=KQ (or_f2 q7);have hio:Jf p=innF p 2001 (-1000):=if_neg (by rw [q7];simp);refine wp_cond_false (ev (vb s13 q7)) ?_;refine wp_skip (Xv (wp_seq (wp_seq ?_)));refine Xs [4] [some (.int .i64 (-1000))] (YG 1) [4] [] (λ _ _ _=>True) ?_ (en rfl ?_ .nil) ?_
  ·exact λ _ _=>trivial
  ·exact oACT rfl rfl
  intro L a10 w11 U B F K T;replace R:=B.Z R;replace C:=B.E C;replace s1:=B.G s1;replace s2:=B.G s2;have s4:=gS a10 4 (K 0 _ rfl);replace b3:=b3.k0 F;replace b4:=b4.k0 F;replace S:=Nat.le_trans S F.size;replace P:=F.below0 P;clear B F K U T s13;refine Xv (wp_block ?_);refine wp_loop (λ al wl=>al.tmps.size=32/\al.defers=[]/\∃ (xx:Int),(-1000<=xx/\xx<=1001)/\(innF p (1001-xx).toNat xx=innF p 2001 (-1000))/\al.tmps[1]?.getD undef=.pointer (some ⟨w.heap.size,0,none⟩)/\al.tmps[2]?.getD undef=.pointer (some ⟨(w.heap.size+1),0,none⟩)/\al.tmps[4]?.getD undef=.int .i64 xx/\Xr wl w.heap.size 26 [.slice a.A p.length a.c]/\Xr wl (w.heap.size+1) 30 [.int .i64 0,.int .i64 0,.int .i64 0]/\Below w.heap.size w wl/\w2.heap.size<=wl.heap.size) (λ al _=>(1001-intOf (al.tmps[4]?.getD undef)).toNat) ?_ ?_
  ·exact ⟨R,C,(-1000),(by omega),(rfl),s1,s2,s4,b3,b4,P,(by omega)⟩
  clear R C P S s1 s2 s4 b3 b4;rintro a12 w13 ⟨R,C,xx,hxx,hinn,s1,s2,s4,b3,b4,P,S⟩;have zw13:=S;replace S:=Nat.le_refl w13.heap.size;have hmu:(1001-intOf (a12.tmps[4]?.getD undef)).toNat=(1001-intOf ((.int .i64 xx))).toNat:=by rw [s4]
  refine wp_seq (wp_seq ?_);refine Xs [15,16] [some (.int .i64 xx),some (.bool (decide (xx<=1000)))] (YG 2) [15,16] [] (λ _ _ _=>True) ?_ (e2 ?_ ?_ .nil) ?_
  ·exact λ _ _=>trivial
  ·exact ZN s4 rfl rfl rfl
  ·exact λ M J I H _ _ D=>YU rfl (ev (H.d 0 rfl rfl)) rfl rfl rfl (D _ _ H.k rfl trivial)
  intro L a14 w15 U B F K T;replace R:=B.Z R;replace C:=B.E C;replace s1:=B.G s1;replace s2:=B.G s2;replace s4:=B.G s4;have s16:=gS a14 16 (K 1 _ rfl);replace b3:=b3.k0 F;replace b4:=b4.k0 F;replace S:=Nat.le_trans S F.size;replace P:=F.below0 P;clear B F K U T;refine Xv ?_;rcases Bool.eq_false_or_eq_true (decide (xx<=1000)) with q16|q16
  ·have hxl:=KY q16;refine wp_cond_true (ev (vb s16 q16)) ?_;refine wp_skip (Xv (wp_seq (wp_block (wp_seq ?_))));refine Xs [20,21,22,19,23,24,5,6] [some (.agg #[.slice a.A p.length a.c]),some (.int .i64 xx),some (.tuple #[.int .i64 ((col p xx).1),.int .i64 ((col p xx).2)]),some (.tuple #[.int .i64 ((col p xx).1),.int .i64 ((col p xx).2)]),some (.int .i64 ((col p xx).1)),some (.int .i64 ((col p xx).2)),some (.int .i64 ((col p xx).1)),some (.int .i64 ((col p xx).2))] (YG 8) [20,21,22,19,23,24,5,6] [] (λ _ _ _=>True) ?_ (e4 ?_ ?_ ?_ ?_ (e4 ?_ ?_ ?_ ?_ .nil)) ?_
   ·exact λ _ _=>trivial
   ·intro M J I H _ _ D;simp [go_sem,H.f.g rfl s1,(b3.k0 H.k).cell];exact (D _ _ H.k rfl trivial)
   ·exact ZN s4 rfl rfl rfl
   ·intro M J I H _ _ D;simp [go_sem,(gS J 20 (H.d 0 rfl rfl)),(gS J 21 (H.d 1 rfl rfl))];have hBi:=H.k.below0 P;refine (iCol_c p xx a I hrp (by omega) hlp (hsl.below hBi)).mono ?_;rintro x wx ⟨rfl,hb⟩;exact (D _ _ (H.k.call hb) rfl trivial)
   ·exact oMDT 2 rfl rfl rfl rfl
   ·exact oEDT 3 rfl rfl rfl rfl rfl
   ·exact oEDT 3 rfl rfl rfl rfl rfl
   ·exact Jr 4 rfl rfl rfl rfl
   ·exact Jr 5 rfl rfl rfl rfl
   intro L a17 w18 U B F K T;replace R:=B.Z R;replace C:=B.E C;replace s1:=B.G s1;replace s2:=B.G s2;replace s4:=B.G s4;have s5:=gS a17 5 (K 6 _ rfl);have s6:=gS a17 6 (K 7 _ rfl);replace b3:=b3.k0 F;replace b4:=b4.k0 F;replace S:=Nat.le_trans S F.size;replace P:=F.below0 P;clear B F K U T s16;refine Xv (wp_seq ?_);refine Xs [25,26,27] [some (.int .i64 ((col p xx).1)),some (.int .i64 ((col p xx).2)),some (.bool (decide ((col p xx).1<=(col p xx).2)))] (YG 3) [25,26,27] [] (λ _ _ _=>True) ?_ (e2 ?_ ?_ (en rfl ?_ .nil)) ?_
   ·exact λ _ _=>trivial
   ·exact ZN s5 rfl rfl rfl
   ·exact ZN s6 rfl rfl rfl
   ·exact λ M J I H _ _ D=>YU rfl (ev (H.d 0 rfl rfl)) (ev (H.d 1 rfl rfl)) rfl rfl (D _ _ H.k rfl trivial)
   intro L a19 w20 U B F K T;replace R:=B.Z R;replace C:=B.E C;replace s1:=B.G s1;replace s2:=B.G s2;replace s4:=B.G s4;replace s5:=B.G s5;have s27:=gS a19 27 (K 2 _ rfl);replace b3:=b3.k0 F;replace b4:=b4.k0 F;replace S:=Nat.le_trans S F.size;replace P:=F.below0 P;clear B F K U T s6;refine Xv ?_;rcases Bool.eq_false_or_eq_true (decide ((col p xx).1<=(col p xx).2)) with q21|q21
   ·refine wp_cond_true (ev (vb s27 q21)) ?_;refine wp_seq ?_;have O:XJ [] (λ L aa I=>Zl I (w.heap.size+1) 30 [.int .i64 0,.int .i64 0,.int .i64 0] (L 3) (λ _ vs=>vs=[.int .i64 xx,.int .i64 ((col p xx).1),.int .i64 1])):=by
     intro L aa I w' kk vv hkk hb T;have x0:=T;exact (x0.bel hb (λ _ h=>h))
    refine XD O [28,29,30,0,3] [some (.int .i64 xx),some (.int .i64 ((col p xx).1)),some (.agg #[.int .i64 xx,.int .i64 ((col p xx).1),.int .i64 1]),none,some (.bool true)] (YG 5) [28,29,30,3] [(w.heap.size+1)] ?_ (e4 ?_ ?_ ?_ ?_ (en rfl ?_ .nil)) ?_
    ·exact λ _ h=>(⟨λ _=>b4.kp h (by simp),(λ h=>by cases h)⟩)
    ·exact Zx s4 rfl rfl rfl λ _ _ _ _ h=>h
    ·exact Zx s5 rfl rfl rfl λ _ _ _ _ h=>h
    ·intro M J I H _ _ D;simp [go_sem,(gS J 28 (H.d 0 rfl rfl)),(gS J 29 (H.d 1 rfl rfl))];exact (D _ _ H.k rfl H.x)
    ·intro M J I H _ _ D;have x0:=H.x;have V:=x0.1 H.n;simp [go_sem,(gS J 30 (H.d 2 rfl rfl)),H.f.g rfl s2,V.cell,V.frz];exact D undef _ (H.k.store (.inr (by simp)) [.int .i64 xx,.int .i64 ((col p xx).1),.int .i64 1] 0) trivial (Zl.set V (us:=[.int .i64 xx,.int .i64 ((col p xx).1),.int .i64 1]) rfl rfl)
    ·exact oACX rfl rfl λ _ _ _ _ h=>h
    intro L a22 w23 U B F K T;have x0:=T;replace R:=B.Z R;replace C:=B.E C;replace s2:=B.G s2;have s3:=gS a22 3 (K 4 _ rfl);clear b4;obtain ⟨_,b4,rfl⟩:=x0.2 (U 3 (by decide));replace S:=Nat.le_trans S F.size;replace P:=F.below P P.size (by simp<;>omega);clear B F K U x0 O s1 s4 s5 s27 b3;refine Xv (wp_ret ?_);refine ib_r (JG (JG (ib_r (JG ?_))));refine bodyPost_ret (v:=.tuple #[.agg #[.int .i64 xx,.int .i64 ((col p xx).1),.int .i64 1],.bool true]) (by simp [results,Tryz.results49,go_sem,s2,b4.cell,s3]) C ?_;have h0:Jf p=some ⟨xx,(col p xx).1,1⟩:=by rw [hio,<- hinn,show (1001-xx).toNat=(1000-xx).toNat+1 by omega,innF,if_pos (KY q21)]
    exact ⟨by rw [h0];rfl,P⟩
   ·refine wp_cond_false (ev (vb s27 q21)) ?_;refine wp_skip ?_;refine ib_n (Xv ?_);have O:XJ [4] (λ L aa I=>(L 2=false->aa.tmps[4]?.getD undef=.int .i64 xx)):=by
     intro L aa I w' kk vv hkk hb T;have x0:=T;exact (λ h=>(Xb (hkk 4 (by simp)) vv).trans (x0 h))
    refine XD O [17,18,4] [some (.int .i64 xx),some (.int .i64 (xx+1)),some (.int .i64 (xx+1))] (YG 3) [17,18,4] [] ?_ (e2 ?_ ?_ (en rfl ?_ .nil)) ?_
    ·exact λ _ h=>(λ _=>s4)
    ·intro M J I H _ _ D;have x0:=H.x;exact XN rfl (ev (x0 (H.t 2 rfl))) (D _ _ H.k rfl (O M J I _ (some 17) _ (by simp) bR H.x))
    ·exact λ M J I H _ _ D=>Z7 rfl (ev (H.d 0 rfl rfl)) rfl (by omega) (D _ _ H.k rfl (O M J I _ (some 18) _ (by simp) bR H.x))
    ·intro M J I H _ _ D;have x0:=H.x;exact YA rfl (ev (H.d 1 rfl rfl)) (D _ _ H.k rfl (λ h=>by simp [Yv] at h))
    intro L a24 w25 U B F K T;have x0:=T;replace R:=B.Z R;replace C:=B.E C;replace s1:=B.G s1;replace s2:=B.G s2;have s4:=gS a24 4 (K 2 _ rfl);replace b3:=b3.k0 F;replace b4:=b4.k0 F;replace S:=Nat.le_trans S F.size;replace P:=F.below0 P;clear B F K U x0 O s5 s27;refine Xv ?_;refine ⟨?_, ?_⟩
    ·exact ⟨R,C,(xx+1),(by omega),(by rw [<- hinn,show (1001-xx).toNat=(1001-(xx+1)).toNat+1 by omega,innF,if_neg (Jv q21)]),s1,s2,s4,b3,b4,P,(by omega)⟩
    ·show (1001-intOf (a24.tmps[4]?.getD undef)).toNat<_;rw [s4,hmu];simp only [intOf];omega
  ·have hxg:=Jv q16;refine wp_cond_false (ev (vb s16 q16)) ?_;refine wp_exit ?_;refine th_e (th_e (ib_x (Xv (wp_seq ?_))));have O:XJ [] (λ L aa I=>Zl I (w.heap.size+1) 30 [.int .i64 0,.int .i64 0,.int .i64 0] (L 1) (λ _ vs=>vs=[.int .i64 0,.int .i64 0,.int .i64 0])):=by
    intro L aa I w' kk vv hkk hb T;have x0:=T;exact (x0.bel hb (λ _ h=>h))
   refine XD O [31,0,3] [some (.agg #[.int .i64 0,.int .i64 0,.int .i64 0]),none,some (.bool false)] (YG 3) [31,3] [(w.heap.size+1)] ?_ (e2 ?_ ?_ (en rfl ?_ .nil)) ?_
   ·exact λ _ h=>(⟨λ _=>b4.kp h (by simp),(λ h=>by cases h)⟩)
   ·intro M J I H _ _ D;simp [go_sem];exact (D _ _ H.k rfl H.x)
   ·intro M J I H _ _ D;have x0:=H.x;have V:=x0.1 H.n;simp [go_sem,(gS J 31 (H.d 0 rfl rfl)),H.f.g rfl s2,V.cell,V.frz];exact D undef _ (H.k.store (.inr (by simp)) [.int .i64 0,.int .i64 0,.int .i64 0] 0) trivial (Zl.set V (us:=[.int .i64 0,.int .i64 0,.int .i64 0]) rfl rfl)
   ·exact oACX rfl rfl λ _ _ _ _ h=>h
   intro L a26 w27 U B F K T;have x0:=T;replace R:=B.Z R;replace C:=B.E C;replace s2:=B.G s2;have s3:=gS a26 3 (K 2 _ rfl);clear b4;obtain ⟨_,b4,rfl⟩:=x0.2 (U 1 (by decide));replace S:=Nat.le_trans S F.size;replace P:=F.below P P.size (by simp<;>omega);clear B F K U x0 O s1 s4 s16 b3;refine Xv (wp_ret ?_);refine bodyPost_ret (v:=.tuple #[.agg #[.int .i64 0,.int .i64 0,.int .i64 0],.bool false]) (by simp [results,Tryz.results49,go_sem,s2,b4.cell,s3]) C ?_;have h0:Jf p=none:=by rw [hio,<- hinn,show (1001-xx).toNat=0 by omega];rfl
   exact ⟨by rw [h0];rfl,P⟩
end Go.Proofs.YtabfdkpdppemaaaGreat
