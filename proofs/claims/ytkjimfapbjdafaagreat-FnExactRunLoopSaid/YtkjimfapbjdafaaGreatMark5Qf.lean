/-
 What the functions that mark tables, tracks and watches return: they change the marked slices' own blocks alone.
 Conditions: the slices hold at most 2^20 elements.
-/
import Derived.Test.YtkjimfapbjdafaaGreatGrAQf
set_option maxHeartbeats 1000000
set_option maxRecDepth 100000
namespace Go.Proofs.YtkjimfapbjdafaaGreat
open Go.RowKit
theorem markRatioS_g (A:Option Addr) (n cap:Nat) (xs:List YA) (K:Int) (base:Nat) (w:World) (hl:xs.length=n) (hn:n<=1048576) (hK:0<=K) (hK2:K<=1000000000000) (hv:XI 70 2 Jw w base (.slice A n cap) xs) :
 Calls Tryz.prog 144 #[.slice A n cap,.int .i64 K] w λ e w'=>e=.returned (.int .i64 (K+n*2))/\XI 70 2 Jw w' base (.slice A n cap) (KR K n)/\Zr w w' [⟨A,cap⟩]:=by
 obtain ⟨A',cap',he,hown⟩:=hv;injection he with e1 e2 e3
 subst e1 e3 hl;by_cases h0:xs.length=0
 ·have hx:xs=[]:=List.eq_nil_of_length_eq_zero h0;subst hx;simp only [List.length_nil];go_enter Tryz.func144,Tryz.ntmps144
  go_wp2
  go_loopw [1,5] (λ kk i wr=>i=.int .i64 0/\kk=.int .i64 K/\wr=w) (λ _ _ _=>0)
  case atStart=>exact ⟨rfl,rfl,rfl⟩
  case round =>
   obtain ⟨rfl,rfl,rfl⟩:=hrel;go_wp2
   go_ret
   exact ⟨Zo (by simp),⟨A,cap,rfl,hown⟩,Zr.refl _ _⟩
 ·obtain ⟨g,hA,hbg,hfill0,hback⟩:=own_filled ratioC_len hown (KR K xs.length) (by simp [KR]) (by omega);subst hA;have hml:(KR K xs.length).length=xs.length:=by simp [KR]
  go_enter Tryz.func144,Tryz.ntmps144
  go_wp2
  go_loopw [1,5] (λ kk i wr=>∃ k:Nat,k<=xs.length/\i=.int .i64 k/\kk=.int .i64 (K+k*2)/\Kg 70 2 Jw wr g (cap*2) (KR K xs.length) k/\Zr w wr [⟨some ⟨g,0,none⟩,cap⟩]) (λ _ i _=>xs.length-(intOf i).toNat)
  case atStart=>exact ⟨0,Nat.zero_le _,rfl,by simp,hfill0,Zr.refl _ _⟩
  case round =>
   obtain ⟨k,hk,rfl,rfl,hfill,hbw⟩:=hrel;by_cases hlt:k<xs.length
   ·have hm:=Nat.mul_le_mul_right 2 hlt;have hml2:=hfill.room;rw [hml] at hml2;obtain ⟨u0,c0⟩:=hfill.cell (m:=k*2) (by omega);have f0:=hfill.frozen (k*2);obtain ⟨u1,c1⟩:=hfill.cell (m:=k*2+1) (by omega);have f1:=hfill.frozen (k*2+1);clear hm hml2;have hst:=hfill.stored ratioC_len (by rw [hml];exact hlt) (vs:=Jw ⟨K+k*2,K+k*2+1⟩) (by simp [KR]);have hst2:=Zr.setCells (Jw ⟨K+k*2,K+k*2+1⟩) (k*2) _ hbw;go_wp2
    refine ⟨⟨k+1,by omega,by go_num, ?_,hst,hst2⟩,by simp [intOf];omega⟩;congr 1;omega
   ·obtain rfl:k=xs.length:=by omega
    go_wp2
    go_ret
    refine ⟨rfl, ?_,hbw⟩;obtain ⟨A2,c2,e2,o2⟩:=hback _ hfill;rw [hml] at e2 o2;injection e2 with e3 _ e4
    subst e3 e4;exact ⟨_,_,by rw [hml],by rw [hml];exact o2⟩
theorem markTrack_g (x:Track) (a:TrackA) (K:Int) (base:Nat) (w:World) (hn:trackLen x<=1048576) (hK:0<=K) (hK2:K<=1000000) (hv:YG w base x a) :
 Calls Tryz.prog 68 #[trackV x a,.int .i64 K] w λ e w'=>e=.returned (.int .i64 (K+x.spots.length*3+x.inputs.length*2))/\TrackMk w' x a K/\Zr w w' [a.spots,a.inputs]:=by
 obtain ⟨spots,inputs⟩:=x;simp only [trackLen] at hn;obtain ⟨N1,N2,hap⟩:=hv;simp only [List.pairwise_cons,List.mem_cons,List.not_mem_nil,or_false] at hap;obtain ⟨p1,_⟩:=hap;have p12:=p1 _ rfl;clear p1;simp only at N1 N2 ⊢;have c1:=λ W h=>markSpotS_g a.spots.A spots.length a.spots.c spots K base W rfl (by omega) hK (by omega) h;have c2:=λ W h=>markRatioS_g a.inputs.A inputs.length a.inputs.c inputs (K+spots.length*3) base W rfl (by omega) (by omega) (by omega) h;have b0:=Xd (Below.refl w.heap.size w) (.cells #[.slice a.spots.A spots.length a.spots.c,.slice a.inputs.A inputs.length a.inputs.c] 101);have H0:YI (w.alloc (.cells #[.slice a.spots.A spots.length a.spots.c,.slice a.inputs.A inputs.length a.inputs.c] 101)) w.heap.size [.slice a.spots.A spots.length a.spots.c,.slice a.inputs.A inputs.length a.inputs.c]:=YI.new _ _ _;have k1:∀ p,a.spots.A=some p->p.block≠w.heap.size:=N1.blk.ne_ge Xh;have N1':=N1.below b0 Xh;have N2':=N2.below b0 Xh;have B0:=Zr.of_below b0 [a.spots,a.inputs];clear N1 N2 b0 hn;go_enter Tryz.func68,Tryz.ntmps68
 go_wp2_with (fail)
 refine (c1 _ N1').mono ?_;rintro e w1 ⟨rfl,M1,o1⟩;have H1:=H0.far o1 (all1 k1);have O1:=B0.trans (o1.mono (by intro x hx;simp only [List.mem_singleton] at hx;subst hx;simp));have R2:=N2'.far o1 (all1 p12.symm);have lH1:=H1.1;clear N1' N2' o1 B0 H0 c1;obtain ⟨cH1_0,fH1_0⟩:=H1.2 0 _ rfl;obtain ⟨cH1_1,fH1_1⟩:=H1.2 1 _ rfl;go_wp2_with (fail)
 refine (c2 _ R2).mono ?_;rintro e w2 ⟨rfl,M2,o2⟩;have O2:=O1.trans (o2.mono (by intro x hx;simp only [List.mem_singleton] at hx;subst hx;simp));have S1:=(M1.out Zt).far (c:=a.spots.c) o2 (all1 p12);have S2:=M2.out ratioC_len;clear M1 o2 O1 R2 c2 M2;go_wp2
 go_ret
 exact ⟨rfl,⟨S1,S2⟩,O2⟩
theorem heldTrack_c (x:Track) (a:TrackA) (K:Int) (w:World) (hn:trackLen x<=1048576) (hK:0<=K) (hK2:K<=1000000) (hs:TrackMk w x a K) :
 Calls Tryz.prog 69 #[trackV x a,.int .i64 K] w λ e w'=>e=.returned (.int .i64 (K+x.spots.length*3+x.inputs.length*2))/\Below w.heap.size w w':=by
 obtain ⟨spots,inputs⟩:=x;simp only [trackLen] at hn;obtain ⟨s1,s2⟩:=hs;simp only at s1 s2 ⊢;have c1:=λ W h=>heldSpotS_c a.spots.A spots.length a.spots.c K W (by omega) hK (by omega) h;have c2:=λ W h=>heldRatioS_c a.inputs.A inputs.length a.inputs.c (K+spots.length*3) W (by omega) (by omega) (by omega) h;have n1:¬ (K+(spots.length:Int)*3<0):=by omega
 have n2:¬ (K+(spots.length:Int)*3+(inputs.length:Int)*2<0):=by omega
 go_enter Tryz.func69,Tryz.ntmps69
 go_wp2_with (fail)
 refine (c1 _ (s1.alloc _)).mono ?_;rintro e w1 ⟨rfl,rfl⟩;go_wp2_with (fail)
 refine (c2 _ (s2.alloc _)).mono ?_;rintro e w2 ⟨rfl,rfl⟩;go_wp2
 go_ret
 refine ⟨rfl, ?_⟩;exact XA
section
variable {W w w':World} {a:Act} {s T g g':Nat} {z:List Value} {b:Bool} {C:World->List Value->Prop} {k:Option Nat} {v:Value}
end
section
variable {P:Program} {o:Oper} {a:Act} {w:World} {N:Act->World->Prop} {Q:Exit->Act->World->Prop}
end
theorem XS.othT {W w:World} {a:Act} {s T T' g':Nat} {z vs':List Value} {b:Bool} {C:World->List Value->Prop} (h:XS W a w s T z b C) (hg:Xy w g' T' vs') (hT:T≠T') (us:List Value) (o:Nat) (hC:∀ vs,C w vs->C (w.setCells g' o us) vs):XS W a (w.setCells g' o us) s T z b C:=by
 obtain ⟨g,e,hg2,y,n⟩:=h;have hq:g'≠g:=by
  cases b
  ·exact (y rfl).ne hg hT
  ·obtain ⟨vs,h1,_⟩:=n rfl;exact h1.ne hg hT
 exact ⟨g,e,hg2,λ h=>(y h).other hq us o,λ h=>by obtain ⟨vs,h1,h2⟩:=n h;exact ⟨vs,h1.other hq us o,hC vs h2⟩⟩
section
variable {K:Act->World->Prop} {Q:Exit->Act->World->Prop} {a:Act} {w:World} {i k:Nat}
end
theorem ratioC_one (x:YA):∀ u∈Jw x,u.oneCell'=true:=by
 intro u hu;simp only [Jw,List.mem_cons,List.not_mem_nil,or_false] at hu;rcases hu with rfl|rfl<;>rfl
theorem spotIn {s:Ya} (h:Xu s=true):s.In:=by
 obtain ⟨h1,h2,h3,_⟩:=JM.1 h;exact ⟨⟨by omega,by omega⟩,⟨by omega,by omega⟩,⟨by omega,by omega⟩⟩
theorem isNone_f {α:Type} {x:Option α} (h:x.isSome=false):x=none:=by cases x with|none=>rfl|some _=>cases h
theorem ratio_whole {n:Int} (h : -1000000000000000000<=n/\n<=1000000000000000000):Yh n 1=⟨n,1⟩:=by
 obtain ⟨_,k,hk,e1,e2⟩:=ZF (n:=n) (d:=1) h ⟨by omega,by omega⟩;have h1:k ∣ 1:=⟨_,e2⟩;have h2:k<=1:=Int.le_of_dvd (by omega) h1;have h3:k=1:=by omega
 subst h3;rw [Int.one_mul] at e1 e2;cases hq:Yh n 1 with
 | mk a b=>rw [hq] at e1 e2;simp only at e1 e2;rw [e1,<- e2]
theorem whole_ok {n:Int} (h : -1000000000000000000<=n/\n<=1000000000000000000):Xr ⟨n,1⟩=true:=by
 have:=(ZF (n:=n) (d:=1) h ⟨by omega,by omega⟩).1;rwa [ratio_whole h] at this
theorem floor_bd {r:YA} (h:Xr r=true) : -1000000000000000000<=Yd r/\Yd r<=1000000000000000000:=by
 obtain ⟨⟨a,b⟩,⟨c,d⟩,_⟩:=ZJ.1 h;unfold Yd;rw [if_pos h];exact floor_le (by omega) 1000000000000000000 (by omega) (by omega) (by omega)
theorem ceil_bd {r:YA} (h:Xr r=true) : -1000000000000000000<=Ym r/\Ym r<=1000000000000000000:=by
 obtain ⟨⟨a,b⟩,⟨c,d⟩,_⟩:=ZJ.1 h;unfold Ym;rw [if_pos h];have:=floor_le (n:=-r.n) (d:=r.d) (by omega) 1000000000000000000 (by omega) (by omega) (by omega);omega
theorem sgn_cases (x:Int):(x<0/\sgn x = -1)∨(x=0/\sgn x=0)∨(0<x/\sgn x=1):=by
 unfold sgn;rcases Int.lt_trichotomy x 0 with h|h|h
 ·exact .inl ⟨h,by rw [if_pos h]⟩
 ·exact .inr (.inl ⟨h,by rw [if_neg (by omega),if_neg (by omega)]⟩)
 ·exact .inr (.inr ⟨h,by rw [if_neg (by omega),if_pos h]⟩)
theorem cmp_def {r s:YA} (hr:Xr r=true) (hs:Xr s=true):XC r s=sgn (r.n*s.d-s.n*r.d):=by
 unfold XC;rw [if_pos ⟨hr,hs⟩];rfl
theorem cmp_ceil {n:Int} {r:YA} (hn : -1000000000000000000<=n/\n<=1000000000000000000) (hr:Xr r=true):(XC ⟨n,1⟩ r<0 ↔ n<Ym r)/\(0<=XC ⟨n,1⟩ r ↔ Ym r<=n):=by
 have hd:=(ZJ.1 hr).1;rw [cmp_def (whole_ok hn) hr];unfold Ym;rw [if_pos hr];simp only [Int.mul_one];have k : -n<=-r.n / r.d ↔ -n*r.d<=-r.n:=Int.le_ediv_iff_mul_le (by omega);rw [Int.neg_mul] at k;rcases sgn_cases (n*r.d-r.n) with ⟨h1,h2⟩|⟨h1,h2⟩|⟨h1,h2⟩<;>rw [h2]<;>constructor<;>constructor<;>intro h<;>omega
theorem cmp_floor {n:Int} {r:YA} (hn : -1000000000000000000<=n/\n<=1000000000000000000) (hr:Xr r=true):(XC ⟨n,1⟩ r<=0 ↔ n<=Yd r)/\(0<XC ⟨n,1⟩ r ↔ Yd r<n):=by
 have hd:=(ZJ.1 hr).1;rw [cmp_def (whole_ok hn) hr];unfold Yd;rw [if_pos hr];simp only [Int.mul_one];have k:n<=r.n / r.d ↔ n*r.d<=r.n:=Int.le_ediv_iff_mul_le (by omega);rcases sgn_cases (n*r.d-r.n) with ⟨h1,h2⟩|⟨h1,h2⟩|⟨h1,h2⟩<;>rw [h2]<;>constructor<;>constructor<;>intro h<;>omega
theorem cmp_swap (r s:YA):XC s r = -XC r s:=by
 unfold XC;by_cases h:Xr r=true/\Xr s=true
 ·rw [if_pos h,if_pos ⟨h.2,h.1⟩];exact cmpF_swap _ _ _ _
 ·rw [if_neg h,if_neg (λ q=>h ⟨q.2,q.1⟩)];rfl
theorem cmp_eq {r s:YA} (hr:Xr r=true) (hs:Xr s=true) (h:XC r s=0):r=s:=by
 obtain ⟨⟨a1,_⟩,_,a3⟩:=ZJ.1 hr;obtain ⟨⟨b1,_⟩,_,b3⟩:=ZJ.1 hs;rw [cmp_def hr hs] at h;have e:r.n*s.d=s.n*r.d:=by
  rcases sgn_cases (r.n*s.d-s.n*r.d) with ⟨h1,h2⟩|⟨h1,h2⟩|⟨h1,h2⟩<;>rw [h2] at h<;>omega
 have e2:r.n.natAbs*s.d.natAbs=s.n.natAbs*r.d.natAbs:=by rw [<- Int.natAbs_mul,<- Int.natAbs_mul,e]
 have d1:r.d.natAbs ∣ s.d.natAbs:=by
  have h1:r.d.natAbs ∣ r.n.natAbs*s.d.natAbs:=⟨s.n.natAbs,by rw [e2,Nat.mul_comm]⟩;exact Nat.Coprime.dvd_of_dvd_mul_left (show Nat.Coprime r.d.natAbs r.n.natAbs by unfold Nat.Coprime;rw [Nat.gcd_comm];exact a3) h1
 have d2:s.d.natAbs ∣ r.d.natAbs:=by
  have h1:s.d.natAbs ∣ s.n.natAbs*r.d.natAbs:=⟨r.n.natAbs,by rw [<- e2,Nat.mul_comm]⟩;exact Nat.Coprime.dvd_of_dvd_mul_left (show Nat.Coprime s.d.natAbs s.n.natAbs by unfold Nat.Coprime;rw [Nat.gcd_comm];exact b3) h1
 have e3:=Nat.dvd_antisymm d1 d2;have e4:r.d=s.d:=by omega
 have e5:r.n=s.n:=by
  rw [e4] at e;exact Int.eq_of_mul_eq_mul_right (by omega) e
 cases r;cases s;simp only at e4 e5;rw [e4,e5]
theorem clampW_bd (wish:Int) : -1000<=ZM wish/\ZM wish<=1000:=by unfold ZM;omega
section
variable {v:ZP} {wish:Int} (h:Yg v=true)
include h
theorem pick_in (hi:JE v ⟨ZM wish,1⟩=true):pick v wish=⟨ZM wish,1⟩:=by
 simp only [JE,Bool.and_eq_true,decide_eq_true_eq] at hi;have h1:=cmp_swap ⟨ZM wish,1⟩ v.low;unfold pick;rw [if_pos h,if_neg (by omega),if_neg (by omega)]
theorem pick_clamp (hi:JE v ⟨ZM wish,1⟩=false) (hc:Ym v.low<=Yd v.high):pick v wish=⟨max (Ym v.low) (min (ZM wish) (Yd v.high)),1⟩:=by
 obtain ⟨o1,o2⟩:=spanOk_r h;have hb:=clampW_bd wish;have a:=cmp_ceil (n:=ZM wish) ⟨by omega,by omega⟩ o1;have b:=cmp_floor (n:=ZM wish) ⟨by omega,by omega⟩ o2;have c:=(cmp_floor (n:=Ym v.low) (ceil_bd o1) o2).1;have d:=(cmp_ceil (n:=Yd v.high) (floor_bd o2) o1).2;have h1:=cmp_swap ⟨ZM wish,1⟩ v.low;have key:XC ⟨ZM wish,1⟩ v.low<0∨0<XC ⟨ZM wish,1⟩ v.high:=by
  rcases Int.lt_or_le (XC ⟨ZM wish,1⟩ v.low) 0 with q|q
  ·exact .inl q
  rcases Int.lt_or_le 0 (XC ⟨ZM wish,1⟩ v.high) with q2|q2
  ·exact .inr q2
  exfalso;have:JE v ⟨ZM wish,1⟩=true:=by
   simp only [JE,Bool.and_eq_true,decide_eq_true_eq];exact ⟨⟨⟨h,whole_ok ⟨by omega,by omega⟩⟩,by omega⟩,q2⟩
  rw [this] at hi;cases hi
 unfold pick;rw [if_pos h];by_cases q:XC ⟨ZM wish,1⟩ v.low<0
 ·rw [if_pos q,if_pos (c.2 hc)];have:=a.1.1 q;congr 1
  omega
 ·have q2:XC ⟨ZM wish,1⟩ v.high > 0:=by omega
  rw [if_neg q,if_pos q2,if_pos (d.2 hc)];have:=b.2.1 q2;congr 1
  omega
theorem pick_mid (_:JE v ⟨ZM wish,1⟩=false) (hc:¬ Ym v.low<=Yd v.high):pick v wish=Yw v.high (Yp v.low ⟨ZM wish,1⟩):=by
 obtain ⟨o1,o2⟩:=spanOk_r h;have hb:=clampW_bd wish;have o3:=whole_ok (n:=ZM wish) ⟨by omega,by omega⟩;have a:=cmp_ceil (n:=ZM wish) ⟨by omega,by omega⟩ o1;have b:=cmp_floor (n:=ZM wish) ⟨by omega,by omega⟩ o2;have c:=(cmp_floor (n:=Ym v.low) (ceil_bd o1) o2).1;have d:=(cmp_ceil (n:=Yd v.high) (floor_bd o2) o1).2;have h1:=cmp_swap ⟨ZM wish,1⟩ v.low;have h2:=cmp_swap ⟨ZM wish,1⟩ v.high;have h3:=cmp_swap v.low v.high;have hlh:XC v.low v.high<=0:=by
  simp only [Yg,Bool.and_eq_true,decide_eq_true_eq] at h;exact h.2
 unfold pick;rw [if_pos h];by_cases q:XC ⟨ZM wish,1⟩ v.low<0
 ·rw [if_pos q,if_neg (λ x=>hc (c.1 x))];have e1:Yp v.low ⟨ZM wish,1⟩=v.low:=by
   unfold Yp;rw [if_pos ⟨o1,o3⟩,if_pos (by omega)]
  rw [e1];unfold Yw;rw [if_pos ⟨o2,o1⟩];split
  ·exact cmp_eq o1 o2 (by omega)
  ·rfl
 ·have q3:=a.2.1 (by omega);have q2:XC ⟨ZM wish,1⟩ v.high > 0:=b.2.2 (by omega);rw [if_neg q,if_pos q2,if_neg (λ x=>hc (d.1 x))];have e1:Yp v.low ⟨ZM wish,1⟩=⟨ZM wish,1⟩:=by
   unfold Yp;rw [if_pos ⟨o1,o3⟩];split
   ·exact cmp_eq o1 o3 (by omega)
   ·rfl
  rw [e1];unfold Yw;rw [if_pos ⟨o2,o3⟩,if_pos (by omega)]
end
end Go.Proofs.YtkjimfapbjdafaaGreat
