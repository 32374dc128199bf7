/-
 Grown regions, regions pulled back and the region before a step, as sets of points.
 Conditions: valid rooms and regions; the first part of the drive is positive.
-/
import Derived.Test.YtabfdkpdppemaaaGreatPlantR
namespace Go.Proofs.YtabfdkpdppemaaaGreat
open Go.RowKit
theorem grw_ne {bx by_ lo hi:Int} {E q:List Half} (hb:0<bx) (hE:E≠[]) (hk:J6 bx by_ lo hi E=true) (hq:Xe q=true) (hqn:q≠[]) (h:∀ x y d,0<d->J5 q x y d->GrwP bx by_ lo hi E x y d):grwR bx by_ lo hi E≠[]:=by
 have ht:=growT_no (by_:=by_) hb hE;unfold J6 at hk;rw [ht,Bool.false_or,Bool.and_eq_true,Bool.and_eq_true] at hk;obtain ⟨⟨hs,hm⟩,hk⟩:=hk;obtain ⟨hok,hi'⟩:=grwL_pts hs hm;rw [(grow_all ht hs hm).2];exact meetR_ne hq hqn hok hk (λ x y d hd hi=>(hi' x y d).2 (h x y d hd hi))
theorem pre_mono {r:Xv} {p k:List Half} (hr:XK r=true) (hb:0<r.bx) (hp:Xe p=true) (hk:Xe k=true) (hkn:k≠[]) (hsub:∀ x y d,0<d->J5 p x y d->J5 k x y d) (ok:Za r k=true) (hne:XW r p≠[]):XW r k≠[]/\∀ x y d,0<d->J5 (XW r p) x y d->J5 (XW r k) x y d:=by
 have R:=Je hr;have B:=J9 hr;have D:=room_dir hr hb;have P:=pre_pts hr hb hne;have hw:=R.noise;have hwn:=R.nne;have okA:=ok;unfold Za preA at okA;simp only [Bool.and_eq_true] at okA;obtain ⟨⟨⟨o1,o2⟩,o3⟩,o4⟩:=okA;have he:∀ x y d,0<d->J5 (ZY r p) x y d->∀ f∈k,∀ g,Kg r.noise f=some g->YA g x y d:=by
  intro x y d hd hz;refine ero_sub hw hwn hk (λ t ht=>?_);obtain ⟨i,o⟩:=J2 hw ht;have td:=JG o;exact hsub _ _ _ (Int.mul_pos hd (by omega)) (ero_add hw hwn hp P.e hd (by omega) hz i)
 have hEp:=preE_ok r p;have hEk:=preE_ok r k;have hEn:ZY r k≠[]:=movR_ne (λ _ _ _ e=>eroH_ok e) hkn o1 hEp P.e he;have hEs:∀ x y d,0<d->J5 (ZY r p) x y d->J5 (ZY r k) x y d:=λ x y d hd hz =>
  ((movR_pts (λ _ _ _ e=>eroH_ok e) hEn).2.2 (by omega)).2 ⟨reg_frame hEp P.e (by omega) hz,he x y d hd hz⟩
 have hGP:∀ x y d,0<d->GP r.bx r.by_ r.low r.high (ZY r p) x y d->GP r.bx r.by_ r.low r.high (ZY r k) x y d:=by
  rintro x y d hd ⟨m,e,he,h1,h2,hi⟩;exact ⟨m,e,he,h1,h2,hEs _ _ _ (Int.mul_pos hd he) hi⟩
 have hGn:Ki r k≠[]:=grw_ne hb hEn o3 (preG_ok r p) P.g (λ x y d hd hi=>grw_from hEk hEn D hd (hGP x y d hd (grw_to hEp P.e D hb B.high.1 hd (((grw_pts hb P.g).2 (by omega)).1 hi).2)));have e:XW r k=ZS (YR r.map r.div) (Ki r k):=(pre_yes (by unfold preA;rw [o1,o2];rfl) o3).2;have hin:∀ x y d,0<d->J5 (XW r p) x y d->J5 (Ki r k) (pX r x y) (pY r x y) (r.div*d):=by
  intro x y d hd hi;have hq:0<r.div*d:=Int.mul_pos (by have:=B.div;omega) hd;obtain ⟨_,f2,g⟩:=(P.pts hd).1 hi;exact ((grw_pts hb hGn).2 (by omega)).2 ⟨f2,grw_from hEk hEn D hq (hGP _ _ _ hq g)⟩
 have hn:XW r k≠[]:=by
  rw [e];exact movR_ne (λ _ _ _ e=>pulH_ok e) hGn o4 (Ji r p) hne (λ x y d hd hi h hh g eg=>(pul_pts eg).2 (hin x y d hd hi h hh))
 refine ⟨hn,λ x y d hd hi=>?_⟩;obtain ⟨f1,f2,g⟩:=(P.pts hd).1 hi;exact ((pre_pts hr hb hn).pts hd).2 ⟨f1,f2,hGP _ _ _ (Int.mul_pos (by have:=B.div;omega) hd) g⟩
def hshS (bs:List Int) (h:Int) (k:Nat):Int:=bits BinOp.and IntKind.i64 (wrap64 (wrap64 (wrap64 (h*83)+bs.getD k 0)+7)) 1073741823
def hshK (bs:List Int):Nat->Int
 | 0=>1977+(bs.length:Int)
 | k+1=>hshS bs (hshK bs k) k
def sq0 (bs:List Int):Nat->Int:=cSeq bs (0,hshK bs (min bs.length 4000))
def loD (bs:List Int):Int:=-(sq0 bs (0+6) % 12)-3
def hiD (bs:List Int):Int:=3+sq0 bs (0+7) % 12
set_option maxRecDepth 100000 in
set_option maxHeartbeats 2000000 in
theorem curNewD_c (bs:List Int) (B:Option Addr) (c:Nat) (w:World) (hn:bs.length<=1048576) (hin:∀ y∈bs,InB y) (hs:Sl 1 byteC w B bs) :
 Calls Tryz.prog 90 #[.slice B bs.length c] w λ e w'=>∃ g:Nat,e=.returned (.pointer (some ⟨g,0,none⟩))/\w.heap.size<=g/\Yn w' g B c bs (sq0 bs) 0/\Below w.heap.size w w':=by
 go_enter Tryz.func90,Tryz.ntmps90
 go_wp2
 go_loopw [3,4] (λ hv i wr=>∃ k:Nat,k<=bs.length/\k<=4000/\i=.int .i64 k/\hv=.int .i64 (hshK bs k)/\Below w.heap.size w wr) (λ _ i _=>bs.length-(intOf i).toNat)
 case atStart=>exact ⟨0,Nat.zero_le _,Nat.zero_le _,rfl,rfl,Below.refl _ _⟩
 case round =>
  obtain ⟨k,hk,hk4,rfl,rfl,hbw⟩:=hrel;by_cases hlt:k<bs.length
  ·by_cases h4:(k:Int)<4000
   ·obtain ⟨b,off,rfl,hblt,hc⟩:=(hs.below hbw).at_ hlt;have g0:=hc 0 _ rfl;simp only [Nat.add_zero,Nat.mul_one] at g0;obtain ⟨y0,y1⟩:=hin _ (List.getElem_mem hlt);clear hc;have hgd:bs.getD k 0=bs[k]:=by simp [List.getD_eq_getElem?_getD,hlt]
    have hst:hshK bs (k+1)=hshS bs (hshK bs k) k:=rfl;unfold hshS at hst;rw [hgd] at hst;have hst2:=Lib.hid hst;clear hgd hst;generalize bs[k]=y at *;generalize hshK bs k=hh at *;go_wp2
    go_roundw
    case rel=>exact ⟨k+1,by omega,by omega,by go_num,by rw [hst2.out],hbw⟩
    case measure=>simp [intOf];omega
   ·go_wp2
    go_ret
    unfold sq0;have e1:min bs.length 4000=k:=by omega
    rw [e1];exact ⟨_,rfl,hbw.size,⟨0,_,Int.le_refl _,by omega,λ j=>by rw [Nat.zero_add],Xn.new wr [.slice B bs.length c,.int .i64 0,.int .i64 (hshK bs k)] 221⟩,Xc hbw _⟩
  ·go_wp2
   go_ret
   unfold sq0;have e1:min bs.length 4000=k:=by omega
   rw [e1];exact ⟨_,rfl,hbw.size,⟨0,_,Int.le_refl _,by omega,λ j=>by rw [Nat.zero_add],Xn.new wr [.slice B bs.length c,.int .i64 0,.int .i64 (hshK bs k)] 221⟩,Xc hbw _⟩
theorem mr_ne {p q k:List Half} (hp:Xe p=true) (hq:Xe q=true) (hk:Xe k=true) (hkn:k≠[]) (hpn:p≠[]) (hqn:q≠[]) (ok:mrOk p q=true) (h:∀ x y d,0<d->J5 k x y d->J5 p x y d/\J5 q x y d):mrR p q≠[]:=by
 have hl:p.length+q.length<=40:=of_decide_eq_true ok;obtain ⟨_,e,hm,_⟩:=mr_yes hp hq hl (λ e=>hpn (List.length_eq_zero_iff.1 e)) (λ e=>hqn (List.length_eq_zero_iff.1 e));rw [e];exact meetR_ne hk hkn (app_ok (Zo hp) (Zo hq)) hm (λ x y d hd hz=>inP_app.2 (h x y d hd hz))
theorem round_sub {r:Xv} {p k:List Half} (hr:XK r=true) (hb:0<r.bx) (hp:Xe p=true) (hpn:p≠[]) (hk:Xe k=true) (hpk:Yg p k=true) (hw:Yg p (XW r p)=true) (ok:Za r k=true) (mo:mrOk k (XW r k)=true):Yg p (mrR k (XW r k))=true:=by
 obtain ⟨kn,hs⟩:=within_pts hp hpn hk hpk;obtain ⟨pn,hz⟩:=within_pts hp hpn (Ji r p) hw;obtain ⟨m1,m2⟩:=pre_mono hr hb hp hk kn hs ok pn;have hall:∀ x y d,0<d->J5 p x y d->J5 k x y d/\J5 (XW r k) x y d:=λ x y d hd h=>⟨hs x y d hd h,m2 x y d hd (hz x y d hd h)⟩;have hne:=mr_ne hk (Ji r k) hp hpn kn m1 mo hall;exact pts_within hp (λ _=>hne) (λ _ x y d hd h=>((mr_pts hk (Ji r k) hne).2.2 hd).2 (hall x y d hd h))
theorem kpF_sub {r:Xv} {p:List Half} (hr:XK r=true) (hb:0<r.bx) (hp:Xe p=true) (hpn:p≠[]) (hw:Yg p (XW r p)=true):∀ (n:Nat) (k:List Half),Xe k=true->Yg p k=true->∀ q,kpF r n k=some q->Yg p q=true
 | 0,_,_,_,_,e=>by cases e
 | n+1,k,hk,hpk,q,e=>by
  rw [kpF] at e;split at e
  ·rename_i h
   split at e
   ·injection e with e
    rw [<- e];exact hpk
   ·simp only [Bool.and_eq_true] at h;exact kpF_sub hr hb hp hpn hw n _ (mrR_ok hk (Ji r k)) (round_sub hr hb hp hpn hk hpk hw h.1 h.2) q e
  ·cases e
theorem kpO_sub {r:Xv} {p q:List Half} (hb:0<r.bx) (h:KW r p=true) (e:Yb r=some q):Yg p q=true:=by
 obtain ⟨hr,hp,hl,_,hw⟩:=kept_parts h;by_cases hpn:p=[]
 ·rw [hpn];rfl
 ·unfold Yb at e;rw [if_pos hr] at e;exact kpF_sub hr hb hp hpn hw 12 _ (Je hr).limits hl q e
theorem prF_fix {r:Xv} {l:List Yy}:∀ (n:Nat) (p q:List Half),prF r l n p=some q->Jh r q l=some q
 | 0,_,_,e=>by cases e
 | n+1,p,q,e=>by
  rw [prF] at e;cases h:Jh r p l with
  | none=>rw [h] at e;cases e
  | some k =>
   rw [h,Option.bind_some] at e;split at e
   ·rename_i h2
    injection e with e
    subst e;rw [h,<- h2]
   ·exact prF_fix n k q e
theorem pkF_sub {r:Xv} {p:List Half} (hp:Xe p=true):∀ (l:List Yy) (k q:List Half),Xe k=true->l.foldl (pkF r p) (some k)=some q->Xe q=true/\Yg q k=true/\∀ m∈l,Za (Zr r m) p=true/\Yg q (XW (Zr r m) p)=true
 | [],k,q,hk,e=>by
  injection e with e
  subst e;exact ⟨hk,within_refl hk,λ m hm=>by cases hm⟩
 | m :: l,k,q,hk,e=>by
  rw [List.foldl_cons] at e;have e1:pkF r p (some k) m=if (Za (Zr r m) p&&mrOk k (XW (Zr r m) p))=true then some (mrR k (XW (Zr r m) p)) else none:=rfl;rw [e1] at e;split at e
  ·rename_i h
   have hm2:=mrR_ok hk (Ji (Zr r m) p);obtain ⟨a1,a2,a3⟩:=pkF_sub hp l _ q hm2 e;obtain ⟨w1,w2⟩:=mr_within hk (Ji (Zr r m) p);simp only [Bool.and_eq_true] at h;refine ⟨a1,within_trans a1 hm2 hk a2 w1,λ m2 h2=>?_⟩;rcases List.mem_cons.1 h2 with rfl|h2
   ·exact ⟨h.1,within_trans a1 hm2 (Ji _ p) a2 w2⟩
   ·exact a3 m2 h2
  ·rw [pkF_none] at e;cases e
theorem prF_sub {r:Xv} {l:List Yy}:∀ (n:Nat) (p q:List Half),Xe p=true->prF r l n p=some q->Xe q=true/\Yg q p=true
 | 0,_,_,_,e=>by cases e
 | n+1,p,q,hp,e=>by
  rw [prF] at e;cases h:Jh r p l with
  | none=>rw [h] at e;cases e
  | some k =>
   rw [h,Option.bind_some] at e;split at e
   ·injection e with e
    subst e;exact ⟨hp,within_refl hp⟩
   ·obtain ⟨b1,b2,_⟩:=pkF_sub hp l p k hp h;obtain ⟨c1,c2⟩:=prF_sub n k q b1 e;exact ⟨c1,within_trans c1 b1 hp c2 b2⟩
structure PlantP (r:Xv) (l:List Yy) (p:List Half):Prop where
 modes:X7 r l=true
 ok:Xe p=true
 limits:Yg p r.limits=true
 fix:Jh r p l=some p
 kept:∀ m∈l,KW (Zr r m) p=true
theorem plant_parts {r:Xv} {l:List Yy} {p:List Half} (h:ZP r l=some p):PlantP r l p:=by
 unfold ZP at h;split at h
 ·rename_i hm
  have hr:=(modes_room hm).1;obtain ⟨a1,a2⟩:=prF_sub 12 _ p (Je hr).limits h;have hf:=prF_fix 12 _ p h;obtain ⟨_,_,b3⟩:=pkF_sub a1 l p p a1 hf;refine ⟨hm,a1,a2,hf,λ m hm2=>?_⟩;obtain ⟨c1,c2⟩:=b3 m hm2;unfold KW;rw [inM_ok hm m hm2,a1,show Yg p (Zr r m).limits=true from a2,c1,c2];rfl
 ·cases h
theorem plant_kept {r:Xv} {l:List Yy} {p q:List Half} (hb:0<r.bx) (h:ZP r l=some p) (hm:(⟨r.low,r.high⟩:Yy)∈l) (e:Yb r=some q):Yg p q=true:=by
 have h2:=(plant_parts h).kept _ hm;have h3:Zr r ⟨r.low,r.high⟩=r:=by cases r;rfl
 rw [h3] at h2;exact kpO_sub hb h2 e
theorem plant_adm {r:Xv} {l:List Yy} {p:List Half} (hb:0<r.bx) (h:ZP r l=some p) {s:XJ} (hs:Xt s=true) (hd:s.d<=100000) (hi:YU p s=true) {k:Nat} (hk:k<l.length):(modA r l p s k).isSome=true:=by
 obtain ⟨w,hw⟩:=kept_adm (r:=Zr r (l.getD k Xs)) hb ((plant_parts h).kept _ (JV hk Xs)) hs hd hi;unfold modA;rw [hw];rfl
theorem sfK_all {r:Xv} {l:List Yy} {p:List Half} {s:XJ}:∀ k,(∀ i,i<k->(modA r l p s i).isSome=true)->(sfK r l p s k).length=k
 | 0,_=>rfl
 | k+1,h=>by rw [sfK_yes (h k (Nat.lt_succ_self k)),List.length_append,sfK_all k (λ i hi=>h i (by omega))];rfl
theorem sf_all {r:Xv} {l:List Yy} {p:List Half} {s:XJ} (hm:X7 r l=true) (h:∀ i,i<l.length->(modA r l p s i).isSome=true):(sfR r l p s).length=l.length:=by
 unfold sfR;rw [if_pos hm];exact sfK_all _ h
theorem wkS_pos {r:Xv} {l:List Yy} {p:List Half} {s:XJ}:∀ k,0<k->0<=(wkS r l p s k).1
 | 0,h=>by omega
 | k+1,_=>by
  rw [wkS];split
  ·simp only;omega
  ·rename_i h
   omega
theorem wk_all {r:Xv} {l:List Yy} {p:List Half} {s:XJ} (hm:X7 r l=true) (h:∀ i,i<l.length->(modA r l p s i).isSome=true):0<=wkR r l p s:=by
 have hl:=(modes_room hm).2.1;rw [wk_end hm (by unfold wkAll;rw [List.all_eq_true];exact λ i hi=>h i (List.mem_range.1 hi))];exact wkS_pos _ (by omega)
end Go.Proofs.YtabfdkpdppemaaaGreat
