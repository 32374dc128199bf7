/-
 Fractions rounded, clamps, inputs in a span, and the input that is picked: of the program and of the reference.
 Conditions: the numbers are ints of the machine.
-/
import Derived.Test.YtbekjpkcicjcgabGreatPta
import Derived.WalkKit
import Derived.Deep.RegionHeld3
import Derived.Deep.DeepMust
import Derived.Deep.DeepCutAuto
namespace Go.Proofs.YtbekjpkcicjcgabGreat
open Go.RowKit
def nxtX (r:XK) (s:XW) (u:Yu) (v:XW):Int:=(mapX r s*u.d+r.bx*u.n*Z7 r s)*v.d+v.x*(Z7 r s*u.d)
def nxtY (r:XK) (s:XW) (u:Yu) (v:XW):Int:=(mapY r s*u.d+r.by_*u.n*Z7 r s)*v.d+v.y*(Z7 r s*u.d)
def nxtD (r:XK) (s:XW) (u:Yu) (v:XW):Int:=Z7 r s*u.d*v.d
theorem admAt_parts {r:XK} {p:List Half} {s:XW} {v:Span} (h:admAt r p s=some v):Z0 r p=true/\XP s=true/\admit r (KP r p) s=some v:=by
 unfold admAt at h;split at h
 ·rename_i k
  exact ⟨k.1,k.2,h⟩
 ·cases h
theorem rob_all {r:XK} {p:List Half} (h:Z0 r p=true):XG r=true/\Xc p=true/\p≠[]/\KP r p=preE r p/\KP r p≠[]:=by
 unfold Z0 rpOk at h;simp only [Bool.and_eq_true,Bool.not_eq_true',decide_eq_false_iff_not] at h;obtain ⟨⟨h2,⟨hr,hp⟩,_⟩,h3⟩:=h;exact ⟨hr,hp,λ e=>h2 (by rw [e];rfl),(rp_eq hr hp).2,λ e=>h3 (by rw [e];rfl)⟩
theorem held {r:XK} {p:List Half} {s:XW} {w:Span} {u:Yu} (e:admAt r p s=some w) (hu:1<=u.d) (hb:Btw w u.n u.d) {v:XW} (hv:v∈XD r.noise):0<nxtD r s u v/\InP p (nxtX r s u v) (nxtY r s u v) (nxtD r s u v):=by
 obtain ⟨h1,h2,h3⟩:=admAt_parts e;obtain ⟨hr,hp,hpn,he,hen⟩:=rob_all h1;have R:=roomR hr;have hE:=Z1 (rpR_ok r p);obtain ⟨_,hA⟩:=((admit_btw hr h2 hE h3).btw u.n u.d (by omega)).1 hb;obtain ⟨i,o⟩:=corner_in R.noise hv;have vd:=spot_pos o;have sd:=spot_pos h2;have md:0<Z7 r s:=by
  have:=(roomB hr).div;exact Int.mul_pos (by omega) (by omega)
 have hd:0<Z7 r s*u.d:=Int.mul_pos md (by omega);have hz:InP (preE r p) (mapX r s*u.d+r.bx*u.n*Z7 r s) (mapY r s*u.d+r.by_*u.n*Z7 r s) (Z7 r s*u.d):=by
  rw [<- he];exact λ h hh=>admH_iff.1 (hA h hh)
 have hen':movR (KC r.noise) p≠[]:=by rw [he] at hen;exact hen
 exact ⟨Int.mul_pos hd (by omega),ero_add R.noise R.nne hp hen' hd (by omega) hz i⟩
def Xo:Xm:=⟨0,0,0,0⟩
def YB (xs:List Xm):Bool:=xs.all XM&&Zo (xs.length:Int) 1 40
def Yd (x:KS):Bool:=YB x.lows&&YB x.highs
set_option maxHeartbeats 1000000 in
theorem iPieces_c (A:Option Addr) (xs:List Xm) (cap:Nat) (w:World) (hn:xs.length<=1048576) (hin:∀ q∈xs,q.In) (hs:Sl 4 Yy w A xs) :
 Calls Tryz.prog 85 #[.slice A xs.length cap] w λ e w'=>e=.returned (.bool (YB xs))/\Below w.heap.size w w':=by
 have c1:=λ W=>Yt (xs.length:Int) 1 40 W;have HI:=Lib.hid hin;clear hin;go_enter Tryz.func85,Tryz.ntmps85
 go_wp2
 go_loopw [4,7] (λ _ i wr=>∃ k:Nat,k<=xs.length/\i=.int .i64 k/\Hid ((xs.take k).all XM=true)/\Below w.heap.size w wr) (λ _ i _=>xs.length-(intOf i).toNat)
 case atStart=>exact ⟨0,Nat.zero_le _,rfl,rfl,Below.refl _ _⟩
 case round =>
  obtain ⟨k,hk,rfl,hall,hbw⟩:=hrel;by_cases hlt:k<xs.length
  ·obtain ⟨b,off,rfl,hblt,hc⟩:=(hs.below hbw).at_ hlt;have g0:=hc 0 _ rfl;have g1:=hc 1 _ rfl;have g2:=hc 2 _ rfl;have g3:=hc 3 _ rfl;have c2:=λ W=>iPieceOk_c xs[k] W (HI.out _ (List.getElem_mem hlt));have hyes:=Lib.hid (λ(h:XM xs[k]=true)=>show (xs.take (k+1)).all XM=true from by rw [Y8 xs k hlt,List.all_append,hall.out];simp [h]);have hno:=Lib.hid (λ(h:XM xs[k]=false)=>show YB xs=false from by
    have:xs.all XM=false:=by rw [List.all_eq_false];exact ⟨_,List.getElem_mem hlt,by simp [h]⟩
    simp [YB,this])
   clear hc hall;simp only [Nat.add_zero] at g0;generalize xs[k]=q at *;cases hq:XM q
   ·rw [hq] at c2;have hfin:=Lib.hid (hno.out hq);clear hyes hno;go_wp2_with (fail)
    refine (c2 _).mono ?_;rintro e w1 ⟨rfl,hb1⟩;go_wp2
    go_ret
    refine ⟨Xi hfin.out.symm, ?_⟩;exact Xn
   ·rw [hq] at c2;have hfin:=Lib.hid (hyes.out hq);clear hyes hno;go_wp2_with (fail)
    refine (c2 _).mono ?_;rintro e w1 ⟨rfl,hb1⟩;go_wp2
    go_roundw
    case rel =>
     refine ⟨k+1,by omega,by go_num,hfin, ?_⟩;exact Xn
    case measure=>simp [intOf];omega
  ·obtain rfl:k=xs.length:=by omega
   rw [List.take_length] at hall;have hfin:=Lib.hid (show YB xs=Zo (xs.length:Int) 1 40 by unfold YB;rw [hall.out];rfl);clear hall;go_wp2_with (fail)
   refine (c1 _).mono ?_;rintro e w' ⟨rfl,rfl⟩;go_wp2
   go_ret
   exact ⟨Xi hfin.out.symm,hbw⟩
theorem iLawOk_c (x:KS) (a:KW) (w:World) (hn:YJ x<=1048576) (hin:LawIn x) (hs:J3 w x a) :
 Calls Tryz.prog 41 #[lawV x a] w λ e w'=>e=.returned (.bool (Yd x))/\Below w.heap.size w w':=by
 simp only [YJ] at hn;have c0:=λ W h=>iPieces_c a.lows.A x.lows a.lows.c W (by omega) hin.lows h;have c1:=λ W h=>iPieces_c a.highs.A x.highs a.highs.c W (by omega) hin.highs h;cases e0:YB x.lows
 ·rw [e0] at c0;have hv:=Lib.hid (show Yd x=false by simp [Yd,e0]);go_enter Tryz.func41,Tryz.ntmps41
  go_wp2_with (fail)
  refine (c0 _ (Sl.below hs.lows (by exact Xn))).mono ?_;rintro e w1 ⟨rfl,hb1⟩;go_wp2
  go_ret
  refine ⟨Xi hv.out.symm, ?_⟩;exact Xn
 ·rw [e0] at c0;have hv:=Lib.hid (show Yd x=YB x.highs by simp [Yd,e0]);generalize YB x.highs=q at *;go_enter Tryz.func41,Tryz.ntmps41
  go_wp2_with (fail)
  refine (c0 _ (Sl.below hs.lows (by exact Xn))).mono ?_;rintro e w1 ⟨rfl,hb1⟩;have r1:=Xt hb1;have l1:w.heap.size<w1.heap.size:=XN hb1;go_wp2_with (fail)
  refine (c1 _ (Sl.below hs.highs (by exact Xn))).mono ?_;rintro e w2 ⟨rfl,hb2⟩;go_wp2
  go_ret
  refine ⟨Xi hv.out.symm, ?_⟩;exact Xn
def lowA (q o:Xm):Int:=o.a*q.d-q.a*o.d
def lowB (q o:Xm):Int:=o.b*q.d-q.b*o.d
def lowC (q o:Xm):Int:=q.c*o.d-o.c*q.d
def YE (q o:Xm):Option Half:=XO (lowA q o) (lowB q o) (lowC q o)
def YP (q o:Xm):Bool:=decide (lowA q o=0)&&decide (lowB q o=0)
def Z5 (L:List Xm) (k:Nat):Nat->Option (List Half)
 | 0=>some []
 | n+1=>(Z5 L k n).bind λ hs=>if n=k∨YP (L.getD k Xo) (L.getD n Xo)=true then some hs else (YE (L.getD k Xo) (L.getD n Xo)).map λ h=>hs++[h]
def lowV (L:List Xm) (k:Nat):Bool:=(L.take k).contains (L.getD k Xo)||(List.range L.length).any λ i=>decide (i≠k)&&YP (L.getD k Xo) (L.getD i Xo)&&decide (lowC (L.getD k Xo) (L.getD i Xo)<0)
def KA (p:List Half) (L:List Xm) (k:Nat):List Half:=if (decide (p.length=0)||lowV L k)=true then [] else Yk (Xk (p++(Z5 L k L.length).getD []))
theorem lowHs_mem {L:List Xm} {k:Nat}:∀ (n:Nat) (hs:List Half),Z5 L k n=some hs->(∀ h∈hs,Xq h=true/\∃ i,i<n/\i≠k/\YE (L.getD k Xo) (L.getD i Xo)=some h)/\hs.length<=n/\(k<n->hs.length+1<=n)/\∀ i,i<n->i≠k->YP (L.getD k Xo) (L.getD i Xo)=false->∃ h∈hs,YE (L.getD k Xo) (L.getD i Xo)=some h
 | 0,hs,e=>by
  injection e with e
  subst e;exact ⟨λ h hh=>(by cases hh),Nat.le_refl _,λ h=>by omega,λ i hi=>absurd hi (by omega)⟩
 | n+1,hs,e=>by
  rw [Z5] at e;cases e1:Z5 L k n with
  | none=>rw [e1] at e;cases e
  | some gs =>
   obtain ⟨a,b,c,d⟩:=lowHs_mem n gs e1;rw [e1,Option.bind_some] at e;split at e
   ·rename_i h
    injection e with e
    subst e;refine ⟨λ f hf=>?_,by omega,λ hk=>?_,λ i hi hk hf=>?_⟩
    ·obtain ⟨o,i,hi,h1,h2⟩:=a f hf;exact ⟨o,i,by omega,h1,h2⟩
    ·by_cases hn:n=k
     ·omega
     ·have:=c (by omega);omega
    ·by_cases hin:i=n
     ·subst hin;rcases h with h|h
      ·exact absurd h hk
      ·rw [hf] at h;cases h
     ·exact d i (by omega) hk hf
   ·rename_i h
    cases e2:YE (L.getD k Xo) (L.getD n Xo) with
    | none=>rw [e2] at e;cases e
    | some g =>
     rw [e2] at e;injection e with e
     subst e;have hnk:n≠k:=λ q=>h (.inl q);refine ⟨λ f hf=>?_,by rw [List.length_append];simp only [List.length_cons,List.length_nil];omega,λ hk=>?_,λ i hi hk hf=>?_⟩
     ·rcases List.mem_append.1 hf with h1|h1
      ·obtain ⟨o,i,hi,h2,h3⟩:=a f h1;exact ⟨o,i,by omega,h2,h3⟩
      ·rw [List.mem_singleton.1 h1];exact ⟨halfOf_ok e2,n,by omega,hnk,e2⟩
     ·have:=c (by omega);rw [List.length_append];simp only [List.length_cons,List.length_nil];omega
     ·by_cases hin:i=n
      ·subst hin;exact ⟨g,List.mem_append.2 (.inr (List.mem_singleton.2 rfl)),e2⟩
      ·obtain ⟨f,h1,h2⟩:=d i (by omega) hk hf;exact ⟨f,List.mem_append.2 (.inl h1),h2⟩
def lowW (L:List Xm) (k n:Nat):Bool:=(L.take k).contains (L.getD k Xo)||(List.range n).any λ i=>decide (i≠k)&&YP (L.getD k Xo) (L.getD i Xo)&&decide (lowC (L.getD k Xo) (L.getD i Xo)<0)
theorem lowW_all (L:List Xm) (k:Nat):lowW L k L.length=lowV L k:=rfl
theorem lowW_zero (L:List Xm) (k:Nat):lowW L k 0=(L.take k).contains (L.getD k Xo):=by unfold lowW;simp
theorem lowW_next (L:List Xm) (k n:Nat):lowW L k (n+1)=(lowW L k n||(decide (n≠k)&&YP (L.getD k Xo) (L.getD n Xo)&&decide (lowC (L.getD k Xo) (L.getD n Xo)<0))):=by
 unfold lowW;rw [List.range_succ,List.any_append,<- Bool.or_assoc];simp
theorem lowW_self {L:List Xm} {k n:Nat} (h:n=k):lowW L k (n+1)=lowW L k n:=by
 rw [lowW_next,h];simp
theorem lowW_steep {L:List Xm} {k n:Nat} (h:YP (L.getD k Xo) (L.getD n Xo)=false):lowW L k (n+1)=lowW L k n:=by
 rw [lowW_next,h];simp
theorem lowW_ge {L:List Xm} {k n:Nat} (h:0<=lowC (L.getD k Xo) (L.getD n Xo)):lowW L k (n+1)=lowW L k n:=by
 rw [lowW_next,decide_eq_false (show ¬ lowC (L.getD k Xo) (L.getD n Xo)<0 by omega)];simp
theorem lowW_lt {L:List Xm} {k n:Nat} (hn:n≠k) (hf:YP (L.getD k Xo) (L.getD n Xo)=true) (h:lowC (L.getD k Xo) (L.getD n Xo)<0):lowW L k (n+1)=true:=by
 rw [lowW_next,decide_eq_true hn,hf,decide_eq_true h];simp
theorem lowHs_self {L:List Xm} {k n:Nat} (h:n=k):Z5 L k (n+1)=Z5 L k n:=by
 rw [Z5];cases e:Z5 L k n with
 | none=>rfl
 | some x=>rw [Option.bind_some,if_pos (.inl h)]
theorem lowHs_flat {L:List Xm} {k n:Nat} (h:YP (L.getD k Xo) (L.getD n Xo)=true):Z5 L k (n+1)=Z5 L k n:=by
 rw [Z5];cases e:Z5 L k n with
 | none=>rfl
 | some x=>rw [Option.bind_some,if_pos (.inr h)]
theorem lowHs_app {L:List Xm} {k n:Nat} {xs:List Half} {g:Half} (h1:n≠k) (h2:YP (L.getD k Xo) (L.getD n Xo)=false) (h3:Z5 L k n=some xs) (h4:YE (L.getD k Xo) (L.getD n Xo)=some g):Z5 L k (n+1)=some (xs++[g]):=by
 rw [Z5,h3,Option.bind_some,if_neg,h4]
 ·rfl
 ·rintro (h|h)
  ·exact h1 h
  ·rw [h2] at h;cases h
theorem lowHs_none {L:List Xm} {k n:Nat} (h1:n≠k) (h2:YP (L.getD k Xo) (L.getD n Xo)=false) (h4:YE (L.getD k Xo) (L.getD n Xo)=none):Z5 L k (n+1)=none:=by
 rw [Z5];cases e:Z5 L k n with
 | none=>rfl
 | some xs =>
  rw [Option.bind_some,if_neg,h4]
  ·rfl
  ·rintro (h|h)
   ·exact h1 h
   ·rw [h2] at h;cases h
theorem lowHs_stop {L:List Xm} {k n:Nat} (h:Z5 L k n=none):∀ m,n<=m->Z5 L k m=none
 | 0,hm=>by rwa [show n=0 by omega] at h
 | m+1,hm=>by
  rcases Nat.lt_or_ge m n with h1|h1
  ·rwa [show n=m+1 by omega] at h
  ·rw [Z5,lowHs_stop h m h1];rfl
def Zi (L:List Xm) (k:Nat):Bool:=(Z5 L k L.length).isSome
theorem lowGood_no {L:List Xm} {k n:Nat} (hn:n<L.length) (h1:n≠k) (h2:YP (L.getD k Xo) (L.getD n Xo)=false) (h4:YE (L.getD k Xo) (L.getD n Xo)=none):Zi L k=false:=by
 unfold Zi;rw [lowHs_stop (lowHs_none h1 h2 h4) _ hn];rfl
theorem lowGood_yes {L:List Xm} {k:Nat} {xs:List Half} (h:Z5 L k L.length=some xs):Zi L k=true:=by
 unfold Zi;rw [h];rfl
def grR (p:List Half) (L:List Xm) (k:Nat):List Half:=if Zi L k=true then KA p L k else []
theorem grR_no {p:List Half} {L:List Xm} {k:Nat} (h:Zi L k=false):grR p L k=[]:=by
 unfold grR;rw [h];rfl
theorem grR_yes {p:List Half} {L:List Xm} {k:Nat} (h:Zi L k=true):grR p L k=KA p L k:=by
 unfold grR;rw [h];rfl
theorem lowP_void {p:List Half} {L:List Xm} {k:Nat} (h:(decide (p.length=0)||lowW L k L.length)=true):KA p L k=[]:=by
 unfold KA;rw [<- lowW_all,if_pos h]
theorem lowP_meet {p:List Half} {L:List Xm} {k:Nat} {xs:List Half} (h:(decide (p.length=0)||lowW L k L.length)=false) (e:Z5 L k L.length=some xs):KA p L k=Yk (Xk (p++xs)):=by
 unfold KA;rw [<- lowW_all,h,e];rfl
structure LowM (xs:List Half):Prop where
 ok:∀ h∈xs,Xq h=true
 len:xs.length<=40
theorem lowM {p xs:List Half} {L:List Xm} {k n:Nat} (hp:Xc p=true) (hl:p.length+L.length<=40) (hn:n<=L.length) (e:Z5 L k n=some xs):LowM (p++xs):=by
 obtain ⟨a,b,c,d⟩:=lowHs_mem n xs e;refine ⟨app_ok (Z1 hp) (λ f hf=>(a f hf).1), ?_⟩;rw [List.length_append];omega
theorem lowM_ok {p xs:List Half} (hp:Xc p=true) (hne:p.length≠0) (M:LowM (p++xs)):Yw (Xk (p++xs))=true :=
 meet_app_ok hp (λ e=>hne (by rw [e];rfl)) (λ h hh=>M.ok h (List.mem_append.2 (.inr hh))) (by have:=M.len;rwa [List.length_append] at this)
structure PcD (q:Xm):Prop where
 d:1<=q.d/\q.d<=1000000
 a : -1000000000000<=q.a/\q.a<=1000000000000
 b : -1000000000000<=q.b/\q.b<=1000000000000
 c : -1000000000000<=q.c/\q.c<=1000000000000
theorem pcD {q:Xm} (h:XM q=true) (hd:q.d<=1000000):PcD q:=by
 obtain ⟨a,b,c,d,_⟩:=Ka.1 h;exact ⟨⟨a.1,hd⟩,b,c,d⟩
structure LowB (q o:Xm):Prop where
 a1 : -1000000000000000000<=o.a*q.d/\o.a*q.d<=1000000000000000000
 a2 : -1000000000000000000<=q.a*o.d/\q.a*o.d<=1000000000000000000
 b1 : -1000000000000000000<=o.b*q.d/\o.b*q.d<=1000000000000000000
 b2 : -1000000000000000000<=q.b*o.d/\q.b*o.d<=1000000000000000000
 c1 : -1000000000000000000<=q.c*o.d/\q.c*o.d<=1000000000000000000
 c2 : -1000000000000000000<=o.c*q.d/\o.c*q.d<=1000000000000000000
theorem lowBd {q o:Xm} (Q:PcD q) (O:PcD o):LowB q o:=by
 have m:=λ(a b:Int) ha hb=>JE (a:=a) (b:=b) (A:=1000000000000) (B:=1000000) ha hb;have hq:=Q.d;have ho:=O.d;have q' : -1000000<=q.d/\q.d<=1000000:=⟨by omega,by omega⟩;have o' : -1000000<=o.d/\o.d<=1000000:=⟨by omega,by omega⟩;have x1:=m o.a q.d O.a q';have x2:=m q.a o.d Q.a o';have x3:=m o.b q.d O.b q';have x4:=m q.b o.d Q.b o';have x5:=m q.c o.d Q.c o';have x6:=m o.c q.d O.c q';exact ⟨⟨by omega,by omega⟩,⟨by omega,by omega⟩,⟨by omega,by omega⟩,⟨by omega,by omega⟩,⟨by omega,by omega⟩,⟨by omega,by omega⟩⟩
theorem flatS_t {q o:Xm} (h1:(o.a*q.d-q.a*o.d == 0)=true) (h2:(o.b*q.d-q.b*o.d == 0)=true):YP q o=true:=by
 unfold YP lowA lowB;rw [decide_eq_true (by simpa using h1),decide_eq_true (by simpa using h2)];rfl
theorem flatS_f {q o:Xm} (h:((o.a*q.d-q.a*o.d == 0)&&(o.b*q.d-q.b*o.d == 0))=false):YP q o=false:=by
 unfold YP lowA lowB;rw [Bool.and_eq_false_iff] at h ⊢;rcases h with h|h
 ·exact .inl (decide_eq_false (by simpa using h))
 ·exact .inr (decide_eq_false (by simpa using h))
def lowBig (L:List Xm):Bool:=decide (1<L.length)&&L.any λ q=>decide (q.d > 1000000)
def lrPre (r:XK) (p:List Half) (l:KS):Bool:=Yd l&&decide (p.length+l.lows.length<=40)&&XG r&&Xc p
def Z2 (r:XK) (p:List Half) (l:KS):Bool:=lrPre r p l && !(lowBig l.lows)&&(List.range l.lows.length).all (Zi l.lows)
def lrL (p:List Half) (L:List Xm) (n:Nat):List (List Half):=(List.range n).map (KA p L)
def ZA (r:XK) (p:List Half) (l:KS):List (List Half):=if Z2 r p l=true then lrL p l.lows l.lows.length else []
theorem lr_false {r:XK} {p:List Half} {l:KS} (h:Z2 r p l=false):Z2 r p l=false/\ZA r p l=[]:=by
 unfold ZA;rw [h];exact ⟨rfl,rfl⟩
theorem lr_pre {r:XK} {p:List Half} {l:KS} (h:lrPre r p l=false):Z2 r p l=false/\ZA r p l=[]:=by
 refine lr_false ?_;unfold Z2;rw [h];rfl
theorem lr_big {r:XK} {p:List Half} {l:KS} (h:lowBig l.lows=true):Z2 r p l=false/\ZA r p l=[]:=by
 refine lr_false ?_;unfold Z2;rw [h];simp
theorem lr_bad {r:XK} {p:List Half} {l:KS} {k:Nat} (hk:k<l.lows.length) (h:Zi l.lows k=false):Z2 r p l=false/\ZA r p l=[]:=by
 refine lr_false ?_;unfold Z2;rw [show (List.range l.lows.length).all (Zi l.lows)=false from List.all_eq_false.2 ⟨k,List.mem_range.2 hk,by rw [h];decide⟩];simp
theorem lr_yes {r:XK} {p:List Half} {l:KS} (h:lrPre r p l=true) (hb:lowBig l.lows=false) (hg:∀ k,k<l.lows.length->Zi l.lows k=true):Z2 r p l=true/\ZA r p l=lrL p l.lows l.lows.length:=by
 have e:Z2 r p l=true:=by
  unfold Z2;rw [h,hb,show (List.range l.lows.length).all (Zi l.lows)=true from List.all_eq_true.2 λ k hk=>hg k (List.mem_range.1 hk)];rfl
 unfold ZA;rw [e];exact ⟨rfl,rfl⟩
theorem lrL_next (p:List Half) (L:List Xm) (k:Nat):lrL p L (k+1)=lrL p L k++[KA p L k]:=by
 unfold lrL;rw [List.range_succ,List.map_append];rfl
theorem J7 (p:List Half) (L:List Xm) (k:Nat):(lrL p L k).length=k:=by
 unfold lrL;rw [List.length_map,List.length_range]
theorem big_no {L:List Xm} (h:∀ k,k<L.length->¬(L.getD k Xo).d > 1000000∨¬ 1<L.length):lowBig L=false:=by
 unfold lowBig;rw [Bool.and_eq_false_iff,List.any_eq_false];rcases Nat.lt_or_ge 1 L.length with h1|h1
 ·refine .inr λ q hq=>?_;obtain ⟨k,hk,rfl⟩:=List.getElem_of_mem hq;have:=h k hk;rw [Jl hk] at this;rcases this with h2|h2
  ·simpa using h2
  ·exact absurd h1 h2
 ·exact .inl (decide_eq_false (by omega))
theorem big_yes {L:List Xm} {k:Nat} (hk:k<L.length) (h1:1<L.length) (h2:(L.getD k Xo).d > 1000000):lowBig L=true:=by
 unfold lowBig;rw [decide_eq_true h1,Bool.true_and,List.any_eq_true];refine ⟨L[k],List.getElem_mem hk, ?_⟩;rw [Jl hk] at h2;exact decide_eq_true h2
theorem big_d {L:List Xm} (h:lowBig L=false) (h1:1<L.length) {k:Nat} (hk:k<L.length):(L.getD k Xo).d<=1000000:=by
 by_cases h2:(L.getD k Xo).d<=1000000
 ·exact h2
 ·rw [big_yes hk h1 (by omega)] at h;cases h
theorem lr_parts {r:XK} {p:List Half} {l:KS} (h:lrPre r p l=true):Yd l=true/\p.length+l.lows.length<=40/\XG r=true/\Xc p=true:=by
 unfold lrPre at h;simp only [Bool.and_eq_true,decide_eq_true_eq] at h;exact ⟨h.1.1.1,h.1.1.2,h.1.2,h.2⟩
theorem law_lows {l:KS} (h:Yd l=true):∀ q∈l.lows,XM q=true:=by
 unfold Yd YB at h;simp only [Bool.and_eq_true,List.all_eq_true] at h;exact h.1.1
end Go.Proofs.YtbekjpkcicjcgabGreat
