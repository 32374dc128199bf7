/-
 The next spot of a room and a step of the loop: what both compute. No program is named here.
 Conditions: none.
-/
import Derived.Test.YtbekjpkcicjcgaaGreatV4
import Derived.Maps.AppendAt
import Derived.Test.YtbekjpkcicjcgaaGreatMeetR
namespace Go.Proofs.YtbekjpkcicjcgaaGreat
open Go.RowKit
def drivenOk (u:XU):Bool:=Xh u&&ZT u.n (-1000*u.d) (1000*u.d)
def nxtX (r:XD) (s:XH) (u:XU) (v:XH):Int:=(KM r s*u.d+r.bx*u.n*Ya r s)*v.d+v.x*(Ya r s*u.d)
def nxtY (r:XD) (s:XH) (u:XU) (v:XH):Int:=(KT r s*u.d+r.by_*u.n*Ya r s)*v.d+v.y*(Ya r s*u.d)
def nxtD (r:XD) (s:XH) (u:XU) (v:XH):Int:=Ya r s*u.d*v.d
def nxtS (r:XD) (s:XH) (u:XU) (v:XH):Option XH:=Y9 (nxtX r s u v) (nxtY r s u v) (nxtD r s u v)
def nxtBad (r:XD) (s:XH) (u:XU) (v:XH):Bool:=!(XJ r) || !(Xo s) || !(Xh u) || !(Xo v)||decide (s.d > 100000)||decide (v.d > 1000)||decide (u.d > 1000) || !(ZT u.n (-1000*u.d) (1000*u.d))
def ZO (r:XD) (s:XH) (u:XU) (v:XH):Option XH:=if nxtBad r s u v=true then none else nxtS r s u v
def nxtBadI (s:XH) (u:XU) (v:XH):Bool:=!(Xo s) || !(Xo v)||decide (s.d > 100000)||decide (v.d > 1000)||decide (u.d > 1000) || !(drivenOk u)
theorem nxtBad_i {r:XD} {s:XH} {u:XU} {v:XH} (hr:XJ r=true):nxtBad r s u v=nxtBadI s u v:=by
 unfold nxtBad nxtBadI drivenOk;rw [hr];generalize Xo s=a;generalize Xo v=b;generalize Xh u=c;generalize ZT u.n (-1000*u.d) (1000*u.d)=d;cases a<;>cases b<;>cases c<;>cases d<;>simp
theorem nxt_no {r:XD} {s:XH} {u:XU} {v:XH} (h:nxtBad r s u v=true):ZO r s u v=none:=if_pos h
theorem nxt_yes {r:XD} {s:XH} {u:XU} {v:XH} (h:nxtBad r s u v=false):ZO r s u v=nxtS r s u v:=if_neg (by rw [h];simp)
structure NxtIn (r:XD) (s:XH) (u:XU) (v:XH):Prop where
 room:XJ r=true
 sok:Xo s=true
 vok:Xo v=true
 sd:s.d<=100000
 vd:v.d<=1000
 ud:1<=u.d/\u.d<=1000
 un : -1000*u.d<=u.n/\u.n<=1000*u.d
theorem nxt_in {r:XD} {s:XH} {u:XU} {v:XH} (h:nxtBad r s u v=false):NxtIn r s u v:=by
 have h1:=JC h;have h2:=JC h1;have h3:=JC h2;have h4:=JC h3;have h5:=JC h4;have h6:=JC h5;have hu:=rok_bd (YT (or_f2 h5));have e:=Y3.1 (YT (or_f2 h));have d1:=Js (or_f2 h1);have d2:=Js (or_f2 h2);have d3:=Js (or_f2 h3);exact ⟨YT (JC h6),YT (or_f2 h6),YT (or_f2 h4),Oz,Oz,⟨Oz,Oz⟩,e⟩
theorem nxt_bd {M D b n d x e:Int} (hM : -4000000000<=M/\M<=4000000000) (hD:1<=D/\D<=2000000) (hb : -100<=b/\b<=100) (hd:1<=d/\d<=1000) (hn : -1000*d<=n/\n<=1000*d) (he:1<=e/\e<=1000) (hx : -1000*e<=x/\x<=1000*e) :
 (-4000000000000<=M*d/\M*d<=4000000000000)/\(-100000000<=b*n/\b*n<=100000000)/\(-200000000000000<=b*n*D/\b*n*D<=200000000000000)/\(1<=D*d/\D*d<=2000000000)
 /\(-204000000000000000<=(M*d+b*n*D)*e/\(M*d+b*n*D)*e<=204000000000000000)/\(-2000000000000000<=x*(D*d)/\x*(D*d)<=2000000000000000)/\(1<=D*d*e/\D*d*e<=2000000000000):=by
 have a1:=JF (a:=M) (b:=d) (A:=4000000000) (B:=1000) ⟨Oz,Oz⟩ ⟨Oz,Oz⟩;have a2:=JF (a:=b) (b:=n) (A:=100) (B:=1000000) ⟨Oz,Oz⟩ ⟨Oz,Oz⟩;have a3:=JF (a:=b*n) (b:=D) (A:=100000000) (B:=2000000) ⟨Oz,Oz⟩ ⟨Oz,Oz⟩;have a4:=JF (a:=D) (b:=d) (A:=2000000) (B:=1000) ⟨Oz,Oz⟩ ⟨Oz,Oz⟩;have a5:=Int.mul_pos (show 0<D by omega) (show 0<d by omega);have a6:=JF (a:=M*d+b*n*D) (b:=e) (A:=204000000000000) (B:=1000) ⟨Oz,Oz⟩ ⟨Oz,Oz⟩;have a7:=JF (a:=x) (b:=D*d) (A:=1000000) (B:=2000000000) ⟨Oz,Oz⟩ ⟨Oz,Oz⟩;have a8:=JF (a:=D*d) (b:=e) (A:=2000000000) (B:=1000) ⟨Oz,Oz⟩ ⟨Oz,Oz⟩;have a9:=Int.mul_pos a5 (show 0<e by omega);exact ⟨⟨Oz,Oz⟩,⟨Oz,Oz⟩,⟨Oz,Oz⟩,⟨Oz,Oz⟩,⟨Oz,Oz⟩,⟨Oz,Oz⟩,⟨Oz,Oz⟩⟩
theorem optSpot_eq (x:Option XH):optSpotV x=.tuple #[Yu (x.getD Yi),Bv x.isSome]:=by cases x<;>rfl
theorem XG.kpN {α:Type} {T sz base n c:Nat} {enc:α->List Value} {M:List Nat} {w w':World} {A:Option Addr} {xs:List α} (h:XG T sz enc w base (Sv A n c) xs) (k:Kp M w w') (hA:∀ p,A=some p->p.block ∉ M):XG T sz enc w' base (Sv A n c) xs:=by
 obtain ⟨A',cap,e,h1,h2⟩:=h;refine ⟨A',cap,e,h1, ?_⟩;rcases h2 with h2|⟨q,cap',cur,hv,hg,hh,r⟩
 ·exact .inl h2
 ·have hA2:A=some ⟨q,0,none⟩:=by injection hv
  exact .inr ⟨q,cap',cur,hv,hg,(k.block q (XQ hh) (hA _ hA2)).trans hh,r⟩
theorem apart2 {A B:Kt} (h:∀ p q,A.A=some p->B.A=some q->p.block≠q.block):List.Pairwise Apart [A,B]:=by
 simp only [List.pairwise_cons,List.mem_cons,List.not_mem_nil,or_false,forall_eq,List.Pairwise.nil,and_true];exact ⟨h,λ _ hf=>hf.elim⟩
theorem LawNew.nil (w:World) (base:Nat):LawNew w base ⟨[],[]⟩ ⟨⟨none,0⟩,⟨none,0⟩⟩ :=
 ⟨XG.nilN _ _ _ _ _,XG.nilN _ _ _ _ _,apart2 (λ p q hp _=>by cases hp)⟩
theorem KY {g:Nat} {L M:List Nat} (h:g ∉ L) (h2:g ∉ M):g ∉ L++M:=λ hm=>(List.mem_append.1 hm).elim h h2
theorem XG.kpT {α:Type} {T sz base n c g:Nat} {enc:α->List Value} {w w':World} {A:Option Addr} {xs:List α} (h:XG T sz enc w base (Sv A n c) xs) (k:Kp [g] w w') (hA:∀ p,A=some p->p.block≠g):XG T sz enc w' base (Sv A n c) xs:=by
 obtain ⟨A',cap,e,h1,h2⟩:=h;refine ⟨A',cap,e,h1, ?_⟩;rcases h2 with h2|⟨q,cap',cur,hv,hg,hh,r⟩
 ·exact .inl h2
 ·have hA2:A=some ⟨q,0,none⟩:=by injection hv
  exact .inr ⟨q,cap',cur,hv,hg,(k.block q (XQ hh) (by simp only [List.mem_singleton];exact hA _ hA2)).trans hh,r⟩
structure DrawR (r:XD):Prop where
 ok:XJ r=true
 bx:1<=r.bx/\r.bx<=3
 by_ : -1<=r.by_/\r.by_<=2
 low : -14<=r.low/\r.low<=-3
 high:3<=r.high/\r.high<=14
theorem boxR_mem {x y:Int} (hx:1<=x/\x<=100) (hy:1<=y/\y<=100) {f:Half} (hf:f∈JI x y):f∈Yx++ZY x y:=by
 have hok:=boxHs_ok hx hy;have gd:=ZU hok;have c:=Zc (hs:=Yx++ZY x y) (λ f hf=>(Ju (ZM hok f hf)).n);exact c.mem f (Z8 gd hf).1
theorem boxR_pos {x y:Int} (hx:1<=x/\x<=100) (hy:1<=y/\y<=100) {f:Half} (hf:f∈Yx++ZY x y):0<f.c:=by
 simp only [Yx,ZY,List.cons_append,List.nil_append,List.mem_cons,List.not_mem_nil,or_false] at hf;rcases hf with rfl|rfl|rfl|rfl|rfl|rfl|rfl|rfl<;>simp only<;>omega
def cutR (x y c:Int):List Half:=X3 (Xk (JI x y++[⟨1,1,c⟩]))
theorem cut_ok {x y c:Int} (hx:1<=x/\x<=100) (hy:1<=y/\y<=100) (hc:1<=c/\c<=1000):(∀ h∈JI x y++[(⟨1,1,c⟩:Half)],Xs h=true)/\Yt (Xk (JI x y++[⟨1,1,c⟩]))=true/\Xc (cutR x y c)=true/\cutR x y c≠[]:=by
 have hk:∀ h∈JI x y++[(⟨1,1,c⟩:Half)],Xs h=true:=by
  intro h hh;rcases List.mem_append.1 hh with h1|h1
  ·exact Zp (boxR_ok hx hy) h h1
  ·simp only [List.mem_singleton] at h1;subst h1;exact Zk.2 ⟨⟨Sz,Sz⟩,⟨Sz,Sz⟩,⟨by simp only;omega,by simp only;omega⟩,Sz,gcd_unit (.inl rfl)⟩
 have hl:(JI x y).length<=8:=by
  have h1:=meetI_len (Xk (ZY x y));have h2:=meetL_len (ZY x y);have h3:(ZY x y).length=4:=rfl;show (XK (Xk (ZY x y))).length<=8;omega
 have hm:Yt (Xk (JI x y++[⟨1,1,c⟩]))=true:=by
  refine decide_eq_true ?_;have h1:=meetI_len (Xk (JI x y++[(⟨1,1,c⟩:Half)]));have h2:=meetL_len (JI x y++[(⟨1,1,c⟩:Half)]);rw [List.length_append] at h2;simp only [List.length_cons,List.length_nil] at h2;omega
 have hn:XK (Xk (JI x y++[⟨1,1,c⟩]))≠[]:=by
  refine ne_of_inner hk (x:=0) (y:=0) (d:=1) Oz (λ f hf=>?_);have h0:0<f.c:=by
   rcases List.mem_append.1 hf with h1|h1
   ·exact boxR_pos hx hy (List.mem_append.2 (.inl h1))
   ·rcases List.mem_append.1 h1 with h2|h2
    ·exact boxR_pos hx hy (boxR_mem hx hy h2)
    ·simp only [List.mem_singleton] at h2;subst h2;simp only;omega
  omega
 refine ⟨hk,hm,regionOk_meetR hk, ?_⟩;unfold cutR X3;rw [if_pos hm];exact hn
structure DrawN (q a b c bx by_ lo hi:Int):Prop where
 q:2<=q/\q<=10
 a:0<=a/\a<=1
 b:0<=b/\b<=1
 c:0<=c/\c<=1
 bx:1<=bx/\bx<=3
 by_ : -1<=by_/\by_<=2
 lo : -14<=lo/\lo<=-3
 hi:3<=hi/\hi<=14
theorem draw_mk {q a b c bx by_ lo hi:Int} (D:DrawN q a b c bx by_ lo hi) {N L:List Half} (n1:Xc N=true) (n2:N≠[]) (l1:Xc L=true) (l2:L≠[]):DrawR ⟨[q-1+a,b,-c,q-1],q,bx,by_,lo,hi,N,L⟩:=by
 have hq:=D.q;have ha:=D.a;have hb:=D.b;have hc:=D.c;have h1:=D.bx;have h2:=D.by_;have h3:=D.lo;have h4:=D.hi;have hd:det [q-1+a,b,-c,q-1]≠0:=by
  show (q-1+a)*(q-1)-b * -c≠0;have m1:1*1<=(q-1+a)*(q-1):=Int.mul_le_mul Oz Oz Oz Oz;have m2:0<=b*c:=Int.mul_nonneg hb.1 hc.1;have m3:b * -c = -(b*c):=Int.mul_neg _ _;omega
 refine ⟨?_,h1,h2,h3,h4⟩;unfold XJ turnOk mapOk;simp only [Bool.and_eq_true,List.all_eq_true,List.mem_cons,List.not_mem_nil,or_false,forall_eq_or_imp,forall_eq,Y3,bne_iff_ne,Bool.not_eq_true',decide_eq_false_iff_not,decide_eq_true_eq,List.length_cons,List.length_nil];refine ⟨⟨⟨⟨⟨⟨⟨⟨⟨⟨trivial,Oz⟩,Oz,Oz,Oz,Oz⟩,hd⟩,Oz⟩,Oz⟩,Oz,Oz⟩,λ e=>n2 (List.length_eq_zero_iff.1 e)⟩,λ e=>l2 (List.length_eq_zero_iff.1 e)⟩,n1⟩,l1⟩
theorem boxHs_rf {x y:Int} (hx:1<=x/\x<=100) (hy:1<=y/\y<=100):rfOk (ZY x y)=true/\rfR (ZY x y)=JI x y:=by
 have h1:(ZY x y).all Xs=true:=List.all_eq_true.2 (boxHs_ok hx hy);have h2:rfOk (ZY x y)=true:=by
  unfold rfOk;rw [h1,(box_meet x y).1];rfl
 refine ⟨h2, ?_⟩;unfold rfR;rw [if_pos h2];rfl
set_option maxRecDepth 100000 in
set_option maxHeartbeats 4000000 in
theorem sBox_c (x y:Int) (w:World) (hx:1<=x/\x<=100) (hy:1<=y/\y<=100) :
 Calls Tryz.prog 86 #[.int .i64 (-x),.int .i64 (-y),.int .i64 x,.int .i64 y] w λ e w'=>∃ v,e=.returned (.tuple #[.agg #[v],.bool true])/\XG 136 3 Xe w' w.heap.size v (JI x y)/\Below w.heap.size w w':=by
 have hok:=boxHs_ok hx hy;have hrf:=boxHs_rf hx hy;have H0:Xq (w.alloc (.cells #[.slice none 0 0] 26)) w.heap.size 26 [.slice none 0 0]:=Xq.new w [.slice none 0 0] 26;have b0:Below w.heap.size w (w.alloc (.cells #[.slice none 0 0] 26)):=Xb bR _;have z0:w.heap.size<(w.alloc (.cells #[.slice none 0 0] 26)).heap.size:=Sz
 generalize hW:w.alloc (.cells #[.slice none 0 0] 26)=W at *;have hW':=Lib.hid hW;clear hW;have SB:Sl 3 Xe (W.alloc (.cells #[.int .i64 1,.int .i64 0,.int .i64 x,.int .i64 0,.int .i64 1,.int .i64 y,.int .i64 (-1),.int .i64 0,.int .i64 x,.int .i64 0,.int .i64 (-1),.int .i64 y] 136)) (some ⟨W.heap.size,0,none⟩) (ZY x y):=sl_new_at Xx W (ZY x y) #[.int .i64 1,.int .i64 0,.int .i64 x,.int .i64 0,.int .i64 1,.int .i64 y,.int .i64 (-1),.int .i64 0,.int .i64 x,.int .i64 0,.int .i64 (-1),.int .i64 y] rfl rfl;have b1:=Xb b0 (.cells #[.int .i64 1,.int .i64 0,.int .i64 x,.int .i64 0,.int .i64 1,.int .i64 y,.int .i64 (-1),.int .i64 0,.int .i64 x,.int .i64 0,.int .i64 (-1),.int .i64 y] 136);have R1:=H0.alloc (.cells #[.int .i64 1,.int .i64 0,.int .i64 x,.int .i64 0,.int .i64 1,.int .i64 y,.int .i64 (-1),.int .i64 0,.int .i64 x,.int .i64 0,.int .i64 (-1),.int .i64 y] 136);have k1:=sMake_c (some ⟨W.heap.size,0,none⟩) (ZY x y) 4 _ (by simp [ZY]) hok SB (λ e=>by cases e);change Calls _ _ _ _ λ e w'=>∃ v,e=.returned (.agg #[v])/\XG _ 3 Xe w' _ v (JI x y)/\_ at k1
 have e1:=Jk (-x) (-1000) 1000 true (Y3.2 ⟨by omega,by omega⟩);have e2:=Jk x (-x+1) 1000 true (Y3.2 ⟨by omega,by omega⟩);have e3:=Jk (-y) (-1000) 1000 true (Y3.2 ⟨by omega,by omega⟩);have e4:=Jk y (-y+1) 1000 true (Y3.2 ⟨by omega,by omega⟩);clear hok hrf;go_enter Tryz.func86,Tryz.ntmps86
 go_upto_region 1 with fail
 rw [hW'.out];clear hW';go_wp2_with (fail)
 refine (e1 _).mono ?_;rintro e w' ⟨rfl,rfl⟩;go_wp2_with (fail)
 refine (e2 _).mono ?_;rintro e w' ⟨rfl,rfl⟩;go_wp2_with (fail)
 refine (e3 _).mono ?_;rintro e w' ⟨rfl,rfl⟩;go_wp2_with (fail)
 refine (e4 _).mono ?_;rintro e w' ⟨rfl,rfl⟩;go_wp2_with (fail)
 refine k1.mono ?_;rintro e w3 ⟨v,rfl,N3,hb3⟩;obtain ⟨Av,cv,rfl,o3⟩:=N3;have N3:XG 136 3 Xe w3 (W.alloc (.cells #[.int .i64 1,.int .i64 0,.int .i64 x,.int .i64 0,.int .i64 1,.int .i64 y,.int .i64 (-1),.int .i64 0,.int .i64 x,.int .i64 0,.int .i64 (-1),.int .i64 y] 136)).heap.size (.slice Av (JI x y).length cv) (JI x y):=⟨Av,cv,rfl,o3⟩;have R3:=(R1.below hb3).has;have b3:=Xf b1 hb3;have z3:w.heap.size<w3.heap.size:=R3.1;clear o3 k1 R1 b1 hb3 H0 SB;obtain ⟨cR3_0,fR3_0⟩:=R3.2 0 _ rfl;go_wp2
 refine bodyPost_ret (v:=.tuple #[.agg #[.slice Av (JI x y).length cv],.bool true]) (by simp [results,Tryz.results86,go_sem, *]) rfl ⟨.slice Av (JI x y).length cv,rfl, ?_,YY b3 (by simp only;omega) _⟩;exact (N3.lowC (q:=⟨w.heap.size,0,none⟩) (by simp only [World.size_alloc];omega) [.slice Av (JI x y).length cv]).mono (base':=w.heap.size) (by simp only [World.size_alloc];omega)
end Go.Proofs.YtbekjpkcicjcgaaGreat
