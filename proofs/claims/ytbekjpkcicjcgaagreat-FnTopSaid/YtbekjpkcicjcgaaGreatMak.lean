/-
 Records with parameters that are consistent with them, of the reference's verifier.
 Conditions: at most 2^20 bytes.
-/
import Derived.Test.YtbekjpkcicjcgaaGreatPlant
import Derived.Laws.StructEq
namespace Go.Proofs.YtbekjpkcicjcgaaGreat
open Go.RowKit
theorem XG.farG {α:Type} {T sz base g T':Nat} {enc:α->List Value} {w w':World} {v:Value} {xs:List α} {vs:List Value} (h:XG T sz enc w base v xs) (hc:Xq w g T' vs) (hne:T≠T') (ho:KA w w' g):XG T sz enc w' base v xs:=by
 obtain ⟨A,c,rfl,o⟩:=h;have N:XG T sz enc w base (.slice A xs.length c) xs:=⟨A,c,rfl,o⟩;refine N.far ho (λ b hb p q hp hq=>?_);rw [List.mem_singleton] at hb;subst hb;cases hq;exact N.typ hc hne p hp
section
variable {a:Act} {w:World} {N:Act->World->Prop} {Q:Exit->Act->World->Prop} {o:Oper} {x y:Operand} {T':TypeId}
theorem wp_neR (h:o.op=.binOp .neq 46 x y T') {r s:XW} (ex:a.eval x=X0 r) (ey:a.eval y=X0 s) (hn:N (a.put o.dst (.bool (!decide (r=s)))) w):o.wp Tryz.prog a w N Q:=by
 refine opv ?_ hn;unfold execOp;rw [h];simp only;rw [ex,ey];obtain ⟨a,b⟩:=r;obtain ⟨c,d⟩:=s;simp [go_sem];by_cases h1:a=c<;>by_cases h2:b=d<;>simp [h1,h2]
end
def blkLs (L:List Kw):List Nat:=L.flatMap λ a=>blkL a.A
theorem blkLs_in {L:List Kw} {m:Nat} (h:m∈blkLs L):∃ a∈L,∃ p,a.A=some p/\p.block=m:=by
 obtain ⟨a,ha,hm⟩:=List.mem_flatMap.1 h;obtain ⟨p,hp,e⟩:=blkL_in hm;exact ⟨a,ha,p,hp,e⟩
theorem blkLs_mem {L:List Kw} {a:Kw} {p:Addr} (ha:a∈L) (hp:a.A=some p):p.block∈blkLs L :=
 List.mem_flatMap.2 ⟨a,ha,by rw [hp];simp [blkL]⟩
theorem blkLs_nin {L:List Kw} {g:Nat} (h:∀ a∈L,∀ p,a.A=some p->p.block≠g):g ∉ blkLs L:=by
 intro hm;obtain ⟨a,ha,p,hp,e⟩:=blkLs_in hm;exact h a ha p hp e
theorem Kd.kp {L:List Kw} {w w':World} (h:Kd w w' L):Kp (blkLs L) w w' :=
 ⟨⟨h.os,h.tape,h.output,h.size,λ k hk=>absurd hk (Nat.not_lt_zero _)⟩,λ g hg hm=>h.block g hg (λ a ha p hp e=>hm (by rw [<- e];exact blkLs_mem ha hp))⟩
theorem Kp.only {L:List Kw} {w w':World} (h:Kp (blkLs L) w w'):Kd w w' L :=
 ⟨h.base.os,h.base.tape,h.base.output,h.base.size,λ k hk hn=>h.block k hk (blkLs_nin hn)⟩
theorem Kp.onlyG {w w':World} {g:Nat} (h:Kp [g] w w'):KA w w' g:=Kp.only (L:=[⟨some ⟨g,0,none⟩,0⟩]) h
theorem KA.kpG {w w':World} {g:Nat} (h:KA w w' g):Kp [g] w w':=Kd.kp h
theorem XG.farK {α:Type} {T sz base g T':Nat} {enc:α->List Value} {w w':World} {v:Value} {xs:List α} {vs:List Value} (h:XG T sz enc w base v xs) (hc:Xq w g T' vs) (hne:T≠T') (k:Kp [g] w w'):XG T sz enc w' base v xs:=h.farG hc hne k.onlyG
theorem KH {T base g g' T':Nat} {w w':World} {vs vs':List Value} (h:Xq w g' T vs/\base<=g') (hc:Xq w g T' vs') (hne:T≠T') (k:Kp [g] w w'):Xq w' g' T vs/\base<=g' :=
 ⟨h.1.kp k (λ e=>Xq.ne hc h.1 (λ e=>hne e.symm) (List.mem_singleton.1 e)),h.2⟩
section
variable {W w w':World} {a:Act} {s T T' g g':Nat} {z vs':List Value} {b:Bool} {C:World->List Value->Prop}
theorem Xq.farK {vs:List Value} (h:Xq w g T vs) (hc:Xq w g' T' vs') (hne:T≠T') (k:Kp [g'] w w'):Xq w' g T vs:=h.kp k (λ e=>Xq.ne hc h (λ e=>hne e.symm) (List.mem_singleton.1 e))
theorem X6.farK (h:X6 W a w s T z b C) (hc:Xq w g' T' vs') (hT:T≠T') (k:Kp [g'] w w') (hC:∀ vs,C w vs->C w' vs):X6 W a w' s T z b C:=by
 obtain ⟨g,e,hg2,y,n⟩:=h;exact ⟨g,e,hg2,λ h=>(y h).farK hc hT k,λ h=>by obtain ⟨vs,h1,h2⟩:=n h;exact ⟨vs,h1.farK hc hT k,hC vs h2⟩⟩
theorem XY.farK (h:XY w g T z b C) (hc:Xq w g' T' vs') (hT:T≠T') (k:Kp [g'] w w') (hC:∀ vs,C w vs->C w' vs):XY w' g T z b C :=
 ⟨λ q=>(h.1 q).farK hc hT k,λ q=>by obtain ⟨vs,h1,h2⟩:=h.2 q;exact ⟨vs,h1.farK hc hT k,hC vs h2⟩⟩
end
theorem Sl.kpG {α:Type} {sz:Nat} {enc:α->List Value} {w w':World} {A:Option Addr} {xs:List α} {g:Nat} (h:Sl sz enc w A xs) (k:Kp [g] w w') (ha:∀ b off,A=some ⟨b,off,none⟩->0<xs.length->b≠g):Sl sz enc w' A xs:=h.farG k.onlyG ha
theorem Yq.at {w:World} {g:Nat} {B:Option Addr} {c:Nat} {bs:List Int} {sq:Nat->Int} {i j:Nat} (h:Yq w g B c bs sq i) (e:i=j):Yq w g B c bs sq j:=e ▸ h
theorem YA {b:Bool} (h:b=true):b.toNat=1:=by rw [h];rfl
theorem Zt {b:Bool} (h:b=false):b.toNat=0:=by rw [h];rfl
structure Zg (w:World) (base:Nat) (x:XD) (a:Y7):Prop where
 map:XG 3 1 Kk w base (.slice a.map.A (List.length x.map) a.map.c) x.map
 noise:XG 136 3 Xe w base (.slice a.noise.A (List.length x.noise) a.noise.c) x.noise
 limits:XG 136 3 Xe w base (.slice a.limits.A (List.length x.limits) a.limits.c) x.limits
section
variable {w w':World} {base:Nat} {x:XD} {a:Y7}
theorem Zg.sl (h:Zg w base x a):ZX w x a:=⟨h.map.out ZI,⟨h.noise.out Xx⟩,⟨h.limits.out Xx⟩⟩
theorem Zg.nil (h:Zg w base x a):Jk a:=⟨h.noise.nilcap,h.limits.nilcap⟩
theorem Zg.below {B:Nat} (h:Zg w base x a) (hb:Below B w w') (hB:w.heap.size<=B):Zg w' base x a:=⟨h.map.below hb hB,h.noise.below hb hB,h.limits.below hb hB⟩
theorem Zg.mono {base':Nat} (h:Zg w base x a) (hb:base'<=base):Zg w base' x a:=⟨h.map.mono hb,h.noise.mono hb,h.limits.mono hb⟩
theorem Zg.farK {g T':Nat} {vs:List Value} (h:Zg w base x a) (hc:Xq w g T' vs) (h1:3≠T') (h2:136≠T') (k:Kp [g] w w'):Zg w' base x a:=⟨h.map.farK hc h1 k,h.noise.farK hc h2 k,h.limits.farK hc h2 k⟩
theorem Zg.kpT {M:List Nat} (h:Zg w base x a) (k:Kp M w w') (hM:∀ m∈M,m<base):Zg w' base x a :=
 ⟨h.map.kp k (hi:=w.heap.size) (λ p hp=>(h.map.blk p hp).2) Xy (λ m hm=>.inl (hM m hm)),h.noise.kp k (hi:=w.heap.size) (λ p hp=>(h.noise.blk p hp).2) Xy (λ m hm=>.inl (hM m hm)),h.limits.kp k (hi:=w.heap.size) (λ p hp=>(h.limits.blk p hp).2) Xy (λ m hm=>.inl (hM m hm))⟩
theorem Zg.otherT {g T':Nat} {vs:List Value} (h:Zg w base x a) (hc:Xq w g T' vs) (h1:3≠T') (h2:136≠T') (us:List Value) (o:Nat):Zg (w.setCells g o us) base x a :=
 ⟨h.map.otherC (h.map.typ hc h1) us o,h.noise.otherC (h.noise.typ hc h2) us o,h.limits.otherC (h.limits.typ hc h2) us o⟩
end
structure DrawR (r:XD):Prop where
 ok:XJ r=true
 bx:1<=r.bx/\r.bx<=3
 by_ : -1<=r.by_/\r.by_<=2
 low : -14<=r.low/\r.low<=-3
 high:3<=r.high/\r.high<=14
theorem boxR_mem {x y:Int} (hx:1<=x/\x<=100) (hy:1<=y/\y<=100) {f:Half} (hf:f∈JH x y):f∈Yx++ZY x y:=by
 have hok:=boxHs_ok hx hy;have gd:=ZU hok;have c:=Zc (hs:=Yx++ZY x y) (λ f hf=>(Jt (ZM hok f hf)).n);exact c.mem f (Z8 gd hf).1
theorem boxR_pos {x y:Int} (hx:1<=x/\x<=100) (hy:1<=y/\y<=100) {f:Half} (hf:f∈Yx++ZY x y):0<f.c:=by
 simp only [Yx,ZY,List.cons_append,List.nil_append,List.mem_cons,List.not_mem_nil,or_false] at hf;rcases hf with rfl|rfl|rfl|rfl|rfl|rfl|rfl|rfl<;>simp only<;>omega
def cutR (x y c:Int):List Half:=X3 (Xk (JH x y++[⟨1,1,c⟩]))
theorem cut_ok {x y c:Int} (hx:1<=x/\x<=100) (hy:1<=y/\y<=100) (hc:1<=c/\c<=1000):(∀ h∈JH x y++[(⟨1,1,c⟩:Half)],Xs h=true)/\Yt (Xk (JH x y++[⟨1,1,c⟩]))=true/\Xc (cutR x y c)=true/\cutR x y c≠[]:=by
 have hk:∀ h∈JH x y++[(⟨1,1,c⟩:Half)],Xs h=true:=by
  intro h hh;rcases List.mem_append.1 hh with h1|h1
  ·exact Zp (boxR_ok hx hy) h h1
  ·simp only [List.mem_singleton] at h1;subst h1;exact Zk.2 ⟨⟨Sz,Sz⟩,⟨Sz,Sz⟩,⟨by simp only;omega,by simp only;omega⟩,Sz,gcd_unit (.inl rfl)⟩
 have hl:(JH x y).length<=8:=by
  have h1:=meetI_len (Xk (ZY x y));have h2:=meetL_len (ZY x y);have h3:(ZY x y).length=4:=rfl;show (XK (Xk (ZY x y))).length<=8;omega
 have hm:Yt (Xk (JH x y++[⟨1,1,c⟩]))=true:=by
  refine decide_eq_true ?_;have h1:=meetI_len (Xk (JH x y++[(⟨1,1,c⟩:Half)]));have h2:=meetL_len (JH x y++[(⟨1,1,c⟩:Half)]);rw [List.length_append] at h2;simp only [List.length_cons,List.length_nil] at h2;omega
 have hn:XK (Xk (JH x y++[⟨1,1,c⟩]))≠[]:=by
  refine ne_of_inner hk (x:=0) (y:=0) (d:=1) Oz (λ f hf=>?_);have h0:0<f.c:=by
   rcases List.mem_append.1 hf with h1|h1
   ·exact boxR_pos hx hy (List.mem_append.2 (.inl h1))
   ·rcases List.mem_append.1 h1 with h2|h2
    ·exact boxR_pos hx hy (boxR_mem hx hy h2)
    ·simp only [List.mem_singleton] at h2;subst h2;simp only;omega
  omega
 refine ⟨hk,hm,regionOk_meetR hk, ?_⟩;unfold cutR X3;rw [if_pos hm];exact hn
structure DrawN (q a b c bx by_ lo hi:Int):Prop where
 q:2<=q/\q<=10
 a:0<=a/\a<=1
 b:0<=b/\b<=1
 c:0<=c/\c<=1
 bx:1<=bx/\bx<=3
 by_ : -1<=by_/\by_<=2
 lo : -14<=lo/\lo<=-3
 hi:3<=hi/\hi<=14
theorem draw_mk {q a b c bx by_ lo hi:Int} (D:DrawN q a b c bx by_ lo hi) {N L:List Half} (n1:Xc N=true) (n2:N≠[]) (l1:Xc L=true) (l2:L≠[]):DrawR ⟨[q-1+a,b,-c,q-1],q,bx,by_,lo,hi,N,L⟩:=by
 have hq:=D.q;have ha:=D.a;have hb:=D.b;have hc:=D.c;have h1:=D.bx;have h2:=D.by_;have h3:=D.lo;have h4:=D.hi;have hd:det [q-1+a,b,-c,q-1]≠0:=by
  show (q-1+a)*(q-1)-b * -c≠0;have m1:1*1<=(q-1+a)*(q-1):=Int.mul_le_mul Oz Oz Oz Oz;have m2:0<=b*c:=Int.mul_nonneg hb.1 hc.1;have m3:b * -c = -(b*c):=Int.mul_neg _ _;omega
 refine ⟨?_,h1,h2,h3,h4⟩;unfold XJ turnOk mapOk;simp only [Bool.and_eq_true,List.all_eq_true,List.mem_cons,List.not_mem_nil,or_false,forall_eq_or_imp,forall_eq,Y3,bne_iff_ne,Bool.not_eq_true',decide_eq_false_iff_not,decide_eq_true_eq,List.length_cons,List.length_nil];refine ⟨⟨⟨⟨⟨⟨⟨⟨⟨⟨trivial,Oz⟩,Oz,Oz,Oz,Oz⟩,hd⟩,Oz⟩,Oz⟩,Oz,Oz⟩,λ e=>n2 (List.length_eq_zero_iff.1 e)⟩,λ e=>l2 (List.length_eq_zero_iff.1 e)⟩,n1⟩,l1⟩
theorem boxHs_rf {x y:Int} (hx:1<=x/\x<=100) (hy:1<=y/\y<=100):rfOk (ZY x y)=true/\rfR (ZY x y)=JH x y:=by
 have h1:(ZY x y).all Xs=true:=List.all_eq_true.2 (boxHs_ok hx hy);have h2:rfOk (ZY x y)=true:=by
  unfold rfOk;rw [h1,(box_meet x y).1];rfl
 refine ⟨h2, ?_⟩;unfold rfR;rw [if_pos h2];rfl
set_option maxRecDepth 100000 in
set_option maxHeartbeats 4000000 in
theorem sBox_c (x y:Int) (w:World) (hx:1<=x/\x<=100) (hy:1<=y/\y<=100) :
 Calls Tryz.prog 86 #[.int .i64 (-x),.int .i64 (-y),.int .i64 x,.int .i64 y] w λ e w'=>∃ v,e=.returned (.tuple #[.agg #[v],.bool true])/\XG 136 3 Xe w' w.heap.size v (JH x y)/\Below w.heap.size w w':=by
 have hok:=boxHs_ok hx hy;have hrf:=boxHs_rf hx hy;have H0:Xq (w.alloc (.cells #[.slice none 0 0] 26)) w.heap.size 26 [.slice none 0 0]:=Xq.new w [.slice none 0 0] 26;have b0:Below w.heap.size w (w.alloc (.cells #[.slice none 0 0] 26)):=Xb bR _;have z0:w.heap.size<(w.alloc (.cells #[.slice none 0 0] 26)).heap.size:=Sz
 generalize hW:w.alloc (.cells #[.slice none 0 0] 26)=W at *;have hW':=Lib.hid hW;clear hW;have SB:Sl 3 Xe (W.alloc (.cells #[.int .i64 1,.int .i64 0,.int .i64 x,.int .i64 0,.int .i64 1,.int .i64 y,.int .i64 (-1),.int .i64 0,.int .i64 x,.int .i64 0,.int .i64 (-1),.int .i64 y] 136)) (some ⟨W.heap.size,0,none⟩) (ZY x y):=sl_new_at Xx W (ZY x y) #[.int .i64 1,.int .i64 0,.int .i64 x,.int .i64 0,.int .i64 1,.int .i64 y,.int .i64 (-1),.int .i64 0,.int .i64 x,.int .i64 0,.int .i64 (-1),.int .i64 y] rfl rfl;have b1:=Xb b0 (.cells #[.int .i64 1,.int .i64 0,.int .i64 x,.int .i64 0,.int .i64 1,.int .i64 y,.int .i64 (-1),.int .i64 0,.int .i64 x,.int .i64 0,.int .i64 (-1),.int .i64 y] 136);have R1:=H0.alloc (.cells #[.int .i64 1,.int .i64 0,.int .i64 x,.int .i64 0,.int .i64 1,.int .i64 y,.int .i64 (-1),.int .i64 0,.int .i64 x,.int .i64 0,.int .i64 (-1),.int .i64 y] 136);have k1:=sMake_c (some ⟨W.heap.size,0,none⟩) (ZY x y) 4 _ (by simp [ZY]) hok SB (λ e=>by cases e);change Calls _ _ _ _ λ e w'=>∃ v,e=.returned (.agg #[v])/\XG _ 3 Xe w' _ v (JH x y)/\_ at k1
 have e1:=Jj (-x) (-1000) 1000 true (Y3.2 ⟨by omega,by omega⟩);have e2:=Jj x (-x+1) 1000 true (Y3.2 ⟨by omega,by omega⟩);have e3:=Jj (-y) (-1000) 1000 true (Y3.2 ⟨by omega,by omega⟩);have e4:=Jj y (-y+1) 1000 true (Y3.2 ⟨by omega,by omega⟩);clear hok hrf;go_enter Tryz.func86,Tryz.ntmps86
 go_upto_region 1 with fail
 rw [hW'.out];clear hW';go_wp2_with (fail)
 refine (e1 _).mono ?_;rintro e w' ⟨rfl,rfl⟩;go_wp2_with (fail)
 refine (e2 _).mono ?_;rintro e w' ⟨rfl,rfl⟩;go_wp2_with (fail)
 refine (e3 _).mono ?_;rintro e w' ⟨rfl,rfl⟩;go_wp2_with (fail)
 refine (e4 _).mono ?_;rintro e w' ⟨rfl,rfl⟩;go_wp2_with (fail)
 refine k1.mono ?_;rintro e w3 ⟨v,rfl,N3,hb3⟩;obtain ⟨Av,cv,rfl,o3⟩:=N3;have N3:XG 136 3 Xe w3 (W.alloc (.cells #[.int .i64 1,.int .i64 0,.int .i64 x,.int .i64 0,.int .i64 1,.int .i64 y,.int .i64 (-1),.int .i64 0,.int .i64 x,.int .i64 0,.int .i64 (-1),.int .i64 y] 136)).heap.size (.slice Av (JH x y).length cv) (JH x y):=⟨Av,cv,rfl,o3⟩;have R3:=(R1.below hb3).has;have b3:=Xf b1 hb3;have z3:w.heap.size<w3.heap.size:=R3.1;clear o3 k1 R1 b1 hb3 H0 SB;obtain ⟨cR3_0,fR3_0⟩:=R3.2 0 _ rfl;go_wp2
 refine bodyPost_ret (v:=.tuple #[.agg #[.slice Av (JH x y).length cv],.bool true]) (by simp [results,Tryz.results86,go_sem, *]) rfl ⟨.slice Av (JH x y).length cv,rfl, ?_,YY b3 (by simp only;omega) _⟩;exact (N3.lowC (q:=⟨w.heap.size,0,none⟩) (by simp only [World.size_alloc];omega) [.slice Av (JH x y).length cv]).mono (base':=w.heap.size) (by simp only [World.size_alloc];omega)
end Go.Proofs.YtbekjpkcicjcgaaGreat
