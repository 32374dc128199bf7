/-
 The inputs that are admitted at a state: of the reference.
 Conditions: the slices hold at most 2^20 elements.
-/
import Derived.Test.YtabfdkpdppemaaaGreatGrXg
import Derived.Test.YtabfdkpdppemaaaGreatPul
set_option maxHeartbeats 3000000
set_option maxRecDepth 100000
namespace Go.Proofs.YtabfdkpdppemaaaGreat
open Go.RowKit
theorem Jw (x:Option YY):JJ x=.tuple #[Zk (x.getD Xp),.bool x.isSome]:=by cases x<;>rfl
theorem spotIn {s:XJ} (h:Xt s=true):s.In:=by
 obtain ⟨h1,h2,h3,_⟩:=Z3.1 h;exact ⟨⟨by omega,by omega⟩,⟨by omega,by omega⟩,⟨by omega,by omega⟩⟩
theorem span0_In:Xp.In:=by
 have h:Zg 0:=⟨by decide,by decide⟩;exact ⟨⟨h,h⟩,⟨h,h⟩⟩
theorem optIn {x:Option YY} (h:∀ v,x=some v->XO v=true):(x.getD Xp).In:=by
 cases x with
 | none=>exact span0_In
 | some v=>exact span_In (h v rfl)
theorem admAt_ok {r:Xv} {p:List Half} {s:XJ} {v:YY} (h:XG r p s=some v):XO v=true:=by
 unfold XG at h;split at h
 ·exact JE h
 ·cases h
def XY (r:Ya):Int:=if Xm r=true then r.n / r.d else 0
def X8 (r:Ya):Int:=if Xm r=true then -(-r.n / r.d) else 0
theorem rok_bd {r:Ya} (h:Xm r=true) : -9223372036854775807<=r.n/\r.n<=9223372036854775807/\0<r.d/\r.d<=9223372036854775807:=by
 obtain ⟨⟨a,b⟩,⟨c,d⟩,_⟩:=KI.1 h;exact ⟨by omega,by omega,by omega,by omega⟩
theorem div_bd {n d:Int} (h1 : -9223372036854775807<=n) (h2:n<=9223372036854775807) (hd:0<d) : -9223372036854775807<=n / d/\n / d<=9223372036854775807:=floor_le hd 9223372036854775807 (by omega) (by omega) (by omega)
theorem floor_bd {r:Ya} (h:Xm r=true) : -1000000000000000000<=XY r/\XY r<=1000000000000000000:=by
 obtain ⟨⟨a,b⟩,⟨c,d⟩,_⟩:=KI.1 h;unfold XY;rw [if_pos h];exact floor_le (by omega) 1000000000000000000 (by omega) (by omega) (by omega)
theorem ceil_bd {r:Ya} (h:Xm r=true) : -1000000000000000000<=X8 r/\X8 r<=1000000000000000000:=by
 obtain ⟨⟨a,b⟩,⟨c,d⟩,_⟩:=KI.1 h;unfold X8;rw [if_pos h];have:=floor_le (n:=-r.n) (d:=r.d) (by omega) 1000000000000000000 (by omega) (by omega) (by omega);omega
theorem cmp_def {r s:Ya} (hr:Xm r=true) (hs:Xm s=true):XM r s=sgn (r.n*s.d-s.n*r.d):=by
 unfold XM;rw [if_pos ⟨hr,hs⟩];rfl
def clampW (wish:Int):Int:=max (-1000) (min 1000 wish)
def pick (v:YY) (wish:Int):Ya :=
 if XO v=true then
  (if XM ⟨clampW wish,1⟩ v.low<0 then (if XM ⟨X8 v.low,1⟩ v.high<=0 then ⟨X8 v.low,1⟩ else v.low)
  else if XM ⟨clampW wish,1⟩ v.high > 0 then (if XM ⟨XY v.high,1⟩ v.low ≥ 0 then ⟨XY v.high,1⟩ else v.high)
  else ⟨clampW wish,1⟩)
 else KB
section
variable {v:YY} {wish:Int} (h:XO v=true)
include h
end
def blkL (A:Option Addr):List Nat:=match A with|some p=>[p.block]|none=>[]
theorem Yw {A:Option Addr} {g:Nat} (h:∀ p,A=some p->p.block≠g):g ∉ blkL A:=by
 cases A with
 | none=>simp [blkL]
 | some p=>simp only [blkL,List.mem_singleton];exact λ e=>h p rfl e.symm
theorem J4 {A:Option Addr} {m:Nat} (h:m∈blkL A):∃ p,A=some p/\p.block=m:=by
 cases A with
 | none=>simp [blkL] at h
 | some p=>simp only [blkL,List.mem_singleton] at h;exact ⟨p,rfl,h.symm⟩
theorem Kp.grown {w w':World} {A:Option Addr} {n c:Nat} (hg:w.grownBy w' (Value.slice A n c).ownBlock):Kp (blkL A) w w':=by
 refine ⟨⟨hg.os,hg.tape,hg.output,hg.size,λ k hk=>absurd hk (Nat.not_lt_zero _)⟩,λ g hlt hm=>hg.block g hlt ?_⟩;cases A with
 | none=>intro e;cases e
 | some p =>
  intro e;injection e with e
  exact hm (by rw [e];simp [blkL])
theorem Kp.trans2 {M M':List Nat} {a w w':World} (h:Kp M a w) (k:Kp M' w w') (hm:∀ m∈M',m∈M∨a.heap.size<=m):Kp M a w' :=
 ⟨h.base.trans k.base,λ g hg hn=>(k.block g (Nat.lt_of_lt_of_le hg h.size) (λ q=>by rcases hm g q with r|r;exact hn r;omega)).trans (h.block g hg hn)⟩
theorem XH.nilN {α:Type} (T sz:Nat) (enc:α->List Value) (w:World) (base:Nat):XH T sz enc w base (.slice none ([]:List α).length 0) ([]:List α):=⟨none,0,rfl,World.ownsRow_nil _ _ _ _⟩
theorem one_slT {α:Type} {sz:Nat} {enc:α->List Value} {w:World} {g T:Nat} {y:α} (h:Xn w g T (enc y)):Sl sz enc w (some ⟨g,0,none⟩) [y]:=by
 intro _;refine ⟨g,0,rfl,h.lt,λ i hi j u hu=>?_⟩;obtain rfl:i=0:=by simp at hi;omega
 simp only [List.getElem_cons_zero] at hu;rw [show (0+0*sz+j)=j by omega,h.cell j];exact hu
theorem wp_app1 {α:Type} {T sz:Nat} {enc:α->List Value} (Ye:∀ x,(enc x).length=sz) {P:Program} {o:Oper} {a:Act} {w:World} {N:Act->World->Prop} {Q:Exit->Act->World->Prop} {s x:Operand} {t:TypeId}
 (ho:o.op=.call { callee:=.builtin .append,args:=#[s,x],argTypes:=#[t,t] })
 (base:Nat) (i:TypeInfo) (z:Value) (bytes:Nat) (ht:P.underlying t=some (.slice T)) (hi:P.info? T=some i) (hz:i.zero=some z)
 (hsize:i.size=sz) (hby:i.bytes=bytes) (hzs:z.cells.size=sz) (hpos:0<sz)
 {A:Option Addr} {n c:Nat} {xs:List α} (hs:a.eval s=.slice A n c) (hown:XH T sz enc w base (.slice A n c) xs) {g T':Nat} (hx:a.eval x=.slice (some ⟨g,0,none⟩) 1 1) {y:α} (hy:Xn w g T' (enc y)) (h1:∀ y,∀ u∈enc y,u.oneCell'=true)
 (hbase:base<=w.heap.size) (hn:xs.length<=1000000000) (hbytes:bytes<=128)
 (hN:∀ A' c' w',XH T sz enc w' base (.slice A' (xs++[y]).length c') (xs++[y])->Kp (blkL A) w w'->N (a.put o.dst (.slice A' (xs++[y]).length c')) w'):o.wp P a w N Q:=by
 refine step_appO Ye s x t ho base i z bytes ht hi hz hsize hby hzs hpos hs hown (some ⟨g,0,none⟩) 1 (ys:=[y]) hx (one_slT hy) (λ e=>by cases e) h1 hbase (by simp only [List.length_singleton];omega) hbytes ?_;rintro v' w' ⟨A',c',rfl,h2⟩ _ hG;exact hN A' c' w' ⟨A',c',rfl,h2⟩ (Kp.grown hG)
theorem movL_next {f:Half->Option Half} {p:List Half} {k:Nat} (h:k<p.length) (hs:(f (p.getD k Xd)).isSome=true):KQ f (p.take (k+1))=KQ f (p.take k)++[(f (p.getD k Xd)).getD Xd]:=by
 have e:p.getD k Xd=p[k]:=by rw [List.getD_eq_getElem?_getD,List.getElem?_eq_getElem h,Option.getD_some]
 rw [e] at hs ⊢;obtain ⟨g,hg⟩:=Option.isSome_iff_exists.1 hs;rw [movL_take h hg,hg];rfl
theorem movAll_next {f:Half->Option Half} {p:List Half} {k:Nat} (h:k<p.length) (h1:ZF f (p.take k)=true) (hs:(f (p.getD k Xd)).isSome=true):ZF f (p.take (k+1))=true:=by
 have e:p.getD k Xd=p[k]:=by rw [List.getD_eq_getElem?_getD,List.getElem?_eq_getElem h,Option.getD_some]
 rw [e] at hs;obtain ⟨g,hg⟩:=Option.isSome_iff_exists.1 hs;exact movAll_take h h1 hg
theorem getD_halfOk {p:List Half} {k:Nat} (h:k<p.length) (hp:Xe p=true):Xy (p.getD k Xd)=true:=by
 have e:p.getD k Xd=p[k]:=by rw [List.getD_eq_getElem?_getD,List.getElem?_eq_getElem h,Option.getD_some]
 rw [e];exact Zo hp _ (List.getElem_mem h)
theorem X3.otherT {w:World} {base g T:Nat} {x:List Half} {a:Ks} {vs:List Value} (h:X3 w base x a) (hg:Xn w g T vs) (h0:174≠T) (us:List Value) (o:Nat):X3 (w.setCells g o us) base x a:=⟨h.halves.otherC (h.halves.typ hg h0) us o⟩
theorem Yr.otherT {w:World} {base g T:Nat} {x:Xv} {a:YO} {vs:List Value} (h:Yr w base x a) (hg:Xn w g T vs) (h0:3≠T) (h1:174≠T) (us:List Value) (o:Nat):Yr (w.setCells g o us) base x a:=⟨h.map.otherC (h.map.typ hg h0) us o,h.noise.otherT hg h1 us o,h.limits.otherT hg h1 us o,h.apart⟩
theorem YF.otherT {w:World} {base g T:Nat} {x:J7} {a:WatchA} {vs:List Value} (h:YF w base x a) (hg:Xn w g T vs) (h0:3≠T) (h1:174≠T) (us:List Value) (o:Nat):YF (w.setCells g o us) base x a:=⟨h.room.otherT hg h0 h1 us o,h.reg.otherT hg h1 us o,h.log.otherC (h.log.typ hg h0) us o,h.apart⟩
theorem Kh.otherT {w:World} {base g T:Nat} {x:Track} {a:TrackA} {vs:List Value} (h:Kh w base x a) (hg:Xn w g T vs) (h0:30≠T) (h1:36≠T) (us:List Value) (o:Nat):Kh (w.setCells g o us) base x a:=⟨h.spots.otherC (h.spots.typ hg h0) us o,h.inputs.otherC (h.inputs.typ hg h1) us o,h.apart⟩
theorem Jp.otherT {w:World} {base g T:Nat} {x:Law} {a:LawA} {vs:List Value} (h:Jp w base x a) (hg:Xn w g T vs) (h0:109≠T) (us:List Value) (o:Nat):Jp (w.setCells g o us) base x a:=⟨h.lows.otherC (h.lows.typ hg h0) us o,h.highs.otherC (h.highs.typ hg h0) us o,h.apart⟩
structure LawMk (w:World) (x:Law) (a:LawA) (K:Int):Prop where
 lows:Sl 4 pieceC w a.lows.A (markPieces K x.lows.length)
 highs:Sl 4 pieceC w a.highs.A (markPieces (K+x.lows.length*4) x.highs.length)
theorem LawMk.below {w w':World} {x:Law} {a:LawA} {K:Int} (h:LawMk w x a K) (hb:Below w.heap.size w w'):LawMk w' x a K:=⟨h.lows.below hb,h.highs.below hb⟩
def blkLs (L:List Ks):List Nat:=L.flatMap λ a=>blkL a.A
theorem blkLs_in {L:List Ks} {m:Nat} (h:m∈blkLs L):∃ a∈L,∃ p,a.A=some p/\p.block=m:=by
 obtain ⟨a,ha,hm⟩:=List.mem_flatMap.1 h;obtain ⟨p,hp,e⟩:=J4 hm;exact ⟨a,ha,p,hp,e⟩
theorem blkLs_mem {L:List Ks} {a:Ks} {p:Addr} (ha:a∈L) (hp:a.A=some p):p.block∈blkLs L :=
 List.mem_flatMap.2 ⟨a,ha,by rw [hp];simp [blkL]⟩
theorem blkLs_nin {L:List Ks} {g:Nat} (h:∀ a∈L,∀ p,a.A=some p->p.block≠g):g ∉ blkLs L:=by
 intro hm;obtain ⟨a,ha,p,hp,e⟩:=blkLs_in hm;exact h a ha p hp e
theorem KA.kp {L:List Ks} {w w':World} (h:KA w w' L):Kp (blkLs L) w w' :=
 ⟨⟨h.os,h.tape,h.output,h.size,λ k hk=>absurd hk (Nat.not_lt_zero _)⟩,λ g hg hm=>h.block g hg (λ a ha p hp e=>hm (by rw [<- e];exact blkLs_mem ha hp))⟩
theorem Kp.only {L:List Ks} {w w':World} (h:Kp (blkLs L) w w'):KA w w' L :=
 ⟨h.base.os,h.base.tape,h.base.output,h.base.size,λ k hk hn=>h.block k hk (blkLs_nin hn)⟩
theorem ceilDiv_c (n d:Int) (w:World) (h1 : -9223372036854775807<=n) (h2:n<=9223372036854775807) (hd:0<d) (hd2:d<=9223372036854775807) :
 Calls Tryz.prog 201 #[.int .i64 n,.int .i64 d] w λ x w'=>x=.returned (.int .i64 (-(-n / d)))/\Below w.heap.size w w':=by
 have hdv:=div_bd (n:=-n) (d:=d) (by omega) (by omega) hd;refine Yp Tryz.func201 rfl (n:=10) Tryz.ntmps201 (by simp) ?_;intro a0 M A ha;have s0:a0.tmps[0]?.getD undef=.int .i64 n:=ha 0 _ rfl;have s1:a0.tmps[1]?.getD undef=.int .i64 d:=ha 1 _ rfl;clear ha;have K:=Below.refl w.heap.size w;have O:=Nat.le_refl w.heap.size;refine wp_seq ?_;refine Xj [4] [some (.int .i64 0)] (X1 1) [4] [] (λ _ _ _=>True) ?_ (en rfl ?_ .nil) ?_
 ·exact λ _ _=>trivial
 ·exact oACT rfl rfl
 intro L a1 w2 R B D I S;replace M:=B.Z M;replace A:=B.E A;replace s0:=B.G s0;replace s1:=B.G s1;replace O:=Nat.le_trans O D.size;replace K:=D.below0 K;clear B D I R S;refine Xi (wp_seq ?_);refine Xj [5,6,7,8,9,4] [some (.int .i64 n),some (.int .i64 (-n)),some (.int .i64 d),some (.int .i64 ((-n) / d)),some (.int .i64 (-((-n) / d))),some (.int .i64 (-((-n) / d)))] (X1 6) [5,6,7,8,9,4] [] (λ _ _ _=>True) ?_ (e4 ?_ ?_ ?_ ?_ (e2 ?_ ?_ .nil)) ?_
 ·exact λ _ _=>trivial
 ·exact Zq s0 rfl rfl rfl
 ·exact λ P F J H _ _ C=>JO rfl (ev (H.d 0 rfl rfl)) (by omega) (C _ _ H.k rfl trivial)
 ·exact Zq s1 rfl rfl rfl
 ·intro P F J H _ _ C;simp [go_sem,(gS F 6 (H.d 1 rfl rfl)),(gS F 7 (H.d 2 rfl rfl))];refine (floorDiv_c (-n) d J (by omega) (by omega) hd hd2).mono ?_;rintro x wx ⟨rfl,n,rfl⟩;have hb:Below J.heap.size J (J.drewN n):=ZJ bR n;exact (C _ _ (H.k.call hb) rfl trivial)
 ·exact λ P F J H _ _ C=>JO rfl (ev (H.d 3 rfl rfl)) (by omega) (C _ _ H.k rfl trivial)
 ·exact K6 4 rfl rfl rfl rfl
 intro L a3 w4 R B D I S;replace M:=B.Z M;replace A:=B.E A;have s4:=gS a3 4 (I 5 _ rfl);replace O:=Nat.le_trans O D.size;replace K:=D.below0 K;clear B D I R S s0 s1;refine Xi (wp_ret ?_);refine bodyPost_ret (v:=.int .i64 (-((-n) / d))) (by simp [results,Tryz.results201,go_sem,s4]) A ?_;exact ⟨rfl,K⟩
theorem iRatFloor_c (r:Ya) (w:World) (hr:r.In) :
 Calls Tryz.prog 123 #[Yc r] w λ x w'=>x=.returned (.int .i64 (XY r))/\Below w.heap.size w w':=by
 refine Yp Tryz.func123 rfl (n:=11) Tryz.ntmps123 (by simp) ?_;intro a0 M A ha;have s0:a0.tmps[0]?.getD undef=Yc r:=ha 0 _ rfl;clear ha;have K:=Below.refl w.heap.size w;have O:=Nat.le_refl w.heap.size;refine wp_seq ?_;refine Yf [1,2] [.pointer (some ⟨w.heap.size,0,none⟩),.int .i64 0] [some (.cells [.int .i64 r.n,.int .i64 r.d].toArray 36),none] [0,1] [1,2] [0,1] (by kernel_rfl) (by rw [M];decide) (ec ?_ (ec ?_ .nil)) ?_
 ·intro a w' B hs N Q C;simp [go_sem,B.g rfl s0];rw [hs];exact C
 ·intro a w' B hs N Q C;simp [go_sem];exact C
 intro a1 w2 B I hb hO;replace M:=B.size.trans M;replace A:=B.defers.trans A;have s1:a1.tmps[1]?.getD undef=.pointer (some ⟨w.heap.size,0,none⟩):=I 0 (by decide);have b3:Xn w2 w.heap.size 36 [.int .i64 r.n,.int .i64 r.d]:=hO 0 _ rfl;have hG:=b3.lt;replace K:=Xh K hb;have zw2:=Nat.le_trans O hb.size;replace O:=Nat.le_refl w2.heap.size;clear B I hb hO s0;refine Xi (wp_seq (wp_seq ?_));refine Xj [3,4,5] [some (Yc r),some (.bool (Xm r)),some (.bool (!(Xm r)))] (X1 3) [3,4,5] [] (λ _ _ _=>True) ?_ (e2 ?_ ?_ (en rfl ?_ .nil)) ?_
 ·exact λ _ _=>trivial
 ·intro P F J H _ _ C;simp [go_sem,H.f.g rfl s1,(b3.k0 H.k).cell];exact (C _ _ H.k rfl trivial)
 ·intro P F J H _ _ C;simp [go_sem,(gS F 3 (H.d 0 rfl rfl))];refine (Kl r J hr).mono ?_;rintro x wx ⟨rfl,hb⟩;exact (C _ _ (H.k.call hb) rfl trivial)
 ·exact KY 1 rfl rfl rfl rfl
 intro L a4 w5 R B D I S;replace M:=B.Z M;replace A:=B.E A;replace s1:=B.G s1;have s5:=gS a4 5 (I 2 _ rfl);replace b3:=b3.k0 D;replace O:=Nat.le_trans O D.size;replace K:=D.below0 K;clear B D I R S;refine Xi ?_;rcases Bool.eq_false_or_eq_true (!(Xm r)) with q6|q6
 ·refine wp_cond_true (ev (vb s5 q6)) ?_;refine wp_seq ?_;refine Xj [2] [some (.int .i64 0)] (X1 1) [2] [] (λ _ _ _=>True) ?_ (en rfl ?_ .nil) ?_
  ·exact λ _ _=>trivial
  ·exact oACT rfl rfl
  intro L a7 w8 R B D I S;replace M:=B.Z M;replace A:=B.E A;have s2:=gS a7 2 (I 0 _ rfl);replace O:=Nat.le_trans O D.size;replace K:=D.below0 K;clear B D I R S s1 s5 b3;refine Xi (wp_ret (Zh ?_));refine bodyPost_ret (v:=.int .i64 0) (by simp [results,Tryz.results123,go_sem,s2]) A ?_;exact ⟨by rw [show XY r=0 by unfold XY;rw [Jf q6,if_neg (by simp)]],K⟩
 ·obtain ⟨k1,k2,k3,k4⟩:=rok_bd (Yt q6);refine wp_cond_false (ev (vb s5 q6)) ?_;refine wp_skip (Xi (wp_seq ?_));refine Xj [6,7,8,9,10,2] [some (.pointer (some ⟨w.heap.size,0,none⟩)),some (.int .i64 r.n),some (.pointer (some ⟨w.heap.size,1,none⟩)),some (.int .i64 r.d),some (.int .i64 (r.n / r.d)),some (.int .i64 (r.n / r.d))] (X1 6) [6,7,8,9,10,2] [] (λ _ _ _=>True) ?_ (e4 ?_ ?_ ?_ ?_ (e2 ?_ ?_ .nil)) ?_
  ·exact λ _ _=>trivial
  ·intro P F J H _ _ C;simp [go_sem,H.f.g rfl s1];exact (C _ _ H.k rfl trivial)
  ·intro P F J H _ _ C;simp [go_sem,(gS F 6 (H.d 0 rfl rfl)),(b3.k0 H.k).cell];exact (C _ _ H.k rfl trivial)
  ·intro P F J H _ _ C;simp [go_sem,H.f.g rfl s1];exact (C _ _ H.k rfl trivial)
  ·intro P F J H _ _ C;simp [go_sem,(gS F 8 (H.d 2 rfl rfl)),(b3.k0 H.k).cell];exact (C _ _ H.k rfl trivial)
  ·intro P F J H _ _ C;simp [go_sem,(gS F 7 (H.d 1 rfl rfl)),(gS F 9 (H.d 3 rfl rfl))];refine (floorDiv_c r.n r.d J k1 k2 k3 k4).mono ?_;rintro x wx ⟨rfl,n,rfl⟩;have hb:Below J.heap.size J (J.drewN n):=ZJ bR n;exact (C _ _ (H.k.call hb) rfl trivial)
  ·exact K6 4 rfl rfl rfl rfl
  intro L a9 w10 R B D I S;replace M:=B.Z M;replace A:=B.E A;have s2:=gS a9 2 (I 5 _ rfl);replace O:=Nat.le_trans O D.size;replace K:=D.below0 K;clear B D I R S s1 s5 b3;refine Xi (wp_ret ?_);refine bodyPost_ret (v:=.int .i64 (r.n / r.d)) (by simp [results,Tryz.results123,go_sem,s2]) A ?_;exact ⟨by rw [show XY r=r.n / r.d by unfold XY;rw [Yt q6,if_pos (by simp)]],K⟩
theorem iRatCeil_c (r:Ya) (w:World) (hr:r.In) :
 Calls Tryz.prog 122 #[Yc r] w λ x w'=>x=.returned (.int .i64 (X8 r))/\Below w.heap.size w w':=by
 refine Yp Tryz.func122 rfl (n:=11) Tryz.ntmps122 (by simp) ?_;intro a0 M A ha;have s0:a0.tmps[0]?.getD undef=Yc r:=ha 0 _ rfl;clear ha;have K:=Below.refl w.heap.size w;have O:=Nat.le_refl w.heap.size;refine wp_seq ?_;refine Yf [1,2] [.pointer (some ⟨w.heap.size,0,none⟩),.int .i64 0] [some (.cells [.int .i64 r.n,.int .i64 r.d].toArray 36),none] [0,1] [1,2] [0,1] (by kernel_rfl) (by rw [M];decide) (ec ?_ (ec ?_ .nil)) ?_
 ·intro a w' B hs N Q C;simp [go_sem,B.g rfl s0];rw [hs];exact C
 ·intro a w' B hs N Q C;simp [go_sem];exact C
 intro a1 w2 B I hb hO;replace M:=B.size.trans M;replace A:=B.defers.trans A;have s1:a1.tmps[1]?.getD undef=.pointer (some ⟨w.heap.size,0,none⟩):=I 0 (by decide);have b3:Xn w2 w.heap.size 36 [.int .i64 r.n,.int .i64 r.d]:=hO 0 _ rfl;have hG:=b3.lt;replace K:=Xh K hb;have zw2:=Nat.le_trans O hb.size;replace O:=Nat.le_refl w2.heap.size;clear B I hb hO s0;refine Xi (wp_seq (wp_seq ?_));refine Xj [3,4,5] [some (Yc r),some (.bool (Xm r)),some (.bool (!(Xm r)))] (X1 3) [3,4,5] [] (λ _ _ _=>True) ?_ (e2 ?_ ?_ (en rfl ?_ .nil)) ?_
 ·exact λ _ _=>trivial
 ·intro P F J H _ _ C;simp [go_sem,H.f.g rfl s1,(b3.k0 H.k).cell];exact (C _ _ H.k rfl trivial)
 ·intro P F J H _ _ C;simp [go_sem,(gS F 3 (H.d 0 rfl rfl))];refine (Kl r J hr).mono ?_;rintro x wx ⟨rfl,hb⟩;exact (C _ _ (H.k.call hb) rfl trivial)
 ·exact KY 1 rfl rfl rfl rfl
 intro L a4 w5 R B D I S;replace M:=B.Z M;replace A:=B.E A;replace s1:=B.G s1;have s5:=gS a4 5 (I 2 _ rfl);replace b3:=b3.k0 D;replace O:=Nat.le_trans O D.size;replace K:=D.below0 K;clear B D I R S;refine Xi ?_;rcases Bool.eq_false_or_eq_true (!(Xm r)) with q6|q6
 ·refine wp_cond_true (ev (vb s5 q6)) ?_;refine wp_seq ?_;refine Xj [2] [some (.int .i64 0)] (X1 1) [2] [] (λ _ _ _=>True) ?_ (en rfl ?_ .nil) ?_
  ·exact λ _ _=>trivial
  ·exact oACT rfl rfl
  intro L a7 w8 R B D I S;replace M:=B.Z M;replace A:=B.E A;have s2:=gS a7 2 (I 0 _ rfl);replace O:=Nat.le_trans O D.size;replace K:=D.below0 K;clear B D I R S s1 s5 b3;refine Xi (wp_ret (Zh ?_));refine bodyPost_ret (v:=.int .i64 0) (by simp [results,Tryz.results122,go_sem,s2]) A ?_;exact ⟨by rw [show X8 r=0 by unfold X8;rw [Jf q6,if_neg (by simp)]],K⟩
 ·obtain ⟨k1,k2,k3,k4⟩:=rok_bd (Yt q6);have hdv:=div_bd (n:=-r.n) (d:=r.d) (by omega) (by omega) k3;refine wp_cond_false (ev (vb s5 q6)) ?_;refine wp_skip (Xi (wp_seq ?_));refine Xj [6,7,8,9,10,2] [some (.pointer (some ⟨w.heap.size,0,none⟩)),some (.int .i64 r.n),some (.pointer (some ⟨w.heap.size,1,none⟩)),some (.int .i64 r.d),some (.int .i64 (-(-r.n / r.d))),some (.int .i64 (-(-r.n / r.d)))] (X1 6) [6,7,8,9,10,2] [] (λ _ _ _=>True) ?_ (e4 ?_ ?_ ?_ ?_ (e2 ?_ ?_ .nil)) ?_
  ·exact λ _ _=>trivial
  ·intro P F J H _ _ C;simp [go_sem,H.f.g rfl s1];exact (C _ _ H.k rfl trivial)
  ·intro P F J H _ _ C;simp [go_sem,(gS F 6 (H.d 0 rfl rfl)),(b3.k0 H.k).cell];exact (C _ _ H.k rfl trivial)
  ·intro P F J H _ _ C;simp [go_sem,H.f.g rfl s1];exact (C _ _ H.k rfl trivial)
  ·intro P F J H _ _ C;simp [go_sem,(gS F 8 (H.d 2 rfl rfl)),(b3.k0 H.k).cell];exact (C _ _ H.k rfl trivial)
  ·intro P F J H _ _ C;simp [go_sem,(gS F 7 (H.d 1 rfl rfl)),(gS F 9 (H.d 3 rfl rfl))];refine (ceilDiv_c r.n r.d J k1 k2 k3 k4).mono ?_;rintro x wx ⟨rfl,hb⟩;exact (C _ _ (H.k.call hb) rfl trivial)
  ·exact K6 4 rfl rfl rfl rfl
  intro L a9 w10 R B D I S;replace M:=B.Z M;replace A:=B.E A;have s2:=gS a9 2 (I 5 _ rfl);replace O:=Nat.le_trans O D.size;replace K:=D.below0 K;clear B D I R S s1 s5 b3;refine Xi (wp_ret ?_);refine bodyPost_ret (v:=.int .i64 (-(-r.n / r.d))) (by simp [results,Tryz.results122,go_sem,s2]) A ?_;exact ⟨by rw [show X8 r = -(-r.n / r.d) by unfold X8;rw [Yt q6,if_pos (by simp)]],K⟩
end Go.Proofs.YtabfdkpdppemaaaGreat
