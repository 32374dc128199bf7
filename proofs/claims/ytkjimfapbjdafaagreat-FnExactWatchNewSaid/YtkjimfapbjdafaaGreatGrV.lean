/-
 The inputs that a region admits. No program is named here.
 Conditions: none.
-/
import Derived.Test.YtkjimfapbjdafaaGreatGrXc
import Derived.Test.YtkjimfapbjdafaaGreatGrQ
set_option maxHeartbeats 8000000
set_option maxRecDepth 100000
namespace Go.Proofs.YtkjimfapbjdafaaGreat
open Go.RowKit
def Ku (r:X3) (h:Half):Int:=h.a*r.bx+h.b*r.by_
def mapX (r:X3) (s:Ya):Int:=r.map.getD 0 0*s.x+r.map.getD 1 0*s.y
def mapY (r:X3) (s:Ya):Int:=r.map.getD 2 0*s.x+r.map.getD 3 0*s.y
def YU (r:X3) (s:Ya):Int:=r.div*s.d
def topA (r:X3) (s:Ya) (h:Half):Int:=h.c*YU r s-h.a*mapX r s-h.b*mapY r s
def admStep (r:X3) (s:Ya) (w:ZP) (h:Half):Option ZP :=
 if 0<Ku r h then some ⟨w.low,Yw w.high (Yh (topA r s h) (YU r s*Ku r h))⟩
 else if Ku r h<0 then some ⟨Yp w.low (Yh (-(topA r s h)) (-(YU r s)*Ku r h)),w.high⟩
 else if topA r s h<0 then none else some w
def admL (r:X3) (s:Ya) (l:List Half):Option ZP:=l.foldl (λ o h=>o.bind λ w=>admStep r s w h) (some ⟨⟨r.low,1⟩,⟨r.high,1⟩⟩)
def XF (r:X3) (e:List Half) (s:Ya):Option ZP :=
 if 100000<s.d then none else (admL r s e).bind λ w=>if Yg w=true then some w else none
structure RoomB (r:X3):Prop where
 len:r.map.length=4
 m:∀ i,-20<=r.map.getD i 0/\r.map.getD i 0<=20
 div:1<=r.div/\r.div<=20
 bx : -100<=r.bx/\r.bx<=100
 by_ : -100<=r.by_/\r.by_<=100
 low : -1000<=r.low/\r.low<=1000
 high:r.low<=r.high/\r.high<=1000
theorem roomB {r:X3} (h:Xw r=true):RoomB r:=by
 simp only [Xw,Jv,Bool.and_eq_true] at h;obtain ⟨⟨⟨⟨⟨⟨⟨⟨h1,_⟩,h2⟩,h3⟩,h4,h5⟩,_⟩,_⟩,_⟩,_⟩:=h;have hq:=h1;simp only [ZI,Bool.and_eq_true] at hq;obtain ⟨a,b,c,d,e,ha,hb,hc,hd⟩:=JR h1;refine ⟨by rw [e];rfl,λ i=>?_,ZG.1 hq.1.2,ZG.1 h2,ZG.1 h3,ZG.1 h4,ZG.1 h5⟩;rw [e];match i with
 | 0=>simpa using ha
 | 1=>simpa using hb
 | 2=>simpa using hc
 | 3=>simpa using hd
 | _+4=>simp
def Jr (r:X3) (p:List Half):Bool:=Xw r&&Xf p&&ZA (ZO r.noise) p
def Zs (r:X3) (p:List Half):List Half:=if Xw r=true/\Xf p=true then ZZ (ZO r.noise) p else []
theorem room_noise {r:X3} (h:Xw r=true):Xf r.noise=true/\r.noise≠[]:=by
 simp only [Xw,Bool.and_eq_true] at h;obtain ⟨⟨⟨⟨_,h1⟩,_⟩,h2⟩,_⟩:=h;refine ⟨h2,λ e=>?_⟩;rw [e] at h1;simp at h1
theorem rp_no {r:X3} {p:List Half} (h:Xw r=false∨Xf p=false):Jr r p=false/\Zs r p=[]:=by
 unfold Jr Zs;rcases h with h|h
 ·rw [h,if_neg (by simp)];exact ⟨rfl,rfl⟩
 ·rw [h,if_neg (by simp),Bool.and_false];exact ⟨rfl,rfl⟩
theorem rp_yes {r:X3} {p:List Half} (h:Xw r=true) (h2:Xf p=true):Jr r p=ZA (ZO r.noise) p/\Zs r p=ZZ (ZO r.noise) p:=by
 unfold Jr Zs;rw [h,h2,if_pos ⟨rfl,rfl⟩];exact ⟨rfl,rfl⟩
theorem sErodeNo_c (p q:List Half) (a b:ZY) (w:World) (hl:p.length<=1048576) (hin:∀ h∈p,h.In) (hp:Xf p=false) (hsp:Sl 3 Xk w a.A p) (hna:a.A=none->a.c=0) :
 Calls Tryz.prog 181 #[Zb p a,Zb q b] w λ e w'=>e=.returned (.tuple #[.agg #[.slice none 0 0],.bool false])/\Below w.heap.size w w':=by
 have k1:=λ W h=>YC p a W hl hin h hna;rw [hp] at k1;obtain ⟨W,hW⟩:∃ W,W=((w.alloc (.cells #[.slice a.A p.length a.c] 37)).alloc (.cells #[.slice b.A q.length b.c] 37)).alloc (.cells #[.slice none 0 0] 37):=⟨_,rfl⟩;have HA:YI W w.heap.size [.slice a.A p.length a.c]:=by rw [hW];exact Zp
 have HR:YI W (w.heap.size+1+1) [.slice none 0 0]:=by rw [hW];exact Zp
 have b0:Below w.heap.size w W:=by rw [hW];exact XA
 have sp:=hsp.below b0;have hW':=Lib.hid hW;clear hW hsp hp;obtain ⟨cHA_0,fHA_0⟩:=HA.2 0 _ rfl;have lA:=HA.1;go_enter Tryz.func181,Tryz.ntmps181
 go_upto_region 1 with fail
 rw [<- hW'.out];clear hW';go_wp2_with (fail)
 refine (k1 _ sp).mono ?_;rintro e w1 ⟨rfl,hb1⟩;have R1:=HR.below hb1;have b1:=Xn b0 hb1;obtain ⟨cR1_0,fR1_0⟩:=R1.2 0 _ rfl;have lR:=R1.1;go_wp2
 refine bodyPost_ret (v:=.tuple #[.agg #[.slice none 0 0],.bool false]) (by simp [results,Tryz.results181,go_sem, *]) rfl ⟨rfl,Zz b1 (by simp only;omega) _⟩
theorem sRob_c (r:X3) (p:List Half) (a:YO) (b:ZY) (w:World) (hn:Xs r<=1048576) (hin:Zu r) (hs:YH w r a) (hnl:Zk a) (hlp:p.length<=1048576) (hpi:∀ h∈p,h.In) (hsp:Sl 3 Xk w b.A p) (hnb:b.A=none->b.c=0) :
 Calls Tryz.prog 110 #[XN r a,Zb p b] w λ e w'=>∃ v,e=.returned (.tuple #[.agg #[v],.bool (Jr r p)])/\XI 175 3 Xk w' w.heap.size v (Zs r p)/\Below w.heap.size w w':=by
 have c1:=λ W h=>sRoomOk_c r a W hn hin h hnl;obtain ⟨W,hW⟩:∃ W,W=((w.alloc (.cells #[.slice a.map.A (List.length r.map) a.map.c,.int .i64 r.div,.int .i64 r.bx,.int .i64 r.by_,.int .i64 r.low,.int .i64 r.high,.slice a.noise.A (List.length r.noise) a.noise.c,.slice a.limits.A (List.length r.limits) a.limits.c] 39)).alloc (.cells #[.slice b.A p.length b.c] 37)).alloc (.cells #[.slice none 0 0] 37):=⟨_,rfl⟩;have HA:YI W w.heap.size [.slice a.map.A (List.length r.map) a.map.c,.int .i64 r.div,.int .i64 r.bx,.int .i64 r.by_,.int .i64 r.low,.int .i64 r.high,.slice a.noise.A (List.length r.noise) a.noise.c,.slice a.limits.A (List.length r.limits) a.limits.c]:=by
  rw [hW];exact Zp
 have HB:YI W (w.heap.size+1) [.slice b.A p.length b.c]:=by
  rw [hW];exact Zp
 have HR:YI W (w.heap.size+1+1) [.slice none 0 0]:=by
  rw [hW];exact Zp
 have b0:Below w.heap.size w W:=by
  rw [hW];exact XA
 have zW:w.heap.size+1+1<W.heap.size:=HR.1;have hs0:=hs.below b0;have sp:=hsp.below b0;have hW':=Lib.hid hW;clear hW hs hsp;obtain ⟨cHA_0,fHA_0⟩:=HA.2 0 _ rfl;obtain ⟨cHA_1,fHA_1⟩:=HA.2 1 _ rfl;obtain ⟨cHA_2,fHA_2⟩:=HA.2 2 _ rfl;obtain ⟨cHA_3,fHA_3⟩:=HA.2 3 _ rfl;obtain ⟨cHA_4,fHA_4⟩:=HA.2 4 _ rfl;obtain ⟨cHA_5,fHA_5⟩:=HA.2 5 _ rfl;obtain ⟨cHA_6,fHA_6⟩:=HA.2 6 _ rfl;obtain ⟨cHA_7,fHA_7⟩:=HA.2 7 _ rfl;obtain ⟨cHB_0,fHB_0⟩:=HB.2 0 _ rfl;have lA:=HA.1;have lB:=HB.1;cases e1:Xw r
 ·have hF:=Lib.hid (rp_no (r:=r) (p:=p) (.inl e1));rw [e1] at c1;go_enter Tryz.func110,Tryz.ntmps110
  go_upto_region 1 with fail
  rw [<- hW'.out];clear hW';go_wp2_with (fail)
  refine (c1 _ hs0).mono ?_;rintro e w1 ⟨rfl,hb1⟩;have R9:=HR.below hb1;have b9:=Xn b0 hb1;obtain ⟨cR9_0,fR9_0⟩:=R9.2 0 _ rfl;have lR:=R9.1;go_wp2
  refine bodyPost_ret (v:=.tuple #[.agg #[.slice none 0 0],.bool false]) (by simp [results,Tryz.results110,go_sem,cR9_0]) rfl ⟨.slice none 0 0,by rw [hF.out.1], ?_,Zz b9 (by simp only;omega) _⟩;rw [hF.out.2];exact ⟨none,0,rfl,World.ownsRow_nil _ _ _ _⟩
 rw [e1] at c1;cases e2:Xf p
 ·have hF:=Lib.hid (rp_no (r:=r) (p:=p) (.inr e2));have c3:=λ W h=>sErodeNo_c p r.noise b a.noise W hlp hpi e2 h hnb;go_enter Tryz.func110,Tryz.ntmps110
  go_upto_region 1 with fail
  rw [<- hW'.out];clear hW';go_wp2_with (fail)
  refine (c1 _ hs0).mono ?_;rintro e w1 ⟨rfl,hb1⟩;have l1:=blt hb1 lA;have l2:=blt hb1 lB;have r1:=Xz hb1;go_wp2_with (fail)
  refine (c3 _ (sp.below hb1)).mono ?_;rintro e w2 ⟨rfl,hb2⟩;have R9:=(HR.below hb1).below hb2;have b9:=Xn (Xn b0 hb1) hb2;obtain ⟨cR9_0,fR9_0⟩:=R9.2 0 _ rfl;have lR:=R9.1;go_wp2
  refine bodyPost_ret (v:=.tuple #[.agg #[.slice none 0 0],.bool false]) (by simp [results,Tryz.results110,go_sem, *]) rfl ⟨.slice none 0 0,by rw [hF.out.1], ?_,Zz b9 (by simp only;omega) _⟩;rw [hF.out.2];exact ⟨none,0,rfl,World.ownsRow_nil _ _ _ _⟩
 have hF:=Lib.hid (rp_yes e1 e2);have hq:=room_noise e1;have c4:=λ W h1 h2=>sErode_c p r.noise b a.noise W e2 hq.1 hq.2 h1 h2 hnb hnl.noise;generalize hok:ZA (ZO r.noise) p=ok at *;generalize hR:ZZ (ZO r.noise) p=R at *;clear hok hR hq;go_enter Tryz.func110,Tryz.ntmps110
 go_upto_region 1 with fail
 rw [<- hW'.out];clear hW';go_wp2_with (fail)
 refine (c1 _ hs0).mono ?_;rintro e w1 ⟨rfl,hb1⟩;have l1:=blt hb1 lA;have l2:=blt hb1 lB;have r1:=Xz hb1;have z4:=Nat.lt_of_lt_of_le zW hb1.size;go_wp2_with (fail)
 refine (c4 _ (sp.below hb1) (hs0.below hb1).noise.halves).mono ?_;rintro e w4 ⟨v4,rfl,N4,hb4⟩;have R9:=(HR.below hb1).below hb4;have b9:=Xn (Xn b0 hb1) hb4;obtain ⟨cR9_0,fR9_0⟩:=R9.2 0 _ rfl;have lR:=R9.1;obtain ⟨Av,cv,rfl,o3⟩:=N4;have N5:XI 175 3 Xk w4 w1.heap.size (.slice Av R.length cv) R:=⟨Av,cv,rfl,o3⟩;go_wp2
 refine bodyPost_ret (v:=.tuple #[.agg #[.slice Av R.length cv],.bool ok]) (by simp [results,Tryz.results110,go_sem, *]) rfl ⟨.slice Av R.length cv,by rw [hF.out.1], ?_,Zz b9 (by simp only;omega) _⟩;rw [hF.out.2];exact (N5.lowC (q:=⟨w.heap.size+1+1,0,none⟩) (by simp only;omega) [.slice Av R.length cv]).mono (by omega)
def blkL (A:Option Addr):List Nat:=match A with|some p=>[p.block]|none=>[]
theorem X9 {A:Option Addr} {g:Nat} (h:∀ p,A=some p->p.block≠g):g ∉ blkL A:=by
 cases A with
 | none=>simp [blkL]
 | some p=>simp only [blkL,List.mem_singleton];exact λ e=>h p rfl e.symm
theorem KK {A:Option Addr} {m:Nat} (h:m∈blkL A):∃ p,A=some p/\p.block=m:=by
 cases A with
 | none=>simp [blkL] at h
 | some p=>simp only [blkL,List.mem_singleton] at h;exact ⟨p,rfl,h.symm⟩
theorem Kp.grown {w w':World} {A:Option Addr} {n c:Nat} (hg:w.grownBy w' (Value.slice A n c).ownBlock):Kp (blkL A) w w':=by
 refine ⟨⟨hg.os,hg.tape,hg.output,hg.size,λ k hk=>absurd hk (Nat.not_lt_zero _)⟩,λ g hlt hm=>hg.block g hlt ?_⟩;cases A with
 | none=>intro e;cases e
 | some p =>
  intro e;injection e with e
  exact hm (by rw [e];simp [blkL])
theorem Kp.trans2 {M M':List Nat} {a w w':World} (h:Kp M a w) (k:Kp M' w w') (hm:∀ m∈M',m∈M∨a.heap.size<=m):Kp M a w' :=
 ⟨h.base.trans k.base,λ g hg hn=>(k.block g (Nat.lt_of_lt_of_le hg h.size) (λ q=>by rcases hm g q with r|r;exact hn r;omega)).trans (h.block g hg hn)⟩
theorem XI.nilN {α:Type} (T sz:Nat) (enc:α->List Value) (w:World) (base:Nat):XI T sz enc w base (.slice none ([]:List α).length 0) ([]:List α):=⟨none,0,rfl,World.ownsRow_nil _ _ _ _⟩
theorem one_slT {α:Type} {sz:Nat} {enc:α->List Value} {w:World} {g T:Nat} {y:α} (h:Xy w g T (enc y)):Sl sz enc w (some ⟨g,0,none⟩) [y]:=by
 intro _;refine ⟨g,0,rfl,h.lt,λ i hi j u hu=>?_⟩;obtain rfl:i=0:=by simp at hi;omega
 simp only [List.getElem_cons_zero] at hu;rw [show (0+0*sz+j)=j by omega,h.cell j];exact hu
theorem wp_app1 {α:Type} {T sz:Nat} {enc:α->List Value} (YT:∀ x,(enc x).length=sz) {P:Program} {o:Oper} {a:Act} {w:World} {N:Act->World->Prop} {Q:Exit->Act->World->Prop} {s x:Operand} {t:TypeId}
 (ho:o.op=.call { callee:=.builtin .append,args:=#[s,x],argTypes:=#[t,t] })
 (base:Nat) (i:TypeInfo) (z:Value) (bytes:Nat) (ht:P.underlying t=some (.slice T)) (hi:P.info? T=some i) (hz:i.zero=some z)
 (hsize:i.size=sz) (hby:i.bytes=bytes) (hzs:z.cells.size=sz) (hpos:0<sz)
 {A:Option Addr} {n c:Nat} {xs:List α} (hs:a.eval s=.slice A n c) (hown:XI T sz enc w base (.slice A n c) xs) {g T':Nat} (hx:a.eval x=.slice (some ⟨g,0,none⟩) 1 1) {y:α} (hy:Xy w g T' (enc y)) (h1:∀ y,∀ u∈enc y,u.oneCell'=true)
 (hbase:base<=w.heap.size) (hn:xs.length<=1000000000) (hbytes:bytes<=128)
 (hN:∀ A' c' w',XI T sz enc w' base (.slice A' (xs++[y]).length c') (xs++[y])->Kp (blkL A) w w'->N (a.put o.dst (.slice A' (xs++[y]).length c')) w'):o.wp P a w N Q:=by
 refine step_appO YT s x t ho base i z bytes ht hi hz hsize hby hzs hpos hs hown (some ⟨g,0,none⟩) 1 (ys:=[y]) hx (one_slT hy) (λ e=>by cases e) h1 hbase (by simp only [List.length_singleton];omega) hbytes ?_;rintro v' w' ⟨A',c',rfl,h2⟩ _ hG;exact hN A' c' w' ⟨A',c',rfl,h2⟩ (Kp.grown hG)
theorem XT.otherT {w:World} {base g T:Nat} {x:List Half} {a:ZY} {vs:List Value} (h:XT w base x a) (hg:Xy w g T vs) (h0:175≠T) (us:List Value) (o:Nat):XT (w.setCells g o us) base x a:=⟨h.halves.otherC (h.halves.typ hg h0) us o⟩
theorem Yq.otherT {w:World} {base g T:Nat} {x:X3} {a:YO} {vs:List Value} (h:Yq w base x a) (hg:Xy w g T vs) (h0:3≠T) (h1:175≠T) (us:List Value) (o:Nat):Yq (w.setCells g o us) base x a:=⟨h.map.otherC (h.map.typ hg h0) us o,h.noise.otherT hg h1 us o,h.limits.otherT hg h1 us o,h.apart⟩
theorem Yy.otherT {w:World} {base g T:Nat} {x:Jf} {a:Jn} {vs:List Value} (h:Yy w base x a) (hg:Xy w g T vs) (h0:3≠T) (h1:175≠T) (us:List Value) (o:Nat):Yy (w.setCells g o us) base x a:=⟨h.room.otherT hg h0 h1 us o,h.reg.otherT hg h1 us o,h.log.otherC (h.log.typ hg h0) us o,h.apart⟩
theorem YG.otherT {w:World} {base g T:Nat} {x:Track} {a:TrackA} {vs:List Value} (h:YG w base x a) (hg:Xy w g T vs) (h0:44≠T) (h1:70≠T) (us:List Value) (o:Nat):YG (w.setCells g o us) base x a:=⟨h.spots.otherC (h.spots.typ hg h0) us o,h.inputs.otherC (h.inputs.typ hg h1) us o,h.apart⟩
theorem Jg.otherT {w:World} {base g T:Nat} {x:Law} {a:LawA} {vs:List Value} (h:Jg w base x a) (hg:Xy w g T vs) (h0:171≠T) (us:List Value) (o:Nat):Jg (w.setCells g o us) base x a:=⟨h.lows.otherC (h.lows.typ hg h0) us o,h.highs.otherC (h.highs.typ hg h0) us o,h.apart⟩
structure PulW (w:World) (gm gq:Nat) (M:Option Addr) (cm:Nat) (m:List Int) (d:Int):Prop where
 bm:Xy w gm 22 [.slice M m.length cm]
 bq:Xy w gq 3 [.int .i64 d]
 sl:Sl 1 Y6 w M m
theorem PulW.below {w w':World} {gm gq:Nat} {M:Option Addr} {cm:Nat} {m:List Int} {d:Int} (h:PulW w gm gq M cm m d) (hb:Below w.heap.size w w'):PulW w' gm gq M cm m d:=⟨h.bm.bel hb,h.bq.bel hb,h.sl.below hb⟩
theorem PulW.alloc {w:World} {gm gq:Nat} {M:Option Addr} {cm:Nat} {m:List Int} {d:Int} (h:PulW w gm gq M cm m d) (o:Obj):PulW (w.alloc o) gm gq M cm m d:=h.below (Xd bR o)
end Go.Proofs.YtkjimfapbjdafaaGreat
