/-
 The inputs that a region admits. No program is named here.
 Conditions: none.
-/
import Derived.Test.YtbekjpkcicjcgabGreatGeo9
namespace Go.Proofs.YtbekjpkcicjcgabGreat
open Go.RowKit
def XH (r:XK) (h:Half):Int:=h.a*r.bx+h.b*r.by_
def mapX (r:XK) (s:XW):Int:=r.map.getD 0 0*s.x+r.map.getD 1 0*s.y
def mapY (r:XK) (s:XW):Int:=r.map.getD 2 0*s.x+r.map.getD 3 0*s.y
def Z7 (r:XK) (s:XW):Int:=r.div*s.d
def topA (r:XK) (s:XW) (h:Half):Int:=h.c*Z7 r s-h.a*mapX r s-h.b*mapY r s
def admStep (r:XK) (s:XW) (w:Span) (h:Half):Option Span :=
 if 0<XH r h then some ⟨w.low,ratioMin w.high (X6 (topA r s h) (Z7 r s*XH r h))⟩
 else if XH r h<0 then some ⟨ratioMax w.low (X6 (-(topA r s h)) (-(Z7 r s)*XH r h)),w.high⟩
 else if topA r s h<0 then none else some w
def admL (r:XK) (s:XW) (l:List Half):Option Span:=l.foldl (λ o h=>o.bind λ w=>admStep r s w h) (some ⟨⟨r.low,1⟩,⟨r.high,1⟩⟩)
def admit (r:XK) (e:List Half) (s:XW):Option Span :=
 if 100000<s.d then none else (admL r s e).bind λ w=>if spanOk w=true then some w else none
structure RoomB (r:XK):Prop where
 len:r.map.length=4
 m:∀ i,-20<=r.map.getD i 0/\r.map.getD i 0<=20
 div:1<=r.div/\r.div<=20
 bx : -100<=r.bx/\r.bx<=100
 by_ : -100<=r.by_/\r.by_<=100
 low : -1000<=r.low/\r.low<=1000
 high:r.low<=r.high/\r.high<=1000
theorem roomB {r:XK} (h:XG r=true):RoomB r:=by
 simp only [XG,Ke,Bool.and_eq_true] at h;obtain ⟨⟨⟨⟨⟨⟨⟨⟨h1,_⟩,h2⟩,h3⟩,h4,h5⟩,_⟩,_⟩,_⟩,_⟩:=h;have hq:=h1;simp only [ZT,Bool.and_eq_true] at hq;obtain ⟨a,b,c,d,e,ha,hb,hc,hd⟩:=Kh h1;refine ⟨by rw [e];rfl,λ i=>?_,YQ.1 hq.1.2,YQ.1 h2,YQ.1 h3,YQ.1 h4,YQ.1 h5⟩;rw [e];match i with
 | 0=>simpa using ha
 | 1=>simpa using hb
 | 2=>simpa using hc
 | 3=>simpa using hd
 | _+4=>simp
structure MapB (r:XK) (s:XW):Prop where
 x0 : -2000000000<=r.map.getD 0 0*s.x/\r.map.getD 0 0*s.x<=2000000000
 x1 : -2000000000<=r.map.getD 1 0*s.y/\r.map.getD 1 0*s.y<=2000000000
 y0 : -2000000000<=r.map.getD 2 0*s.x/\r.map.getD 2 0*s.x<=2000000000
 y1 : -2000000000<=r.map.getD 3 0*s.y/\r.map.getD 3 0*s.y<=2000000000
 d:1<=Z7 r s/\Z7 r s<=2000000
theorem mapB {r:XK} {s:XW} (B:RoomB r) (hs:XP s=true) (hd:s.d<=100000):MapB r s:=by
 obtain ⟨h1,h2,h3,_⟩:=ZO.1 hs;have p:=λ i (x:Int) (hx : -100000000<=x/\x<=100000000)=>JE (a:=r.map.getD i 0) (b:=x) (A:=20) (B:=100000000) ⟨by have:=B.m i;omega,by have:=B.m i;omega⟩ ⟨by omega,by omega⟩;have q:=JE (a:=r.div) (b:=s.d) (A:=20) (B:=100000) ⟨by have:=B.div;omega,by have:=B.div;omega⟩ ⟨by omega,by omega⟩;have q0:=Int.mul_pos (show 0<r.div by have:=B.div;omega) (show 0<s.d by omega);have a:=p 0 s.x ⟨by omega,by omega⟩;have b:=p 1 s.y ⟨by omega,by omega⟩;have c:=p 2 s.x ⟨by omega,by omega⟩;have d:=p 3 s.y ⟨by omega,by omega⟩;exact ⟨⟨by omega,by omega⟩,⟨by omega,by omega⟩,⟨by omega,by omega⟩,⟨by omega,by omega⟩,⟨by unfold Z7;omega,by unfold Z7;omega⟩⟩
structure AdmP (r:XK) (s:XW) (h:Half):Prop where
 a : -5000000<=h.a*r.bx/\h.a*r.bx<=5000000
 b : -5000000<=h.b*r.by_/\h.b*r.by_<=5000000
 c : -200000000000000<=h.c*Z7 r s/\h.c*Z7 r s<=200000000000000
 x : -200000000000000<=h.a*mapX r s/\h.a*mapX r s<=200000000000000
 y : -200000000000000<=h.b*mapY r s/\h.b*mapY r s<=200000000000000
 n : -20000000000000<=Z7 r s*XH r h/\Z7 r s*XH r h<=20000000000000
theorem admP {r:XK} {s:XW} {h:Half} (B:RoomB r) (M:MapB r s) (hh:Xq h=true):AdmP r s h:=by
 obtain ⟨a1,a2,a3,_⟩:=Zm.1 hh;have hd:=M.d;have h0:=M.x0;have h1:=M.x1;have h2:=M.y0;have h3:=M.y1;have p:=JE (a:=h.a) (b:=r.bx) (A:=50000) (B:=100) ⟨by omega,by omega⟩ ⟨by have:=B.bx;omega,by have:=B.bx;omega⟩;have q:=JE (a:=h.b) (b:=r.by_) (A:=50000) (B:=100) ⟨by omega,by omega⟩ ⟨by have:=B.by_;omega,by have:=B.by_;omega⟩;have c:=JE (a:=h.c) (b:=Z7 r s) (A:=100000000) (B:=2000000) ⟨by omega,by omega⟩ ⟨by omega,by omega⟩;have x:=JE (a:=h.a) (b:=mapX r s) (A:=50000) (B:=4000000000) ⟨by omega,by omega⟩ ⟨by unfold mapX;omega,by unfold mapX;omega⟩;have y:=JE (a:=h.b) (b:=mapY r s) (A:=50000) (B:=4000000000) ⟨by omega,by omega⟩ ⟨by unfold mapY;omega,by unfold mapY;omega⟩;have n:=JE (a:=Z7 r s) (b:=XH r h) (A:=2000000) (B:=10000000) ⟨by omega,by omega⟩ ⟨by unfold XH;omega,by unfold XH;omega⟩;exact ⟨⟨by omega,by omega⟩,⟨by omega,by omega⟩,⟨by omega,by omega⟩,⟨by omega,by omega⟩,⟨by omega,by omega⟩,⟨by omega,by omega⟩⟩
theorem adm_high {r:XK} {s:XW} {h:Half} (P:AdmP r s h) (M:MapB r s) (hn:0<XH r h):(-1000000000000000000<=topA r s h/\topA r s h<=1000000000000000000)/\(1<=Z7 r s*XH r h/\Z7 r s*XH r h<=1000000000000000):=by
 have:=Int.mul_pos (show 0<Z7 r s by have:=M.d;omega) hn;have hc:=P.c;have hx:=P.x;have hy:=P.y;have hp:=P.n;unfold topA;exact ⟨⟨by omega,by omega⟩,⟨by omega,by omega⟩⟩
theorem adm_low {r:XK} {s:XW} {h:Half} (P:AdmP r s h) (M:MapB r s) (hn:XH r h<0):(-1000000000000000000<=-(topA r s h)/\-(topA r s h)<=1000000000000000000)/\(1<=-(Z7 r s)*XH r h/\-(Z7 r s)*XH r h<=1000000000000000):=by
 have:=Int.mul_pos (show 0<Z7 r s by have:=M.d;omega) (show 0 < -(XH r h) by omega);rw [Int.mul_neg] at this;have hc:=P.c;have hx:=P.x;have hy:=P.y;have hp:=P.n;rw [Int.neg_mul];unfold topA;exact ⟨⟨by omega,by omega⟩,⟨by omega,by omega⟩⟩
theorem one_ok {n:Int} (h : -1000<=n/\n<=1000):XE ⟨n,1⟩=true:=by
 refine KJ.2 ⟨⟨by simp,by simp⟩,⟨by simp only;omega,by simp only;omega⟩, ?_⟩;simp
def rpOk (r:XK) (p:List Half):Bool:=XG r&&Xc p&&movOk (KC r.noise) p
def KP (r:XK) (p:List Half):List Half:=if XG r=true/\Xc p=true then movR (KC r.noise) p else []
def Z0 (r:XK) (p:List Half):Bool:=!decide (p.length=0)&&rpOk r p && !decide ((KP r p).length=0)
theorem rpR_ok (r:XK) (p:List Half):Xc (KP r p)=true:=by
 unfold KP;split
 ·exact movR_ok (λ h _ g e=>eroH_ok e)
 ·rfl
def admAt (r:XK) (p:List Half) (s:XW):Option Span:=if Z0 r p=true/\XP s=true then admit r (KP r p) s else none
variable {r:XK} {s:XW} {e:List Half} {k:Nat} {v:Span} {h:Half}
end Go.Proofs.YtbekjpkcicjcgabGreat
namespace Go.Proofs.YtbekjpkcicjcgabGreat
open Go.RowKit
theorem admit_spanOk {r:XK} {e:List Half} {s:XW} {c:Span} (h:admit r e s=some c):spanOk c=true:=by
 unfold admit at h;split at h
 ·cases h
 ·cases q:admL r s e with
  | none=>rw [q] at h;cases h
  | some w =>
   rw [q] at h;simp only [Option.bind_some] at h;split at h
   ·cases h;assumption
   ·cases h
def ratFloor (r:Yu):Int:=if XE r=true then r.n / r.d else 0
def ratCeil (r:Yu):Int:=if XE r=true then -(-r.n / r.d) else 0
theorem cmp_def {r s:Yu} (hr:XE r=true) (hs:XE s=true):X7 r s=sgn (r.n*s.d-s.n*r.d):=by
 unfold X7;rw [if_pos ⟨hr,hs⟩];rfl
def clampW (wish:Int):Int:=max (-1000) (min 1000 wish)
def pick (v:Span) (wish:Int):Yu :=
 if spanOk v=true then
  (if X7 ⟨clampW wish,1⟩ v.low<0 then (if X7 ⟨ratCeil v.low,1⟩ v.high<=0 then ⟨ratCeil v.low,1⟩ else v.low)
  else if X7 ⟨clampW wish,1⟩ v.high > 0 then (if X7 ⟨ratFloor v.high,1⟩ v.low ≥ 0 then ⟨ratFloor v.high,1⟩ else v.high)
  else ⟨clampW wish,1⟩)
 else ZV
section
variable {v:Span} {wish:Int} (h:spanOk v=true)
include h
end
def blkL (A:Option Addr):List Nat:=match A with|some p=>[p.block]|none=>[]
theorem Yg {A:Option Addr} {g:Nat} (h:∀ p,A=some p->p.block≠g):g ∉ blkL A:=by
 cases A with
 | none=>simp [blkL]
 | some p=>simp only [blkL,List.mem_singleton];exact λ e=>h p rfl e.symm
theorem Yh {A:Option Addr} {m:Nat} (h:m∈blkL A):∃ p,A=some p/\p.block=m:=by
 cases A with
 | none=>simp [blkL] at h
 | some p=>simp only [blkL,List.mem_singleton] at h;exact ⟨p,rfl,h.symm⟩
theorem Kp.grown {w w':World} {A:Option Addr} {n c:Nat} (hg:w.grownBy w' (Value.slice A n c).ownBlock):Kp (blkL A) w w':=by
 refine ⟨⟨hg.os,hg.tape,hg.output,hg.size,λ k hk=>absurd hk (Nat.not_lt_zero _)⟩,λ g hlt hm=>hg.block g hlt ?_⟩;cases A with
 | none=>intro e;cases e
 | some p =>
  intro e;injection e with e
  exact hm (by rw [e];simp [blkL])
theorem Kp.trans2 {M M':List Nat} {a w w':World} (h:Kp M a w) (k:Kp M' w w') (hm:∀ m∈M',m∈M∨a.heap.size<=m):Kp M a w' :=
 ⟨h.base.trans k.base,λ g hg hn=>(k.block g (Nat.lt_of_lt_of_le hg h.size) (λ q=>by rcases hm g q with r|r;exact hn r;omega)).trans (h.block g hg hn)⟩
theorem XI.nilN {α:Type} (T sz:Nat) (enc:α->List Value) (w:World) (base:Nat):XI T sz enc w base (.slice none ([]:List α).length 0) ([]:List α):=⟨none,0,rfl,World.ownsRow_nil _ _ _ _⟩
theorem one_slT {α:Type} {sz:Nat} {enc:α->List Value} {w:World} {g T:Nat} {y:α} (h:Xv w g T (enc y)):Sl sz enc w (some ⟨g,0,none⟩) [y]:=by
 intro _;refine ⟨g,0,rfl,h.lt,λ i hi j u hu=>?_⟩;obtain rfl:i=0:=by simp at hi;omega
 simp only [List.getElem_cons_zero] at hu;rw [show (0+0*sz+j)=j by omega,h.cell j];exact hu
theorem wp_app1 {α:Type} {T sz:Nat} {enc:α->List Value} (XU:∀ x,(enc x).length=sz) {P:Program} {o:Oper} {a:Act} {w:World} {N:Act->World->Prop} {Q:Exit->Act->World->Prop} {s x:Operand} {t:TypeId}
 (ho:o.op=.call { callee:=.builtin .append,args:=#[s,x],argTypes:=#[t,t] })
 (base:Nat) (i:TypeInfo) (z:Value) (bytes:Nat) (ht:P.underlying t=some (.slice T)) (hi:P.info? T=some i) (hz:i.zero=some z)
 (hsize:i.size=sz) (hby:i.bytes=bytes) (hzs:z.cells.size=sz) (hpos:0<sz)
 {A:Option Addr} {n c:Nat} {xs:List α} (hs:a.eval s=.slice A n c) (hown:XI T sz enc w base (.slice A n c) xs) {g T':Nat} (hx:a.eval x=.slice (some ⟨g,0,none⟩) 1 1) {y:α} (hy:Xv w g T' (enc y)) (h1:∀ y,∀ u∈enc y,u.oneCell'=true)
 (hbase:base<=w.heap.size) (hn:xs.length<=1000000000) (hbytes:bytes<=128)
 (hN:∀ A' c' w',XI T sz enc w' base (.slice A' (xs++[y]).length c') (xs++[y])->Kp (blkL A) w w'->N (a.put o.dst (.slice A' (xs++[y]).length c')) w'):o.wp P a w N Q:=by
 refine step_appO XU s x t ho base i z bytes ht hi hz hsize hby hzs hpos hs hown (some ⟨g,0,none⟩) 1 (ys:=[y]) hx (one_slT hy) (λ e=>by cases e) h1 hbase (by simp only [List.length_singleton];omega) hbytes ?_;rintro v' w' ⟨A',c',rfl,h2⟩ _ hG;exact hN A' c' w' ⟨A',c',rfl,h2⟩ (Kp.grown hG)
end Go.Proofs.YtbekjpkcicjcgabGreat
