/-
 How fractions are compared: of the program (products of 128 bits) and of the reference (continued remainders); the lesser and the greater one; spans.
 Conditions: the numbers are ints of the machine.
-/
import Derived.Shelf.Bits.Mul64
import Derived.Deep.RegionHeld3
import Derived.Deep.DeepMust
import Derived.Deep.DeepCutAuto
import Derived.Test.YtbekjpkcicjcgabGreatGrEQa
import Derived.Test.YtbekjpkcicjcgabGreatV4
import Derived.Deep.QuietTactic
import Derived.BigQuiet
import Derived.Deep.DrawnRows
import Derived.RegionTactic
import Derived.ChangeAlike
namespace Go.Proofs.YtbekjpkcicjcgabGreat
open Go.RowKit
theorem sgn_bd (x:Int) : -1<=sgn x/\sgn x<=1:=by unfold sgn;split<;>(try split)<;>omega
theorem sgn_zero:sgn 0=0:=rfl
theorem cmpF_bd (a b c d:Int) : -1<=KV a b c d/\KV a b c d<=1:=sgn_bd _
set_option maxHeartbeats 1000000 in
theorem iRatioCmp_c (r s:Yu) (w:World) (hr:r.In) (hs:s.In) :
 Calls Tryz.prog 12 #[KU r,KU s] w λ e w'=>e=.returned (.int .i64 (X7 r s))/\Below w.heap.size w w':=by
 have c0:=λ W=>iRatioOk_c r W hr;have c1:=λ W=>iRatioOk_c s W hs;cases e0:XE r
 ·rw [e0] at c0;go_enter Tryz.func12,Tryz.ntmps12
  go_wp2_with (fail)
  refine (c0 _).mono ?_;rintro e w0 ⟨rfl,hb0⟩;have r0:=Xt hb0;have l0_0:w.heap.size<w0.heap.size:=XN hb0;have l0_1:w.heap.size+1<w0.heap.size:=XN hb0;go_wp2
  go_ret
  refine ⟨YH (by simp [X7,e0]), ?_⟩;exact Xn
 ·rw [e0] at c0;cases e1:XE s
  ·rw [e1] at c1;go_enter Tryz.func12,Tryz.ntmps12
   go_wp2_with (fail)
   refine (c0 _).mono ?_;rintro e w0 ⟨rfl,hb0⟩;have r0:=Xt hb0;have l0_0:w.heap.size<w0.heap.size:=XN hb0;have l0_1:w.heap.size+1<w0.heap.size:=XN hb0;go_wp2_with (fail)
   refine (c1 _).mono ?_;rintro e w1 ⟨rfl,hb1⟩;have r1:=Xt hb1;have l1_0:w.heap.size<w1.heap.size:=XN hb1;have l1_1:w.heap.size+1<w1.heap.size:=XN hb1;go_wp2
   go_ret
   refine ⟨YH (by simp [X7,e1]), ?_⟩;exact Xn
  ·rw [e1] at c1;have hv:=Lib.hid (show X7 r s=KV r.n r.d s.n s.d by simp [X7,e0,e1]);have c2:=λ W=>Kt r.n r.d s.n s.d W hr.1 hr.2 hs.1 hs.2 (by have:=ratioOk_bd e0;omega) (by have:=ratioOk_bd e1;omega);go_enter Tryz.func12,Tryz.ntmps12
   go_wp2_with (fail)
   refine (c0 _).mono ?_;rintro e w0 ⟨rfl,hb0⟩;have r0:=Xt hb0;have l0_0:w.heap.size<w0.heap.size:=XN hb0;have l0_1:w.heap.size+1<w0.heap.size:=XN hb0;go_wp2_with (fail)
   refine (c1 _).mono ?_;rintro e w1 ⟨rfl,hb1⟩;have r1:=Xt hb1;have l1_0:w.heap.size<w1.heap.size:=XN hb1;have l1_1:w.heap.size+1<w1.heap.size:=XN hb1;go_wp2_with (fail)
   refine (c2 _).mono ?_;rintro e w' ⟨rfl,rfl⟩;go_wp2
   go_ret
   refine ⟨YH hv.out.symm, ?_⟩;exact Xn
def JX (val:Nat->Yu) (g:Int):Nat->Int × Yu
 | 0=>(-1,ZV)
 | k+1=>if (JX val g k).1<0∨0<g*X7 (val k) (JX val g k).2 then ((k:Int),val k) else JX val g k
def allOk (val:Nat->Yu) (n:Nat):Bool:=(List.range n).all λ k=>XE (val k)
def bestR (val:Nat->Yu) (g:Int) (n:Nat):Int × Yu:=if allOk val n=true then JX val g n else (-1,ZV)
theorem allOk_yes {val:Nat->Yu} {n:Nat} (h:∀ k,k<n->XE (val k)=true):allOk val n=true:=by
 unfold allOk;rw [List.all_eq_true];intro k hk;exact h k (List.mem_range.1 hk)
def valA (xs:List Xm) (s:XW) (k:Nat):Yu:=XC (xs.getD k Xo) s
theorem valA_at {xs:List Xm} {s:XW} {k:Nat} (h:k<xs.length):valA xs s k=XC xs[k] s:=by
 unfold valA;rw [List.getD_eq_getElem?_getD,List.getElem?_eq_getElem h];rfl
def actL (x:KS) (s:XW):Int × Yu:=if Yd x=true then bestR (valA x.lows s) 1 x.lows.length else (-1,ZV)
def actH (x:KS) (s:XW):Int × Yu:=if Yd x=true then bestR (valA x.highs s) (-1) x.highs.length else (-1,ZV)
theorem piecesOk_all {xs:List Xm} (h:YB xs=true):∀ q∈xs,XM q=true:=by
 simp only [YB,Bool.and_eq_true,List.all_eq_true] at h;exact h.1
theorem lawOk_iff {x:KS}:Yd x=true ↔ YB x.lows=true/\YB x.highs=true:=by simp [Yd]
def Cur (w:World) (g:Nat) (B:Option Addr) (n c:Nat):Prop:=∃ i h:Int,0<=i/\i<=(n:Int)/\Xv w g 112 [.slice B n c,.int .i64 i,.int .i64 h]
abbrev KR (w w':World) (g:Nat):Prop:=X9 w w' [⟨some ⟨g,0,none⟩,0⟩]
theorem KR.ne {w w':World} {g k:Nat} (h:KR w w' g) (hk:k<w.heap.size) (hn:g≠k):w'.heap[k]? = w.heap[k]?:=h.block k hk (λ a ha p hp=>by
 rw [List.mem_singleton] at ha;subst ha;cases hp;exact hn)
theorem KR.set_ {w:World} {g:Nat} (j:Nat) (u:Value):KR w (w.setCell ⟨g,j,none⟩ u) g:=X9.setCells [u] j w (X9.refl _ _)
theorem Xv.far {w w':World} {g k T:Nat} {vs:List Value} (h:Xv w k T vs) (ho:KR w w' g) (hn:g≠k):Xv w' k T vs:=(ho.ne (YD h) hn).trans h
theorem KR.drewN {w w':World} {g:Nat} (h:KR w w' g) (n:Nat):KR w (w'.drewN n) g:=h.trans (X9.of_below (Zf bR n) _)
theorem quiet_and {x:Int}:0<=x % 256/\x % 256<=255:=by omega
theorem meetI_len (l:List Half):(Xw l).length<=l.length:=by
 unfold Xw;split
 ·simp
 ·exact List.length_filter_le _ _
open Classical in
theorem wp_region_I0 {P:Program} {id:Nat} {Q:Exit->Act->World->Prop} {a:Act} {w:World} {l:List Oper} (hm:P.follows .mixedOrders=true) (A:orderB l=true)
 (I:Act->(Nat->Bool)->Act->World->Prop) (h0:I a (λ _=>false) a w.drew)
 (hs:∀ (L:Nat->Bool) (a':Act) (w:World) (i:Nat) (o:Oper),l[i]? = some o->L i=false->(∀ e∈o.after,Region.binds .any e=true->L e.on=true)->I a L a' w ->
  if Region.wanted o (yielded l.toArray a'.tmps) then o.wp P a' w (λ a'' w'=>I a (λ j=>decide (j=i)||L j) a'' w') Q else I a (λ j=>decide (j=i)||L j) (a'.put o.dst undef) w)
 (he:∀ (L:Nat->Bool) (a':Act) (w:World),(∀ j,j<l.length->L j=true)->I a L a' w->Q .normal a' w):(Code.region id l.toArray true).wp P Q a w :=
 wp_region_I hm A (I a) h0 hs he
theorem XV.outG {a0 a:Act} {D:List Nat} (h:XV a0 a D) (hD:∀ k∈D,k<a0.tmps.size):a=D.foldl (λ b k=>b.put (some k) (a.tmps[k]?.getD undef)) a0:=by
 have:=h.out hD;simpa only [Act.eval,Array.getD_eq_getD_getElem?] using this
theorem Zu {L:Nat->Bool} {a:Act} {i j k s:Nat} {v u:Value} (h:L j=true->a.tmps[s]?.getD undef=v) (ne:k≠s) (hj:decide (j=i)=false):(decide (j=i)||L j)=true->(a.put (some k) u).tmps[s]?.getD undef=v :=
 λ hl=>(put_get_ne ne u).trans (h (by rw [hj] at hl;exact hl))
theorem kpK {L:Nat->Bool} {i j:Nat} {p:Prop} (h:L j=true->p) (hj:decide (j=i)=false):(decide (j=i)||L j)=true->p :=
 λ hl=>h (by rw [hj] at hl;exact hl)
theorem knK {L:Nat->Bool} {i j:Nat} {p:Prop} (h:L j=false->p) (hj:decide (j=i)=false):(decide (j=i)||L j)=false->p :=
 λ hl=>h (by rw [hj] at hl;exact hl)
theorem Ku {L:Nat->Bool} {i a b:Nat} (h:L a=true->L b=true) (ha:decide (a=i)=false):(decide (a=i)||L a)=true->(decide (b=i)||L b)=true :=
 λ hl=>by rw [ha] at hl;rw [h hl,Bool.or_true]
theorem roomOk_map {x:XK} (h:XG x=true):x.map.length=4:=by
 simp only [XG,Ke,Bool.and_eq_true] at h;obtain ⟨m0,m1,m2,m3,e,_⟩:=Kh (by first|exact h.1.1.1.1.1.1.1.1|exact h.1.1.1.1.1.1.1|exact h.1.1.1.1.1.1|exact h.1.1.1.1.1|exact h.1.1.1.1|exact h.1.1.1|exact h.1.1);rw [e];rfl
end Go.Proofs.YtbekjpkcicjcgabGreat
