/-
 Rooms that are drawn are valid: boxes and boxes with one corner cut off.
 Conditions: none.
-/
import Derived.Test.YtabfdkpdppemaaaGreatDrift
import Derived.Test.YtabfdkpdppemaaaGreatDrq
namespace Go.Proofs.YtabfdkpdppemaaaGreat
open Go.RowKit
structure DrawR (r:XH):Prop where
 ok:XT r=true
 bx:1<=r.bx/\r.bx<=3
 by_ : -1<=r.by_/\r.by_<=2
 low : -14<=r.low/\r.low<=-3
 high:3<=r.high/\r.high<=14
theorem boxR_mem {x y:Int} (hx:1<=x/\x<=100) (hy:1<=y/\y<=100) {f:Half} (hf:f∈Yw x y):f∈Yh++YK x y:=by
 have hok:=JU hx hy;have gd:=ZT hok;have c:=YP (hs:=Yh++YK x y) (λ f hf=>(KE (Zp hok f hf)).n);exact c.mem f (ZE gd hf).1
theorem boxR_pos {x y:Int} (hx:1<=x/\x<=100) (hy:1<=y/\y<=100) {f:Half} (hf:f∈Yh++YK x y):0<f.c:=by
 simp only [Yh,YK,List.cons_append,List.nil_append,List.mem_cons,List.not_mem_nil,or_false] at hf;rcases hf with rfl|rfl|rfl|rfl|rfl|rfl|rfl|rfl<;>simp only<;>omega
def cutR (x y c:Int):List Half:=Zg (Xp (Yw x y++[⟨1,1,c⟩]))
theorem cut_ok {x y c:Int} (hx:1<=x/\x<=100) (hy:1<=y/\y<=100) (hc:1<=c/\c<=1000):(∀ h∈Yw x y++[(⟨1,1,c⟩:Half)],Xn h=true)/\YW (Xp (Yw x y++[⟨1,1,c⟩]))=true/\Xl (cutR x y c)=true/\cutR x y c≠[]:=by
 have hk:∀ h∈Yw x y++[(⟨1,1,c⟩:Half)],Xn h=true:=by
  intro h hh;rcases List.mem_append.1 hh with h1|h1
  ·exact Km (boxR_ok hx hy) h h1
  ·simp only [List.mem_singleton] at h1;subst h1;exact Ze.2 ⟨⟨by simp,by simp⟩,⟨by simp,by simp⟩,⟨by simp only;omega,by simp only;omega⟩,by simp,JM (.inl rfl)⟩
 have hl:(Yw x y).length<=8:=by
  have h1:=meetI_len (Xp (YK x y));have h2:=JE (YK x y);have h3:(YK x y).length=4:=rfl;show (Xx (Xp (YK x y))).length<=8;omega
 have hm:YW (Xp (Yw x y++[⟨1,1,c⟩]))=true:=by
  refine decide_eq_true ?_;have h1:=meetI_len (Xp (Yw x y++[(⟨1,1,c⟩:Half)]));have h2:=JE (Yw x y++[(⟨1,1,c⟩:Half)]);rw [List.length_append] at h2;simp only [List.length_cons,List.length_nil] at h2;omega
 have hn:Xx (Xp (Yw x y++[⟨1,1,c⟩]))≠[]:=by
  refine ne_of_inner hk (x:=0) (y:=0) (d:=1) (by omega) (λ f hf=>?_);have h0:0<f.c:=by
   rcases List.mem_append.1 hf with h1|h1
   ·exact boxR_pos hx hy (List.mem_append.2 (.inl h1))
   ·rcases List.mem_append.1 h1 with h2|h2
    ·exact boxR_pos hx hy (boxR_mem hx hy h2)
    ·simp only [List.mem_singleton] at h2;subst h2;simp only;omega
  omega
 refine ⟨hk,hm,regionOk_meetR hk, ?_⟩;unfold cutR Zg;rw [if_pos hm];exact hn
structure DrawN (q a b c bx by_ lo hi:Int):Prop where
 q:2<=q/\q<=10
 a:0<=a/\a<=1
 b:0<=b/\b<=1
 c:0<=c/\c<=1
 bx:1<=bx/\bx<=3
 by_ : -1<=by_/\by_<=2
 lo : -14<=lo/\lo<=-3
 hi:3<=hi/\hi<=14
theorem draw_mk {q a b c bx by_ lo hi:Int} (D:DrawN q a b c bx by_ lo hi) {N L:List Half} (n1:Xl N=true) (n2:N≠[]) (l1:Xl L=true) (l2:L≠[]):DrawR ⟨[q-1+a,b,-c,q-1],q,bx,by_,lo,hi,N,L⟩:=by
 have hq:=D.q;have ha:=D.a;have hb:=D.b;have hc:=D.c;have h1:=D.bx;have h2:=D.by_;have h3:=D.lo;have h4:=D.hi;have hd:det [q-1+a,b,-c,q-1]≠0:=by
  show (q-1+a)*(q-1)-b * -c≠0;have m1:1*1<=(q-1+a)*(q-1):=Int.mul_le_mul (by omega) (by omega) (by omega) (by omega);have m2:0<=b*c:=Int.mul_nonneg hb.1 hc.1;have m3:b * -c = -(b*c):=Int.mul_neg _ _;omega
 refine ⟨?_,h1,h2,h3,h4⟩;unfold XT J5 J0;simp only [Bool.and_eq_true,List.all_eq_true,List.mem_cons,List.not_mem_nil,or_false,forall_eq_or_imp,forall_eq,XY,bne_iff_ne,Bool.not_eq_true',decide_eq_false_iff_not,decide_eq_true_eq,List.length_cons,List.length_nil];refine ⟨⟨⟨⟨⟨⟨⟨⟨⟨⟨trivial,by omega⟩,by omega,by omega,by omega,by omega⟩,hd⟩,by omega⟩,by omega⟩,by omega,by omega⟩,λ e=>n2 (List.length_eq_zero_iff.1 e)⟩,λ e=>l2 (List.length_eq_zero_iff.1 e)⟩,n1⟩,l1⟩
theorem Kp.onlyG {w w':World} {g:Nat} (h:Kp [g] w w'):ZJ w w' g:=Kp.only (L:=[⟨some ⟨g,0,none⟩,0⟩]) h
theorem ZJ.kpG {w w':World} {g:Nat} (h:ZJ w w' g):Kp [g] w w':=Zs.kp h
theorem XI.farK {α:Type} {T sz base g T':Nat} {enc:α->List Value} {w w':World} {v:Value} {xs:List α} {vs:List Value} (h:XI T sz enc w base v xs) (hc:Xr w g T' vs) (hne:T≠T') (k:Kp [g] w w'):XI T sz enc w' base v xs:=h.farG hc hne k.onlyG
theorem ZV {T base g g' T':Nat} {w w':World} {vs vs':List Value} (h:Xr w g' T vs/\base<=g') (hc:Xr w g T' vs') (hne:T≠T') (k:Kp [g] w w'):Xr w' g' T vs/\base<=g' :=
 ⟨h.1.kp k (λ e=>Xr.ne hc h.1 (λ e=>hne e.symm) (List.mem_singleton.1 e)),h.2⟩
section
variable {W w w':World} {a:Act} {s T T' g g':Nat} {z vs':List Value} {b:Bool} {C:World->List Value->Prop}
theorem Xr.farK {vs:List Value} (h:Xr w g T vs) (hc:Xr w g' T' vs') (hne:T≠T') (k:Kp [g'] w w'):Xr w' g T vs:=h.kp k (λ e=>Xr.ne hc h (λ e=>hne e.symm) (List.mem_singleton.1 e))
theorem X8.farK (h:X8 W a w s T z b C) (hc:Xr w g' T' vs') (hT:T≠T') (k:Kp [g'] w w') (hC:∀ vs,C w vs->C w' vs):X8 W a w' s T z b C:=by
 obtain ⟨g,e,hg2,y,n⟩:=h;exact ⟨g,e,hg2,λ h=>(y h).farK hc hT k,λ h=>by obtain ⟨vs,h1,h2⟩:=n h;exact ⟨vs,h1.farK hc hT k,hC vs h2⟩⟩
theorem Zl.farK (h:Zl w g T z b C) (hc:Xr w g' T' vs') (hT:T≠T') (k:Kp [g'] w w') (hC:∀ vs,C w vs->C w' vs):Zl w' g T z b C :=
 ⟨λ q=>(h.1 q).farK hc hT k,λ q=>by obtain ⟨vs,h1,h2⟩:=h.2 q;exact ⟨vs,h1.farK hc hT k,hC vs h2⟩⟩
end
theorem Sl.kpG {α:Type} {sz:Nat} {enc:α->List Value} {w w':World} {A:Option Addr} {xs:List α} {g:Nat} (h:Sl sz enc w A xs) (k:Kp [g] w w') (ha:∀ b off,A=some ⟨b,off,none⟩->0<xs.length->b≠g):Sl sz enc w' A xs:=h.farG k.onlyG ha
theorem Yo.at {w:World} {g:Nat} {B:Option Addr} {c:Nat} {bs:List Int} {sq:Nat->Int} {i j:Nat} (h:Yo w g B c bs sq i) (e:i=j):Yo w g B c bs sq j:=e ▸ h
theorem Zk {b:Bool} (h:b=true):b.toNat=1:=by rw [h];rfl
theorem Kl {b:Bool} (h:b=false):b.toNat=0:=by rw [h];rfl
structure Yi (w:World) (base:Nat) (x:XH) (a:Y7):Prop where
 map:XI 3 1 JA w base (.slice a.map.A (List.length x.map) a.map.c) x.map
 noise:XI 174 3 Xh w base (.slice a.noise.A (List.length x.noise) a.noise.c) x.noise
 limits:XI 174 3 Xh w base (.slice a.limits.A (List.length x.limits) a.limits.c) x.limits
section
variable {w w':World} {base:Nat} {x:XH} {a:Y7}
theorem Yi.sl (h:Yi w base x a):Ke w x a:=⟨h.map.out ZY,⟨h.noise.out Xu⟩,⟨h.limits.out Xu⟩⟩
theorem Yi.nil (h:Yi w base x a):JC a:=⟨h.noise.nilcap,h.limits.nilcap⟩
theorem Yi.below {B:Nat} (h:Yi w base x a) (hb:Below B w w') (hB:w.heap.size<=B):Yi w' base x a:=⟨h.map.below hb hB,h.noise.below hb hB,h.limits.below hb hB⟩
theorem Yi.mono {base':Nat} (h:Yi w base x a) (hb:base'<=base):Yi w base' x a:=⟨h.map.mono hb,h.noise.mono hb,h.limits.mono hb⟩
theorem Yi.farK {g T':Nat} {vs:List Value} (h:Yi w base x a) (hc:Xr w g T' vs) (h1:3≠T') (h2:174≠T') (k:Kp [g] w w'):Yi w' base x a:=⟨h.map.farK hc h1 k,h.noise.farK hc h2 k,h.limits.farK hc h2 k⟩
theorem Yi.otherT {g T':Nat} {vs:List Value} (h:Yi w base x a) (hc:Xr w g T' vs) (h1:3≠T') (h2:174≠T') (us:List Value) (o:Nat):Yi (w.setCells g o us) base x a :=
 ⟨h.map.otherC (h.map.typ hc h1) us o,h.noise.otherC (h.noise.typ hc h2) us o,h.limits.otherC (h.limits.typ hc h2) us o⟩
end
end Go.Proofs.YtabfdkpdppemaaaGreat
