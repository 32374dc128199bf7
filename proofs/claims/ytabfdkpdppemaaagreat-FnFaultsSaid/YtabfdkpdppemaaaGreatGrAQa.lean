/-
 Words on memory that the contracts of this claim use: a slice that reads as a list of structs, a slice of the call's own.
 Conditions: none.
-/
import Derived.Test.YtabfdkpdppemaaaGreatRows
import Derived.WalkKit
import Derived.WalkSpells
import Derived.WalkLawsBesides
import Derived.Deep.Draws
import Derived.Lib.Hide
import Derived.Deep.Slices
import Derived.Deep.Fields
import Derived.ChangeSame
import Derived.ArgAppend
import Derived.JoinedOf
import Derived.Test.YtabfdkpdppemaaaGreatKrg
import Derived.Test.YtabfdkpdppemaaaGreatAdi
import Derived.RegionTactic
import Derived.ChangeAlike
import Derived.Deep.DeepCutAuto
import Derived.Deep.RegionHeld3
set_option maxHeartbeats 4000000
set_option maxRecDepth 100000
namespace Go.Proofs.YtabfdkpdppemaaaGreat
open Go.RowKit
section
variable {α:Type} {sz:Nat} {enc:α->List Value} {w w':World} {A:Option Addr} {xs:List α}
end
section
variable {α:Type} {T sz:Nat} {enc:α->List Value} {w w':World} {v:Value} {xs:List α} {base:Nat}
end
section
variable {α:Type} {T sz:Nat} {enc:α->List Value} {w w':World} {g N k:Nat} {xs:List α}
end
section
variable {w w':World} {g:Nat} {vs:List Value}
end
def KV (x:Yy):List Value:=[.int .i64 x.low,.int .i64 x.high]
abbrev modeV (x:Yy):Value:=.agg #[.int .i64 x.low,.int .i64 x.high]
theorem modeC_len (x:Yy):(KV x).length=2:=rfl
theorem j3_FnFaults:(Rows.fnFaultsRow.recurses == Tryz.prog.recurses 4)=true:=by kernel_rfl
theorem j4_FnFaults:(Rows.fnFaultsRow.named == Tryz.prog.varsNamed 4)=true:=by kernel_rfl
theorem j1_FnFaults:(Rows.fnFaultsRow.inPlace == Tryz.prog.inPlace 4)=true:=by kernel_rfl
theorem j2_FnFaults:(Rows.fnFaultsRow.unfollowed == Tryz.prog.unfollowed 4)=true:=by kernel_rfl
section
variable {α:Type} {X:α->α->Int} {D:α->α->α->Int} {L:List α}
end
def det3 (x0 y0 d0 x1 y1 d1 x2 y2 d2:Int):Int:=x0*(y1*d2-y2*d1)-y0*(x1*d2-x2*d1)+d0*(x1*y2-x2*y1)
theorem det_cross (a1 a2 a3 b1 b2 b3 c1 c2 c3 e1 e2 e3:Int) :
 det3 (a3*b2-b3*a2) (a1*b3-b1*a3) (a1*b2-a2*b1) (b3*c2-c3*b2) (b1*c3-c1*b3) (b1*c2-b2*c1) (c3*e2-e3*c2) (c1*e3-e1*c3) (c1*e2-c2*e1) =
 (c3*(a1*b2-a2*b1)-c1*(a3*b2-b3*a2)-c2*(a1*b3-b1*a3))*(e3*(b1*c2-b2*c1)-e1*(b3*c2-c3*b2)-e2*(b1*c3-c1*b3)):=by
 unfold det3;grind
theorem det3_a {f:Half} {x0 y0 d0 x1 y1 d1 x2 y2 d2:Int} (h0:f.a*x0+f.b*y0=f.c*d0) (h1:f.a*x1+f.b*y1=f.c*d1) (h2:f.a*x2+f.b*y2=f.c*d2) :
 det3 x0 y0 d0 x1 y1 d1 x2 y2 d2*f.a=0/\det3 x0 y0 d0 x1 y1 d1 x2 y2 d2*f.b=0:=by
 unfold det3;constructor<;>grind
theorem inner_of {f:Half} (n:Jv f) {x0 y0 d0 x1 y1 d1 x2 y2 d2:Int} (YN:det3 x0 y0 d0 x1 y1 d1 x2 y2 d2≠0) (h0:YA f x0 y0 d0) (h1:YA f x1 y1 d1) (h2:YA f x2 y2 d2) :
 f.a*(x0+x1+x2)+f.b*(y0+y1+y2)<f.c*(d0+d1+d2):=by
 unfold YA at h0 h1 h2;have e:f.a*(x0+x1+x2)+f.b*(y0+y1+y2)=(f.a*x0+f.b*y0)+(f.a*x1+f.b*y1)+(f.a*x2+f.b*y2):=by grind
 have e':f.c*(d0+d1+d2)=f.c*d0+f.c*d1+f.c*d2:=by grind
 rw [e,e'];rcases glt_or ((f.a*x0+f.b*y0)+(f.a*x1+f.b*y1)+(f.a*x2+f.b*y2)) (f.c*d0+f.c*d1+f.c*d2) with h|h
 ·exact h
 ·exfalso;obtain ⟨p,q⟩:=det3_a (f:=f) (x0:=x0) (y0:=y0) (d0:=d0) (x1:=x1) (y1:=y1) (d1:=d1) (x2:=x2) (y2:=y2) (d2:=d2) (by omega) (by omega) (by omega);have p2:=(Int.mul_eq_zero.1 p).resolve_left YN;have q2:=(Int.mul_eq_zero.1 q).resolve_left YN;unfold Jv at n;omega
theorem cr_pos {h g:Half} (x:0<Xz h g):crX h g=h.c*g.b-g.c*h.b/\crY h g=h.a*g.c-g.a*h.c/\KO h g=h.a*g.b-h.b*g.a:=by
 unfold crX crY KO;rw [if_neg (by omega),if_neg (by omega),if_neg (by omega)];exact ⟨rfl,rfl,rfl⟩
structure Jc (lo hi:Int) (ms:List Yy):Prop where
 ok:∀ m∈ms,lo<=m.low/\m.low<=m.high/\m.high<=hi
 len:1<=ms.length
 mem:(⟨lo,hi⟩:Yy)∈ms
end Go.Proofs.YtabfdkpdppemaaaGreat
namespace Go.Proofs.YtabfdkpdppemaaaGreat
open Go.RowKit Go.ChangeShapes Go.WideShapes Go.ChangeAt Go.Deep
theorem Jc.modes {r:Xv} {l:List Yy} (D:Zx r) (h:Jc r.low r.high l) (hl:l.length<=2):X7 r l=true:=by
 unfold X7;have h1:l.all (JS r)=true:=List.all_eq_true.2 λ m hm=>by
  obtain ⟨a,b,c⟩:=h.ok m hm;unfold JS;rw [YP.2 ⟨by omega,by omega⟩,YP.2 ⟨by omega,by omega⟩];rfl
 rw [YP.2 ⟨by have:=h.len;omega,by omega⟩,h1,D.d.ok];rfl
theorem kpO_some {r:Xv} (h:(Yb r).isSome=true):Yb r=some ((Yb r).getD []):=by
 obtain ⟨q,e⟩:=Option.isSome_iff_exists.1 h;rw [e];rfl
end Go.Proofs.YtabfdkpdppemaaaGreat
namespace Go.Proofs.YtabfdkpdppemaaaGreat
open Go.RowKit
def whoN (w:YY):Int:=if (XO w&&Y9 w.low&&Y9 w.high)=true then max (XY w.high-X8 w.low+1) 0 else 0
theorem modes_no {x:Xv} {xs:List Yy} {k:Nat} (h:k<xs.length) (hb:JS x xs[k]=false):xs.all (JS x)=false:=by
 rw [List.all_eq_false];exact ⟨_,List.getElem_mem h,by rw [hb];decide⟩
theorem modes_yes {x:Xv} {xs:List Yy} (h:∀ y∈xs.take xs.length,JS x y=true):xs.all (JS x)=true:=by
 rw [List.take_length] at h;rw [List.all_eq_true];exact h
theorem modes_all {x:Xv} {xs:List Yy} {k:Nat} (h:k<xs.length) (h1:∀ y∈xs.take k,JS x y=true) (h2:JS x xs[k]=true):∀ y∈xs.take (k+1),JS x y=true:=by
 intro y hy;rw [ZE xs k h] at hy;simp only [List.mem_append,List.mem_singleton] at hy;rcases hy with hy|rfl
 ·exact h1 y hy
 ·exact h2
theorem modeIn_iff {x:Xv} {m:Yy}:JS x m=true ↔ x.low<=m.low/\m.low<=m.high/\m.high<=x.high:=by
 simp only [JS,Z7,Bool.and_eq_true,decide_eq_true_eq];omega
theorem iModesOk_c (x:Xv) (a:YO) (M:Option Addr) (ms:List Yy) (mc:Nat) (w:World) (hn:Zs x<=1048576) (hin:KH x) (hl:ms.length<=1048576) (hs:Zw w x a) (hnl:Kz a) (hm:Sl 2 KV w M ms) :
 Calls Tryz.prog 29 #[XQ x a,.slice M ms.length mc] w λ e w'=>e=.returned (.bool (X7 x ms))/\Below w.heap.size w w':=by
 have hdef:=Lib.hid (show X7 x ms=(Z7 ms.length 1 4&&ms.all (JS x)&&XK x) from rfl);have c0:=λ W=>Yk ms.length 1 4 W;have cR:=λ W h=>iRoomOk_c x a W hn hin h hnl;cases e0:Z7 ms.length 1 4
 ·rw [e0] at c0;have h1:=Lib.hid (show X7 x ms=false by rw [hdef.out,e0];rfl);clear hdef cR;go_enter Tryz.func29,Tryz.ntmps29
  go_wp2_with (fail)
  refine (c0 _).mono ?_;rintro e w' ⟨rfl,rfl⟩;go_wp2
  go_ret
  refine ⟨Xo h1.out.symm, ?_⟩;exact XF
 ·rw [e0] at c0;rw [e0] at hdef;have H0:Yi (w.alloc (.cells #[.slice a.map.A (List.length x.map) a.map.c,.int .i64 x.div,.int .i64 x.bx,.int .i64 x.by_,.int .i64 x.low,.int .i64 x.high,.slice a.noise.A (List.length x.noise) a.noise.c,.slice a.limits.A (List.length x.limits) a.limits.c] 28)) w.heap.size [.slice a.map.A (List.length x.map) a.map.c,.int .i64 x.div,.int .i64 x.bx,.int .i64 x.by_,.int .i64 x.low,.int .i64 x.high,.slice a.noise.A (List.length x.noise) a.noise.c,.slice a.limits.A (List.length x.limits) a.limits.c]:=by
   exact ZC
  have b0:Below w.heap.size w (w.alloc (.cells #[.slice a.map.A (List.length x.map) a.map.c,.int .i64 x.div,.int .i64 x.bx,.int .i64 x.by_,.int .i64 x.low,.int .i64 x.high,.slice a.noise.A (List.length x.noise) a.noise.c,.slice a.limits.A (List.length x.limits) a.limits.c] 28)):=by
   exact XF
  have hs0:=hs.below b0;have hm0:=hm.below b0;clear e0 hin;go_enter Tryz.func29,Tryz.ntmps29
  go_wp2_with (fail)
  refine (c0 _).mono ?_;rintro e w' ⟨rfl,rfl⟩;clear c0;go_upto_region 3 with fail
  generalize w.alloc (.cells #[.slice a.map.A (List.length x.map) a.map.c,.int .i64 x.div,.int .i64 x.bx,.int .i64 x.by_,.int .i64 x.low,.int .i64 x.high,.slice a.noise.A (List.length x.noise) a.noise.c,.slice a.limits.A (List.length x.limits) a.limits.c] 28)=w0 at *;go_wp2
  go_loopw [4,6,13] (λ v2 _ i wr=>∃ k:Nat,v2=.bool false/\k<=ms.length/\i=.int .i64 k/\Hid (∀ y∈ms.take k,JS x y=true)/\Below w0.heap.size w0 wr) (λ _ _ i _=>ms.length-(intOf i).toNat)
  case atStart=>exact ⟨0,rfl,Nat.zero_le _,rfl,by simp [Hid],Below.refl _ _⟩
  case round =>
   obtain ⟨k,rfl,hk,rfl,htk,hbr⟩:=hrel;have H1:=H0.below hbr;have b1:=Xh b0 hbr;have hs1:=hs0.below hbr;have l1:=H1.1;obtain ⟨cH1_0,fH1_0⟩:=H1.2 0 _ rfl;obtain ⟨cH1_1,fH1_1⟩:=H1.2 1 _ rfl;obtain ⟨cH1_2,fH1_2⟩:=H1.2 2 _ rfl;obtain ⟨cH1_3,fH1_3⟩:=H1.2 3 _ rfl;obtain ⟨cH1_4,fH1_4⟩:=H1.2 4 _ rfl;obtain ⟨cH1_5,fH1_5⟩:=H1.2 5 _ rfl;obtain ⟨cH1_6,fH1_6⟩:=H1.2 6 _ rfl;obtain ⟨cH1_7,fH1_7⟩:=H1.2 7 _ rfl;by_cases hlt:k<ms.length
   ·obtain ⟨b,off,rfl,hblt,hc⟩:=(hm0.below hbr).at_ hlt;have g0:=hc 0 _ rfl;have g1:=hc 1 _ rfl;simp only [Nat.add_zero] at g0;have hbad:=Lib.hid (λ h=>@modes_no x ms k hlt h);have hgood:=Lib.hid (λ h=>@modes_all x ms k hlt htk.out h);have i1:(k:Int)<(ms.length:Int):=by omega
    clear hc htk;generalize ms[k]=m at *;have hiff:=Lib.hid (@modeIn_iff x m);by_cases hv:JS x m=true
    ·have h1:=Lib.hid (hgood.out hv);obtain ⟨p1,p2,p3⟩:=hiff.out.1 hv;clear hbad hgood hiff hv;go_wp2
     go_roundw
     case rel=>exact ⟨k+1,rfl,by omega,by go_num,h1,by exact XF⟩
     case measure=>simp [intOf];omega
    ·have hv':JS x m=false:=by simpa using hv
     have h1:=Lib.hid (show X7 x ms=false by rw [hdef.out,hbad.out hv'];simp);have hv2:¬ (x.low<=m.low/\m.low<=m.high/\m.high<=x.high):=λ h=>hv (hiff.out.2 h);clear hbad hgood hiff hv hv' hdef;by_cases p1:x.low<=m.low
     ·by_cases p2:m.low<=m.high
      ·have p3:x.high<m.high:=by omega
       clear hv2;go_wp2
       go_ret
       refine ⟨Xo h1.out.symm, ?_⟩;exact XF
      ·have p3:m.high<m.low:=by omega
       clear hv2 p2;go_wp2
       go_ret
       refine ⟨Xo h1.out.symm, ?_⟩;exact XF
     ·have p3:m.low<x.low:=by omega
      clear hv2 p1;go_wp2
      go_ret
      refine ⟨Xo h1.out.symm, ?_⟩;exact XF
   ·obtain rfl:k=ms.length:=by omega
    have h1:=Lib.hid (show X7 x ms=XK x by rw [hdef.out,modes_yes htk.out];rfl);clear htk hdef;go_wp2_with (fail)
    refine (cR _ hs1).mono ?_;rintro e w2 ⟨rfl,hb2⟩;go_wp2
    go_ret
    refine ⟨Xo h1.out.symm, ?_⟩;exact XF
def setR (x:Xv) (lo hi:Int):Xv:=⟨x.map,x.div,x.bx,x.by_,lo,hi,x.noise,x.limits⟩
def room0:Xv:=⟨[],0,0,0,0,0,[],[]⟩
def ZG (x:Xv) (m:Yy):Bool:=X7 x [m]
def Zc (x:Xv) (m:Yy):Xv:=if ZG x m=true then setR x m.low m.high else room0
theorem modeRoom_le (x:Xv) (m:Yy) (h:Zs x<=1048576):Zs (Zc x m)<=1048576:=by
 unfold Zc;split
 ·exact h
 ·decide
theorem modes_map {x:Xv} {ms:List Yy} (h:X7 x ms=true):x.map.length=4:=by
 simp only [X7,Bool.and_eq_true] at h;exact roomOk_map h.2
theorem Sl.some_ {α:Type} {sz c:Nat} {enc:α->List Value} {w:World} {A:Option Addr} {xs:List α} (h:Sl sz enc w A xs) (h0:0<xs.length):A=none->c=0:=by
 intro e;obtain ⟨b,off,e',_⟩:=h h0;rw [e] at e';cases e'
theorem setCell_other_heap (w:World) (p:Addr) (g:Nat) (u:Value) (h:p.block≠g):(w.setCell p u).heap[g]? = w.heap[g]?:=heap_setCell_other w p g u (λ e=>h (by first|exact e|exact e.symm))
theorem XH.ne1 {α:Type} {T sz base n c:Nat} {enc:α->List Value} {w:World} {A:Option Addr} {xs:List α} (h:XH T sz enc w base (.slice A n c) xs) {p:Addr} (hp:∀ q,A=some q->q.block≠p.block) (u:Value):XH T sz enc (w.setCell p u) base (.slice A n c) xs:=by
 obtain ⟨A',c',e,h1,h2⟩:=h;refine ⟨A',c',e,h1, ?_⟩;rcases h2 with h2|⟨g,cap',cur,hv,hg,hh,r⟩
 ·exact .inl h2
 ·refine .inr ⟨g,cap',cur,hv,hg,(setCell_other_heap w p g u (λ e2=>?_)).trans hh,r⟩;injection hv with hv _ _
  exact hp ⟨g,0,none⟩ hv e2.symm
theorem Yr.ne1 {w:World} {base:Nat} {x:Xv} {a:YO} (h:Yr w base x a) {p:Addr} (hp:∀ c∈[a.map,a.noise,a.limits],∀ q,c.A=some q->q.block≠p.block) (u:Value):Yr (w.setCell p u) base x a :=
 ⟨h.map.ne1 (hp a.map (by simp)) u,⟨h.noise.halves.ne1 (hp a.noise (by simp)) u⟩,⟨h.limits.halves.ne1 (hp a.limits (by simp)) u⟩,h.apart⟩
theorem mode_sl {w:World} {g:Nat} {m:Yy} (h:Yi w g [.int .i64 m.low,.int .i64 m.high]):Sl 2 KV w (some ⟨g,0,none⟩) [m]:=by
 intro _;refine ⟨g,0,rfl,h.1,λ i hi j u hu=>?_⟩;obtain rfl:i=0:=by simp at hi;omega
 have:=h.2 j u hu;simpa using this.1
theorem iInMode_c (x:Xv) (a:YO) (m:Yy) (w:World) (hn:Zs x<=1048576) (hs:Zw w x a) :
 Calls Tryz.prog 116 #[XQ x a,modeV m] w λ e w'=>∃ b,e=.returned (XQ (setR x m.low m.high) b)/\Yr w' w.heap.size (setR x m.low m.high) b/\Below w.heap.size w w':=by
 have c1:=λ W h=>iCopyRoom_c x a W hn h;obtain ⟨W,hW⟩:∃ W,W=((w.alloc (.cells #[.slice a.map.A (List.length x.map) a.map.c,.int .i64 x.div,.int .i64 x.bx,.int .i64 x.by_,.int .i64 x.low,.int .i64 x.high,.slice a.noise.A (List.length x.noise) a.noise.c,.slice a.limits.A (List.length x.limits) a.limits.c] 28)).alloc (.cells #[.int .i64 m.low,.int .i64 m.high] 66)).alloc (.cells #[.slice none 0 0,.int .i64 0,.int .i64 0,.int .i64 0,.int .i64 0,.int .i64 0,.slice none 0 0,.slice none 0 0] 28):=⟨_,rfl⟩;have HR:Yi W (w.heap.size+1+1) [.slice none 0 0,.int .i64 0,.int .i64 0,.int .i64 0,.int .i64 0,.int .i64 0,.slice none 0 0,.slice none 0 0]:=by
  rw [hW];exact ZC
 have HM:Yi W (w.heap.size+1) [.int .i64 m.low,.int .i64 m.high]:=by
  rw [hW];exact ZC
 have HB:Yi W w.heap.size [.slice a.map.A (List.length x.map) a.map.c,.int .i64 x.div,.int .i64 x.bx,.int .i64 x.by_,.int .i64 x.low,.int .i64 x.high,.slice a.noise.A (List.length x.noise) a.noise.c,.slice a.limits.A (List.length x.limits) a.limits.c]:=by
  rw [hW];exact ZC
 have b0:Below w.heap.size w W:=by
  rw [hW];exact XF
 have Ye:W.heap.size=w.heap.size+1+1+1:=by rw [hW];simp
 have hlt:w.heap.size+1+1<W.heap.size:=by omega
 have hlt1:w.heap.size+1<W.heap.size:=by omega
 have hlt2:w.heap.size<W.heap.size:=by omega
 have hW':=Lib.hid hW;have hs0:=hs.below b0;clear hW Ye hs;go_enter Tryz.func116,Tryz.ntmps116
 go_upto_region 1 with fail
 rw [<- hW'.out];clear hW';obtain ⟨cHB_0,fHB_0⟩:=HB.2 0 _ rfl;obtain ⟨cHB_1,fHB_1⟩:=HB.2 1 _ rfl;obtain ⟨cHB_2,fHB_2⟩:=HB.2 2 _ rfl;obtain ⟨cHB_3,fHB_3⟩:=HB.2 3 _ rfl;obtain ⟨cHB_4,fHB_4⟩:=HB.2 4 _ rfl;obtain ⟨cHB_5,fHB_5⟩:=HB.2 5 _ rfl;obtain ⟨cHB_6,fHB_6⟩:=HB.2 6 _ rfl;obtain ⟨cHB_7,fHB_7⟩:=HB.2 7 _ rfl;go_wp2_with (fail)
 refine (c1 _ hs0).mono ?_;rintro e w1 ⟨b,rfl,N1,hb1⟩;have HM1:=(HM.below hb1).alloc (.cells #[.slice b.map.A (List.length x.map) b.map.c,.int .i64 x.div,.int .i64 x.bx,.int .i64 x.by_,.int .i64 x.low,.int .i64 x.high,.slice b.noise.A (List.length x.noise) b.noise.c,.slice b.limits.A (List.length x.limits) b.limits.c] 28);have HR1:=(HR.below hb1).alloc (.cells #[.slice b.map.A (List.length x.map) b.map.c,.int .i64 x.div,.int .i64 x.bx,.int .i64 x.by_,.int .i64 x.low,.int .i64 x.high,.slice b.noise.A (List.length x.noise) b.noise.c,.slice b.limits.A (List.length x.limits) b.limits.c] 28);have b1:=Xc (Xh b0 hb1) (.cells #[.slice b.map.A (List.length x.map) b.map.c,.int .i64 x.div,.int .i64 x.bx,.int .i64 x.by_,.int .i64 x.low,.int .i64 x.high,.slice b.noise.A (List.length x.noise) b.noise.c,.slice b.limits.A (List.length x.limits) b.limits.c] 28);have z1:=hb1.size;have HT:Yi (w1.alloc (.cells #[.slice b.map.A (List.length x.map) b.map.c,.int .i64 x.div,.int .i64 x.bx,.int .i64 x.by_,.int .i64 x.low,.int .i64 x.high,.slice b.noise.A (List.length x.noise) b.noise.c,.slice b.limits.A (List.length x.limits) b.limits.c] 28)) w1.heap.size [.slice b.map.A (List.length x.map) b.map.c,.int .i64 x.div,.int .i64 x.bx,.int .i64 x.by_,.int .i64 x.low,.int .i64 x.high,.slice b.noise.A (List.length x.noise) b.noise.c,.slice b.limits.A (List.length x.limits) b.limits.c]:=Yi.new _ _ _;have N2:=N1.below (Xc bR (.cells #[.slice b.map.A (List.length x.map) b.map.c,.int .i64 x.div,.int .i64 x.bx,.int .i64 x.by_,.int .i64 x.low,.int .i64 x.high,.slice b.noise.A (List.length x.noise) b.noise.c,.slice b.limits.A (List.length x.limits) b.limits.c] 28)) Xf;have BK:=N1.blkL;have lT:w1.heap.size<(w1.alloc (.cells #[.slice b.map.A (List.length x.map) b.map.c,.int .i64 x.div,.int .i64 x.bx,.int .i64 x.by_,.int .i64 x.low,.int .i64 x.high,.slice b.noise.A (List.length x.noise) b.noise.c,.slice b.limits.A (List.length x.limits) b.limits.c] 28)).heap.size:=by simp
 clear N1 hb1 HB HM HR cHB_0 cHB_1 cHB_2 cHB_3 cHB_4 cHB_5 cHB_6 cHB_7 fHB_0 fHB_1 fHB_2 fHB_3 fHB_4 fHB_5 fHB_6 fHB_7 b0 hs0;go_upto_region 2 with fail
 generalize w1.alloc (.cells #[.slice b.map.A (List.length x.map) b.map.c,.int .i64 x.div,.int .i64 x.bx,.int .i64 x.by_,.int .i64 x.low,.int .i64 x.high,.slice b.noise.A (List.length x.noise) b.noise.c,.slice b.limits.A (List.length x.limits) b.limits.c] 28)=w2 at *;have lM:=HM1.1;have lR:=HR1.1;have hgb:w.heap.size+1+1<w1.heap.size:=by omega
 have hne:=BK.ne (g:=w1.heap.size) (.inr Xf);have hwW:w.heap.size<=W.heap.size:=by omega
 generalize w1.heap.size=g at *;clear z1 c1;obtain ⟨cHM1_0,fHM1_0⟩:=HM1.2 0 _ rfl;obtain ⟨cHM1_1,fHM1_1⟩:=HM1.2 1 _ rfl;obtain ⟨cHT_0,fHT_0⟩:=HT.2 0 _ rfl;obtain ⟨cHT_1,fHT_1⟩:=HT.2 1 _ rfl;obtain ⟨cHT_2,fHT_2⟩:=HT.2 2 _ rfl;obtain ⟨cHT_3,fHT_3⟩:=HT.2 3 _ rfl;obtain ⟨cHT_4,fHT_4⟩:=HT.2 4 _ rfl;obtain ⟨cHT_5,fHT_5⟩:=HT.2 5 _ rfl;obtain ⟨cHT_6,fHT_6⟩:=HT.2 6 _ rfl;obtain ⟨cHT_7,fHT_7⟩:=HT.2 7 _ rfl;have K1:=HT.put 4 (by simp) (.int .i64 m.low);have HR2:=HR1.set_ (p:=⟨g,4,none⟩) (by simp only;omega) (.int .i64 m.low);have K2:=K1.put 5 (by simp) (.int .i64 m.high);have HR3:=HR2.set_ (p:=⟨g,5,none⟩) (by simp only;omega) (.int .i64 m.high);have b2:=(b1.setCell (p:=⟨g,4,none⟩) (by simp only;omega) (.int .i64 m.low)).setCell (p:=⟨g,5,none⟩) (by simp only;omega) (.int .i64 m.high);simp only [List.set_cons_succ,List.set_cons_zero] at K2;have N3:=(N2.ne1 (p:=⟨g,4,none⟩) hne (.int .i64 m.low)).ne1 (p:=⟨g,5,none⟩) hne (.int .i64 m.high);clear K1 HR2 HR1 HM1 b1 N2 HT;go_cut [5] (λ x5 wx=>∃ W',W'=wx/\x5=.pointer (some ⟨g,0,none⟩)/\wx=((w2.setCell ⟨g,4,none⟩ (.int .i64 m.low)).setCell ⟨g,5,none⟩ (.int .i64 m.high)).drew)
 case first =>
  go_region
  all_goals
   go_wp2_with fail
   go_meet
   exact ⟨_,rfl,rfl,rfl⟩
 case rest =>
  obtain ⟨W',rfl,rfl,e⟩:=hcut;have K3:Yi W' g [.slice b.map.A (List.length x.map) b.map.c,.int .i64 x.div,.int .i64 x.bx,.int .i64 x.by_,.int .i64 m.low,.int .i64 m.high,.slice b.noise.A (List.length x.noise) b.noise.c,.slice b.limits.A (List.length x.limits) b.limits.c]:=by rw [e];exact K2
  have R3:Yi W' (w.heap.size+1+1) [.slice none 0 0,.int .i64 0,.int .i64 0,.int .i64 0,.int .i64 0,.int .i64 0,.slice none 0 0,.slice none 0 0]:=by rw [e];exact HR3
  have B3:Below w.heap.size w W':=by rw [e];exact b2.drew
  have N4:Yr W' W.heap.size x b:=by rw [e];exact N3.drew
  clear e K2 HR3 b2 N3 cHM1_0 cHM1_1 cHT_0 cHT_1 cHT_2 cHT_3 cHT_4 cHT_5 cHT_6 cHT_7;have lK:=K3.1;have lR3:=R3.1;obtain ⟨cK3_0,fK3_0⟩:=K3.2 0 _ rfl;obtain ⟨cK3_1,fK3_1⟩:=K3.2 1 _ rfl;obtain ⟨cK3_2,fK3_2⟩:=K3.2 2 _ rfl;obtain ⟨cK3_3,fK3_3⟩:=K3.2 3 _ rfl;obtain ⟨cK3_4,fK3_4⟩:=K3.2 4 _ rfl;obtain ⟨cK3_5,fK3_5⟩:=K3.2 5 _ rfl;obtain ⟨cK3_6,fK3_6⟩:=K3.2 6 _ rfl;obtain ⟨cK3_7,fK3_7⟩:=K3.2 7 _ rfl;obtain ⟨cR3_0,fR3_0⟩:=R3.2 0 _ rfl;obtain ⟨cR3_1,fR3_1⟩:=R3.2 1 _ rfl;obtain ⟨cR3_2,fR3_2⟩:=R3.2 2 _ rfl;obtain ⟨cR3_3,fR3_3⟩:=R3.2 3 _ rfl;obtain ⟨cR3_4,fR3_4⟩:=R3.2 4 _ rfl;obtain ⟨cR3_5,fR3_5⟩:=R3.2 5 _ rfl;obtain ⟨cR3_6,fR3_6⟩:=R3.2 6 _ rfl;obtain ⟨cR3_7,fR3_7⟩:=R3.2 7 _ rfl;go_wp2
  refine bodyPost_ret (v:=.agg #[.slice b.map.A (List.length x.map) b.map.c,.int .i64 x.div,.int .i64 x.bx,.int .i64 x.by_,.int .i64 m.low,.int .i64 m.high,.slice b.noise.A (List.length x.noise) b.noise.c,.slice b.limits.A (List.length x.limits) b.limits.c]) (by simp [results,Tryz.results116,go_sem,cR3_0,cR3_1,cR3_2,cR3_3,cR3_4,cR3_5,cR3_6,cR3_7]) rfl ⟨b,rfl,⟨?_,⟨?_⟩,⟨?_⟩,N4.apart⟩, ?_⟩
  ·exact (N4.map.lowC (q:=⟨w.heap.size+1+1,0,none⟩) (by simp only;omega) [_,_,_,_,_,_,_,_]).mono (by omega)
  ·exact (N4.noise.halves.lowC (q:=⟨w.heap.size+1+1,0,none⟩) (by simp only;omega) [_,_,_,_,_,_,_,_]).mono (by omega)
  ·exact (N4.limits.halves.lowC (q:=⟨w.heap.size+1+1,0,none⟩) (by simp only;omega) [_,_,_,_,_,_,_,_]).mono (by omega)
  ·exact KN B3 (by omega) (o:=0) [_,_,_,_,_,_,_,_]
theorem iModeRoom_c (x:Xv) (a:YO) (m:Yy) (w:World) (hn:Zs x<=1048576) (hin:KH x) (_:m.In) (hs:Zw w x a) (hnl:Kz a) :
 Calls Tryz.prog 33 #[XQ x a,modeV m] w λ e w'=>∃ b,e=.returned (.tuple #[XQ (Zc x m) b,.bool (ZG x m)])/\Yr w' w.heap.size (Zc x m) b/\Below w.heap.size w w':=by
 have c1:=λ W M c h h2=>iModesOk_c x a M [m] c W hn hin (by simp) h hnl h2;have c2:=λ W h (hmn:a.map.A=none->a.map.c=0)=>iInMode_c x a m W hn h;have hdef:=Lib.hid (show ZG x m=X7 x [m]/\Zc x m=if ZG x m=true then setR x m.low m.high else room0 from ⟨rfl,rfl⟩);have hmp:=Lib.hid (@modes_map x [m]);obtain ⟨W,hW⟩:∃ W,W=((w.alloc (.cells #[.slice a.map.A (List.length x.map) a.map.c,.int .i64 x.div,.int .i64 x.bx,.int .i64 x.by_,.int .i64 x.low,.int .i64 x.high,.slice a.noise.A (List.length x.noise) a.noise.c,.slice a.limits.A (List.length x.limits) a.limits.c] 28)).alloc (.cells #[.int .i64 m.low,.int .i64 m.high] 66)).alloc (.cells #[.slice none 0 0,.int .i64 0,.int .i64 0,.int .i64 0,.int .i64 0,.int .i64 0,.slice none 0 0,.slice none 0 0] 28):=⟨_,rfl⟩;have HR:Yi W (w.heap.size+1+1) [.slice none 0 0,.int .i64 0,.int .i64 0,.int .i64 0,.int .i64 0,.int .i64 0,.slice none 0 0,.slice none 0 0]:=by
  rw [hW];exact ZC
 have HM:Yi W (w.heap.size+1) [.int .i64 m.low,.int .i64 m.high]:=by
  rw [hW];exact ZC
 have HB:Yi W w.heap.size [.slice a.map.A (List.length x.map) a.map.c,.int .i64 x.div,.int .i64 x.bx,.int .i64 x.by_,.int .i64 x.low,.int .i64 x.high,.slice a.noise.A (List.length x.noise) a.noise.c,.slice a.limits.A (List.length x.limits) a.limits.c]:=by
  rw [hW];exact ZC
 have b0:Below w.heap.size w W:=by
  rw [hW];exact XF
 have Ye:W.heap.size=w.heap.size+1+1+1:=by rw [hW];simp
 have hlt:w.heap.size+1+1<W.heap.size:=by omega
 have hlt1:w.heap.size+1<W.heap.size:=by omega
 have hlt2:w.heap.size<W.heap.size:=by omega
 have HL:Yi (W.alloc (.cells #[.int .i64 m.low,.int .i64 m.high] 66)) (w.heap.size+1+1+1) [.int .i64 m.low,.int .i64 m.high]:=Yi.new_at Ye.symm _ _ rfl;have hml:=mode_sl HL;have hW':=Lib.hid hW;have hs0:=hs.below b0;have hs1:=hs0.below (Xc (Below.refl W.heap.size W) (.cells #[.int .i64 m.low,.int .i64 m.high] 66));have HR1:=HR.alloc (.cells #[.int .i64 m.low,.int .i64 m.high] 66);have HM1:=HM.alloc (.cells #[.int .i64 m.low,.int .i64 m.high] 66);have HB1:=HB.alloc (.cells #[.int .i64 m.low,.int .i64 m.high] 66);have b1:=Xc b0 (.cells #[.int .i64 m.low,.int .i64 m.high] 66);have hszH:=Lib.hid Ye;clear hW Ye hs;cases e1:X7 x [m]
 ·rw [e1] at c1;have h1:=Lib.hid (show ZG x m=false by rw [hdef.out.1,e1]);have h2:=Lib.hid (show Zc x m=room0 by rw [hdef.out.2,h1.out];rfl);clear e1 hdef c2 hmp;go_enter Tryz.func33,Tryz.ntmps33
  go_upto_region 1 with fail
  rw [<- hW'.out];clear hW';obtain ⟨cHB_0,fHB_0⟩:=HB.2 0 _ rfl;obtain ⟨cHB_1,fHB_1⟩:=HB.2 1 _ rfl;obtain ⟨cHB_2,fHB_2⟩:=HB.2 2 _ rfl;obtain ⟨cHB_3,fHB_3⟩:=HB.2 3 _ rfl;obtain ⟨cHB_4,fHB_4⟩:=HB.2 4 _ rfl;obtain ⟨cHB_5,fHB_5⟩:=HB.2 5 _ rfl;obtain ⟨cHB_6,fHB_6⟩:=HB.2 6 _ rfl;obtain ⟨cHB_7,fHB_7⟩:=HB.2 7 _ rfl;obtain ⟨cHM_0,fHM_0⟩:=HM.2 0 _ rfl;obtain ⟨cHM_1,fHM_1⟩:=HM.2 1 _ rfl;go_wp2_with (fail)
  refine (c1 _ _ _ (by simpa using hs1) (by rw [hszH.out];exact hml)).mono ?_;rintro e w1 ⟨rfl,hb1⟩;have R1:=HR1.below hb1;have B1:=Xh b1 hb1;have lR:=R1.1;clear hb1;obtain ⟨cR1_0,fR1_0⟩:=R1.2 0 _ rfl;obtain ⟨cR1_1,fR1_1⟩:=R1.2 1 _ rfl;obtain ⟨cR1_2,fR1_2⟩:=R1.2 2 _ rfl;obtain ⟨cR1_3,fR1_3⟩:=R1.2 3 _ rfl;obtain ⟨cR1_4,fR1_4⟩:=R1.2 4 _ rfl;obtain ⟨cR1_5,fR1_5⟩:=R1.2 5 _ rfl;obtain ⟨cR1_6,fR1_6⟩:=R1.2 6 _ rfl;obtain ⟨cR1_7,fR1_7⟩:=R1.2 7 _ rfl;go_wp2
  rw [h1.out,h2.out];refine bodyPost_ret (v:=.tuple #[.agg #[.slice none 0 0,.int .i64 0,.int .i64 0,.int .i64 0,.int .i64 0,.int .i64 0,.slice none 0 0,.slice none 0 0],.bool false]) (by simp [results,Tryz.results33,go_sem,cR1_0,cR1_1,cR1_2,cR1_3,cR1_4,cR1_5,cR1_6,cR1_7]) rfl ⟨⟨⟨none,0⟩,⟨none,0⟩,⟨none,0⟩⟩,rfl,⟨⟨none,0,rfl,World.ownsRow_nil _ _ _ _⟩,⟨⟨none,0,rfl,World.ownsRow_nil _ _ _ _⟩⟩,⟨⟨none,0,rfl,World.ownsRow_nil _ _ _ _⟩⟩, ?_⟩, ?_⟩
  ·simp [Apart]
  ·exact KN B1 (by omega) (o:=0) [_,_,_,_,_,_,_,_]
 ·rw [e1] at c1;have h1:=Lib.hid (show ZG x m=true by rw [hdef.out.1,e1]);have h2:=Lib.hid (show Zc x m=setR x m.low m.high by rw [hdef.out.2,h1.out];rfl);have h4:=hmp.out e1;have hmn:=Lib.hid (show a.map.A=none->a.map.c=0 from hs0.map.some_ (by omega));clear e1 hdef hmp h4;go_enter Tryz.func33,Tryz.ntmps33
  go_upto_region 1 with fail
  rw [<- hW'.out];clear hW';obtain ⟨cHB_0,fHB_0⟩:=HB.2 0 _ rfl;obtain ⟨cHB_1,fHB_1⟩:=HB.2 1 _ rfl;obtain ⟨cHB_2,fHB_2⟩:=HB.2 2 _ rfl;obtain ⟨cHB_3,fHB_3⟩:=HB.2 3 _ rfl;obtain ⟨cHB_4,fHB_4⟩:=HB.2 4 _ rfl;obtain ⟨cHB_5,fHB_5⟩:=HB.2 5 _ rfl;obtain ⟨cHB_6,fHB_6⟩:=HB.2 6 _ rfl;obtain ⟨cHB_7,fHB_7⟩:=HB.2 7 _ rfl;obtain ⟨cHM_0,fHM_0⟩:=HM.2 0 _ rfl;obtain ⟨cHM_1,fHM_1⟩:=HM.2 1 _ rfl;go_wp2_with (fail)
  refine (c1 _ _ _ (by simpa using hs1) (by rw [hszH.out];exact hml)).mono ?_;rintro e w1 ⟨rfl,hb1⟩;have R1:=HR1.below hb1;have M1:=HM1.below hb1;have D1:=HB1.below hb1;have B1:=Xh b1 hb1;have hs2:=hs1.below hb1;have lR:=R1.1;have lM:=M1.1;have lD:=D1.1;clear hb1 HR1 HM1 HB1 HB HM HR HL hml b0 b1 hs0 hs1 cHB_0 cHB_1 cHB_2 cHB_3 cHB_4 cHB_5 cHB_6 cHB_7 fHB_0 fHB_1 fHB_2 fHB_3 fHB_4 fHB_5 fHB_6 fHB_7 cHM_0 cHM_1 fHM_0 fHM_1;obtain ⟨cD1_0,fD1_0⟩:=D1.2 0 _ rfl;obtain ⟨cD1_1,fD1_1⟩:=D1.2 1 _ rfl;obtain ⟨cD1_2,fD1_2⟩:=D1.2 2 _ rfl;obtain ⟨cD1_3,fD1_3⟩:=D1.2 3 _ rfl;obtain ⟨cD1_4,fD1_4⟩:=D1.2 4 _ rfl;obtain ⟨cD1_5,fD1_5⟩:=D1.2 5 _ rfl;obtain ⟨cD1_6,fD1_6⟩:=D1.2 6 _ rfl;obtain ⟨cD1_7,fD1_7⟩:=D1.2 7 _ rfl;obtain ⟨cM1_0,fM1_0⟩:=M1.2 0 _ rfl;obtain ⟨cM1_1,fM1_1⟩:=M1.2 1 _ rfl;go_wp2_with (fail)
  refine (c2 _ hs2 hmn.out).mono ?_;rintro e w2 ⟨b,rfl,N2,hb2⟩;have R2:=R1.below hb2;have B2:=Xh B1 hb2;have lR2:=R2.1;clear hb2 R1 M1 D1;obtain ⟨cR2_0,fR2_0⟩:=R2.2 0 _ rfl;obtain ⟨cR2_1,fR2_1⟩:=R2.2 1 _ rfl;obtain ⟨cR2_2,fR2_2⟩:=R2.2 2 _ rfl;obtain ⟨cR2_3,fR2_3⟩:=R2.2 3 _ rfl;obtain ⟨cR2_4,fR2_4⟩:=R2.2 4 _ rfl;obtain ⟨cR2_5,fR2_5⟩:=R2.2 5 _ rfl;obtain ⟨cR2_6,fR2_6⟩:=R2.2 6 _ rfl;obtain ⟨cR2_7,fR2_7⟩:=R2.2 7 _ rfl;go_wp2
  rw [h1.out,h2.out];refine bodyPost_ret (v:=.tuple #[.agg #[.slice b.map.A (List.length x.map) b.map.c,.int .i64 x.div,.int .i64 x.bx,.int .i64 x.by_,.int .i64 m.low,.int .i64 m.high,.slice b.noise.A (List.length x.noise) b.noise.c,.slice b.limits.A (List.length x.limits) b.limits.c],.bool true]) (by simp [results,Tryz.results33,go_sem,setR,cR2_0,cR2_1,cR2_2,cR2_3,cR2_4,cR2_5,cR2_6,cR2_7]) rfl ⟨b,rfl,⟨?_,⟨?_⟩,⟨?_⟩,N2.apart⟩, ?_⟩
  ·exact (N2.map.lowC (q:=⟨w.heap.size+1+1,0,none⟩) (by simp only;omega) [_,_,_,_,_,_,_,_]).mono (by omega)
  ·exact (N2.noise.halves.lowC (q:=⟨w.heap.size+1+1,0,none⟩) (by simp only;omega) [_,_,_,_,_,_,_,_]).mono (by omega)
  ·exact (N2.limits.halves.lowC (q:=⟨w.heap.size+1+1,0,none⟩) (by simp only;omega) [_,_,_,_,_,_,_,_]).mono (by omega)
  ·exact KN B2 (by omega) (o:=0) [_,_,_,_,_,_,_,_]
def Xs:Yy:=⟨0,0⟩
def Zr (r:Xv) (m:Yy):Xv:=setR r m.low m.high
theorem inM_ok {r:Xv} {l:List Yy} (h:X7 r l=true):∀ m∈l,XK (Zr r m)=true:=by
 intro m hm;simp only [X7,Bool.and_eq_true] at h;have h3:=modeIn_iff.1 (List.all_eq_true.1 h.1.2 m hm);have h4:=h.2;have B:=J9 h4;have b1:=B.low;have b2:=B.high;simp only [XK,turnOk,Bool.and_eq_true] at h4 ⊢;obtain ⟨⟨⟨⟨⟨⟨⟨g1,g2⟩,g3⟩,_⟩,g5⟩,g6⟩,g7⟩,g8⟩:=h4;refine ⟨⟨⟨⟨⟨⟨⟨g1,g2⟩,g3⟩, ?_, ?_⟩,g5⟩,g6⟩,g7⟩,g8⟩
 ·exact YP.2 ⟨by show -1000<=m.low;omega,by show m.low<=1000;omega⟩
 ·exact YP.2 ⟨h3.2.1,by show m.high<=1000;omega⟩
theorem modes_room {r:Xv} {l:List Yy} (h:X7 r l=true):XK r=true/\1<=l.length/\l.length<=4:=by
 simp only [X7,Bool.and_eq_true] at h;have:=YP.1 h.1.1;exact ⟨h.2,by omega,by omega⟩
theorem inM_in {r:Xv} {m:Yy} (h:KH r) (hm:m.In):KH (Zr r m):=⟨h.map,h.div,h.bx,h.by_,hm.1,hm.2,h.noise,h.limits⟩
def modA (r:Xv) (l:List Yy) (p:List Half) (s:XJ) (k:Nat):Option YY:=XG (Zr r (l.getD k Xs)) p s
def sfK (r:Xv) (l:List Yy) (p:List Half) (s:XJ):Nat->List Int
 | 0=>[]
 | k+1=>if (modA r l p s k).isSome=true then sfK r l p s k++[(k:Int)] else sfK r l p s k
def sfR (r:Xv) (l:List Yy) (p:List Half) (s:XJ):List Int:=if X7 r l=true then sfK r l p s l.length else []
theorem sfK_yes {r:Xv} {l:List Yy} {p:List Half} {s:XJ} {k:Nat} (h:(modA r l p s k).isSome=true):sfK r l p s (k+1)=sfK r l p s k++[(k:Int)]:=by rw [sfK,if_pos h]
theorem sfK_no {r:Xv} {l:List Yy} {p:List Half} {s:XJ} {k:Nat} (h:(modA r l p s k).isSome=false):sfK r l p s (k+1)=sfK r l p s k:=by rw [sfK,if_neg (by rw [h];simp)]
theorem sfK_len (r:Xv) (l:List Yy) (p:List Half) (s:XJ):∀ k,(sfK r l p s k).length<=k
 | 0=>Nat.le_refl _
 | k+1=>by
  have:=sfK_len r l p s k;rw [sfK];split
  ·rw [List.length_append];simp only [List.length_cons,List.length_nil];omega
  ·omega
def wkN (r:Xv) (l:List Yy) (p:List Half) (s:XJ) (k:Nat):Int:=whoN ((modA r l p s k).getD Xp)
def wkS (r:Xv) (l:List Yy) (p:List Half) (s:XJ):Nat->Int × Int
 | 0=>(-1,0)
 | k+1=>if ((wkS r l p s k).1<0∨wkN r l p s k<(wkS r l p s k).2) then ((k:Int),wkN r l p s k) else wkS r l p s k
def wkAll (r:Xv) (l:List Yy) (p:List Half) (s:XJ) (k:Nat):Bool:=(List.range k).all λ i=>(modA r l p s i).isSome
def wkR (r:Xv) (l:List Yy) (p:List Half) (s:XJ):Int:=if X7 r l=true then (match (List.range l.length).find? (λ i=>!(modA r l p s i).isSome) with|some i=>(i:Int)|none=>(wkS r l p s l.length).1) else -1
theorem wkAll_next {r:Xv} {l:List Yy} {p:List Half} {s:XJ} {k:Nat} (h:wkAll r l p s k=true) (h2:(modA r l p s k).isSome=true):wkAll r l p s (k+1)=true:=by
 unfold wkAll at h ⊢;rw [List.range_succ,List.all_append,h];simp [h2]
theorem wk_stop {r:Xv} {l:List Yy} {p:List Half} {s:XJ} {k:Nat} (hm:X7 r l=true) (hk:k<l.length) (h:wkAll r l p s k=true) (h2:(modA r l p s k).isSome=false):wkR r l p s=(k:Int):=by
 unfold wkR;rw [if_pos hm];have:(List.range l.length).find? (λ i=>!(modA r l p s i).isSome)=some k:=by
  rw [List.find?_range_eq_some];refine ⟨by rw [h2];rfl,List.mem_range.2 hk,λ j hj=>?_⟩;unfold wkAll at h;rw [List.all_eq_true] at h;rw [h j (List.mem_range.2 hj)];rfl
 rw [this]
theorem wk_end {r:Xv} {l:List Yy} {p:List Half} {s:XJ} (hm:X7 r l=true) (h:wkAll r l p s l.length=true):wkR r l p s=(wkS r l p s l.length).1:=by
 unfold wkR;rw [if_pos hm];have:(List.range l.length).find? (λ i=>!(modA r l p s i).isSome)=none:=by
  rw [List.find?_eq_none];unfold wkAll at h;rw [List.all_eq_true] at h;intro i hi;rw [h i hi];simp
 rw [this]
theorem wk_no {r:Xv} {l:List Yy} {p:List Half} {s:XJ} (hm:X7 r l=false):wkR r l p s = -1:=by
 unfold wkR;rw [if_neg (by rw [hm];simp)]
theorem sf_no {r:Xv} {l:List Yy} {p:List Half} {s:XJ} (hm:X7 r l=false):sfR r l p s=[]:=by
 unfold sfR;rw [if_neg (by rw [hm];simp)]
theorem sf_yes {r:Xv} {l:List Yy} {p:List Half} {s:XJ} (hm:X7 r l=true):sfR r l p s=sfK r l p s l.length:=by
 unfold sfR;rw [if_pos hm]
theorem wkS_upd {r:Xv} {l:List Yy} {p:List Half} {s:XJ} {k:Nat} (h:(wkS r l p s k).1<0∨wkN r l p s k<(wkS r l p s k).2):wkS r l p s (k+1)=((k:Int),wkN r l p s k):=by rw [wkS,if_pos h]
theorem wkS_keep {r:Xv} {l:List Yy} {p:List Half} {s:XJ} {k:Nat} (h1:¬ (wkS r l p s k).1<0) (h2:¬ wkN r l p s k<(wkS r l p s k).2):wkS r l p s (k+1)=wkS r l p s k:=by rw [wkS,if_neg (by omega)]
theorem iIsWithin_c (p q:List Half) (a b:Ks) (w:World) (hp:Xe p=true) (hq:Xe q=true) (hsp:Sl 3 Xg w a.A p) (hsq:Sl 3 Xg w b.A q) (hna:a.A=none->a.c=0) (hnb:b.A=none->b.c=0) :
 Calls Tryz.prog 30 #[Zt p a,Zt q b] w λ e w'=>e=.returned (.bool (Yg p q))/\Below w.heap.size w w':=by
 have hlp:=Yo hp;have hlq:=Yo hq;have k1:=λ W h=>Z9 p a W (by omega) (λ h hh=>hIn (JR (Zo hp h hh))) h hna;have k2:=λ W h=>Z9 q b W (by omega) (λ h hh=>hIn (JR (Zo hq h hh))) h hnb;have k3:=λ W h1 h2=>iWithin_c p q a b W hp hq h1 h2;rw [hp] at k1;rw [hq] at k2;generalize Yg p q=r at *;obtain ⟨W,hW⟩:∃ W,W=(w.alloc (.cells #[.slice a.A p.length a.c] 26)).alloc (.cells #[.slice b.A q.length b.c] 26):=⟨_,rfl⟩;have HA:Yi W w.heap.size [.slice a.A p.length a.c]:=by rw [hW];exact ZC
 have HB:Yi W (w.heap.size+1) [.slice b.A q.length b.c]:=by rw [hW];exact ZC
 have b0:Below w.heap.size w W:=by rw [hW];exact XF
 have sp:=hsp.below b0;have sq:=hsq.below b0;have hW':=Lib.hid hW;clear hW hsp hsq hp hq;obtain ⟨cHA_0,fHA_0⟩:=HA.2 0 _ rfl;obtain ⟨cHB_0,fHB_0⟩:=HB.2 0 _ rfl;have lA:=HA.1;have lB:=HB.1;go_enter Tryz.func30,Tryz.ntmps30
 go_upto_region 1 with fail
 rw [<- hW'.out];clear hW';go_wp2_with (fail)
 refine (k1 _ sp).mono ?_;rintro e w3 ⟨rfl,hb_w3⟩;have r_w3:=XI hb_w3;have l_w3_0:w.heap.size<w3.heap.size:=XT hb_w3;have l_w3_1:w.heap.size+1<w3.heap.size:=XT hb_w3;go_wp2_with (fail)
 refine (k2 _ (sq.below (by exact XF))).mono ?_;rintro e w4 ⟨rfl,hb_w4⟩;have r_w4:=XI hb_w4;have l_w4_0:w.heap.size<w4.heap.size:=XT hb_w4;have l_w4_1:w.heap.size+1<w4.heap.size:=XT hb_w4;go_wp2_with (fail)
 refine (k3 _ (sp.below (by exact XF)) (sq.below (by exact XF))).mono ?_;rintro e w5 ⟨rfl,hb_w5⟩;have r_w5:=XI hb_w5;have l_w5_0:w.heap.size<w5.heap.size:=XT hb_w5;have l_w5_1:w.heap.size+1<w5.heap.size:=XT hb_w5;go_wp2
 go_ret
 refine ⟨rfl, ?_⟩;exact XF
theorem reg_three {p:List Half} (hr:Xe p=true) (hne':p≠[]):∃ x0 y0 d0 x1 y1 d1 x2 y2 d2:Int,(0<d0/\0<d1/\0<d2)/\det3 x0 y0 d0 x1 y1 d1 x2 y2 d2≠0/\J5 p x0 y0 d0/\J5 p x1 y1 d1/\J5 p x2 y2 d2:=by
 obtain ⟨_,hok,hm⟩:=(reg_iff hr).resolve_left hne';have hne:XR (Xq p)≠[]:=by rw [hm];exact hne'
 have gd:=Z5 hok;have hn:=meetI_nv gd hne;have nv:=gd.nv hn;obtain ⟨h,hh,he⟩:=meetI_ex gd hne;obtain ⟨g0,hg0,k0,hk0,eg0,ek0,x0,x1,dd,v1,v0⟩:=edge_corners gd hn hh he;obtain ⟨k1,hk1,x2,v2,s2,ek1⟩:=gnext gom nv hk0 ek0 (gd.around (gd.nz k0 hk0)).1;have hold:∀ {p' q:Half},0<Xz p' q->(∀ f∈Xq p,0<=YN p' q f)->J5 p (crX p' q) (crY p' q) (KO p' q):=by
  intro p' q hx hv;refine (inP_app.1 ((meet_holds hok hne (by have:=Kw (show Xz p' q≠0 by omega);omega)).1 (λ e he=>?_))).2;exact (det_holds hx).1 (hv e (Kk gd he).1)
 have p0:=Kw (show Xz g0 h≠0 by omega);have p1:=Kw (show Xz h k0≠0 by omega);have p2:=Kw (show Xz k0 k1≠0 by omega);refine ⟨_,_,_,_,_,_,_,_,_,⟨p0,p1,p2⟩, ?_,hold x0 v0,hold x1 v1,hold x2 v2⟩;obtain ⟨e1,e2,e3⟩:=cr_pos x0;obtain ⟨e4,e5,e6⟩:=cr_pos x1;obtain ⟨e7,e8,e9⟩:=cr_pos x2;rw [e1,e2,e3,e4,e5,e6,e7,e8,e9,det_cross];change YN g0 h k0*YN h k0 k1≠0
 have:=ek0 h hh k1 hk1 x1 x2;exact Int.mul_ne_zero (by omega) (by omega)
theorem sub_ne {p hs:List Half} (hr:Xe p=true) (hne:p≠[]) (hok:∀ h∈hs,Xy h=true) (h:∀ x y d,0<d->J5 p x y d->J5 hs x y d):XR (Xq hs)≠[]:=by
 obtain ⟨x0,y0,d0,x1,y1,d1,x2,y2,d2,⟨p0,p1,p2⟩,YN,i0,i1,i2⟩:=reg_three hr hne;have all:∀ {x y d:Int},0<d->J5 p x y d->J5 (YT++hs) x y d:=λ hd hi=>inP_app.2 ⟨reg_frame hr hne (by omega) hi,h _ _ _ hd hi⟩;refine ne_of_inner hok (x:=x0+x1+x2) (y:=y0+y1+y2) (d:=d0+d1+d2) (by omega) (λ f hf=>?_);exact inner_of (JR (ZV hok f hf)).n YN (all p0 i0 f hf) (all p1 i1 f hf) (all p2 i2 f hf)
theorem meetR_ne {p hs:List Half} (hr:Xe p=true) (hne:p≠[]) (hok:∀ h∈hs,Xy h=true) (hk:YK (Xq hs)=true) (h:∀ x y d,0<d->J5 p x y d->J5 hs x y d):Yd (Xq hs)≠[]:=by
 unfold Yd;rw [if_pos hk];exact sub_ne hr hne hok h
theorem movR_ne {f:Half->Option Half} {p q:List Half} (hf:∀ h∈p,∀ g,f h=some g->Xy g=true) (hp:p≠[]) (hk:ZH f p=true) (hq:Xe q=true) (hqn:q≠[]) (h:∀ x y d,0<d->J5 q x y d->∀ h∈p,∀ g,f h=some g->YA g x y d):ZS f p≠[]:=by
 have hl:p.length≠0:=λ e=>hp (List.length_eq_zero_iff.1 e);unfold ZH at hk;rw [decide_eq_false hl,Bool.false_or,Bool.and_eq_true] at hk;rw [(mov_all hl hk.1).2];refine meetR_ne hq hqn (movL_ok hf hk.1) hk.2 (λ x y d hd hi g hg=>?_);obtain ⟨k,hk',e⟩:=(movL_mem hk.1).1 hg;exact h x y d hd hi k hk' g e
theorem ero_sub {w k:List Half} (hw:Xe w=true) (hwn:w≠[]) (hk:Xe k=true) {x y d:Int} (h:∀ t∈Xr w,J5 k (x*t.d+t.x*d) (y*t.d+t.y*d) (d*t.d)):∀ f∈k,∀ g,Kg w f=some g->YA g x y d:=by
 intro f hf g eg;have hk':=Zo hk f hf;obtain ⟨A,B,_⟩:=Zv.1 hk';have D:=(supR hw hwn A B).d;obtain ⟨t,ht,et⟩:=sup_at hw hwn A B;have td:=JG (J2 hw ht).2;have h1:=h t ht f hf;rw [ero_pts hw hwn hk' eg];unfold YA at h1;generalize (Kc w f.a f.b).d=dd at *;generalize (Kc w f.a f.b).n=nn at *;refine J0 (k:=t.d) (by omega) ?_;have m1:=Int.mul_le_mul_of_nonneg_right h1 (show 0<=dd by omega);have e1:(f.a*(x*t.d+t.x*d)+f.b*(y*t.d+t.y*d))*dd=(f.a*x+f.b*y)*dd*t.d+(f.a*t.x+f.b*t.y)*dd*d:=by grind
 have e2:(f.c*dd-nn)*d*t.d=f.c*(d*t.d)*dd-nn*t.d*d:=by grind
 rw [<- et] at e1;omega
end Go.Proofs.YtabfdkpdppemaaaGreat
